import PyProof.Rows.All
import Wide.All
import OpenK.AllK
import KE.KSortTup
import Wide.FinOn
import PySem.Challenge.RW_uf020011_03
set_option Elab.async false
set_option linter.unusedVariables false
set_option linter.unusedSimpArgs false
namespace Mine
open PySem PyProof.Rows

/-- what a value stands for -/
inductive PV where
  | none
  | bool (b : Bool)
  | int (i : Int)
  | str (x : Str)
  | tup (xs : List PV)
  | lst (xs : List PV)
  | box (a : Addr)
  | raw (v : Value)

/-- what a mutable object holds -/
inductive PO where
  | lst (xs : List PV)
  | dct (kvs : List (Int × PV)) (ep : Nat)

def TupAt (h : Heap) (a : Addr) (vs : List Value) : Prop := ∃ n, h.get? a = some { cls := .type "tuple", data := .seq vs.toArray n }
def LstAt (h : Heap) (a : Addr) (vs : List Value) : Prop := ∃ n, h.get? a = some { cls := .type "list", data := .seq vs.toArray n }

mutual
def VR (B : List Addr) (h : Heap) : PV → Value → Prop
  | .none, v => v = .none
  | .bool b, v => v = .bool b
  | .int i, v => ∃ t, v = .int i t
  | .str x, v => ∃ t, v = .str x t
  | .tup ps, v => ∃ a vs, v = .ref a ∧ TupAt h a vs ∧ a ∉ B ∧ ps.length ≤ sizeLine ∧ VRs B h ps vs
  | .lst ps, v => ∃ a vs, v = .ref a ∧ LstAt h a vs ∧ a ∉ B ∧ ps.length ≤ sizeLine ∧ VRs B h ps vs
  | .box a, v => v = .ref a
  | .raw u, v => v = u
def VRs (B : List Addr) (h : Heap) : List PV → List Value → Prop
  | [], vs => vs = []
  | p :: ps, vs => ∃ v ws, vs = v :: ws ∧ VR B h p v ∧ VRs B h ps ws
end

def NotSeq (h : Heap) (a : Addr) : Prop := ∀ o xs n, h.get? a = some o → o.data ≠ .seq xs n

/-- what may turn: the boxes B, the places W -/
structure Ev (B : List Addr) (W : Addr → Prop) (h h' : Heap) : Prop where
  ext : ∀ a o, h.get? a = some o → a ∉ B → ¬ W a → h'.get? a = some o
  size : h.objs.size ≤ h'.objs.size

theorem Ev.refl {B W h} : Ev B W h h := ⟨fun _ _ e _ _ => e, Nat.le_refl _⟩
theorem Ev.mono {B B' W W' h h'} (x : Ev B W h h') (hB : ∀ a, a < h.objs.size → a ∈ B → a ∈ B') (hW : ∀ a, a < h.objs.size → W a → W' a) : Ev B' W' h h' :=
  ⟨fun a o e nb nw => x.ext a o e (fun q => nb (hB a (Heap.lt_size e) q)) (fun q => nw (hW a (Heap.lt_size e) q)), x.size⟩

theorem Ev.trans {B B' W W' h h' h''} (x : Ev B W h h') (y : Ev B' W' h' h'') (hB : ∀ a, a < h.objs.size → a ∈ B' → a ∈ B) (hW : ∀ a, a < h.objs.size → W' a → W a) : Ev B W h h'' :=
  ⟨fun a o e nb nw => y.ext a o (x.ext a o e nb nw) (fun q => nb (hB a (Heap.lt_size e) q)) (fun q => nw (hW a (Heap.lt_size e) q)), Nat.le_trans x.size y.size⟩

theorem Ev.of_keeps {B W h h'} (hk : ∀ b o, h.get? b = some o → h'.get? b = some o) (hs : h.objs.size ≤ h'.objs.size) : Ev B W h h' := ⟨fun a o e _ _ => hk a o e, hs⟩
theorem Ev.of_sameBut {B W h h' a} (hs : Heap.SameBut a h h') (ha : a ∈ B ∨ W a) : Ev B W h h' :=
  ⟨fun b o e nb nw => (hs.2 b (fun q => by subst q; exact ha.elim nb nw)).trans e, Nat.le_of_eq hs.1.symm⟩

mutual
theorem VR.ext {B B' : List Addr} {W : Addr → Prop} {h h' : Heap} (x : Ev B W h h') (hW : ∀ a, W a → NotSeq h a) (hB : ∀ a ∈ B', a ∈ B ∨ h.objs.size ≤ a) :
    ∀ {p : PV} {v : Value}, VR B h p v → VR B' h' p v
  | .none, _, e => e
  | .bool _, _, e => e
  | .int _, _, e => e
  | .str _, _, e => e
  | .box _, _, e => e
  | .raw _, _, e => e
  | .tup ps, v, ⟨a, vs, e, ⟨n, ho⟩, nb, hl, r⟩ => by
    refine ⟨a, vs, e, ⟨n, x.ext a _ ho nb fun q => hW a q _ _ _ ho rfl⟩, fun q => ?_, hl, VRs.ext x hW hB r⟩
    rcases hB a q with q | q
    · exact nb q
    · exact absurd (Heap.lt_size ho) (Nat.not_lt.mpr q)
  | .lst ps, v, ⟨a, vs, e, ⟨n, ho⟩, nb, hl, r⟩ => by
    refine ⟨a, vs, e, ⟨n, x.ext a _ ho nb fun q => hW a q _ _ _ ho rfl⟩, fun q => ?_, hl, VRs.ext x hW hB r⟩
    rcases hB a q with q | q
    · exact nb q
    · exact absurd (Heap.lt_size ho) (Nat.not_lt.mpr q)
theorem VRs.ext {B B' : List Addr} {W : Addr → Prop} {h h' : Heap} (x : Ev B W h h') (hW : ∀ a, W a → NotSeq h a) (hB : ∀ a ∈ B', a ∈ B ∨ h.objs.size ≤ a) :
    ∀ {ps : List PV} {vs : List Value}, VRs B h ps vs → VRs B' h' ps vs
  | [], _, e => e
  | _ :: _, _, ⟨v, ws, e, a, r⟩ => ⟨v, ws, e, VR.ext x hW hB a, VRs.ext x hW hB r⟩
end

theorem VRs.length {B h} : ∀ {ps vs}, VRs B h ps vs → vs.length = ps.length
  | [], _, e => by cases e; rfl
  | _ :: _, _, ⟨_, _, e, _, r⟩ => by subst e; simp [VRs.length r]
theorem VRs.get {B h} : ∀ {ps vs}, VRs B h ps vs → ∀ {i : Nat} {p}, ps[i]? = some p → ∃ v, vs[i]? = some v ∧ VR B h p v
  | p :: _, _, ⟨v, _, e, a, _⟩, 0, q, hq => by subst e; simp at hq; subst hq; exact ⟨v, by simp, a⟩
  | _ :: _, _, ⟨_, _, e, _, r⟩, i + 1, q, hq => by subst e; simp at hq; simpa using VRs.get r hq
theorem VRs.get' {B h} : ∀ {ps vs}, VRs B h ps vs → ∀ {i : Nat} {v}, vs[i]? = some v → ∃ p, ps[i]? = some p ∧ VR B h p v
  | [], _, e, i, v, hv => by cases e; simp at hv
  | p :: _, _, ⟨v, _, e, a, _⟩, 0, w, hw => by subst e; simp at hw; subst hw; exact ⟨p, by simp, a⟩
  | _ :: _, _, ⟨_, _, e, _, r⟩, i + 1, w, hw => by subst e; simp at hw; simpa using VRs.get' r hw
theorem VRs.append {B h} : ∀ {ps qs vs ws}, VRs B h ps vs → VRs B h qs ws → VRs B h (ps ++ qs) (vs ++ ws)
  | [], _, _, _, e, r => by cases e; exact r
  | _ :: _, _, _, _, ⟨v, us, e, a, r⟩, q => by subst e; exact ⟨v, _, rfl, a, VRs.append r q⟩
theorem VRs.of_pointwise {B h} : ∀ {ps vs}, vs.length = ps.length → (∀ (i : Nat) p v, ps[i]? = some p → vs[i]? = some v → VR B h p v) → VRs B h ps vs
  | [], vs, e, _ => List.eq_nil_of_length_eq_zero e
  | p :: ps, [], e, _ => by simp at e
  | p :: ps, v :: vs, e, k => ⟨v, vs, rfl, k 0 p v rfl rfl, VRs.of_pointwise (by simpa using e) fun i q u hq hu => k (i + 1) q u (by simpa using hq) (by simpa using hu)⟩
theorem VRs.take {B h} : ∀ {ps vs} (n : Nat), VRs B h ps vs → VRs B h (ps.take n) (vs.take n)
  | _, _, 0, _ => by simp [VRs]
  | [], _, _ + 1, e => by cases e; simp [VRs]
  | _ :: _, _, n + 1, ⟨v, ws, e, a, r⟩ => by subst e; exact ⟨v, _, rfl, a, VRs.take n r⟩
theorem VRs.one {B h p v} (a : VR B h p v) : VRs B h [p] [v] := ⟨v, [], rfl, a, rfl⟩
theorem VRs.cons {B h p ps v vs} (a : VR B h p v) (r : VRs B h ps vs) : VRs B h (p :: ps) (v :: vs) := ⟨v, vs, rfl, a, r⟩

/-- less boxes: more room -/
theorem VR.fewer {B B' : List Addr} {h : Heap} (hB : ∀ a ∈ B', a ∈ B) {p : PV} {v : Value} (r : VR B h p v) : VR B' h p v :=
  VR.ext (B := B) (W := fun _ => False) Ev.refl (fun _ q => q.elim) (fun a q => .inl (hB a q)) r
theorem VRs.fewer {B B' : List Addr} {h : Heap} (hB : ∀ a ∈ B', a ∈ B) {p : List PV} {v : List Value} (r : VRs B h p v) : VRs B' h p v :=
  VRs.ext (B := B) (W := fun _ => False) Ev.refl (fun _ q => q.elim) (fun a q => .inl (hB a q)) r

end Mine

namespace Mine
open PySem PyProof.Rows

/-- where we stand: the program, the world, the frame at hand, the heap of the top, the heap at the call, the boxes lent to the call, how many calls deep it may go -/
structure Cx where
  prog : Program
  w : World
  A : Around
  env : Env
  h0 : Heap
  hb : Heap
  lent : List Addr
  d : Nat
  ex : List Addr
  fn : Bool
  kind : Str → Option NameKind

abbrev Cx.M (c : Cx) : Model := model c.prog c.w

def Room (A : Around) (d : Nat) : Prop := A.depth + d < recursionLimit ∧ A.units + 16 * d + 64 < cLine

/-- the frame's places -/
def Frm (c : Cx) (a : Addr) : Prop := a = c.env.locals ∨ ∃ x, c.env.cells.lookup x = some a
/-- those that its statements may turn -/
def Own (c : Cx) (a : Addr) : Prop := a = c.env.locals ∨ (c.fn = true ∧ ∃ x, c.env.cells.lookup x = some a)
theorem Own.frm {c : Cx} {a : Addr} (h : Own c a) : Frm c a := h.imp id fun q => q.2

structure CxOk (c : Cx) : Prop where
  kind : c.env.scope.kind = .function
  glb : c.env.globals = mainGlobals
  blt : c.env.builtins = builtinsNs
  handled : c.A.handled = none
  room : Room c.A c.d
  ground : ∀ b o, c.h0.get? b = some o → c.hb.get? b = some o
  lentAbove : ∀ a ∈ c.lent, c.h0.objs.size ≤ a
  apart : ∀ x y a, c.env.cells.lookup x = some a → c.env.cells.lookup y = some a → x = y
  above : ∀ a, Frm c a → c.hb.objs.size ≤ a
  kindOk : ∀ x, c.env.kindOf x = c.kind x
  cellOk : ∀ x, c.env.kindOf x = some .cell → ∃ a, c.env.cells.lookup x = some a
  nolimit : c.h0.NoLimit
  h0size : c.h0.objs.size ≤ c.hb.objs.size

/-- what is known of the state: names and boxes -/
structure Gh where
  vars : List (Str × PV)
  bx : List (Addr × PO)
  ro : List (Addr × PO)

def dom (bx : List (Addr × PO)) : List Addr := bx.map (·.1)
abbrev Gh.all (g : Gh) : List (Addr × PO) := g.bx ++ g.ro
abbrev Gh.dom (g : Gh) : List Addr := Mine.dom (g.bx ++ g.ro)
abbrev Gh.wr (g : Gh) : List Addr := Mine.dom g.bx
abbrev Cx.B (c : Cx) (g : Gh) : List Addr := g.dom ++ c.ex
theorem Gh.wr_dom {g : Gh} {a : Addr} (h : a ∈ g.wr) : a ∈ g.dom := by
  show a ∈ (g.bx ++ g.ro).map (·.1); rw [List.map_append]; exact List.mem_append_left _ h

def VarIs (B : List Addr) (h : Heap) (env : Env) (x : Str) (p : PV) : Prop :=
  (env.kindOf x = some .local ∧ ∃ m v, h.Ns env.locals m ∧ m x = some v ∧ VR B h p v) ∨
  (env.kindOf x = some .cell ∧ ∃ c v, env.cells.lookup x = some c ∧ h.IsCell c (some v) ∧ VR B h p v)

def PairsR (B : List Addr) (h : Heap) : List (Int × PV) → List (Int × Value) → Prop
  | [], ws => ws = []
  | (k, p) :: r, ws => ∃ v us, ws = (k, v) :: us ∧ VR B h p v ∧ PairsR B h r us

def BoxIs (prog : Program) (w : World) (B : List Addr) (h : Heap) (a : Addr) : PO → Prop
  | .lst xs => ∃ vs, LstAt h a vs ∧ xs.length ≤ sizeLine ∧ VRs B h xs vs
  | .dct kvs ep => ∃ ws, h.DictAt (intKind prog w) a ws ep ∧ kvs.length ≤ sizeLine ∧ PairsR B h kvs ws

theorem PairsR.ext {B B' : List Addr} {W : Addr → Prop} {h h' : Heap} (x : Ev B W h h') (hW : ∀ a, W a → NotSeq h a) (hB : ∀ a ∈ B', a ∈ B ∨ h.objs.size ≤ a) :
    ∀ {ps : List (Int × PV)} {vs : List (Int × Value)}, PairsR B h ps vs → PairsR B' h' ps vs
  | [], _, e => e
  | (_, _) :: _, _, ⟨v, ws, e, a, r⟩ => ⟨v, ws, e, VR.ext x hW hB a, PairsR.ext x hW hB r⟩

theorem BoxIs.ext {prog w} {B B' : List Addr} {W : Addr → Prop} {h h' : Heap} (x : Ev B W h h') (hW : ∀ a, W a → NotSeq h a) (hB : ∀ a ∈ B', a ∈ B ∨ h.objs.size ≤ a)
    {a : Addr} {o : PO} (r : BoxIs prog w B h a o) (ha : ∀ o, h.get? a = some o → h'.get? a = some o) : BoxIs prog w B' h' a o := by
  cases o with
  | lst xs => obtain ⟨vs, ⟨n, q⟩, hl, r⟩ := r; exact ⟨vs, ⟨n, ha _ q⟩, hl, VRs.ext x hW hB r⟩
  | dct kvs ep => obtain ⟨ws, q, hl, r⟩ := r; exact ⟨ws, q.at' ha, hl, PairsR.ext x hW hB r⟩

structure St (c : Cx) (g : Gh) (h : Heap) : Prop where
  ok : CxOk c
  ns : ∃ m, h.Ns c.env.locals m
  cells : ∀ x a, c.env.cells.lookup x = some a → ∃ v, h.IsCell a v
  vars : ∀ x p, g.vars.lookup x = some p → VarIs (c.B g) h c.env x p
  boxes : ∀ a o, (a, o) ∈ g.bx ++ g.ro → BoxIs c.prog c.w (c.B g) h a o
  nodup : g.dom.Nodup
  own : ∀ a ∈ g.dom, ¬ Frm c a
  lent : ∀ a ∈ g.wr, a ∈ c.lent ∨ c.hb.objs.size ≤ a
  boxAbove : ∀ a ∈ g.dom, c.h0.objs.size ≤ a
  lentIn : ∀ a ∈ c.lent, a ∈ g.dom
  keep : ∀ b o, c.hb.get? b = some o → b ∉ c.lent → h.get? b = some o
  size : c.hb.objs.size ≤ h.objs.size
  exLt : ∀ a ∈ c.ex, a < h.objs.size
  exApart : ∀ a ∈ g.dom, a ∉ c.ex

def NoW : Addr → Prop := fun _ => False

theorem BoxIs.lt {prog w B h a o} (r : BoxIs prog w B h a o) : a < h.objs.size := by
  cases o with
  | lst xs => obtain ⟨vs, ⟨n, q⟩, _⟩ := r; exact Heap.lt_size q
  | dct kvs ep => obtain ⟨ws, ⟨o, es, q, _⟩, _⟩ := r; exact Heap.lt_size q

theorem St.ground {c g h} (S : St c g h) : ∀ b o, c.h0.get? b = some o → h.get? b = some o := fun b o e =>
  S.keep b o (S.ok.ground b o e) fun q => absurd (Heap.lt_size e) (Nat.not_lt.mpr (S.ok.lentAbove b q))

theorem St.notSeqF {c g h} (S : St c g h) : ∀ a, Frm c a → NotSeq h a := fun a ha => by
  rcases ha with rfl | ⟨x, hx⟩
  · obtain ⟨m, o, es, ep, ho, hd, _⟩ := S.ns
    intro o' xs n e hh
    rw [ho] at e; cases e; rw [hd] at hh; cases hh
  · obtain ⟨v, o, ho, hd⟩ := S.cells x a hx
    intro o' xs n e hh
    rw [ho] at e; cases e; rw [hd] at hh; cases hh

theorem St.notSeq {c g h} (S : St c g h) : ∀ a, Own c a → NotSeq h a := fun a ha => S.notSeqF a ha.frm

/-- all that stood stays -/
theorem St.keeps {c g h h'} (S : St c g h) (hk : ∀ b o, h.get? b = some o → h'.get? b = some o) (hs : h.objs.size ≤ h'.objs.size) : St c g h' := by
  have x : Ev (c.B g) NoW h h' := Ev.of_keeps hk hs
  have nw : ∀ a, NoW a → NotSeq h a := fun _ q => q.elim
  have nb : ∀ a ∈ c.B g, a ∈ c.B g ∨ h.objs.size ≤ a := fun _ q => .inl q
  refine ⟨S.ok, ?_, fun y a ha => ?_, fun y p e => ?_, fun a o ha => ?_, S.nodup, S.own, S.lent, S.boxAbove, S.lentIn, fun b o e nl => hk b o (S.keep b o e nl), Nat.le_trans S.size hs, fun a q => Nat.lt_of_lt_of_le (S.exLt a q) hs, S.exApart⟩
  · obtain ⟨m, hm⟩ := S.ns; exact ⟨m, hm.keeps hk⟩
  · obtain ⟨v, hv⟩ := S.cells y a ha; exact ⟨v, hv.keeps hk⟩
  · rcases S.vars y p e with ⟨k, m, v, hn, hm, r⟩ | ⟨k, cc, v, hc, hm, r⟩
    · exact .inl ⟨k, m, v, hn.keeps hk, hm, VR.ext x nw nb r⟩
    · exact .inr ⟨k, cc, v, hc, hm.keeps hk, VR.ext x nw nb r⟩
  · exact BoxIs.ext x nw nb (S.boxes a o ha) fun o e => hk a o e

/-- what is not the heap stays -/
def Rest (s s' : Shared) : Prop := s'.os = s.os ∧ s'.gens = s.gens
theorem Rest.trans {s s' s'' : Shared} (x : Rest s s') (y : Rest s' s'') : Rest s s'' := ⟨y.1.trans x.1, y.2.trans x.2⟩

structure Step (c : Cx) (W : Addr → Prop) (g : Gh) (s : Shared) (g' : Gh) (s' : Shared) : Prop where
  st : St c g' s'.heap
  ev : Ev g.wr W s.heap s'.heap
  dom : ∀ a ∈ g'.dom, a ∈ g.dom ∨ s.heap.objs.size ≤ a
  wr : ∀ a ∈ g'.wr, a ∈ g.wr ∨ s.heap.objs.size ≤ a
  rest : Rest s s'

/-- .. of the heap alone -/
structure HStep (c : Cx) (W : Addr → Prop) (g : Gh) (h : Heap) (g' : Gh) (h' : Heap) : Prop where
  st : St c g' h'
  ev : Ev g.wr W h h'
  dom : ∀ a ∈ g'.dom, a ∈ g.dom ∨ h.objs.size ≤ a
  wr : ∀ a ∈ g'.wr, a ∈ g.wr ∨ h.objs.size ≤ a
theorem HStep.up {c W g g'} {s s' : Shared} (x : HStep c W g s.heap g' s'.heap) (hr : Rest s s' := by exact ⟨rfl, rfl⟩) : Step c W g s g' s' := ⟨x.st, x.ev, x.dom, x.wr, hr⟩
theorem Step.down {c W g g'} {s s' : Shared} (x : Step c W g s g' s') : HStep c W g s.heap g' s'.heap := ⟨x.st, x.ev, x.dom, x.wr⟩
theorem HStep.keeps {c W g h h'} (S : St c g h) (hk : ∀ b o, h.get? b = some o → h'.get? b = some o) (hs : h.objs.size ≤ h'.objs.size) : HStep c W g h g h' :=
  ⟨S.keeps hk hs, Ev.of_keeps hk hs, fun _ q => .inl q, fun _ q => .inl q⟩

theorem Step.refl {c W g} {s : Shared} (S : St c g s.heap) {tk : Nat} : Step c W g s g { s with toks := tk } := ⟨S, Ev.refl, fun _ q => .inl q, fun _ q => .inl q, ⟨rfl, rfl⟩⟩
theorem Step.keeps {c W g} {s s' : Shared} (S : St c g s.heap) (hk : ∀ b o, s.heap.get? b = some o → s'.heap.get? b = some o) (hs : s.heap.objs.size ≤ s'.heap.objs.size) (hr : Rest s s' := by exact ⟨rfl, rfl⟩) : Step c W g s g s' :=
  ⟨S.keeps hk hs, Ev.of_keeps hk hs, fun _ q => .inl q, fun _ q => .inl q, hr⟩
theorem Step.trans {c W g g' g''} {s s' s'' : Shared} (x : Step c W g s g' s') (y : Step c W g' s' g'' s'') : Step c W g s g'' s'' :=
  ⟨y.st, x.ev.trans y.ev (fun a lt q => (x.wr a q).resolve_right (Nat.not_le.mpr lt)) (fun _ _ q => q), fun a q => by
    rcases y.dom a q with q | q
    · exact x.dom a q
    · exact .inr (Nat.le_trans x.ev.size q), fun a q => by
    rcases y.wr a q with q | q
    · exact x.wr a q
    · exact .inr (Nat.le_trans x.ev.size q), x.rest.trans y.rest⟩
theorem Step.wider {c W W' g g'} {s s' : Shared} (x : Step c W g s g' s') (hW : ∀ a, W a → W' a) : Step c W' g s g' s' :=
  ⟨x.st, x.ev.mono (fun _ _ q => q) (fun a _ q => hW a q), x.dom, x.wr, x.rest⟩
theorem Step.toOwn {c g g'} {s s' : Shared} (x : Step c NoW g s g' s') : Step c (Own c) g s g' s' := x.wider fun _ q => q.elim
theorem Cx.wr_B {c : Cx} {g : Gh} {a : Addr} (h : a ∈ g.wr) : a ∈ c.B g := List.mem_append_left _ (Gh.wr_dom h)
theorem Cx.dom_B {c : Cx} {g : Gh} {a : Addr} (h : a ∈ g.dom) : a ∈ c.B g := List.mem_append_left _ h
theorem Step.evD {c W g g'} {s s' : Shared} (x : Step c W g s g' s') : Ev (c.B g) W s.heap s'.heap := x.ev.mono (fun _ _ q => Cx.wr_B q) fun _ _ q => q
theorem Step.domB {c W g g'} {s s' : Shared} (x : Step c W g s g' s') : ∀ a ∈ c.B g', a ∈ c.B g ∨ s.heap.objs.size ≤ a := fun a q => by
  rcases List.mem_append.mp q with q | q
  · exact (x.dom a q).imp (fun q => List.mem_append_left _ q) id
  · exact .inl (List.mem_append_right _ q)
theorem Step.vr {c g g'} {s s' : Shared} (x : Step c NoW g s g' s') {p v} (r : VR (c.B g) s.heap p v) : VR (c.B g') s'.heap p v := VR.ext x.evD (fun _ q => q.elim) x.domB r
theorem Step.vrs {c g g'} {s s' : Shared} (x : Step c NoW g s g' s') {p v} (r : VRs (c.B g) s.heap p v) : VRs (c.B g') s'.heap p v := VRs.ext x.evD (fun _ q => q.elim) x.domB r
theorem Step.vrO {c g g'} {s s' : Shared} (S : St c g s.heap) (x : Step c (Own c) g s g' s') {p v} (r : VR (c.B g) s.heap p v) : VR (c.B g') s'.heap p v := VR.ext x.evD S.notSeq x.domB r
theorem Step.vrsO {c g g'} {s s' : Shared} (S : St c g s.heap) (x : Step c (Own c) g s g' s') {p v} (r : VRs (c.B g) s.heap p v) : VRs (c.B g') s'.heap p v := VRs.ext x.evD S.notSeq x.domB r

theorem HStep.domB {c W g h g' h'} (x : HStep c W g h g' h') : ∀ a ∈ c.B g', a ∈ c.B g ∨ h.objs.size ≤ a := fun a q => by
  rcases List.mem_append.mp q with q | q
  · exact (x.dom a q).imp (fun q => List.mem_append_left _ q) id
  · exact .inl (List.mem_append_right _ q)
theorem HStep.evD {c W g h g' h'} (x : HStep c W g h g' h') : Ev (c.B g) W h h' := x.ev.mono (fun _ _ q => Cx.wr_B q) fun _ _ q => q
theorem HStep.vrO {c g h g' h'} (S : St c g h) (x : HStep c (Own c) g h g' h') {p v} (r : VR (c.B g) h p v) : VR (c.B g') h' p v := VR.ext x.evD S.notSeq x.domB r
theorem HStep.vrs {c g h g' h'} (x : HStep c NoW g h g' h') {p v} (r : VRs (c.B g) h p v) : VRs (c.B g') h' p v := VRs.ext x.evD (fun _ q => q.elim) x.domB r

abbrev Exc := Value → Shared → Prop
abbrev NoExc : Exc := fun _ _ => False

/-- a tree that gives a value -/
def WVal (c : Cx) (E : Exc) (g : Gh) (t : Sem Value) (Q : PV → Gh → Prop) (s : Shared) : Prop :=
  wpAny c.M c.A t (fun v s' => ∃ p g', Q p g' ∧ VR (c.B g') s'.heap p v ∧ Step c NoW g s g' s') E s

def WE (c : Cx) (E : Exc) (e : Expr) (g : Gh) (Q : PV → Gh → Prop) : Prop := ∀ s, St c g s.heap → WVal c E g (eval e c.env) Q s

def WT (c : Cx) (E : Exc) (e : Expr) (g : Gh) (Q : Bool → Gh → Prop) : Prop := ∀ s, St c g s.heap →
  wpAny c.M c.A (isTrue e c.env (eval e c.env)) (fun b s' => ∃ g', Q b g' ∧ Step c NoW g s g' s') E s

def WEs (c : Cx) (E : Exc) (es : List Expr) (g : Gh) (Q : List PV → Gh → Prop) : Prop := ∀ pos s, St c g s.heap →
  wpAny c.M c.A (spliced (backTo pos (starEach es c.env))) (fun vs s' => ∃ ps g', Q ps g' ∧ VRs (c.B g') s'.heap ps vs ∧ Step c NoW g s g' s') E s

inductive PF where
  | next | brk | cont
  | ret (p : PV)

def FlowR (B : List Addr) (h : Heap) : PF → Flow → Prop
  | .next, f => f = .next
  | .brk, f => f = .brk
  | .cont, f => f = .cont
  | .ret p, f => ∃ v, f = .ret v ∧ VR B h p v

def WX (c : Cx) (E : Exc) (st : Stmt) (g : Gh) (Q : PF → Gh → Prop) : Prop := ∀ s, St c g s.heap →
  wpAny c.M c.A (exec st c.env) (fun f s' => ∃ pf g', Q pf g' ∧ FlowR (c.B g') s'.heap pf f ∧ Step c (Own c) g s g' s') E s
def WS (c : Cx) (E : Exc) (sts : List Stmt) (g : Gh) (Q : PF → Gh → Prop) : Prop := ∀ s, St c g s.heap →
  wpAny c.M c.A (execs sts c.env) (fun f s' => ∃ pf g', Q pf g' ∧ FlowR (c.B g') s'.heap pf f ∧ Step c (Own c) g s g' s') E s

def Gh.set (g : Gh) (x : Str) (p : PV) : Gh := ⟨(x, p) :: g.vars, g.bx, g.ro⟩

section
variable {c : Cx} {E : Exc} {g : Gh}

theorem WVal.mono {t : Sem Value} {Q Q' : PV → Gh → Prop} {s : Shared} (h : WVal c E g t Q s) (hQ : ∀ p g', Q p g' → Q' p g') : WVal c E g t Q' s :=
  wpAny_mono h (fun _ _ hz1 => by obtain ⟨p, g', q, r⟩ := hz1; exact ⟨p, g', hQ p g' q, r⟩) fun _ _ e => e
theorem WE.mono {e : Expr} {Q Q' : PV → Gh → Prop} (h : WE c E e g Q) (hQ : ∀ p g', Q p g' → Q' p g') : WE c E e g Q' := fun s S => (h s S).mono hQ
theorem WT.mono {e : Expr} {Q Q' : Bool → Gh → Prop} (h : WT c E e g Q) (hQ : ∀ b g', Q b g' → Q' b g') : WT c E e g Q' := fun s S =>
  wpAny_mono (h s S) (fun _ _ hz2 => by obtain ⟨g', q, r⟩ := hz2; exact ⟨g', hQ _ g' q, r⟩) fun _ _ e => e
theorem WS.mono {e : List Stmt} {Q Q' : PF → Gh → Prop} (h : WS c E e g Q) (hQ : ∀ p g', Q p g' → Q' p g') : WS c E e g Q' := fun s S =>
  wpAny_mono (h s S) (fun _ _ hz3 => by obtain ⟨p, g', q, r⟩ := hz3; exact ⟨p, g', hQ p g' q, r⟩) fun _ _ e => e
end

end Mine

namespace Mine
open PySem PyProof.Rows

/-! ## what stands at the top -/
def GlobIs (h0 : Heap) (x : Str) (v : Value) : Prop := ∃ mg, h0.Ns mainGlobals mg ∧ mg x = some v
def BuiltIs (h0 : Heap) (x : Str) (v : Value) : Prop := ∃ mg mb, h0.Ns mainGlobals mg ∧ mg x = none ∧ h0.Ns builtinsNs mb ∧ mb x = some v

section
variable {c : Cx} {E : Exc} {g : Gh} {Q : PV → Gh → Prop}

/-! ## constants, names -/
theorem WE_int {i k pos} (h : Q (.int i) g) : WE c E (.Constant (.int i) k pos) g Q := fun s S =>
  wpAny_Constant_int ⟨_, g, h, ⟨_, rfl⟩, Step.refl S⟩
theorem WE_bool {b k pos} (h : Q (.bool b) g) : WE c E (.Constant (.bool b) k pos) g Q := fun s S => wpAny_Constant_bool ⟨_, g, h, rfl, Step.refl S⟩

theorem WE_Name {x pos p} (hx : g.vars.lookup x = some p) (h : Q p g) (hd : (x == ("__debug__" : Str)) = false := by decide +kernel) : WE c E (.Name x pos) g Q := fun s S => by
  refine wpAny_Name ?_ hd
  rcases S.vars x p hx with ⟨k, m, v, hn, hm, r⟩ | ⟨k, cc, v, hc, hm, r⟩
  · exact wpAny_loadName_local S.ok.kind k hn hm ⟨p, g, h, r, Step.refl S⟩
  · exact wpAny_loadName_cell S.ok.kind k hc hm ⟨p, g, h, r, Step.refl S⟩

theorem WE_Global {x pos v} (hg : GlobIs c.h0 x v) (h : Q (.raw v) g) (hk : c.kind x = some .globalImplicit := by rfl) (hd : (x == ("__debug__" : Str)) = false := by decide +kernel) :
    WE c E (.Name x pos) g Q := fun s S => by
  obtain ⟨mg, hn, hv⟩ := hg
  exact Calls.Name_function_global S.ok.kind ((S.ok.kindOk x).trans hk) (Calls.loadGlobal_global (S.ok.glb ▸ hn.keeps S.ground) hv ⟨_, g, h, rfl, Step.refl S⟩) hd
theorem WE_Builtin {x pos v} (hg : BuiltIs c.h0 x v) (h : Q (.raw v) g) (hk : c.kind x = some .globalImplicit := by rfl) (hd : (x == ("__debug__" : Str)) = false := by decide +kernel) :
    WE c E (.Name x pos) g Q := fun s S => by
  obtain ⟨mg, mb, hn, hv, hb, hw⟩ := hg
  exact Calls.Name_function_global S.ok.kind ((S.ok.kindOk x).trans hk) (Calls.loadGlobal_builtin (S.ok.glb ▸ hn.keeps S.ground) hv (S.ok.blt ▸ hb.keeps S.ground) hw ⟨_, g, h, rfl, Step.refl S⟩) hd

/-! ## two operands -/
def Bin (c : Cx) (E : Exc) (g : Gh) (op : Operator) (p q : PV) (Q : PV → Gh → Prop) : Prop :=
  ∀ s v w, St c g s.heap → VR (c.B g) s.heap p v → VR (c.B g) s.heap q w → WVal c E g (binaryOp op v w) Q s
def Cmp (c : Cx) (E : Exc) (g : Gh) (op : CmpOp) (p q : PV) (Q : PV → Gh → Prop) : Prop :=
  ∀ s v w, St c g s.heap → VR (c.B g) s.heap p v → VR (c.B g) s.heap q w → WVal c E g (compareOp op v w) Q s

theorem WE_BinOp {l op r pos} (h : WE c E l g fun p g₁ => WE c E r g₁ fun q g₂ => Bin c E g₂ op p q Q) : WE c E (.BinOp l op r pos) g Q := fun s S => by
  refine wpAny_BinOp (wpAny_mono (h s S) (fun v s₁ hz1 => ?_) fun _ _ e => e)
  obtain ⟨p, g₁, h₁, r₁, x₁⟩ := hz1
  refine wpAny_mono (h₁ s₁ x₁.st) (fun u s₂ hz2 => ?_) fun _ _ e => e
  obtain ⟨q, g₂, h₂, r₂, x₂⟩ := hz2
  exact wpAny_mono (h₂ s₂ v u x₂.st (x₂.vr r₁) r₂) (fun y s₃ hz3 => by obtain ⟨p₃, g₃, h₃, r₃, x₃⟩ := hz3; exact ⟨p₃, g₃, h₃, r₃, (x₁.trans x₂).trans x₃⟩) fun _ _ e => e

theorem Bin_add {a b : Int} (h : Q (.int (a + b)) g) : Bin c E g .Add (.int a) (.int b) Q := fun s v w S hz4 hz5 => by
  obtain ⟨_, e⟩ := hz4
  obtain ⟨_, e'⟩ := hz5
  subst e; subst e'; exact add_int ⟨_, g, h, ⟨_, rfl⟩, Step.refl S⟩
theorem Bin_sub {a b : Int} (h : Q (.int (a - b)) g) : Bin c E g .Sub (.int a) (.int b) Q := fun s v w S hz6 hz7 => by
  obtain ⟨_, e⟩ := hz6
  obtain ⟨_, e'⟩ := hz7
  subst e; subst e'; exact sub_int ⟨_, g, h, ⟨_, rfl⟩, Step.refl S⟩
theorem Bin_mul {a b : Int} (h : Q (.int (a * b)) g) (hb : (-(2 ^ 64) < a ∧ a < 2 ^ 64) ∨ (-(2 ^ 64) < b ∧ b < 2 ^ 64) := by omega) : Bin c E g .Mult (.int a) (.int b) Q := fun s v w S hz8 hz9 => by
  obtain ⟨_, e⟩ := hz8
  obtain ⟨_, e'⟩ := hz9
  subst e; subst e'
  exact mul_int ⟨_, g, h, ⟨_, rfl⟩, Step.refl S⟩ (hb.elim (fun q => IntMulOk.of_left (intBits_le_64 q.1 q.2)) fun q => IntMulOk.of_right (intBits_le_64 q.1 q.2))
theorem Bin_mod {a b : Int} (h : Q (.int (a % b)) g) (hb : 0 < b := by omega) : Bin c E g .Mod (.int a) (.int b) Q := fun s v w S hz10 hz11 => by
  obtain ⟨_, e⟩ := hz10
  obtain ⟨_, e'⟩ := hz11
  subst e; subst e'
  refine mod_int' (by omega) ?_
  rw [Int.fmod_eq_emod_of_nonneg a (by omega)]
  exact ⟨_, g, h, ⟨_, rfl⟩, Step.refl S⟩
theorem Bin_div {a b : Int} (h : Q (.int (a / b)) g) (hb : 0 < b ∧ b < 1073741824 := by omega) : Bin c E g .FloorDiv (.int a) (.int b) Q := fun s v w S hz12 hz13 => by
  obtain ⟨_, e⟩ := hz12
  obtain ⟨_, e'⟩ := hz13
  subst e; subst e'
  refine floordiv_int (by omega) ?_ (.inl (PyProof.noPylong_small (by omega)))
  rw [Int.fdiv_eq_ediv_of_nonneg a (by omega)]
  exact ⟨_, g, h, ⟨_, rfl⟩, Step.refl S⟩

/-! ## comparisons -/
theorem WE_Compare1 {l op r pos} (h : WE c E l g fun p g₁ => WE c E r g₁ fun q g₂ => Cmp c E g₂ op p q Q) (hm : behindInMarks op r = false := by with_unfolding_all rfl) :
    WE c E (.Compare l [op] [r] pos) g Q := fun s S => by
  refine wpAny_Compare1 (wpAny_mono (h s S) (fun v s₁ hz14 => ?_) fun _ _ e => e) hm
  obtain ⟨p, g₁, h₁, r₁, x₁⟩ := hz14
  refine wpAny_mono (h₁ s₁ x₁.st) (fun u s₂ hz15 => ?_) fun _ _ e => e
  obtain ⟨q, g₂, h₂, r₂, x₂⟩ := hz15
  exact wpAny_mono (h₂ s₂ v u x₂.st (x₂.vr r₁) r₂) (fun y s₃ hz16 => by obtain ⟨p₃, g₃, h₃, r₃, x₃⟩ := hz16; exact ⟨p₃, g₃, h₃, r₃, (x₁.trans x₂).trans x₃⟩) fun _ _ e => e

theorem WT_Compare1 {l op r pos} {Q : Bool → Gh → Prop} (h : WE c E l g fun p g₁ => WE c E r g₁ fun q g₂ => Cmp c E g₂ op p q fun b g₃ => ∃ b', b = .bool b' ∧ Q b' g₃) (hm : behindInMarks op r = false := by with_unfolding_all rfl) :
    WT c E (.Compare l [op] [r] pos) g Q := fun s S => by
  refine wpAny_isTrue_Compare1 (wpAny_mono (h s S) (fun v s₁ hz17 => ?_) fun _ _ e => e) hm
  obtain ⟨p, g₁, h₁, r₁, x₁⟩ := hz17
  refine wpAny_mono (h₁ s₁ x₁.st) (fun u s₂ hz18 => ?_) fun _ _ e => e
  obtain ⟨q, g₂, h₂, r₂, x₂⟩ := hz18
  refine wpAny_mono (h₂ s₂ v u x₂.st (x₂.vr r₁) r₂) (fun y s₃ hz19 => ?_) fun _ _ e => e
  obtain ⟨p₃, g₃, ⟨b, e, h₃⟩, r₃, x₃⟩ := hz19
  subst e
  obtain rfl : y = .bool b := r₃
  exact wpAny_truthy_bool ⟨g₃, h₃, (x₁.trans x₂).trans x₃⟩

theorem Cmp_lt {a b : Int} (h : Q (.bool (decide (a < b))) g) : Cmp c E g .Lt (.int a) (.int b) Q := fun s v w S hz20 hz21 => by
  obtain ⟨_, e⟩ := hz20
  obtain ⟨_, e'⟩ := hz21
  subst e; subst e'; exact lt_int ⟨_, g, h, rfl, Step.refl S⟩
theorem Cmp_le {a b : Int} (h : Q (.bool (decide (a ≤ b))) g) : Cmp c E g .LtE (.int a) (.int b) Q := fun s v w S hz22 hz23 => by
  obtain ⟨_, e⟩ := hz22
  obtain ⟨_, e'⟩ := hz23
  subst e; subst e'; exact le_int ⟨_, g, h, rfl, Step.refl S⟩
theorem Cmp_gt {a b : Int} (h : Q (.bool (decide (b < a))) g) : Cmp c E g .Gt (.int a) (.int b) Q := fun s v w S hz24 hz25 => by
  obtain ⟨_, e⟩ := hz24
  obtain ⟨_, e'⟩ := hz25
  subst e; subst e'; exact gt_int ⟨_, g, h, rfl, Step.refl S⟩
theorem Cmp_eq {a b : Int} (h : Q (.bool (decide (a = b))) g) : Cmp c E g .Eq (.int a) (.int b) Q := fun s v w S hz28 hz29 => by
  obtain ⟨_, e⟩ := hz28
  obtain ⟨_, e'⟩ := hz29
  subst e; subst e'
  refine eq_int ⟨.bool (a == b), g, ?_, rfl, Step.refl S⟩
  rw [show (a == b) = decide (a = b) from rfl]; exact h
theorem Cmp_ne {a b : Int} (h : Q (.bool (decide (a ≠ b))) g) : Cmp c E g .NotEq (.int a) (.int b) Q := fun s v w S hz30 hz31 => by
  obtain ⟨_, e⟩ := hz30
  obtain ⟨_, e'⟩ := hz31
  subst e; subst e'
  refine ne_int ⟨.bool (a != b), g, ?_, rfl, Step.refl S⟩
  have : (a != b) = decide (a ≠ b) := by by_cases q : a = b <;> simp [q]
  rw [this]; exact h
/-! ## one operand -/
theorem WE_neg {e pos} {Q : PV → Gh → Prop} (h : WE c E e g fun p g₁ => ∃ a, p = .int a ∧ Q (.int (-a)) g₁) : WE c E (.UnaryOp .USub e pos) g Q := fun s S => by
  refine wpAny_UnaryOp (wpAny_mono (h s S) (fun v s₁ hz36 => ?_) fun _ _ e => e)
  obtain ⟨p, g₁, ⟨a, e, h₁⟩, r₁, x₁⟩ := hz36
  subst e
  obtain ⟨t, rfl⟩ := r₁
  exact neg_int ⟨_, g₁, h₁, ⟨_, rfl⟩, x₁.trans (Step.refl x₁.st)⟩

/-! ## displays -/
theorem WEs_nil {Q : List PV → Gh → Prop} (h : Q [] g) : WEs c E [] g Q := fun pos s S => wpAny_items_nil ⟨[], g, h, rfl, Step.refl S⟩
theorem WEs_cons {e : Expr} {rest : List Expr} {Q : List PV → Gh → Prop} (h : WE c E e g fun p g₁ => WEs c E rest g₁ fun ps g₂ => Q (p :: ps) g₂)
    (he : starEach (e :: rest) c.env = (false, eval e c.env) :: starEach rest c.env := by rfl) : WEs c E (e :: rest) g Q := fun pos s S => by
  refine wpAny_items_cons (wpAny_mono (h s S) (fun v s₁ hz37 => ?_) fun _ _ e => e) he
  obtain ⟨p, g₁, h₁, r₁, x₁⟩ := hz37
  exact wpAny_mono (h₁ pos s₁ x₁.st) (fun vs s₂ hz38 => by obtain ⟨ps, g₂, h₂, r₂, x₂⟩ := hz38; exact ⟨_, g₂, h₂, VRs.cons (x₂.vr r₁) r₂, x₁.trans x₂⟩) fun _ _ e => e

theorem St.ltB {c : Cx} {g : Gh} {h : Heap} (S : St c g h) : ∀ a ∈ c.B g, a < h.objs.size := fun a q => by
  rcases List.mem_append.mp q with q | q
  · obtain ⟨⟨b, o⟩, hm, rfl⟩ := List.mem_map.mp q
    exact (S.boxes _ _ hm).lt
  · exact S.exLt a q
theorem pushTup {g : Gh} {ps : List PV} {vs : List Value} {s : Shared} (S : St c g s.heap) (r : VRs (c.B g) s.heap ps vs) (hl : ps.length ≤ sizeLine) :
    VR (c.B g) (s.heap.push { cls := .type "tuple", data := .seq vs.toArray }) (.tup ps) (.ref s.heap.objs.size) ∧ Step c NoW g s g { s with heap := s.heap.push { cls := .type "tuple", data := .seq vs.toArray } } := by
  have x : Step c NoW g s g { s with heap := s.heap.push { cls := .type "tuple", data := .seq vs.toArray } } := Step.keeps S (fun b o e => Heap.get?_push_of_some _ e) (by simp)
  refine ⟨⟨s.heap.objs.size, vs, rfl, ⟨_, Heap.get?_push_size _ rfl⟩, fun q => ?_, hl, x.vrs r⟩, x⟩
  exact absurd (S.ltB _ q) (Nat.lt_irrefl _)

theorem pushLst {g : Gh} {ps : List PV} {vs : List Value} {s : Shared} (S : St c g s.heap) (r : VRs (c.B g) s.heap ps vs) (hl : ps.length ≤ sizeLine) :
    VR (c.B g) (s.heap.push { cls := .type "list", data := .seq vs.toArray }) (.lst ps) (.ref s.heap.objs.size) ∧ Step c NoW g s g { s with heap := s.heap.push { cls := .type "list", data := .seq vs.toArray } } := by
  have x : Step c NoW g s g { s with heap := s.heap.push { cls := .type "list", data := .seq vs.toArray } } := Step.keeps S (fun b o e => Heap.get?_push_of_some _ e) (by simp)
  refine ⟨⟨s.heap.objs.size, vs, rfl, ⟨_, Heap.get?_push_size _ rfl⟩, fun q => ?_, hl, x.vrs r⟩, x⟩
  exact absurd (S.ltB _ q) (Nat.lt_irrefl _)

theorem WE_Tuple {elts k pos} (h : WEs c E elts g fun ps g₁ => ps.length ≤ sizeLine ∧ Q (.tup ps) g₁) : WE c E (.Tuple elts k pos) g Q := fun s S => by
  refine wpAny_Tuple (wpAny_mono (h pos s S) (fun vs s₁ hz39 => ?_) fun _ _ e => e)
  obtain ⟨ps, g₁, ⟨hl, h₁⟩, r₁, x₁⟩ := hz39
  exact ⟨by rw [r₁.length]; exact hl, _, g₁, h₁, (pushTup x₁.st r₁ hl).1, x₁.trans (pushTup x₁.st r₁ hl).2⟩
theorem WE_List {elts pos} (h : WEs c E elts g fun ps g₁ => ps.length ≤ sizeLine ∧ Q (.lst ps) g₁) : WE c E (.List elts pos) g Q := fun s S => by
  refine wpAny_List (wpAny_mono (h pos s S) (fun vs s₁ hz40 => ?_) fun _ _ e => e)
  obtain ⟨ps, g₁, ⟨hl, h₁⟩, r₁, x₁⟩ := hz40
  exact ⟨by rw [r₁.length]; exact hl, _, g₁, h₁, (pushLst x₁.st r₁ hl).1, x₁.trans (pushLst x₁.st r₁ hl).2⟩

/-! ## items -/
theorem TupAt.isTup {h a vs} (x : TupAt h a vs) : IsTup h a vs.toArray := let ⟨n, e⟩ := x; ⟨_, e, rfl, n, rfl⟩
theorem LstAt.isList {h a vs} (x : LstAt h a vs) : h.IsList a vs.toArray := let ⟨n, e⟩ := x; ⟨_, e, rfl, n, rfl⟩
theorem LstAt.plain {h a vs} (x : LstAt h a vs) : h.PlainList a vs.toArray := x

def Item (c : Cx) (E : Exc) (g : Gh) (value slice : Expr) (p q : PV) (Q : PV → Gh → Prop) : Prop :=
  ∀ s v w, St c g s.heap → VR (c.B g) s.heap p v → VR (c.B g) s.heap q w → WVal c E g (subscriptTail value slice v w) Q s
theorem WE_Subscript {value slice pos} (h : WE c E value g fun p g₁ => WE c E slice g₁ fun q g₂ => Item c E g₂ value slice p q Q) : WE c E (.Subscript value slice pos) g Q := fun s S => by
  refine Subscript_ (wpAny_mono (h s S) (fun v s₁ hz41 => ?_) fun _ _ e => e)
  obtain ⟨p, g₁, h₁, r₁, x₁⟩ := hz41
  refine wpAny_mono (h₁ s₁ x₁.st) (fun u s₂ hz42 => ?_) fun _ _ e => e
  obtain ⟨q, g₂, h₂, r₂, x₂⟩ := hz42
  exact wpAny_mono (h₂ s₂ v u x₂.st (x₂.vr r₁) r₂) (fun y s₃ hz43 => by obtain ⟨p₃, g₃, h₃, r₃, x₃⟩ := hz43; exact ⟨p₃, g₃, h₃, r₃, (x₁.trans x₂).trans x₃⟩) fun _ _ e => e

def notSlice : Expr → Bool
  | .Slice .. => false
  | _ => true
theorem subscripted_plain {slice : Expr} (h : notSlice slice = true) (o i : Value) : subscripted slice false o i = operate [o, i] (getItem o i) := by
  unfold subscripted; cases slice <;> first | rfl | cases h

theorem Item_tup {value slice : Expr} {xs : List PV} {k : Int} {p : PV} (hj : ∃ j, seqIndex? k xs.length = some j ∧ xs[j]? = some p) (h : Q p g) (hs : notSlice slice = true := by rfl) :
    Item c E g value slice (.tup xs) (.int k) Q := fun s v w S hz44 hz45 => by
  obtain ⟨a, vs, e, ht, nb, hl, r⟩ := hz44
  obtain ⟨u, e'⟩ := hz45
  subst e; subst e'
  obtain ⟨j, hj, hx⟩ := hj
  obtain ⟨y, hy, ry⟩ := r.get hx
  have hb : -(2 ^ 63) ≤ k ∧ k < 2 ^ 63 := by
    have := hl; rw [sizeLine_eq] at this
    unfold seqIndex? at hj
    split at hj <;> (try split at hj) <;> first | (cases hj; done) | skip
    all_goals (simp at *; omega)
  exact item_tupleT ht.isTup hb.1 hb.2 (by rw [r.length]; exact hj) hy ⟨p, g, h, ry, Step.refl S⟩ (subscripted_plain hs _ _)
theorem Item_lst {value slice : Expr} {xs : List PV} {k : Int} {p : PV} (h0 : 0 ≤ k) (hj : xs[k.toNat]? = some p) (h : Q p g) (hs : notSlice slice = true := by rfl) :
    Item c E g value slice (.lst xs) (.int k) Q := fun s v w S hz46 hz47 => by
  obtain ⟨a, vs, e, ht, nb, hl, r⟩ := hz46
  obtain ⟨u, e'⟩ := hz47
  subst e; subst e'
  obtain ⟨y, hy, ry⟩ := r.get hj
  have hb : k < 2 ^ 63 := by
    have := hl; rw [sizeLine_eq] at this
    have := (List.getElem?_eq_some_iff.mp hj).1
    omega
  exact tail_any ht.isList.typeIs slot_list_getitem.lookup (wpAny_getItem_list ht.isList h0 hb (by simpa using hy) ⟨p, g, h, ry, Step.refl S⟩) (subscripted_plain hs _ _)
theorem Item_box {value slice : Expr} {xs : List PV} {a : Addr} {k : Int} {p : PV} (hb : (a, PO.lst xs) ∈ g.all) (h0 : 0 ≤ k) (hj : xs[k.toNat]? = some p) (h : Q p g) (hs : notSlice slice = true := by rfl) :
    Item c E g value slice (.box a) (.int k) Q := fun s v w S e hz48 => by
  obtain ⟨u, e'⟩ := hz48
  subst e; subst e'
  obtain ⟨vs, ht, hl, r⟩ := S.boxes _ _ hb
  obtain ⟨y, hy, ry⟩ := r.get hj
  have hb : k < 2 ^ 63 := by
    have := hl; rw [sizeLine_eq] at this
    have := (List.getElem?_eq_some_iff.mp hj).1
    omega
  exact tail_any ht.isList.typeIs slot_list_getitem.lookup (wpAny_getItem_list ht.isList h0 hb (by simpa using hy) ⟨p, g, h, ry, Step.refl S⟩) (subscripted_plain hs _ _)
end

end Mine

namespace Mine
open PySem PyProof.Rows

section
variable {c : Cx} {E : Exc} {g : Gh}

/-! ## truth -/
def Truth (c : Cx) (E : Exc) (g : Gh) (p : PV) (Q : Bool → Gh → Prop) : Prop :=
  ∀ s v, St c g s.heap → VR (c.B g) s.heap p v → wpAny c.M c.A (truthy v) (fun b s' => ∃ g', Q b g' ∧ Step c NoW g s g' s') E s
theorem Truth_bool {b : Bool} {Q : Bool → Gh → Prop} (h : Q b g) : Truth c E g (.bool b) Q := fun s v S e => by
  obtain rfl : v = .bool b := e
  exact wpAny_truthy_bool ⟨g, h, Step.refl S⟩
def plainTest : Expr → Bool
  | .UnaryOp .Not _ _ => false
  | .BoolOp .. => false
  | .IfExp .. => false
  | .Compare .. => false
  | _ => true
theorem WT_value {e : Expr} {Q : Bool → Gh → Prop} (h : WE c E e g fun p g₁ => Truth c E g₁ p Q) (he : plainTest e = true := by rfl) : WT c E e g Q := fun s S => by
  refine wpAny_isTrue_value (wpAny_mono (h s S) (fun v s₁ ⟨p, g₁, h₁, r₁, x₁⟩ => ?_) fun _ _ e => e) ?_
  · exact wpAny_mono (h₁ s₁ v x₁.st r₁) (fun b s₂ hz3 => by obtain ⟨g₂, h₂, x₂⟩ := hz3; exact ⟨g₂, h₂, x₁.trans x₂⟩) fun _ _ e => e
  · cases e <;> first | rfl | (cases he; done) | (rename_i op _ _; cases op <;> first | rfl | (cases he; done))
theorem WT_not {e : Expr} {pos} {Q : Bool → Gh → Prop} (h : WT c E e g fun b g₁ => Q (!b) g₁) : WT c E (.UnaryOp .Not e pos) g Q := fun s S =>
  wpAny_isTrue_Not (wpAny_mono (h s S) (fun b s₁ hz4 => by obtain ⟨g₁, h₁, x₁⟩ := hz4; exact ⟨g₁, h₁, x₁⟩) fun _ _ e => e)

def WAll (c : Cx) (E : Exc) (op : BoolOp) (es : List Expr) (g : Gh) (Q : Bool → Gh → Prop) : Prop := ∀ s, St c g s.heap →
  wpAny c.M c.A (allTrue op es c.env) (fun b s' => ∃ g', Q b g' ∧ Step c NoW g s g' s') E s
theorem WT_BoolOp {op es pos} {Q : Bool → Gh → Prop} (h : WAll c E op es g Q) : WT c E (.BoolOp op es pos) g Q := fun s S => wpAny_isTrue_BoolOp (h s S)
theorem WAll_and_nil {Q : Bool → Gh → Prop} (h : Q true g) : WAll c E .And [] g Q := fun s S => wpAny_allTrue_And_nil ⟨g, h, Step.refl S⟩
theorem WAll_or_nil {Q : Bool → Gh → Prop} (h : Q false g) : WAll c E .Or [] g Q := fun s S => wpAny_allTrue_Or_nil ⟨g, h, Step.refl S⟩
theorem WAll_and {e es} {Q : Bool → Gh → Prop} (h : WT c E e g fun b g₁ => (b = true → WAll c E .And es g₁ Q) ∧ (b = false → Q false g₁)) : WAll c E .And (e :: es) g Q := fun s S => by
  refine wpAny_allTrue_And_cons (wpAny_mono (h s S) (fun b s₁ hz5 => ?_) fun _ _ e => e)
  obtain ⟨g₁, h₁, x₁⟩ := hz5
  cases b
  · exact ⟨g₁, h₁.2 rfl, x₁⟩
  · exact wpAny_mono (h₁.1 rfl s₁ x₁.st) (fun b s₂ hz6 => by obtain ⟨g₂, h₂, x₂⟩ := hz6; exact ⟨g₂, h₂, x₁.trans x₂⟩) fun _ _ e => e
theorem WAll_or {e es} {Q : Bool → Gh → Prop} (h : WT c E e g fun b g₁ => (b = false → WAll c E .Or es g₁ Q) ∧ (b = true → Q true g₁)) : WAll c E .Or (e :: es) g Q := fun s S => by
  refine wpAny_allTrue_Or_cons (wpAny_mono (h s S) (fun b s₁ hz7 => ?_) fun _ _ e => e)
  obtain ⟨g₁, h₁, x₁⟩ := hz7
  cases b
  · exact wpAny_mono (h₁.1 rfl s₁ x₁.st) (fun b s₂ hz8 => by obtain ⟨g₂, h₂, x₂⟩ := hz8; exact ⟨g₂, h₂, x₁.trans x₂⟩) fun _ _ e => e
  · exact ⟨g₁, h₁.2 rfl, x₁⟩

/-- the value of 'not' -/
theorem WE_not {e pos} {Q : PV → Gh → Prop} (h : WE c E e g fun p g₁ => Truth c E g₁ p fun b g₂ => Q (.bool (!b)) g₂) : WE c E (.UnaryOp .Not e pos) g Q := fun s S => by
  refine wpAny_UnaryOp (wpAny_mono (h s S) (fun v s₁ hz9 => ?_) fun _ _ e => e)
  obtain ⟨p, g₁, h₁, r₁, x₁⟩ := hz9
  exact not_value (wpAny_mono (h₁ s₁ v x₁.st r₁) (fun b s₂ hz10 => by obtain ⟨g₂, h₂, x₂⟩ := hz10; exact ⟨_, g₂, h₂, rfl, x₁.trans x₂⟩) fun _ _ e => e)

/-- the value of 'and', 'or' -/
def WBo (c : Cx) (E : Exc) (op : BoolOp) (es : List Expr) (g : Gh) (Q : PV → Gh → Prop) : Prop := ∀ pos s, St c g s.heap → WVal c E g (boolOp pos op (evalEach es c.env)) Q s
theorem WE_BoolOp {op es pos} {Q : PV → Gh → Prop} (h : WBo c E op es g Q) : WE c E (.BoolOp op es pos) g Q := fun s S => h pos s S
theorem WBo_one {op e} {Q : PV → Gh → Prop} (h : WE c E e g Q) : WBo c E op [e] g Q := fun pos s S => h s S
theorem WBo_and {e e' es} {Q : PV → Gh → Prop} (h : WE c E e g fun p g₁ => Truth c E g₁ p fun b g₂ => g₂ = g₁ ∧ (b = true → WBo c E .And (e' :: es) g₂ Q) ∧ (b = false → Q p g₂)) :
    WBo c E .And (e :: e' :: es) g Q := fun pos s S => by
  show wpAny c.M c.A (do
    let v ← eval e c.env
    standAt pos
    let t ← holding [v] (truthy v)
    match BoolOp.And, t with
    | .And, false | .Or, true => pure v
    | _, _ => boolOp pos .And (evalEach (e' :: es) c.env)) _ E s
  refine wpAny_bind (wpAny_mono (h s S) (fun v s₁ ⟨p, g₁, h₁, r₁, x₁⟩ => wpAny_bind (wpAny_standAt (wpAny_bind (wpAny_holding (wpAny_mono (h₁ s₁ v x₁.st r₁) (fun t s₂ hz12 => ?_) fun _ _ x => x))))) fun _ _ x => x)
  obtain ⟨g₂, ⟨e, h₂⟩, x₂⟩ := hz12
  cases t with
  | false => exact wpAny_pure ⟨p, g₂, h₂.2 rfl, x₂.vr r₁, x₁.trans x₂⟩
  | true => exact wpAny_mono (h₂.1 rfl pos s₂ x₂.st) (fun u s₃ hz13 => by obtain ⟨q, g₃, h₃, r₃, x₃⟩ := hz13; exact ⟨q, g₃, h₃, r₃, (x₁.trans x₂).trans x₃⟩) fun _ _ x => x
/-! ## two comparisons in a row, over ints -/
theorem WT_Compare2 {l o₁ o₂ r₁ r₂ pos} {Q : Bool → Gh → Prop} (h : WE c E l g fun p g₁ => WE c E r₁ g₁ fun q g₂ => Cmp c E g₂ o₁ p q fun b g₃ =>
      ∃ b', b = .bool b' ∧ (b' = true → WE c E r₂ g₃ fun r g₄ => Cmp c E g₄ o₂ q r fun b g₅ => ∃ b'', b = .bool b'' ∧ Q b'' g₅) ∧ (b' = false → Q false g₃))
    (hm : lastMarks [o₁, o₂] [r₁, r₂] = false := by with_unfolding_all rfl) : WT c E (.Compare l [o₁, o₂] [r₁, r₂] pos) g Q := fun s S => by
  refine isTrue_chain (rs := []) (ops := []) (wpAny_mono (h s S) (fun v s₁ hz17 => ?_) fun _ _ e => e) hm
  obtain ⟨p, g₁, h₁, r₁, x₁⟩ := hz17
  show wpAny c.M c.A (do
    let rv ← holding [v] (eval _ c.env)
    standAt pos
    let c₁ ← holding [v, rv] (compareOp o₁ v rv)
    release [v, rv] [c₁]
    if ← holding [c₁, rv] (truthy c₁) then testChain pos rv [o₂] [eval r₂ c.env] else pure false) _ E s₁
  refine wpAny_bind (wpAny_holding (wpAny_mono (h₁ s₁ x₁.st) (fun u s₂ hz18 => ?_) fun _ _ e => e))
  obtain ⟨q, g₂, h₂, r₂, x₂⟩ := hz18
  refine wpAny_bind (wpAny_standAt (wpAny_bind (wpAny_holding (wpAny_mono (h₂ s₂ v u x₂.st (x₂.vr r₁) r₂) (fun y s₃ hz19 => ?_) fun _ _ e => e))))
  obtain ⟨p₃, g₃, ⟨b, e, h₃⟩, r₃, x₃⟩ := hz19
  subst e
  obtain rfl : y = .bool b := r₃
  refine wpAny_bind (fun Γ p hΓ => ?_)
  rw [Sem.wp_release]
  refine wpAny_bind (wpAny_holding (wpAny_truthy_bool ?_))
  cases b with
  | false => exact wpAny_pure ⟨g₃, h₃.2 rfl, (x₁.trans x₂).trans x₃⟩
  | true =>
    show wpAny c.M c.A (do
      let rv ← holding [u] (eval _ c.env)
      standAt pos
      let c₁ ← operate [u, rv] (compareOp o₂ u rv)
      holding [c₁] (truthy c₁)) _ E s₃
    refine wpAny_bind (wpAny_holding (wpAny_mono (h₃.1 rfl s₃ x₃.st) (fun z s₄ hz20 => ?_) fun _ _ e => e))
    obtain ⟨r, g₄, h₄, r₄, x₄⟩ := hz20
    refine wpAny_bind (wpAny_standAt (wpAny_bind (wpAny_operating (wpAny_mono (h₄ s₄ u z x₄.st ((x₃.trans x₄).vr r₂) r₄) (fun y s₅ hz21 => ?_) fun _ _ e => e))))
    obtain ⟨p₅, g₅, ⟨b, e, h₅⟩, r₅, x₅⟩ := hz21
    subst e
    obtain rfl : y = .bool b := r₅
    exact wpAny_holding (wpAny_truthy_bool ⟨g₅, h₅, (((x₁.trans x₂).trans x₃).trans x₄).trans x₅⟩)
end

end Mine

namespace Mine
open PySem PyProof.Rows

theorem Ns_unique {h : Heap} {a : Addr} {m m' : Str → Option Value} (x : h.Ns a m) (y : h.Ns a m') (n : Str) : m n = m' n := by
  obtain ⟨o, es, ep, ho, hd, _, hm⟩ := x
  obtain ⟨o', es', ep', ho', hd', _, hm'⟩ := y
  rw [ho] at ho'; cases ho'
  rw [hd] at hd'; cases hd'
  rw [← hm, ← hm']

theorem lookup_cons_ne {α : Type} {x y : Str} {p : α} {r : List (Str × α)} (h : (x == y) = false) : ((y, p) :: r).lookup x = r.lookup x := by
  rw [List.lookup_cons, h]
theorem lookup_hit {α : Type} {x : Str} {p : α} {r : List (Str × α)} : ((x, p) :: r).lookup x = some p := by
  rw [List.lookup_cons, beq_self_eq_true]
section
variable {c : Cx} {E : Exc} {g : Gh}

/-! ## a name is bound -/
theorem St.weaken {g g' : Gh} {h} (S : St c g h) (hb : g'.bx = g.bx) (hr : g'.ro = g.ro) (hv : ∀ e ∈ g'.vars, g.vars.lookup e.1 = some e.2) : St c g' h := by
  obtain ⟨vs, bx, ro⟩ := g'
  obtain rfl : bx = g.bx := hb
  obtain rfl : ro = g.ro := hr
  refine ⟨S.ok, S.ns, S.cells, fun x p e => S.vars x p (hv (x, p) (mem_of_lookup e)), S.boxes, S.nodup, S.own, S.lent, S.boxAbove, S.lentIn, S.keep, S.size, S.exLt, S.exApart⟩

theorem St.bindLocal {x : Str} {p : PV} {v : Value} {h h' : Heap} {m : Str → Option Value} (S : St c g h) (r : VR (c.B g) h p v) (hk : c.env.kindOf x = some .local)
    (hn : h.Ns c.env.locals m) (hn' : h'.Ns c.env.locals (fun y => if y = x then some v else m y)) (hs : Heap.SameBut c.env.locals h h') :
    HStep c (Own c) g h (g.set x p) h' := by
  have ev : Ev g.wr (Own c) h h' := Ev.of_sameBut hs (.inr (.inl rfl))
  have evD : Ev (c.B g) (Own c) h h' := Ev.of_sameBut hs (.inr (.inl rfl))
  have nb : ∀ a ∈ c.B g, a ∈ c.B g ∨ h.objs.size ≤ a := fun _ q => .inl q
  have cellNe : ∀ y a, c.env.cells.lookup y = some a → a ≠ c.env.locals := fun y a ha e => by
    obtain ⟨u, o, ho, hd⟩ := S.cells y a ha
    obtain ⟨o', es, ep, ho', hd', _⟩ := hn
    rw [e, ho'] at ho; cases ho; rw [hd'] at hd; cases hd
  refine ⟨⟨S.ok, ⟨_, hn'⟩, fun y a ha => ?_, fun y q e => ?_, fun a o ha => ?_, S.nodup, S.own, S.lent, S.boxAbove, S.lentIn, fun b o e nl => ?_, ?_, ?_, S.exApart⟩, ev, fun _ q => .inl q, fun _ q => .inl q⟩
  · obtain ⟨u, hu⟩ := S.cells y a ha
    exact ⟨u, hu.sameBut hs (cellNe y a ha)⟩
  · by_cases hyx : y = x
    · subst hyx
      have : q = p := by
        have e' : ((y, p) :: g.vars).lookup y = some q := e
        rw [lookup_hit] at e'; exact (Option.some.inj e').symm
      subst this
      exact .inl ⟨hk, _, v, hn', by simp, VR.ext evD S.notSeq nb r⟩
    · have e' : ((x, p) :: g.vars).lookup y = some q := e
      rw [lookup_cons_ne (beq_eq_false_iff_ne.mpr hyx)] at e'
      rcases S.vars y q e' with ⟨k, m₁, u, hm₁, hu, ru⟩ | ⟨k, cc, u, hc, hu, ru⟩
      · exact .inl ⟨k, _, u, hn', by simp only [hyx, if_false]; rw [Ns_unique hn hm₁]; exact hu, VR.ext evD S.notSeq nb ru⟩
      · exact .inr ⟨k, cc, u, hc, hu.sameBut hs (cellNe y cc hc), VR.ext evD S.notSeq nb ru⟩
  · exact BoxIs.ext evD S.notSeq nb (S.boxes a o ha) fun o' e => (hs.2 a fun q => S.own a (List.mem_map_of_mem ha) (.inl q)).trans e
  · exact (hs.2 b fun q => absurd (Heap.lt_size e) (Nat.not_lt.mpr (S.ok.above b (.inl q)))).trans (S.keep b o e nl)
  · rw [hs.1]; exact S.size
  · rw [hs.1]; exact S.exLt

theorem St.bindCell {x : Str} {p : PV} {v : Value} {h h' : Heap} {cc : Addr} (S : St c g h) (r : VR (c.B g) h p v) (hk : c.env.kindOf x = some .cell) (hfn : c.fn = true)
    (hc : c.env.cells.lookup x = some cc) (hn' : h'.IsCell cc (some v)) (hs : Heap.SameBut cc h h') :
    HStep c (Own c) g h (g.set x p) h' := by
  have hin : c.env.cells.lookup x = some cc := hc
  have ev : Ev g.wr (Own c) h h' := Ev.of_sameBut hs (.inr (.inr ⟨hfn, x, hin⟩))
  have evD : Ev (c.B g) (Own c) h h' := Ev.of_sameBut hs (.inr (.inr ⟨hfn, x, hin⟩))
  have nb : ∀ a ∈ c.B g, a ∈ c.B g ∨ h.objs.size ≤ a := fun _ q => .inl q
  have locNe : c.env.locals ≠ cc := fun e => by
    obtain ⟨u, o, ho, hd⟩ := S.cells x cc hin
    obtain ⟨m, o', es, ep, ho', hd', _⟩ := S.ns
    rw [e, ho] at ho'; cases ho'; rw [hd'] at hd; cases hd
  refine ⟨⟨S.ok, ?_, fun y a ha => ?_, fun y q e => ?_, fun a o ha => ?_, S.nodup, S.own, S.lent, S.boxAbove, S.lentIn, fun b o e nl => ?_, ?_, ?_, S.exApart⟩, ev, fun _ q => .inl q, fun _ q => .inl q⟩
  · obtain ⟨m, hm⟩ := S.ns; exact ⟨m, hm.sameBut hs locNe⟩
  · obtain ⟨u, hu⟩ := S.cells y a ha
    by_cases ha' : a = cc
    · subst ha'; exact ⟨_, hn'⟩
    · exact ⟨u, hu.sameBut hs ha'⟩
  · by_cases hyx : y = x
    · subst hyx
      have : q = p := by
        have e' : ((y, p) :: g.vars).lookup y = some q := e
        rw [lookup_hit] at e'; exact (Option.some.inj e').symm
      subst this
      exact .inr ⟨hk, cc, v, hc, hn', VR.ext evD S.notSeq nb r⟩
    · have e' : ((x, p) :: g.vars).lookup y = some q := e
      rw [lookup_cons_ne (beq_eq_false_iff_ne.mpr hyx)] at e'
      rcases S.vars y q e' with ⟨k, m₁, u, hm₁, hu, ru⟩ | ⟨k, c₁, u, hc₁, hu, ru⟩
      · exact .inl ⟨k, m₁, u, hm₁.sameBut hs locNe, hu, VR.ext evD S.notSeq nb ru⟩
      · have hne : c₁ ≠ cc := fun q => hyx (S.ok.apart _ _ _ hc₁ (q ▸ hin))
        exact .inr ⟨k, c₁, u, hc₁, hu.sameBut hs hne, VR.ext evD S.notSeq nb ru⟩
  · exact BoxIs.ext evD S.notSeq nb (S.boxes a o ha) fun o' e => (hs.2 a fun q => S.own a (List.mem_map_of_mem ha) (.inr ⟨x, q ▸ hin⟩)).trans e
  · exact (hs.2 b fun q => absurd (Heap.lt_size e) (Nat.not_lt.mpr (S.ok.above b (.inr ⟨x, q ▸ hin⟩)))).trans (S.keep b o e nl)
  · rw [hs.1]; exact S.size
  · rw [hs.1]; exact S.exLt

def Kept (c : Cx) (x : Str) : Prop := c.kind x = some .local ∨ (c.kind x = some .cell ∧ c.fn = true)

theorem store {x : Str} {p : PV} {v : Value} {s : Shared} {R : Unit → Shared → Prop} (S : St c g s.heap) (r : VR (c.B g) s.heap p v) (hk : Kept c x)
    (K : ∀ s', Step c (Own c) g s (g.set x p) s' → R () s') : wpAny c.M c.A (storeName c.env x v) R E s := by
  rcases hk with hk | ⟨hk, hfn⟩
  · replace hk := (S.ok.kindOk x).trans hk
    obtain ⟨m, hn⟩ := S.ns
    refine wpAny_storeName_local hk hn (fun h' hn' hs' => K { s with heap := h', toks := s.toks + 1 } (S.bindLocal r hk hn hn' hs').up) ?_
    rw [S.ok.kind]; rfl
  · replace hk := (S.ok.kindOk x).trans hk
    obtain ⟨cc, hc⟩ := S.ok.cellOk x hk
    obtain ⟨u, hu⟩ := S.cells x cc hc
    exact wpAny_storeName_cell S.ok.kind hk hc hu (fun h' hn' hs' => K { s with heap := h' } (S.bindCell r hk hfn hc hn' hs').up)

/-! ## statements -/
/-- what follows a statement -/
def Then (c : Cx) (E : Exc) (rest : List Stmt) (Q : PF → Gh → Prop) : PF → Gh → Prop
  | .next, g => WS c E rest g Q
  | .brk, g => Q .brk g
  | .cont, g => Q .cont g
  | .ret p, g => Q (.ret p) g

variable {Q : PF → Gh → Prop} {rest : List Stmt}

theorem WS_cons {st : Stmt} (h : WX c E st g (Then c E rest Q)) : WS c E (st :: rest) g Q := fun s S => by
  refine wpAny_execs_cons (wpAny_mono (h s S) (fun f s₁ hz1 => ?_) fun _ _ e => e)
  obtain ⟨pf, g₁, h₁, r₁, x₁⟩ := hz1
  cases pf with
  | next =>
    obtain rfl : f = .next := r₁
    exact wpAny_mono (h₁ s₁ x₁.st) (fun f s₂ hz2 => by obtain ⟨pf, g₂, h₂, r₂, x₂⟩ := hz2; exact ⟨pf, g₂, h₂, r₂, x₁.trans x₂⟩) fun _ _ e => e
  | brk => obtain rfl : f = .brk := r₁; exact ⟨.brk, g₁, h₁, rfl, x₁⟩
  | cont => obtain rfl : f = .cont := r₁; exact ⟨.cont, g₁, h₁, rfl, x₁⟩
  | ret p => obtain ⟨v, rfl, rv⟩ := r₁; exact ⟨.ret p, g₁, h₁, ⟨v, rfl, rv⟩, x₁⟩
theorem WS_nil (h : Q .next g) : WS c E [] g Q := fun s S => wpAny_execs_nil ⟨.next, g, h, rfl, Step.refl S⟩
/-- the end of an inner block -/
theorem WS_end {rest' : List Stmt} (h : WS c E rest' g Q) : WS c E [] g (Then c E rest' Q) := WS_nil h
theorem WS.weaken {g' : Gh} {sts : List Stmt} (h : WS c E sts g' Q) (hb : g'.bx = g.bx) (hr : g'.ro = g.ro) (hv : ∀ e ∈ g'.vars, g.vars.lookup e.1 = some e.2) : WS c E sts g Q := fun s S => by
  have e : g'.dom = g.dom := by show dom (g'.bx ++ g'.ro) = dom (g.bx ++ g.ro); rw [hb, hr]
  have e' : g'.wr = g.wr := by show dom g'.bx = dom g.bx; rw [hb]
  refine wpAny_mono (h s (S.weaken hb hr hv)) (fun f s₁ hz3 => by obtain ⟨pf, g₁, h₁, r₁, x₁⟩ := hz3; exact ⟨pf, g₁, h₁, r₁, x₁.st, e' ▸ x₁.ev, fun a q => e ▸ x₁.dom a q, fun a q => e' ▸ x₁.wr a q, x₁.rest⟩) fun _ _ e => e

theorem WX_Assign {x : Str} {pos' : Pos} {value : Expr} {pos : Pos} (h : WE c E value g fun p g₁ => Q .next (g₁.set x p)) (hk : Kept c x)
    (hs : swapsWith value (some (.Name x pos')) pos.line c.env = pure false := by rfl) : WX c E (.Assign [.Name x pos'] value pos) g Q := fun s S => by
  refine wpAny_Assign_Name (wpAny_mono (h s S) (fun v s₁ hz4 => ?_) fun _ _ e => e) hs
  obtain ⟨p, g₁, h₁, r₁, x₁⟩ := hz4
  exact store x₁.st r₁ hk fun s₂ x₂ => ⟨.next, _, h₁, rfl, x₁.toOwn.trans x₂⟩
theorem WS_Assign {x : Str} {pos' : Pos} {value : Expr} {pos : Pos} (h : WE c E value g fun p g₁ => WS c E rest (g₁.set x p) Q) (hk : Kept c x)
    (hs : swapsWith value (some (.Name x pos')) pos.line c.env = pure false := by rfl) : WS c E (.Assign [.Name x pos'] value pos :: rest) g Q :=
  WS_cons (WX_Assign h hk hs)

theorem WS_Return {e pos} (h : WE c E e g fun p g₁ => Q (.ret p) g₁) : WS c E (.Return (some e) pos :: rest) g Q := WS_cons fun s S =>
  wpAny_Return_some (wpAny_mono (h s S) (fun v s₁ hz5 => by obtain ⟨p, g₁, h₁, r₁, x₁⟩ := hz5; exact ⟨.ret p, g₁, h₁, ⟨v, rfl, r₁⟩, x₁.toOwn⟩) fun _ _ e => e)
theorem WS_Break {pos} (h : Q .brk g) : WS c E (.Break pos :: rest) g Q := WS_cons fun s S => wpAny_Break ⟨.brk, g, h, rfl, Step.refl S⟩
theorem WS_Expr {e pos} (h : WE c E e g fun p g₁ => WS c E rest g₁ Q) (hs : swapsWith e none pos.line c.env = pure false := by rfl) : WS c E (.Expr e pos :: rest) g Q := WS_cons fun s S =>
  wpAny_Expr_any (wpAny_mono (h s S) (fun v s₁ hz6 => by obtain ⟨p, g₁, h₁, r₁, x₁⟩ := hz6; exact ⟨.next, g₁, h₁, rfl, x₁.toOwn⟩) fun _ _ e => e) (by unfold interactive; rw [S.ok.kind]; rfl) hs
theorem WX_If {test body orelse pos} (h : WT c E test g fun b g₁ => (b = true → WS c E body g₁ Q) ∧ (b = false → WS c E orelse g₁ Q)) : WX c E (.If test body orelse pos) g Q := fun s S => by
  refine wpAny_If (wpAny_mono (h s S) (fun b s₁ hz7 => ?_) fun _ _ e => e)
  obtain ⟨g₁, h₁, x₁⟩ := hz7
  cases b with
  | true => exact wpAny_mono (h₁.1 rfl s₁ x₁.st) (fun f s₂ hz8 => by obtain ⟨pf, g₂, h₂, r₂, x₂⟩ := hz8; exact ⟨pf, g₂, h₂, r₂, x₁.toOwn.trans x₂⟩) fun _ _ e => e
  | false => exact wpAny_mono (h₁.2 rfl s₁ x₁.st) (fun f s₂ hz9 => by obtain ⟨pf, g₂, h₂, r₂, x₂⟩ := hz9; exact ⟨pf, g₂, h₂, r₂, x₁.toOwn.trans x₂⟩) fun _ _ e => e
theorem WS_If {test body orelse pos} (h : WT c E test g fun b g₁ => (b = true → WS c E body g₁ (Then c E rest Q)) ∧ (b = false → WS c E orelse g₁ (Then c E rest Q))) :
    WS c E (.If test body orelse pos :: rest) g Q := WS_cons (WX_If h)
end

end Mine

namespace Mine
open PySem PyProof.Rows

def Boxes (prog : Program) (w : World) (ex : List Addr) (bx : List (Addr × PO)) (h : Heap) : Prop := ∀ a o, (a, o) ∈ bx → BoxIs prog w (dom bx ++ ex) h a o

/-- behind a call: the boxes may have turned -/
theorem St.after {c : Cx} {g : Gh} {h h' : Heap} {bx' : List (Addr × PO)} (S : St c g h) (ev : Ev g.wr NoW h h') (hd : dom bx' = g.wr) (hb : Boxes c.prog c.w c.ex (bx' ++ g.ro) h') : HStep c NoW g h ⟨g.vars, bx', g.ro⟩ h' := by
  have nw : ∀ a, NoW a → NotSeq h a := fun _ q => q.elim
  have hD : Gh.dom ⟨g.vars, bx', g.ro⟩ = g.dom := by
    show (bx' ++ g.ro).map (·.1) = (g.bx ++ g.ro).map (·.1)
    rw [List.map_append, List.map_append]
    have : bx'.map (·.1) = g.bx.map (·.1) := hd
    rw [this]
  have evD : Ev (c.B g) NoW h h' := ev.mono (fun _ _ q => Cx.wr_B q) fun _ _ q => q
  have hB : c.B ⟨g.vars, bx', g.ro⟩ = c.B g := congrArg (· ++ c.ex) hD
  have nb : ∀ a ∈ c.B ⟨g.vars, bx', g.ro⟩, a ∈ c.B g ∨ h.objs.size ≤ a := fun a q => .inl (hB ▸ q)
  have nl : c.env.locals ∉ g.wr := fun q => S.own _ (Gh.wr_dom q) (.inl rfl)
  refine ⟨⟨S.ok, ?_, fun y a ha => ?_, fun y p e => ?_, fun a o q => ?_, ?_, fun a q => S.own a (hD ▸ q), fun a q => S.lent a (hd ▸ q), fun a q => S.boxAbove a (hD ▸ q), fun a q => ?_, fun b o e nlt => ?_, Nat.le_trans S.size ev.size, fun a q => Nat.lt_of_lt_of_le (S.exLt a q) ev.size, fun a q => S.exApart a (hD ▸ q)⟩, ev, fun a q => .inl (hD ▸ q), fun a q => .inl (hd ▸ q)⟩
  · obtain ⟨m, hm⟩ := S.ns; exact ⟨m, hm.at' fun o e => ev.ext _ o e nl id⟩
  · obtain ⟨v, o, ho, hv⟩ := S.cells y a ha
    exact ⟨v, o, ev.ext a o ho (fun q => S.own a (Gh.wr_dom q) (.inr ⟨y, ha⟩)) id, hv⟩
  · rcases S.vars y p e with ⟨k, m, v, hn, hm, r⟩ | ⟨k, cc, v, hc, ⟨o, ho, hv⟩, r⟩
    · exact .inl ⟨k, m, v, hn.at' fun o e => ev.ext _ o e nl id, hm, VR.ext evD nw nb r⟩
    · exact .inr ⟨k, cc, v, hc, ⟨o, ev.ext cc o ho (fun q => S.own cc (Gh.wr_dom q) (.inr ⟨y, hc⟩)) id, hv⟩, VR.ext evD nw nb r⟩
  · exact hb a o q
  · rw [hD]; exact S.nodup
  · rw [hD]; exact S.lentIn a q
  · refine ev.ext b o (S.keep b o e nlt) (fun q => ?_) id
    rcases S.lent b q with q | q
    · exact nlt q
    · exact absurd (Heap.lt_size e) (Nat.not_lt.mpr q)

/-! ## what a call of the text's own def gives -/
def FnSpec (prog : Program) (w : World) (h0 : Heap) (nm : Str) (d : Nat) (args : List PV) (bx ro : List (Addr × PO)) (Q : PV → List (Addr × PO) → Prop) : Prop :=
  ∀ A s vs f ex, GlobIs h0 nm f → Room A d → A.handled = none → (∀ b o, h0.get? b = some o → s.heap.get? b = some o) → h0.objs.size ≤ s.heap.objs.size → (∀ a ∈ dom (bx ++ ro), h0.objs.size ≤ a) → (dom (bx ++ ro)).Nodup →
    (∀ a ∈ ex, a < s.heap.objs.size) → (∀ a ∈ dom (bx ++ ro), a ∉ ex) → Boxes prog w ex (bx ++ ro) s.heap → VRs (dom (bx ++ ro) ++ ex) s.heap args vs →
    codeAny (model prog w) A (.call f ⟨vs, []⟩) (fun r s' => ∃ v p bx', r = .ok (.ret v) ∧ Q p bx' ∧ dom bx' = dom bx ∧ VR (dom (bx ++ ro) ++ ex) s'.heap p v ∧ Boxes prog w ex (bx' ++ ro) s'.heap ∧ Ev (dom bx) NoW s.heap s'.heap ∧ Rest s s') s

def IsFn (h0 : Heap) (nm : Str) : Prop := ∃ a o fd, GlobIs h0 nm (.ref a) ∧ h0.get? a = some o ∧ o.data = .func fd

section
variable {c : Cx} {E : Exc} {g : Gh}

/-- a call that leaves all boxes as they are -/
theorem WE_Call {fn : Str} {p pos : Pos} {e : Expr} {es : List Expr} {Q : PV → Gh → Prop} (hfn : IsFn c.h0 fn)
    (h : WEs c E (e :: es) g fun ps g₁ => FnSpec c.prog c.w c.h0 fn c.d ps [] g₁.all fun r _ => Q r g₁)
    (hk : c.kind fn = some .globalImplicit := by rfl) (hd : (fn == ("__debug__" : Str)) = false := by decide +kernel)
    (he : starEach (e :: es) c.env = (false, eval e c.env) :: starEach es c.env := by rfl) :
    WE c E (.Call (.Name fn p) (e :: es) [] pos) g Q := fun s S => by
  obtain ⟨a, o, fd, hg, ho, hd'⟩ := hfn
  have hn : WE c E (.Name fn p) g fun q g' => q = .raw (.ref a) ∧ g' = g := WE_Global hg ⟨rfl, rfl⟩ hk hd
  refine wpAny_Call_Name_kw (keywords := []) (wpAny_mono (hn s S) (fun f s₁ hz3 => ?_) fun _ _ e => e)
  obtain ⟨q, g₁, ⟨e₁, e₂⟩, r₁, x₁⟩ := hz3
  subst e₁; subst e₂
  obtain rfl : f = .ref a := r₁
  refine Calls.callWith_function (o := o) (fd := fd) ?_
  rw [he]
  refine Calls.evalArgs_plain (wpAny_mono (he ▸ h pos s₁ x₁.st) (fun vs s₂ ⟨ps, g₂, h₂, r₂, x₂⟩ => ⟨⟨x₂.st.ground a o ho, hd'⟩, ?_⟩) fun _ _ e => e)
  refine wpAny_call ?_
  have S₂ := x₂.st
  refine codeAny_mono (h₂ c.A s₂ vs (.ref a) c.ex hg S₂.ok.room S₂.ok.handled S₂.ground (Nat.le_trans S₂.ok.h0size S₂.size) S₂.boxAbove S₂.nodup S₂.exLt S₂.exApart S₂.boxes r₂) fun r s₃ ⟨v, p, bx', er, hq, hdm, rv, hb, ev, hrest⟩ => ?_
  subst er
  have x₃ : Step c NoW g₂ s₂ g₂ s₃ := Step.keeps S₂ (fun b o e => ev.ext b o e (by intro q; cases q) id) ev.size hrest
  exact ⟨p, g₂, hq, rv, (x₁.trans x₂).trans x₃⟩
end

/-! ## a def of the text, by its body -/
def mkEnv (sc : Scope) (L a : Addr) (q : Str) (cd : Value) : Env :=
  { scope := sc, locals := L, globals := mainGlobals, cells := cellsFrom (L + 1) sc.names [], qual := q, func := some a, code := cd, frame := some L, builtins := builtinsNs }

def FnAt (h0 : Heap) (nm : Str) (ps : List Str) (body : List Stmt) (sc : Scope) : Prop :=
  ∃ a o fd, GlobIs h0 nm (.ref a) ∧ h0.get? a = some o ∧ o.data = .func fd ∧ fd.body = .stmts body ∧ fd.scope = sc ∧ fd.globals = mainGlobals ∧ fd.builtins = builtinsNs ∧ fd.closure = [] ∧
    h0.CodeRec fd.code fd.qualname ∧ ∀ vs : List Value, vs.length = ps.length → bindArgs fd ⟨vs, []⟩ = pure (ps.zip vs)
theorem FnAt.isFn {h0 nm ps body sc} (x : FnAt h0 nm ps body sc) : IsFn h0 nm := let ⟨a, o, fd, h1, h2, h3, _⟩ := x; ⟨a, o, fd, h1, h2, h3⟩

theorem cellsFrom_some {x : Str} : ∀ (names : List (Str × NameKind)) (n : Nat) (acc : List (Str × Addr)), names.lookup x = some .cell ∨ (acc.lookup x).isSome = true → ((cellsFrom n names acc).lookup x).isSome = true
  | [], _, _, h => h.elim (fun e => by cases e) id
  | (y, k) :: r, n, acc, h => by
    unfold cellsFrom
    by_cases hk : (k == .cell) = true
    · rw [if_pos hk]
      refine cellsFrom_some r (n + 1) ((y, n) :: acc) ?_
      by_cases hy : (x == y) = true
      · exact .inr (by rw [List.lookup_cons, hy]; rfl)
      · refine h.imp (fun e => ?_) fun e => ?_
        · rw [List.lookup_cons] at e; simpa only [hy] using e
        · rw [List.lookup_cons]; simpa only [hy] using e
    · rw [if_neg hk]
      refine cellsFrom_some r n acc ?_
      by_cases hy : (x == y) = true
      · refine .inr (h.elim (fun e => ?_) id)
        rw [List.lookup_cons, hy] at e
        exact absurd (by rw [Option.some.inj e]; rfl) hk
      · refine h.imp (fun e => ?_) id
        rw [List.lookup_cons] at e; simpa only [hy] using e

theorem bindL_other {k : Str → Option NameKind} {x : Str} : ∀ {binds : List (Str × Value)} {m : Str → Option Value}, (∀ e ∈ binds, e.1 ≠ x) → bindL k binds m x = m x
  | [], _, _ => rfl
  | (n, v) :: r, m, h => by
    unfold bindL
    rw [bindL_other fun e he => h e (.tail _ he)]
    have : x ≠ n := fun q => h (n, v) (.head _) q.symm
    split <;> simp [this]
theorem bindC_other {k : Str → Option NameKind} {x : Str} : ∀ {binds : List (Str × Value)} {m : Str → Option Value}, (∀ e ∈ binds, e.1 ≠ x) → bindC k binds m x = m x
  | [], _, _ => rfl
  | (n, v) :: r, m, h => by
    unfold bindC
    rw [bindC_other fun e he => h e (.tail _ he)]
    have : x ≠ n := fun q => h (n, v) (.head _) q.symm
    split <;> simp [this]

theorem bind_get {B : List Addr} {h : Heap} {k : Str → Option NameKind} {x : Str} {p : PV} : ∀ {ps : List Str} {args : List PV} {vs : List Value} {m cm : Str → Option Value}, ps.Nodup → VRs B h args vs →
    (ps.zip args).lookup x = some p → ∃ v, VR B h p v ∧ (k x = some .local → bindL k (ps.zip vs) m x = some v) ∧ (k x ≠ some .local → bindC k (ps.zip vs) cm x = some v)
  | [], _, _, _, _, _, _, e => by simp at e
  | n :: ps, [], _, _, _, _, _, e => by simp at e
  | n :: ps, q :: args, _, m, cm, nd, ⟨v, ws, ev, rv, rs⟩, e => by
    subst ev
    rw [List.zip_cons_cons, List.lookup_cons] at e
    rw [List.nodup_cons] at nd
    by_cases hx : x = n
    · subst hx
      rw [beq_self_eq_true] at e
      cases e
      have no : ∀ e ∈ ps.zip ws, e.1 ≠ x := fun e he q => nd.1 (by have := (List.of_mem_zip (a := e.1) (b := e.2) he).1; rwa [q] at this)
      refine ⟨v, rv, fun hk => ?_, fun hk => ?_⟩
      · rw [List.zip_cons_cons]; unfold bindL; rw [bindL_other no, if_pos hk]; simp
      · rw [List.zip_cons_cons]; unfold bindC; rw [bindC_other no, if_neg hk]; simp
    · rw [beq_eq_false_iff_ne.mpr hx] at e
      obtain ⟨u, ru, h1, h2⟩ := bind_get (k := k) (m := if k n = some .local then fun y => if y = n then some v else m y else m) (cm := if k n = some .local then cm else fun y => if y = n then some v else cm y) nd.2 rs e
      exact ⟨u, ru, fun hk => by rw [List.zip_cons_cons]; unfold bindL; exact h1 hk, fun hk => by rw [List.zip_cons_cons]; unfold bindC; exact h2 hk⟩

/-- a function whose body never raises -/
theorem FnSpec.of_body {prog : Program} {w : World} {h0 : Heap} {nm : Str} {d : Nat} {ps : List Str} {body : List Stmt} {sc : Scope} {args : List PV} {bx ro : List (Addr × PO)} {Q : PV → List (Addr × PO) → Prop}
    (hfn : FnAt h0 nm ps body sc) (hlim : h0.NoLimit) (hlen : args.length = ps.length)
    (hkinds : (ps.all fun x => sc.names.lookup x == some .local || sc.names.lookup x == some .cell) = true) (hnd : ps.Nodup) (hsc : sc.kind = .function) (hco : sc.isCoroutine = false) (hgen : sc.isGenerator = false)
    (h : ∀ A L a q cd hb ex, WS ⟨prog, w, A, mkEnv sc L a q cd, h0, hb, dom bx, d, ex, true, fun x => sc.names.lookup x⟩ NoExc body ⟨ps.zip args, bx, ro⟩ fun pf g' => ∃ own bx', g'.bx = own ++ bx' ∧ g'.ro = ro ∧ dom bx' = dom bx ∧
      ((∃ p, pf = .ret p ∧ Q p bx') ∨ (pf = .next ∧ Q .none bx'))) :
    FnSpec prog w h0 nm (d + 1) args bx ro Q := fun A s vs f ex hg hroom hh hgr h0size hla hbn exLt exAp hbx rargs => by
  obtain ⟨a, o, fd, hg', ho, hdata, hbody, hscope, hglb, hblt, hclo, hcode, hbind⟩ := hfn
  obtain rfl : f = .ref a := by
    obtain ⟨mg, hn, hv⟩ := hg
    obtain ⟨mg', hn', hv'⟩ := hg'
    rw [Ns_unique hn hn', hv'] at hv
    exact (Option.some.inj hv).symm
  have hvl : vs.length = ps.length := by rw [rargs.length, hlen]
  have hcodeS : s.heap.CodeRec fd.code fd.qualname := by
    obtain ⟨cc, oc, fs, t, e1, e2, e3, e4⟩ := hcode
    exact ⟨cc, oc, fs, t, e1, hgr _ _ e2, e3, e4⟩
  have henv : ∀ L, callEnvC fd L a = mkEnv sc L a (fd.qualname ++ ".<locals>.") fd.code := fun L => by
    unfold callEnvC mkEnv newEnv
    simp only [hscope, hglb, hblt]
  have hkind : ∀ x ∈ ps.zip vs, fd.scope.names.lookup x.1 = some .local ∨ (fd.scope.names.lookup x.1 = some .cell ∧ ((cellsFrom (s.heap.objs.size + 1) fd.scope.names []).lookup x.1).isSome = true) := fun x hx => by
    rw [hscope]
    have := List.all_eq_true.mp hkinds x.1 (List.of_mem_zip (a := x.1) (b := x.2) hx).1
    rcases Bool.or_eq_true_iff.mp this with q | q
    · exact .inl (by simpa using q)
    · have q' : sc.names.lookup x.1 = some .cell := by simpa using q
      exact .inr ⟨q', cellsFrom_some _ _ _ (.inl q')⟩
  refine codeAny_call_cells (fd := fd) (binds := ps.zip vs) (by have := hroom.1; omega) (hgr _ _ ho) hdata (hlim.keeps hgr) hcodeS hbody (hbind vs hvl) hclo hkind (fun s₁ X => ?_)
    (by rw [hscope]; exact hco) (by rw [hscope]; exact hgen) (by rw [hscope]; exact hsc)
  rw [henv] at X ⊢
  have hkeep := X.toInCall.keep
  have hrest₁ : Rest s s₁ := by obtain ⟨_, _, e⟩ := X.toInCall.same; rw [e]; exact ⟨rfl, rfl⟩
  have hL : s.heap.objs.size < s₁.heap.objs.size := X.toInCall.ns.lt
  have nbx : ∀ a' ∈ dom (bx ++ ro), a' < s.heap.objs.size := fun a' q => by
    obtain ⟨⟨b, po⟩, hm, rfl⟩ := List.mem_map.mp q
    exact (hbx _ _ hm).lt
  let c : Cx := ⟨prog, w, A.deeper (mkEnv sc s.heap.objs.size a (fd.qualname ++ ".<locals>.") fd.code), mkEnv sc s.heap.objs.size a (fd.qualname ++ ".<locals>.") fd.code, h0, s.heap, dom bx, d, ex, true, fun x => sc.names.lookup x⟩
  have ev₁ : Ev (dom (bx ++ ro) ++ ex) NoW s.heap s₁.heap := Ev.of_keeps hkeep (Nat.le_of_lt hL)
  have nw : ∀ a, NoW a → NotSeq s.heap a := fun _ q => q.elim
  have ownAbove : ∀ b, Frm c b → s.heap.objs.size ≤ b := fun b hb => by
    rcases hb with rfl | ⟨x, hx⟩
    · exact Nat.le_refl _
    · exact Nat.le_of_lt (X.above x b (mem_of_lookup hx))
  have inAll : ∀ b ∈ dom bx, b ∈ dom (bx ++ ro) := fun b q => by
    show b ∈ (bx ++ ro).map (·.1); rw [List.map_append]; exact List.mem_append_left _ q
  have S₁ : St c ⟨ps.zip args, bx, ro⟩ s₁.heap := by
    refine ⟨⟨hsc, rfl, rfl, hh, ?_, hgr, fun b q => hla b (inAll b q), fun x y b e e' => name_of_addr X.apart (mem_of_lookup e) (mem_of_lookup e'), ownAbove, fun _ => rfl, ?_, hlim, h0size⟩, ⟨_, X.toInCall.ns⟩, fun x b hx => ⟨_, X.cell x b hx⟩, fun x p e => ?_, fun b po hm => ?_, hbn, fun b q => ?_, fun b q => .inl q, hla,
      fun b q => inAll b q, fun b ob e _ => hkeep b ob e, Nat.le_of_lt hL, fun b q => Nat.lt_trans (exLt b q) hL, exAp⟩
    · refine ⟨?_, ?_⟩
      · show A.depth + 1 + d < recursionLimit; have := hroom.1; omega
      · show A.units + 3 + 16 * d + 64 < cLine; have := hroom.2; omega
    · intro x hx
      exact Option.isSome_iff_exists.mp (cellsFrom_some _ _ _ (.inl hx))
    · have hin : (x, p) ∈ ps.zip args := mem_of_lookup e
      have hk := List.all_eq_true.mp hkinds x (List.of_mem_zip hin).1
      obtain ⟨v, rv, h1, h2⟩ := bind_get (k := (mkEnv sc s.heap.objs.size a (fd.qualname ++ ".<locals>.") fd.code).kindOf) (m := fun _ => none) (cm := fun _ => none) hnd rargs e
      have rv' := VR.ext ev₁ nw (fun _ q => .inl q) rv
      rcases Bool.or_eq_true_iff.mp hk with q | q
      · have q' : sc.names.lookup x = some .local := by simpa using q
        exact .inl ⟨q', _, v, X.toInCall.ns, h1 q', rv'⟩
      · have q' : sc.names.lookup x = some .cell := by simpa using q
        obtain ⟨cc, hcc⟩ := Option.isSome_iff_exists.mp (cellsFrom_some sc.names (s.heap.objs.size + 1) [] (.inl q'))
        have := X.cell x cc hcc
        rw [h2 (by show sc.names.lookup x ≠ _; rw [q']; intro z; cases z)] at this
        exact .inr ⟨q', cc, v, hcc, this, rv'⟩
    · exact BoxIs.ext ev₁ nw (fun _ q => .inl q) (hbx b po hm) fun o e => hkeep b o e
    · intro hb; exact absurd (nbx b q) (Nat.not_lt.mpr (ownAbove b hb))
  refine wpAny_mono (h c.A s.heap.objs.size a (fd.qualname ++ ".<locals>.") fd.code s.heap ex s₁ S₁) (fun f s₂ hz5 => ?_) fun _ _ e => e.elim
  obtain ⟨pf, g', ⟨own, bx', e1, e0, e2, hq⟩, rf, x⟩ := hz5
  have hdom : ∀ b ∈ dom (bx' ++ ro), b ∈ g'.dom := fun b q => by
    show b ∈ (g'.bx ++ g'.ro).map (·.1); rw [e1, e0, List.append_assoc, List.map_append]; exact List.mem_append_right _ q
  have eD : dom (bx' ++ ro) = dom (bx ++ ro) := by
    show (bx' ++ ro).map (·.1) = (bx ++ ro).map (·.1)
    rw [List.map_append, List.map_append]
    have : bx'.map (·.1) = bx.map (·.1) := e2
    rw [this]
  have hdomB : ∀ b ∈ dom (bx' ++ ro) ++ ex, b ∈ c.B g' := fun b q => by
    rcases List.mem_append.mp q with q | q
    · exact List.mem_append_left _ (hdom b q)
    · exact List.mem_append_right _ q
  have fin : Ev (dom bx) NoW s.heap s₂.heap := by
    refine ⟨fun b ob e nb _ => x.st.keep b ob e nb, x.st.size⟩
  have hbx₂ : Boxes prog w ex (bx' ++ ro) s₂.heap := fun b po hm => by
    have := x.st.boxes b po (by rw [e1, e0, List.append_assoc]; exact List.mem_append_right _ hm)
    exact BoxIs.ext (Ev.refl (W := NoW)) (fun _ q => q.elim) (fun b q => .inl (hdomB b q)) this fun _ e => e
  rcases hq with ⟨p, rfl, hq⟩ | ⟨rfl, hq⟩
  · obtain ⟨v, rfl, rv⟩ := rf
    exact ⟨v, p, bx', rfl, hq, e2, VR.fewer (fun b q => hdomB b (eD ▸ q)) rv, hbx₂, fin, hrest₁.trans x.rest⟩
  · obtain rfl : f = .next := rf
    exact ⟨.none, .none, bx', rfl, hq, e2, rfl, hbx₂, fin, hrest₁.trans x.rest⟩

/-- .. that leaves all boxes as they are -/
theorem FnSpec.pure_body {prog : Program} {w : World} {h0 : Heap} {nm : Str} {d : Nat} {ps : List Str} {body : List Stmt} {sc : Scope} {args : List PV} {ro : List (Addr × PO)} {Q : PV → List (Addr × PO) → Prop}
    (hfn : FnAt h0 nm ps body sc) (hlim : h0.NoLimit) (hlen : args.length = ps.length)
    (hkinds : (ps.all fun x => sc.names.lookup x == some .local || sc.names.lookup x == some .cell) = true) (hnd : ps.Nodup) (hsc : sc.kind = .function) (hco : sc.isCoroutine = false) (hgen : sc.isGenerator = false)
    (h : ∀ A L a q cd hb ex, WS ⟨prog, w, A, mkEnv sc L a q cd, h0, hb, [], d, ex, true, fun x => sc.names.lookup x⟩ NoExc body ⟨ps.zip args, [], ro⟩ fun pf g' => g'.ro = ro ∧ ((∃ p, pf = .ret p ∧ Q p []) ∨ (pf = .next ∧ Q .none []))) :
    FnSpec prog w h0 nm (d + 1) args [] ro Q :=
  FnSpec.of_body hfn hlim hlen hkinds hnd hsc hco hgen fun A L a q cd hb ex => (h A L a q cd hb ex).mono fun pf g' ⟨e, k⟩ => ⟨g'.bx, [], by simp, e, rfl, k⟩

end Mine

namespace Mine
open PySem PyProof.Rows

/-! ## no heap shrinks -/
theorem runs_size {M : Model} {Γ : Ctx} {p : Pos} {t : Sem Fin} {fs : List Frame} {s s' : Shared} {e : End} (h : Runs M Γ p t fs s e s') : s.heap.objs.size ≤ s'.heap.objs.size := by
  induction h <;> (try simp only [Shared.setGen, Heap.size_push, Heap.size_after_update] at *) <;> omega
theorem returns_size {M : Model} {Γ : Ctx} {p : Pos} {s s' : Shared} {r : Result} (h : Returns M Γ p s r s') : s.heap.objs.size ≤ s'.heap.objs.size := runs_size h
theorem wakes_size {M : Model} {Γ : Ctx} {p : Pos} {g : Nat} {r : Resume} {s s' : Shared} {res : GenResult} (h : Wakes M Γ p g r s res s') : s.heap.objs.size ≤ s'.heap.objs.size := by
  unfold Wakes at h
  split at h
  · exact h.elim
  · split at h
    · obtain ⟨e₁, s₁, hr, _, _, rfl⟩ := h; exact (runs_size hr : (s.setGen g .running).heap.objs.size ≤ s₁.heap.objs.size)
    · rw [h.2]; exact Nat.le_refl _
    · rw [h.2]; exact Nat.le_refl _
  · obtain ⟨e₁, s₁, hr, _, _, rfl⟩ := h; exact (runs_size hr : (s.setGen g .running).heap.objs.size ≤ s₁.heap.objs.size)
  · rw [h.2]; exact Nat.le_refl _
  · rw [h.2]; exact Nat.le_refl _

theorem wp_size {α : Type} (M : Model) (Γ : Ctx) (n : Nat) (t : Sem α) : ∀ (Q : α → Pos → Shared → Prop) (E : Value → Pos → Shared → Prop) (p : Pos) (s : Shared), n ≤ s.heap.objs.size → Sem.wp M Γ t Q E p s →
    Sem.wp M Γ t (fun a p' s' => n ≤ s'.heap.objs.size ∧ Q a p' s') (fun e p' s' => n ≤ s'.heap.objs.size ∧ E e p' s') p s := by
  induction t with
  | pure a => intro Q E p s hn h; exact ⟨hn, h⟩
  | raise e => intro Q E p s hn h; exact ⟨hn, h⟩
  | unsupported _ => intro Q E p s _ h; exact h
  | finish _ => intro Q E p s _ h; exact h
  | rule _ k ih => intro Q E p s hn h; exact ih () Q E p s hn h
  | «at» p' k ih => intro Q E p s hn h; exact ih () Q E p' s hn h
  | load a _ k ih => intro Q E p s hn h; obtain ⟨o, ho, h⟩ := h; exact ⟨o, ho, ih o Q E p s hn h⟩
  | update a _ f k ih => intro Q E p s hn h; exact ⟨h.1, ih () Q E p _ (by simpa using hn) h.2⟩
  | loadIfAlive a k ih => intro Q E p s hn h; exact ih _ Q E p s hn h
  | point _ k ih => intro Q E p s hn h; exact ih () Q E p s hn h
  | register _ _ => intro Q E p s _ h; exact h
  | alloc o k ih => intro Q E p s hn h; exact ih _ Q E p _ (by simp; omega) h
  | fresh k ih => intro Q E p s hn h; exact ih _ Q E p _ hn h
  | ask k ih => intro Q E p s hn h; exact ih _ Q E p s hn h
  | choose src m k ih => intro Q E p s hn h; exact ⟨h.1, ih _ Q E p _ hn h.2⟩
  | os q _ k ih => intro Q E p s hn h; exact ih _ Q E p _ hn h
  | call c hd _ _ k ih => intro Q E p s hn h; obtain ⟨r, s', hr, h⟩ := h; exact ⟨r, s', hr, ih r Q E p s' (Nat.le_trans hn (returns_size hr)) h⟩
  | handled own k ih => intro Q E p s hn h; exact ih _ Q E p s hn h
  | genState g k ih => intro Q E p s hn h; obtain ⟨st, hs, h⟩ := h; exact ⟨st, hs, ih _ Q E p s hn h⟩
  | newGen c k ih => intro Q E p s hn h; exact ih _ Q E p _ hn h
  | resume g r _ k ih => intro Q E p s hn h; obtain ⟨res, s', hw, h⟩ := h; exact ⟨res, s', hw, ih res Q E p s' (Nat.le_trans hn (wakes_size hw)) h⟩
  | yield _ _ _ _ => intro Q E p s _ h; exact h
  | stack k ih => intro Q E p s hn h; exact ih _ Q E p s hn h
  | fork _ _ => intro Q E p s _ h; exact h
  | thread k ih => intro Q E p s hn h; exact ih _ Q E p s hn h
  | await _ _ _ _ _ => intro Q E p s _ h; exact h

theorem grows {α : Type} {M : Model} {A : Around} {s : Shared} {t : Sem α} {Q : α → Shared → Prop} {E : Value → Shared → Prop}
    (h : wpAny M A t (fun a s' => s.heap.objs.size ≤ s'.heap.objs.size → Q a s') (fun e s' => s.heap.objs.size ≤ s'.heap.objs.size → E e s') s) : wpAny M A t Q E s := by
  have h' : wpAny M A t (fun a s' => s.heap.objs.size ≤ s'.heap.objs.size ∧ (s.heap.objs.size ≤ s'.heap.objs.size → Q a s')) (fun e s' => s.heap.objs.size ≤ s'.heap.objs.size ∧ (s.heap.objs.size ≤ s'.heap.objs.size → E e s')) s :=
    fun Γ p hΓ => wp_size M Γ s.heap.objs.size t _ _ p s (Nat.le_refl _) (h Γ p hΓ)
  exact wpAny_mono h' (fun _ _ x => x.2 x.1) (fun _ _ x => x.2 x.1)

/-! ## what is walked through -/
structure PIter (prog : Program) (w : World) (A : Around) (target : Expr) (I : Addr) (fp wr : List Addr) (items : List PV) (src : List (PV × Value)) (T : Nat → Heap → Prop) : Prop where
  sub : ∀ b ∈ wr, b ∈ fp
  frame : ∀ i h h', T i h → (∀ b ∈ fp, ∀ o, h.get? b = some o → h'.get? b = some o) → T i h'
  item : ∀ i p (s : Shared) (K : Value → Shared → Prop) (E : Exc), items[i]? = some p → T i s.heap →
    (∀ v h' tk, (∀ B, (∀ a ∈ B, a < s.heap.objs.size) → (∀ e ∈ src, VR B h' e.1 e.2) → VR B h' p v) → T (i + 1) h' → (∀ b o, b ∉ wr → s.heap.get? b = some o → h'.get? b = some o) → K v { s with heap := h', toks := tk }) →
    wpAny (model prog w) A (pyNext (.ref I)) (fun r s₁ => ∃ v, r = some v ∧ wpAny (model prog w) A (letOwnedTupleGo target (.ref I) v) (fun _ s₂ => K v s₂) E s₁) E s
  done : ∀ (s : Shared) (K : Shared → Prop) (E : Exc), T items.length s.heap → (∀ h' tk, (∀ b o, b ∉ wr → s.heap.get? b = some o → h'.get? b = some o) → K { s with heap := h', toks := tk }) →
    wpAny (model prog w) A (pyNext (.ref I)) (fun r s₁ => r = none ∧ K s₁) E s
  self : ∀ i (s : Shared) (Q : Value → Shared → Prop) (E : Exc), T i s.heap → Q (.ref I) s → wpAny (model prog w) A (pyIter (.ref I)) Q E s

def Cx.withEx (c : Cx) (ex : List Addr) : Cx := ⟨c.prog, c.w, c.A, c.env, c.h0, c.hb, c.lent, c.d, ex, c.fn, c.kind⟩

/-- what stands when a walk begins -/
structure Walking (c : Cx) (target : Expr) (items : List PV) (g : Gh) (h : Heap) (it : Value) (h' : Heap) : Prop where
  ex : ∃ I fp wr src T, it = .ref I ∧ PIter c.prog c.w c.A target I fp wr items src T ∧ T 0 h' ∧ St (c.withEx (wr ++ c.ex)) g h' ∧ (∀ e ∈ src, VR ((c.withEx (wr ++ c.ex)).B g) h' e.1 e.2) ∧
    (∀ b ∈ fp, b < h'.objs.size ∧ ¬ Frm c b ∧ b ∉ g.wr) ∧ (∀ b ∈ wr, h.objs.size ≤ b ∧ c.hb.objs.size ≤ b)

def WIter (c : Cx) (E : Exc) (e target : Expr) (g : Gh) (Q : List PV → Gh → Prop) : Prop := ∀ s, St c g s.heap →
  wpAny c.M c.A (eval e c.env) (fun x s₁ => wpAny c.M c.A (pyIter x) (fun it s₂ => ∃ items g', Q items g' ∧ Step c NoW g s g' s₂ ∧ Walking c target items g' s.heap it s₂.heap) E s₁) E s

theorem St.withEx {c : Cx} {g : Gh} {h h' : Heap} {wr : List Addr} (S : St c g h) (hk : ∀ b o, h.get? b = some o → h'.get? b = some o) (hs : h.objs.size ≤ h'.objs.size)
    (hw : ∀ b ∈ wr, h.objs.size ≤ b ∧ b < h'.objs.size) : St (c.withEx (wr ++ c.ex)) g h' := by
  have S' := S.keeps hk hs
  have x : Ev (c.B g) NoW h h' := Ev.of_keeps hk hs
  have nw : ∀ a, NoW a → NotSeq h a := fun _ q => q.elim
  have nb : ∀ a ∈ (c.withEx (wr ++ c.ex)).B g, a ∈ c.B g ∨ h.objs.size ≤ a := fun a q => by
    rcases List.mem_append.mp q with q | q
    · exact .inl (List.mem_append_left _ q)
    · rcases List.mem_append.mp q with q | q
      · exact .inr (hw a q).1
      · exact .inl (List.mem_append_right _ q)
  have ok := S.ok
  refine ⟨⟨ok.kind, ok.glb, ok.blt, ok.handled, ok.room, ok.ground, ok.lentAbove, ok.apart, ok.above, ok.kindOk, ok.cellOk, ok.nolimit, ok.h0size⟩, S'.ns, S'.cells, fun y p e => ?_, fun a o ha => ?_, S'.nodup, S'.own, S'.lent, S'.boxAbove, S'.lentIn, S'.keep, S'.size, fun a q => ?_, fun a q q' => ?_⟩
  · rcases S.vars y p e with ⟨k, m, v, hn, hm, r⟩ | ⟨k, cc, v, hc, hm, r⟩
    · exact .inl ⟨k, m, v, hn.keeps hk, hm, VR.ext x nw nb r⟩
    · exact .inr ⟨k, cc, v, hc, hm.keeps hk, VR.ext x nw nb r⟩
  · exact BoxIs.ext x nw nb (S.boxes a o ha) fun o e => hk a o e
  · rcases List.mem_append.mp q with q | q
    · exact (hw a q).2
    · exact S'.exLt a q
  · rcases List.mem_append.mp q' with q' | q'
    · exact absurd (S.ltB a (Cx.dom_B q)) (Nat.not_lt.mpr (hw a q').1)
    · exact S.exApart a q q'

/-- and back -/
theorem St.outEx {c : Cx} {g : Gh} {h : Heap} {wr : List Addr} (S : St (c.withEx (wr ++ c.ex)) g h) : St c g h := by
  have nb : ∀ a ∈ c.B g, a ∈ (c.withEx (wr ++ c.ex)).B g := fun a q => by
    rcases List.mem_append.mp q with q | q
    · exact List.mem_append_left _ q
    · exact List.mem_append_right _ (List.mem_append_right _ q)
  have ok := S.ok
  refine ⟨⟨ok.kind, ok.glb, ok.blt, ok.handled, ok.room, ok.ground, ok.lentAbove, ok.apart, ok.above, ok.kindOk, ok.cellOk, ok.nolimit, ok.h0size⟩, S.ns, S.cells, fun y p e => ?_, fun a o ha => ?_, S.nodup, S.own, S.lent, S.boxAbove, S.lentIn, S.keep, S.size, fun a q => S.exLt a (List.mem_append_right _ q), fun a q q' => S.exApart a q (List.mem_append_right _ q')⟩
  · rcases S.vars y p e with ⟨k, m, v, hn, hm, r⟩ | ⟨k, cc, v, hc, hm, r⟩
    · exact .inl ⟨k, m, v, hn, hm, VR.fewer nb r⟩
    · exact .inr ⟨k, cc, v, hc, hm, VR.fewer nb r⟩
  · exact BoxIs.ext (Ev.refl (W := NoW)) (fun _ q => q.elim) (fun b q => .inl (nb b q)) (S.boxes a o ha) fun _ e => e

/-- one step of the walk: only its own places turn -/
theorem St.walked {c : Cx} {g : Gh} {h h' : Heap} {wr ex : List Addr} (S : St (c.withEx (wr ++ ex)) g h) (hk : ∀ b o, b ∉ wr → h.get? b = some o → h'.get? b = some o) (hs : h.objs.size ≤ h'.objs.size)
    (ho : ∀ b ∈ wr, ¬ Frm c b ∧ c.hb.objs.size ≤ b) : St (c.withEx (wr ++ ex)) g h' ∧ (∀ p v, VR ((c.withEx (wr ++ ex)).B g) h p v → VR ((c.withEx (wr ++ ex)).B g) h' p v) := by
  have inB : ∀ b ∈ wr, b ∈ (c.withEx (wr ++ ex)).B g := fun b q => List.mem_append_right _ (List.mem_append_left _ q)
  have x : Ev ((c.withEx (wr ++ ex)).B g) NoW h h' := ⟨fun a o e nb _ => hk a o (fun q => nb (inB a q)) e, hs⟩
  have nw : ∀ a, NoW a → NotSeq h a := fun _ q => q.elim
  have nb : ∀ a ∈ (c.withEx (wr ++ ex)).B g, a ∈ (c.withEx (wr ++ ex)).B g ∨ h.objs.size ≤ a := fun a q => .inl q
  have nl : c.env.locals ∉ wr := fun q => (ho _ q).1 (.inl rfl)
  have nc : ∀ y a, c.env.cells.lookup y = some a → a ∉ wr := fun y a ha q => (ho _ q).1 (.inr ⟨y, ha⟩)
  refine ⟨⟨S.ok, ?_, fun y a ha => ?_, fun y p e => ?_, fun a o ha => ?_, S.nodup, S.own, S.lent, S.boxAbove, S.lentIn, fun b o e nlt => ?_, Nat.le_trans S.size hs, fun a q => Nat.lt_of_lt_of_le (S.exLt a q) hs, S.exApart⟩, fun p v r => VR.ext x nw nb r⟩
  · obtain ⟨m, hm⟩ := S.ns; exact ⟨m, hm.at' fun o e => hk _ o nl e⟩
  · obtain ⟨v, o, ho, hv⟩ := S.cells y a ha; exact ⟨v, o, hk a o (nc y a ha) ho, hv⟩
  · rcases S.vars y p e with ⟨k, m, v, hn, hm, r⟩ | ⟨k, cc, v, hc, ⟨o, ho, hv⟩, r⟩
    · exact .inl ⟨k, m, v, hn.at' fun o e => hk _ o nl e, hm, VR.ext x nw nb r⟩
    · exact .inr ⟨k, cc, v, hc, ⟨o, hk cc o (nc y cc hc) ho, hv⟩, VR.ext x nw nb r⟩
  · exact BoxIs.ext x nw nb (S.boxes a o ha) fun o' e => hk a o' (fun q => S.exApart a (List.mem_map_of_mem ha) (List.mem_append_left _ q)) e
  · exact hk b o (fun q => absurd (Heap.lt_size e) (Nat.not_lt.mpr (ho b q).2)) (S.keep b o e nlt)

end Mine

namespace Mine
open PySem PyProof.Rows

/-! ## a target is bound -/
def WAsg (c : Cx) (E : Exc) (t : Expr) (p : PV) (g : Gh) (Q : Gh → Prop) : Prop :=
  ∀ s v, St c g s.heap → VR (c.B g) s.heap p v → wpAny c.M c.A (assign t c.env v) (fun _ s' => ∃ g', Q g' ∧ Step c (Own c) g s g' s') E s
def WAsgs (c : Cx) (E : Exc) (ts : List Expr) (ps : List PV) (g : Gh) (Q : Gh → Prop) : Prop :=
  ∀ s vs, St c g s.heap → VRs (c.B g) s.heap ps vs → wpAny c.M c.A (assignInOrder ((assignEach ts c.env).map (·.2)) vs) (fun _ s' => ∃ g', Q g' ∧ Step c (Own c) g s g' s') E s

section
variable {c : Cx} {E : Exc} {g : Gh}

theorem WAsg_Name {x : Str} {pos : Pos} {p : PV} {Q : Gh → Prop} (h : Q (g.set x p)) (hk : Kept c x) : WAsg c E (.Name x pos) p g Q := fun s v S r =>
  wpAny_assign_Name (store S r hk fun s' x => ⟨_, h, x⟩)
theorem WAsgs_nil {Q : Gh → Prop} (h : Q g) : WAsgs c E [] [] g Q := fun s vs S r => by
  cases r; exact wpAny_pure ⟨g, h, Step.refl S⟩
theorem WAsgs_cons {t : Expr} {ts : List Expr} {p : PV} {ps : List PV} {Q : Gh → Prop} (h : WAsg c E t p g fun g₁ => WAsgs c E ts ps g₁ Q)
    (he : assignEach (t :: ts) c.env = (false, assign t c.env) :: assignEach ts c.env := by rfl) : WAsgs c E (t :: ts) (p :: ps) g Q := fun s vs S hz1 => by
  obtain ⟨v, ws, e, r, rs⟩ := hz1
  subst e
  rw [he]
  show wpAny c.M c.A (do holding ws (assign t c.env v); assignInOrder ((assignEach ts c.env).map (·.2)) ws) _ E s
  refine wpAny_bind (wpAny_holding (wpAny_mono (h s v S r) (fun _ s₁ hz2 => ?_) fun _ _ e => e))
  obtain ⟨g₁, h₁, x₁⟩ := hz2
  exact wpAny_mono (h₁ s₁ ws x₁.st (x₁.vrsO S rs)) (fun _ s₂ hz3 => by obtain ⟨g₂, h₂, x₂⟩ := hz3; exact ⟨g₂, h₂, x₁.trans x₂⟩) fun _ _ e => e

theorem TupAt.isTuple {h a vs} (x : TupAt h a vs) : h.IsTuple a vs.toArray := let ⟨n, e⟩ := x; ⟨_, e, rfl, n, rfl⟩

theorem WAsg_Tuple {elts : List Expr} {k : Nat} {pos : Pos} {ps : List PV} {Q : Gh → Prop} (h : WAsgs c E elts ps g Q) (hl : (assignEach elts c.env).length = ps.length := by rfl)
    (hstar : (assignEach elts c.env).findIdx? (·.1) = none := by rfl) : WAsg c E (.Tuple elts k pos) (.tup ps) g Q := fun s v S hz4 => by
  obtain ⟨a, vs, e, ht, nb, hsz, rs⟩ := hz4
  subst e
  rw [arm_assign_Tuple]
  refine wpAny_bind (wpAny_standAt ?_)
  unfold unpack
  have hlen : (assignEach elts c.env).length = vs.toArray.size := by rw [hl, List.size_toArray, rs.length]
  rw [hlen, hstar]
  refine wpAny_bind (wpAny_holding (grows (wpAny_unpackItems_tuple S.ok.handled ht.isTuple fun h' hx hs => ?_)))
  have x : Step c (Own c) g s g { s with heap := h' } := Step.keeps S (fun b o e => hx b o (Nat.ne_of_lt (Heap.lt_size e)) e) hs
  exact wpAny_mono (h { s with heap := h' } vs x.st (x.vrsO S rs)) (fun _ s₂ hz5 => by obtain ⟨g₂, h₂, x₂⟩ := hz5; exact ⟨g₂, h₂, x.trans x₂⟩) fun _ _ e => e

/-! ## for -/
/-- what comes of a loop's turn -/
def Turn (Q : PF → Gh → Prop) (I : Gh → Prop) : PF → Gh → Prop
  | .next, g => I g
  | .cont, g => I g
  | .brk, g => Q .next g
  | .ret p, g => Q (.ret p) g

theorem WX_For {target iter : Expr} {body : List Stmt} {pos : Pos} {Q : PF → Gh → Prop} (Inv : List PV → Gh → Prop)
    (h : WIter c E iter target g Inv)
    (turn : ∀ ex x rest g, Inv (x :: rest) g → WAsg (c.withEx ex) NoExc target x g fun g₁ => WS (c.withEx ex) NoExc body g₁ (Turn Q (Inv rest)))
    (fin : ∀ g, Inv [] g → Q .next g)
    (hs : ∀ x, foldedSetIterable iter c.env x = pure x := by intro _; rfl) :
    WX c E (.For target iter body [] pos) g Q := fun s S => by
  refine wpAny_For (wpAny_mono (h s S) (fun x s₁ h₁ => wpAny_mono h₁ (fun it s₂ hz6 => ?_) fun _ _ e => e) fun _ _ e => e) hs
  obtain ⟨items, g₁, hI, x₁, ⟨W⟩⟩ := hz6
  obtain ⟨I, fp, wr, src, T, rfl, P, hT, S₂, hsrc, hfp, hwr⟩ := W
  have ho : ∀ b ∈ wr, ¬ Frm c b ∧ c.hb.objs.size ≤ b := fun b q => ⟨(hfp b (P.sub b q)).2.1, (hwr b q).2⟩
  refine codeAny_forLoop_any (fun n s' => ∃ i g', i ≤ items.length ∧ n = items.length + 1 - i ∧ T i s'.heap ∧ St (c.withEx (wr ++ c.ex)) g' s'.heap ∧ (∀ e ∈ src, VR ((c.withEx (wr ++ c.ex)).B g') s'.heap e.1 e.2) ∧ Inv (items.drop i) g' ∧
      Ev (g₁.wr ++ wr) (Own c) s₂.heap s'.heap ∧ (∀ a ∈ g'.dom, a ∈ g₁.dom ∨ s₂.heap.objs.size ≤ a) ∧ (∀ a ∈ g'.wr, a ∈ g₁.wr ∨ s₂.heap.objs.size ≤ a) ∧ Rest s s') ?_ (items.length + 1)
    ⟨0, g₁, Nat.zero_le _, rfl, hT, S₂, hsrc, hI, Ev.refl, fun _ q => .inl q, fun _ q => .inl q, x₁.rest⟩
  rintro n s₃ ⟨i, g', hi, rfl, hT', S', hsrc', hI', ev', hd', hw', hr'⟩
  have back : ∀ {g'' : Gh} {s'' : Shared}, St (c.withEx (wr ++ c.ex)) g'' s''.heap → Ev (g₁.wr ++ wr) (Own c) s₂.heap s''.heap → (∀ a ∈ g''.dom, a ∈ g₁.dom ∨ s₂.heap.objs.size ≤ a) → (∀ a ∈ g''.wr, a ∈ g₁.wr ∨ s₂.heap.objs.size ≤ a) → Rest s s'' → Step c (Own c) g s g'' s'' := by
    intro g'' s'' S'' ev'' hd'' hw'' hr''
    refine ⟨S''.outEx, ⟨fun a o e nb nw => ?_, Nat.le_trans x₁.ev.size ev''.size⟩, fun a q => ?_, fun a q => ?_, hr''⟩
    · refine ev''.ext a o (x₁.ev.ext a o e nb id) (fun q => ?_) nw
      rcases List.mem_append.mp q with q | q
      · rcases x₁.wr a q with q | q
        · exact nb q
        · exact absurd (Heap.lt_size e) (Nat.not_lt.mpr q)
      · exact absurd (Heap.lt_size e) (Nat.not_lt.mpr (hwr a q).1)
    · rcases hd'' a q with q | q
      · exact x₁.dom a q
      · exact .inr (Nat.le_trans x₁.ev.size q)
    · rcases hw'' a q with q | q
      · exact x₁.wr a q
      · exact .inr (Nat.le_trans x₁.ev.size q)
  rcases Nat.lt_or_ge i items.length with hlt | hge
  · have hp : items[i]? = some items[i] := List.getElem?_eq_getElem hlt
    have hdrop : items.drop i = items[i] :: items.drop (i + 1) := List.drop_eq_getElem_cons hlt
    rw [hdrop] at hI'
    refine grows (wpAny_mono (P.item i items[i] s₃ (fun v s₄ => s₃.heap.objs.size ≤ s₄.heap.objs.size → wpAny c.M c.A (assign target c.env v) (fun _ s₅ => wpAny c.M c.A (execs body c.env) (fun f s₆ => match f with
            | .next | .cont => ∃ m, m < items.length + 1 - i ∧ ∃ i' g'', i' ≤ items.length ∧ m = items.length + 1 - i' ∧ T i' s₆.heap ∧ St (c.withEx (wr ++ c.ex)) g'' s₆.heap ∧ (∀ e ∈ src, VR ((c.withEx (wr ++ c.ex)).B g'') s₆.heap e.1 e.2) ∧ Inv (items.drop i') g'' ∧
                Ev (g₁.wr ++ wr) (Own c) s₂.heap s₆.heap ∧ (∀ a ∈ g''.dom, a ∈ g₁.dom ∨ s₂.heap.objs.size ≤ a) ∧ (∀ a ∈ g''.wr, a ∈ g₁.wr ∨ s₂.heap.objs.size ≤ a) ∧ Rest s s₆
            | .brk => ∃ pf g', Q pf g' ∧ FlowR (c.B g') s₆.heap pf .next ∧ Step c (Own c) g s g' s₆
            | .ret v => ∃ pf g', Q pf g' ∧ FlowR (c.B g') s₆.heap pf (.ret v) ∧ Step c (Own c) g s g' s₆) NoExc s₅) NoExc s₄) NoExc hp hT' (fun v h' tk hv hT'' hk hgs => ?_)) (fun r s₄ ⟨v, e, hr⟩ hsz => ?_) fun _ _ e => e.elim)
    · obtain ⟨S₄, up⟩ := St.walked S' hk hgs ho
      have hsrc₄ : ∀ e ∈ src, VR ((c.withEx (wr ++ c.ex)).B g') h' e.1 e.2 := fun e he => up _ _ (hsrc' e he)
      have rv := hv _ S'.ltB hsrc₄
      refine wpAny_mono (turn (wr ++ c.ex) _ _ g' hI' { s₃ with heap := h', toks := tk } v S₄ rv) (fun _ s₅ hz8 => ?_) fun _ _ e => e
      obtain ⟨g₅, h₅, x₅⟩ := hz8
      refine wpAny_mono (h₅ s₅ x₅.st) (fun f s₆ hz9 => ?_) fun _ _ e => e
      obtain ⟨pf, g₆, h₆, r₆, x₆⟩ := hz9
      have y := x₅.trans x₆
      have hT₆ : T (i + 1) s₆.heap := P.frame _ _ _ hT'' fun b hb o e => by
        refine y.ev.ext b o e (fun q => ?_) (fun q => (hfp b hb).2.1 (Own.frm (c := c) q))
        rcases hw' b q with q | q
        · exact (hfp b hb).2.2 q
        · exact absurd (hfp b hb).1 (Nat.not_lt.mpr q)
      have ev₆ : Ev (g₁.wr ++ wr) (Own c) s₂.heap s₆.heap := by
        refine ⟨fun a o e nb nw => ?_, Nat.le_trans ev'.size (Nat.le_trans hgs y.ev.size)⟩
        have e₃ := ev'.ext a o e nb nw
        have e₄ := hk a o (fun q => nb (List.mem_append_right _ q)) e₃
        refine y.ev.ext a o e₄ (fun q => ?_) nw
        rcases hw' a q with q | q
        · exact nb (List.mem_append_left _ q)
        · exact absurd (Heap.lt_size e) (Nat.not_lt.mpr q)
      have hd₆ : ∀ a ∈ g₆.dom, a ∈ g₁.dom ∨ s₂.heap.objs.size ≤ a := fun a q => by
        rcases y.dom a q with q | q
        · exact hd' a q
        · exact .inr (Nat.le_trans (Nat.le_trans ev'.size hgs) q)
      have hw₆ : ∀ a ∈ g₆.wr, a ∈ g₁.wr ∨ s₂.heap.objs.size ≤ a := fun a q => by
        rcases y.wr a q with q | q
        · exact hw' a q
        · exact .inr (Nat.le_trans (Nat.le_trans ev'.size hgs) q)
      have hr₆ : Rest s s₆ := Rest.trans (s' := { s₃ with heap := h', toks := tk }) hr' y.rest
      have hsrc₆ : ∀ e ∈ src, VR ((c.withEx (wr ++ c.ex)).B g₆) s₆.heap e.1 e.2 := fun e he => y.vrO S₄ (hsrc₄ e he)
      have more : Inv (items.drop (i + 1)) g₆ → ∃ m, m < items.length + 1 - i ∧ ∃ i' g'', i' ≤ items.length ∧ m = items.length + 1 - i' ∧ T i' s₆.heap ∧ St (c.withEx (wr ++ c.ex)) g'' s₆.heap ∧ (∀ e ∈ src, VR ((c.withEx (wr ++ c.ex)).B g'') s₆.heap e.1 e.2) ∧ Inv (items.drop i') g'' ∧
                Ev (g₁.wr ++ wr) (Own c) s₂.heap s₆.heap ∧ (∀ a ∈ g''.dom, a ∈ g₁.dom ∨ s₂.heap.objs.size ≤ a) ∧ (∀ a ∈ g''.wr, a ∈ g₁.wr ∨ s₂.heap.objs.size ≤ a) ∧ Rest s s₆ := fun hI₆ =>
        ⟨items.length + 1 - (i + 1), by omega, i + 1, g₆, hlt, rfl, hT₆, y.st, hsrc₆, hI₆, ev₆, hd₆, hw₆, hr₆⟩
      cases pf with
      | next => obtain rfl : f = .next := r₆; exact more h₆
      | cont => obtain rfl : f = .cont := r₆; exact more h₆
      | brk => obtain rfl : f = .brk := r₆; exact ⟨.next, g₆, h₆, rfl, back y.st ev₆ hd₆ hw₆ hr₆⟩
      | ret p =>
        obtain ⟨u, rfl, ru⟩ := r₆
        refine ⟨.ret p, g₆, h₆, ⟨u, rfl, VR.fewer (fun a q => ?_) ru⟩, back y.st ev₆ hd₆ hw₆ hr₆⟩
        rcases List.mem_append.mp q with q | q
        · exact List.mem_append_left _ q
        · exact List.mem_append_right _ (List.mem_append_right _ q)
    · subst e
      refine grows (wpAny_mono hr (fun _ s₅ h₅ hs₅ => ?_) fun _ _ e => e.elim)
      refine wpAny_mono (h₅ (Nat.le_trans hsz hs₅)) (fun _ s₆ h₆ => wpAny_mono h₆ (fun f s₇ h₇ => ?_) fun _ _ e => e.elim) fun _ _ e => e.elim
      cases f <;> exact h₇
  · obtain rfl : i = items.length := Nat.le_antisymm hi hge
    refine grows (wpAny_mono (P.done s₃ (fun s₄ => s₃.heap.objs.size ≤ s₄.heap.objs.size → ∃ pf g', Q pf g' ∧ FlowR (c.B g') s₄.heap pf .next ∧ Step c (Own c) g s g' s₄) NoExc hT' fun h' tk hk hgs => ?_) (fun r s₄ ⟨e, hr⟩ hsz => ?_) fun _ _ e => e.elim)
    · obtain ⟨S₄, up⟩ := St.walked S' hk hgs ho
      rw [List.drop_length] at hI'
      have ev₄ : Ev (g₁.wr ++ wr) (Own c) s₂.heap h' := ⟨fun a o e nb nw => hk a o (fun q => nb (List.mem_append_right _ q)) (ev'.ext a o e nb nw), Nat.le_trans ev'.size hgs⟩
      exact ⟨.next, g', fin g' hI', rfl, back S₄ ev₄ hd' hw' hr'⟩
    · subst e
      exact wpAny_execs_nil (hr hsz)

end

end Mine

namespace Mine
open PySem PyProof.Rows

theorem letGo_other {M : Model} {A : Around} {E : Exc} {s : Shared} {target : Expr} {I : Addr} {v : Value} {o : Obj} {cls : String} {Q : Unit → Shared → Prop} (ho : s.heap.get? I = some o) (hc : o.cls = .type cls)
    (hn : ["enumerate", "zip", "dict_itemiterator", "dict_reverseitemiterator", "odict_iterator", "itertools.zip_longest", "itertools.pairwise"].contains cls = false) (hQ : Q () s) :
    wpAny M A (letOwnedTupleGo target (.ref I) v) Q E s := by
  have key : wpAny M A (letOwnedTupleGo (.Tuple [] 0 default) (.ref I) v) Q E s := by
    unfold letOwnedTupleGo
    cases v with
    | ref a =>
      refine wpAny_bind (wpAny_load ho ?_)
      obtain ⟨cl, d, dt, sl⟩ := o
      subst hc
      cases dt with
      | fields vs =>
        show wpAny M A (if (["enumerate", "zip", "dict_itemiterator", "dict_reverseitemiterator", "odict_iterator", "itertools.zip_longest", "itertools.pairwise"].contains cls && vs[0]? == some (rawInt a)) = true then _ else _) Q E s
        rw [hn, Bool.false_and, if_neg (by simp)]
        exact wpAny_pure hQ
      | _ => exact wpAny_pure hQ
    | _ => exact wpAny_pure hQ
  cases target <;> first | exact key | exact wpAny_pure hQ

def NoTuples (I : Addr) (h : Heap) : Prop := ∃ o cls, h.get? I = some o ∧ o.cls = .type cls ∧
  ["enumerate", "zip", "dict_itemiterator", "dict_reverseitemiterator", "odict_iterator", "itertools.zip_longest", "itertools.pairwise"].contains cls = false

theorem pIter_of_walks {prog : Program} {w : World} {A : Around} {I : Addr} {fp wr : List Addr} {n : Nat} {P : Nat → Value → Prop} {T : Nat → Heap → Prop} (W : Walks prog w A I fp wr n P T) (target : Expr) {items : List PV} {src : List (PV × Value)}
    (hcls : ∀ i h, T i h → NoTuples I h) (hn : items.length = n) (hP : ∀ i v p, P i v → items[i]? = some p → ∀ B h, (∀ e ∈ src, VR B h e.1 e.2) → VR B h p v) : PIter prog w A target I fp wr items src T where
  sub := W.sub
  frame := W.frame
  item := fun i p s K E hp hT hK => by
    have hlt : i < n := by rw [← hn]; exact (List.getElem?_eq_some_iff.mp hp).1
    refine W.item i s _ E hlt hT fun v h' tk hPv hT' hk => ⟨v, rfl, ?_⟩
    obtain ⟨o, cls, ho, hc, hx⟩ := hcls _ _ hT'
    exact letGo_other (s := { s with heap := h', toks := tk }) ho hc hx (hK v h' tk (fun B _ hsrc => hP i v p hPv hp B h' hsrc) hT' hk)
  done := fun s K E hT hK => W.done s _ E (hn ▸ hT) fun h' tk hk => ⟨rfl, hK h' tk hk⟩
  self := W.self

section
variable {c : Cx} {E : Exc} {g : Gh}

theorem St.ownLt {h} (S : St c g h) : ∀ b, Frm c b → b < h.objs.size := fun b hb => by
  rcases hb with rfl | ⟨x, hx⟩
  · obtain ⟨m, hm⟩ := S.ns; exact hm.lt
  · obtain ⟨v, hv⟩ := S.cells x b hx; exact hv.lt

/-- a value that can be walked through -/
def Src (c : Cx) (E : Exc) (g : Gh) (target : Expr) (p : PV) (K : List PV → Prop) : Prop :=
  ∀ s v, St c g s.heap → VR (c.B g) s.heap p v → wpAny c.M c.A (pyIter v) (fun it s' => ∃ items, K items ∧ Step c NoW g s g s' ∧ Walking c target items g s.heap it s'.heap) E s

theorem WIter_val {e target : Expr} {Q : List PV → Gh → Prop} (h : WE c E e g fun p g₁ => Src c E g₁ target p fun items => Q items g₁) : WIter c E e target g Q := fun s S => by
  refine wpAny_mono (h s S) (fun v s₁ hz1 => ?_) fun _ _ e => e
  obtain ⟨p, g₁, h₁, r₁, x₁⟩ := hz1
  refine wpAny_mono (h₁ s₁ v x₁.st r₁) (fun it s₂ hz2 => ?_) fun _ _ e => e
  obtain ⟨items, hK, x₂, ⟨I, fp, wr, src, T, e1, e2, e3, e4, e5, e6, e7⟩⟩ := hz2
  exact ⟨items, g₁, hK, x₁.trans x₂, ⟨I, fp, wr, src, T, e1, e2, e3, e4, e5, e6, fun b q => ⟨Nat.le_trans x₁.ev.size (e7 b q).1, (e7 b q).2⟩⟩⟩

theorem mem_zip_vr {B h} : ∀ {ps vs}, VRs B h ps vs → ∀ e ∈ ps.zip vs, VR B h e.1 e.2
  | [], _, r, e, he => by cases r; simp at he
  | p :: ps, _, ⟨v, ws, rfl, a, r⟩, e, he => by
    rw [List.zip_cons_cons] at he
    rcases List.mem_cons.mp he with rfl | he
    · exact a
    · exact mem_zip_vr r e he
theorem zip_get {α β : Type} : ∀ {ps : List α} {vs : List β} {i : Nat} {p : α} {v : β}, ps[i]? = some p → vs[i]? = some v → (p, v) ∈ ps.zip vs
  | [], _, _, _, _, h, _ => by simp at h
  | _ :: _, [], _, _, _, _, h => by simp at h
  | a :: ps, b :: vs, 0, p, v, h, k => by simp at h k; subst h; subst k; simp
  | a :: ps, b :: vs, i + 1, p, v, h, k => by
    rw [List.zip_cons_cons]
    exact .tail _ (zip_get (by simpa using h) (by simpa using k))

/-- one new object, the walker; what it walks through stands -/
theorem Walking.oneH {target : Expr} {items : List PV} {h : Heap} {o : Obj} {src : List (PV × Value)} {T : Nat → Heap → Prop} {fp : List Addr} (S : St c g h)
    (P : PIter c.prog c.w c.A target h.objs.size fp [h.objs.size] items src T) (hT : T 0 (h.push o)) (hsrc : ∀ e ∈ src, VR (c.B g) h e.1 e.2)
    (hfp : ∀ b ∈ fp, b = h.objs.size ∨ (b < h.objs.size ∧ ¬ Frm c b ∧ b ∉ g.wr)) :
    HStep c NoW g h g (h.push o) ∧ Walking c target items g h (.ref h.objs.size) (h.push o) := by
  have hk : ∀ b ob, h.get? b = some ob → (h.push o).get? b = some ob := fun b ob e => Heap.get?_push_of_some _ e
  have hs : h.objs.size ≤ (h.push o).objs.size := by simp
  have hw : ∀ b ∈ [h.objs.size], h.objs.size ≤ b ∧ b < (h.push o).objs.size := fun b q => by
    rw [List.mem_singleton.mp q]; exact ⟨Nat.le_refl _, by simp⟩
  refine ⟨HStep.keeps S hk hs, ⟨h.objs.size, fp, [h.objs.size], src, T, rfl, P, hT, S.withEx hk hs hw, fun e q => ?_, fun b q => ?_, fun b q => ?_⟩⟩
  · refine VR.ext (Ev.of_keeps (B := c.B g) (W := NoW) hk hs) (fun _ q => q.elim) (fun a q => ?_) (hsrc e q)
    rcases List.mem_append.mp q with q | q
    · exact .inl (List.mem_append_left _ q)
    · rcases List.mem_append.mp q with q | q
      · exact .inr (hw a q).1
      · exact .inl (List.mem_append_right _ q)
  · rcases hfp b q with rfl | ⟨q1, q2, q3⟩
    · exact ⟨by simp, fun q => absurd (S.ownLt _ q) (Nat.lt_irrefl _), fun q => absurd (S.ltB _ (Cx.wr_B q)) (Nat.lt_irrefl _)⟩
    · exact ⟨Nat.lt_of_lt_of_le q1 hs, q2, q3⟩
  · rw [List.mem_singleton.mp q]; exact ⟨Nat.le_refl _, S.size⟩

theorem Walking.one {target : Expr} {items : List PV} {s s' : Shared} {o : Obj} {src : List (PV × Value)} {T : Nat → Heap → Prop} {fp : List Addr} (S : St c g s.heap) (he : s'.heap = s.heap.push o)
    (P : PIter c.prog c.w c.A target s.heap.objs.size fp [s.heap.objs.size] items src T) (hT : T 0 s'.heap) (hsrc : ∀ e ∈ src, VR (c.B g) s.heap e.1 e.2)
    (hfp : ∀ b ∈ fp, b = s.heap.objs.size ∨ (b < s.heap.objs.size ∧ ¬ Frm c b ∧ b ∉ g.wr)) (hr : Rest s s' := by exact ⟨rfl, rfl⟩) :
    Step c NoW g s g s' ∧ Walking c target items g s.heap (.ref s.heap.objs.size) s'.heap := by
  have key : HStep c NoW g s.heap g (s.heap.push o) ∧ Walking c target items g s.heap (.ref s.heap.objs.size) (s.heap.push o) := by
    rw [he] at hT
    revert S P hT hsrc hfp
    generalize s.heap = h
    intro S P hT hsrc hfp
    exact Walking.oneH S P hT hsrc hfp
  rw [← he] at key
  exact ⟨key.1.up hr, key.2⟩

theorem Src_tup {target : Expr} {xs : List PV} {K : List PV → Prop} (h : K xs) : Src c E g target (.tup xs) K := fun s v S hz3 => by
  obtain ⟨a, vs, e, ht, nb, hl, rs⟩ := hz3
  subst e
  obtain ⟨n, ho⟩ := id ht
  have hlt : a < s.heap.objs.size := Heap.lt_size ho
  refine wpAny_pyIter_tuple ht.isTuple ⟨xs, h, ?_⟩
  refine Walking.one (src := xs.zip vs) (T := fun i h => h.IsTupleIter s.heap.objs.size a i ∧ h.IsTuple a vs.toArray) (fp := [s.heap.objs.size, a]) S rfl
    (pIter_of_walks (Walks.tuple S.ok.handled s.heap.objs.size a (Nat.ne_of_lt hlt) vs.toArray) target (fun i h ⟨⟨o, e1, e2, _⟩, _⟩ => ⟨o, _, e1, e2, by decide⟩) (by rw [List.size_toArray, rs.length])
      (fun i v p hv hp B h hsrc => hsrc (p, v) (zip_get hp (by simpa using hv))))
    ⟨⟨_, Heap.get?_push_size _ rfl, rfl, rfl⟩, ⟨_, Heap.get?_push_of_some _ ho, rfl, n, rfl⟩⟩ (mem_zip_vr rs) (fun b hb => ?_)
  simp only [List.mem_cons, List.not_mem_nil, or_false] at hb
  rcases hb with rfl | rfl
  · exact .inl rfl
  · exact .inr ⟨hlt, fun q => S.notSeqF _ q _ _ _ ho rfl, fun q => nb (Cx.wr_B q)⟩

theorem Src_lstAt {target : Expr} {xs : List PV} {K : List PV → Prop} {a : Addr} {vs : List Value} {s : Shared} (S : St c g s.heap) (h : K xs) (ht : LstAt s.heap a vs) (rs : VRs (c.B g) s.heap xs vs) (no : ¬ Frm c a) (nw : a ∉ g.wr) :
    wpAny c.M c.A (pyIter (.ref a)) (fun it s' => ∃ items, K items ∧ Step c NoW g s g s' ∧ Walking c target items g s.heap it s'.heap) E s := by
  obtain ⟨n, ho⟩ := id ht
  have hlt : a < s.heap.objs.size := Heap.lt_size ho
  refine wpAny_pyIter_list ht.isList ⟨xs, h, ?_⟩
  refine Walking.one (src := xs.zip vs) (T := fun i h => h.IsListIter s.heap.objs.size a i ∧ h.IsList a vs.toArray) (fp := [s.heap.objs.size, a]) S rfl
    (pIter_of_walks (Walks.list S.ok.handled s.heap.objs.size a (Nat.ne_of_lt hlt) vs.toArray) target (fun i h ⟨⟨o, e1, e2, _⟩, _⟩ => ⟨o, _, e1, e2, by decide⟩) (by rw [List.size_toArray, rs.length])
      (fun i v p hv hp B h hsrc => hsrc (p, v) (zip_get hp (by simpa using hv))))
    ⟨⟨_, Heap.get?_push_size _ rfl, rfl, rfl⟩, ⟨_, Heap.get?_push_of_some _ ho, rfl, n, rfl⟩⟩ (mem_zip_vr rs) (fun b hb => ?_)
  simp only [List.mem_cons, List.not_mem_nil, or_false] at hb
  rcases hb with rfl | rfl
  · exact .inl rfl
  · exact .inr ⟨hlt, no, nw⟩
theorem Src_lst {target : Expr} {xs : List PV} {K : List PV → Prop} (h : K xs) : Src c E g target (.lst xs) K := fun s v S hz6 => by
  obtain ⟨a, vs, e, ht, nb, hl, rs⟩ := hz6
  subst e
  obtain ⟨n, ho⟩ := id ht
  exact Src_lstAt S h ht rs (fun q => S.notSeqF _ q _ _ _ ho rfl) fun q => nb (Cx.wr_B q)

theorem ro_notWr {h} (S : St c g h) {a : Addr} {o : PO} (hb : (a, o) ∈ g.ro) : a ∉ g.wr := fun q => by
  have nd := S.nodup
  unfold Gh.dom dom at nd
  rw [List.map_append] at nd
  have := (List.nodup_append.mp nd).2.2 a q a (List.mem_map_of_mem hb)
  exact this rfl
theorem Src_box {target : Expr} {xs : List PV} {a : Addr} {K : List PV → Prop} (hb : (a, PO.lst xs) ∈ g.ro) (h : K xs) : Src c E g target (.box a) K := fun s v S e => by
  obtain rfl : v = .ref a := e
  have hin : (a, PO.lst xs) ∈ g.bx ++ g.ro := List.mem_append_right _ hb
  obtain ⟨vs, ht, hl, rs⟩ := S.boxes _ _ hin
  exact Src_lstAt S h ht rs (S.own a (List.mem_map_of_mem hin)) (ro_notWr S hb)

/-! ## calls of what is built in -/
def CallV (c : Cx) (E : Exc) (g : Gh) (f : Value) (ps : List PV) (Q : PV → Gh → Prop) : Prop :=
  ∀ s vs, St c g s.heap → VRs (c.B g) s.heap ps vs → WVal c E g (call f vs) Q s
/-- .. and what they give is walked through -/
def CallI (c : Cx) (E : Exc) (g : Gh) (target : Expr) (f : Value) (ps : List PV) (K : List PV → Prop) : Prop :=
  ∀ s vs, St c g s.heap → VRs (c.B g) s.heap ps vs → wpAny c.M c.A (call f vs) (fun x s₁ => wpAny c.M c.A (pyIter x) (fun it s' => ∃ items, K items ∧ Step c NoW g s g s' ∧ Walking c target items g s.heap it s'.heap) E s₁) E s

theorem callWith_args {f : Value} {e : Expr} {es : List Expr} {pos : Pos} {s : Shared} {R : Value → Shared → Prop} (hf : (∃ T, f = .type T) ∨ (∃ id, f = .builtin id))
    (h : wpAny c.M c.A (spliced (backTo pos (starEach (e :: es) c.env))) (fun vs s₁ => wpAny c.M c.A (call f vs) R E s₁) E s)
    (he : starEach (e :: es) c.env = (false, eval e c.env) :: starEach es c.env) (hp : (backTo pos (starEach es c.env)).any (·.1) = false) :
    wpAny c.M c.A (callWith pos f [] (backTo pos (starEach (e :: es) c.env)) (backToKw pos (keywordEach [] c.env))) R E s := by
  rw [he] at h ⊢
  rcases hf with ⟨T, rfl⟩ | ⟨id, rfl⟩
  · exact PySem.callWith_type (by show (false || (backTo pos (starEach es c.env)).any (·.1)) = false; rw [hp]; rfl) (Calls.evalArgs_plain h)
  · exact Calls.callWith_builtin (by show (false || (backTo pos (starEach es c.env)).any (·.1)) = false; rw [hp]; rfl) (Calls.evalArgs_plain h)

theorem WE_CallV {fn : Str} {p pos : Pos} {e : Expr} {es : List Expr} {f : Value} {Q : PV → Gh → Prop} (hb : BuiltIs c.h0 fn f) (hf : (∃ T, f = .type T) ∨ (∃ id, f = .builtin id))
    (h : WEs c E (e :: es) g fun ps g₁ => CallV c E g₁ f ps Q)
    (hk : c.kind fn = some .globalImplicit := by rfl) (hd : (fn == ("__debug__" : Str)) = false := by decide +kernel)
    (he : starEach (e :: es) c.env = (false, eval e c.env) :: starEach es c.env := by rfl) (hp : ∀ pos, (backTo pos (starEach es c.env)).any (·.1) = false := by intro _; rfl) :
    WE c E (.Call (.Name fn p) (e :: es) [] pos) g Q := fun s S => by
  have hn : WE c E (.Name fn p) g fun q g' => q = .raw f ∧ g' = g := WE_Builtin hb ⟨rfl, rfl⟩ hk hd
  refine wpAny_Call_Name_kw (keywords := []) (wpAny_mono (hn s S) (fun f' s₁ hz8 => ?_) fun _ _ e => e)
  obtain ⟨q, g₁, ⟨e₁, e₂⟩, r₁, x₁⟩ := hz8
  subst e₁; subst e₂
  obtain rfl : f' = f := r₁
  refine callWith_args hf (wpAny_mono (h pos s₁ x₁.st) (fun vs s₂ hz9 => ?_) fun _ _ e => e) he (hp pos)
  obtain ⟨ps, g₂, h₂, r₂, x₂⟩ := hz9
  exact wpAny_mono (h₂ s₂ vs x₂.st r₂) (fun v s₃ hz10 => by obtain ⟨p, g₃, h₃, r₃, x₃⟩ := hz10; exact ⟨p, g₃, h₃, r₃, (x₁.trans x₂).trans x₃⟩) fun _ _ e => e
theorem WIter_CallI {fn : Str} {p pos : Pos} {e target : Expr} {es : List Expr} {f : Value} {Q : List PV → Gh → Prop} (hb : BuiltIs c.h0 fn f) (hf : (∃ T, f = .type T) ∨ (∃ id, f = .builtin id))
    (h : WEs c E (e :: es) g fun ps g₁ => CallI c E g₁ target f ps fun items => Q items g₁)
    (hk : c.kind fn = some .globalImplicit := by rfl) (hd : (fn == ("__debug__" : Str)) = false := by decide +kernel)
    (he : starEach (e :: es) c.env = (false, eval e c.env) :: starEach es c.env := by rfl) (hp : ∀ pos, (backTo pos (starEach es c.env)).any (·.1) = false := by intro _; rfl) :
    WIter c E (.Call (.Name fn p) (e :: es) [] pos) target g Q := fun s S => by
  have hn : WE c E (.Name fn p) g fun q g' => q = .raw f ∧ g' = g := WE_Builtin hb ⟨rfl, rfl⟩ hk hd
  refine wpAny_Call_Name_kw (keywords := []) (wpAny_mono (hn s S) (fun f' s₁ hz11 => ?_) fun _ _ e => e)
  obtain ⟨q, g₁, ⟨e₁, e₂⟩, r₁, x₁⟩ := hz11
  subst e₁; subst e₂
  obtain rfl : f' = f := r₁
  refine callWith_args hf (wpAny_mono (h pos s₁ x₁.st) (fun vs s₂ hz12 => ?_) fun _ _ e => e) he (hp pos)
  obtain ⟨ps, g₂, h₂, r₂, x₂⟩ := hz12
  refine wpAny_mono (h₂ s₂ vs x₂.st r₂) (fun x s₃ h₃ => wpAny_mono h₃ (fun it s₄ hz13 => ?_) fun _ _ e => e) fun _ _ e => e
  obtain ⟨items, hK, x₄, ⟨I, fp, wr, src, T, e1, e2, e3, e4, e5, e6, e7⟩⟩ := hz13
  have y := x₁.trans x₂
  exact ⟨items, g₂, hK, y.trans x₄, ⟨I, fp, wr, src, T, e1, e2, e3, e4, e5, e6, fun b q => ⟨Nat.le_trans y.ev.size (e7 b q).1, (e7 b q).2⟩⟩⟩

/-! ### range -/
def pints (ns : List Int) : List PV := ns.map .int

theorem range_src {target : Expr} {a b k : Int} {n : Nat} {s : Shared} {h₁ : Heap} {r : Addr} {tk : Nat} {t u v : Tok} {K : List PV → Prop} (S : St c g s.heap) (hr : IsRange h₁ r a b k t u v) (hk : ∀ b o, s.heap.get? b = some o → h₁.get? b = some o) (hs : s.heap.objs.size ≤ h₁.objs.size)
    (hsmall : Builtin.Range.small a b k = true) (hn : Builtin.Range.rangeSize a b k = (n : Int)) (h : K (pints (rangeInts a k n))) :
    wpAny c.M c.A (pyIter (.ref r)) (fun it s' => ∃ items, K items ∧ Step c NoW g s g s' ∧ Walking c target items g s.heap it s'.heap) E { s with heap := h₁, toks := tk } := by
  refine wpAny_pyIter_range hr hsmall ⟨_, h, ?_⟩
  have x₁ : Step c NoW g s g { s with heap := h₁, toks := tk } := Step.keeps S hk hs
  have W := Walking.one (s' := { s with heap := h₁.push { cls := .type "range_iterator", data := .fields #[rawInt a, rawInt (Builtin.Range.rangeSize a b k), rawInt k] }, toks := tk }) (target := target) (items := pints (rangeInts a k n)) (src := []) (o := { cls := .type "range_iterator", data := .fields #[rawInt a, rawInt (Builtin.Range.rangeSize a b k), rawInt k] })
    (T := fun i h => IsRangeIter h h₁.objs.size (a + (i : Nat) * k) ((n : Int) - (i : Nat)) k) (fp := [h₁.objs.size]) x₁.st rfl
    (pIter_of_walks (Walks.range x₁.st.ok.handled h₁.objs.size a k n) target (fun i h e => ⟨_, _, e, rfl, by decide⟩) (by rw [pints, List.length_map, rangeInts_length]) (by
      rintro i v p ⟨t, rfl⟩ hp B h _
      rw [pints, List.getElem?_map] at hp
      have hi : i < n := by
        cases e : (rangeInts a k n)[i]? with
        | none => rw [e] at hp; cases hp
        | some z => have := (List.getElem?_eq_some_iff.mp e).1; rwa [rangeInts_length] at this
      rw [rangeInts_get hi] at hp
      simp at hp; subst hp
      exact ⟨t, rfl⟩)) (by show IsRangeIter _ _ _ _ _; rw [hn]; simpa using Heap.get?_push_size _ rfl) (fun e he => by cases he) (fun b hb => .inl (by simpa using hb))
  obtain ⟨x₂, ⟨I, fp, wr, src, T, e1, e2, e3, e4, e5, e6, e7⟩⟩ := W
  exact ⟨x₁.trans x₂, ⟨I, fp, wr, src, T, e1, e2, e3, e4, e5, e6, fun b q => ⟨Nat.le_trans hs (e7 b q).1, (e7 b q).2⟩⟩⟩

theorem small_one {a b : Int} (ha : -(2 ^ 62) ≤ a ∧ a < 2 ^ 62) (hb : -(2 ^ 62) ≤ b ∧ b < 2 ^ 62) : Builtin.Range.small a b 1 = true := by
  have hz : Builtin.Range.rangeSize a b 1 = ((b - a).toNat : Int) := rangeSize_nat a b
  unfold Builtin.Range.small Builtin.Range.rangeFitsLong
  rw [hz]
  simp only [Bool.and_eq_true, decide_eq_true_eq, Bool.or_eq_true, beq_iff_eq, if_true, Int.sub_self, Int.add_zero]
  refine ⟨⟨⟨⟨by omega, by omega⟩, by omega⟩, by omega⟩, .inr ?_⟩
  rw [if_pos (by omega)]
  simp only [Bool.and_eq_true, decide_eq_true_eq]
  omega

theorem CallI_range1 {target : Expr} {n : Int} {K : List PV → Prop} (h : K (pints (rangeInts 0 1 n.toNat))) (hn : -(2 ^ 62) ≤ n ∧ n < 2 ^ 62 := by omega) : CallI c E g target (.type "range") [.int n] K := fun s vs S r => by
  obtain ⟨v, _, rfl, ⟨t, rfl⟩, rfl⟩ := r
  exact call_range_1 (range_src S (IsRange.new ..) (fun b o e => Heap.get?_push_of_some _ e) (by simp) (small_one (by omega) hn) (by rw [rangeSize_nat]; simp) h)
theorem CallI_range2 {target : Expr} {a b : Int} {K : List PV → Prop} (h : K (pints (rangeInts a 1 (b - a).toNat))) (ha : -(2 ^ 62) ≤ a ∧ a < 2 ^ 62 := by omega) (hb : -(2 ^ 62) ≤ b ∧ b < 2 ^ 62 := by omega) : CallI c E g target (.type "range") [.int a, .int b] K := fun s vs S r => by
  obtain ⟨v, _, rfl, ⟨t, rfl⟩, ⟨w, _, rfl, ⟨u, rfl⟩, rfl⟩⟩ := r
  exact call_range_2 (range_src S (IsRange.new ..) (fun b o e => Heap.get?_push_of_some _ e) (by simp) (small_one ha hb) (by rw [rangeSize_nat]) h)
end

end Mine

namespace Mine
open PySem PyProof.Rows

/-! ## the block of a comprehension -/
def Cx.comp (c : Cx) (scope : Scope) (cl : List (Str × Addr)) (C : Addr) (ex : List Addr) : Cx :=
  ⟨c.prog, c.w, c.A, compEnvC scope cl C c.env, c.h0, c.hb, c.lent, c.d, ex, false, fun x => (scope.names.lookup x).map fun k => if k == .free then .cell else k⟩

def compOk (kind : Str → Option NameKind) (scope : Scope) : Bool :=
  scope.kind == .function && scope.names.all fun e => e.2 != .cell && (e.2 != .free || kind e.1 == some .cell) && (e.2 != .local || scope.names.lookup e.1 == some .local)

theorem relabel_lookup {env : Env} (hk : env.scope.kind = .function) {x : Str} : ∀ {names : List (Str × NameKind)}, (∀ e ∈ names, e.2 = .free → env.kindOf e.1 = some .cell) →
    (names.map fun (n, k) => if (k == NameKind.free && env.scope.kind == .function && env.kindOf n == some .cell) then (n, NameKind.cell) else (n, k)).lookup x = (names.lookup x).map fun k => if k == .free then .cell else k
  | [], _ => rfl
  | (n, k) :: r, h => by
    have ih := relabel_lookup hk (x := x) (names := r) fun e he => h e (.tail _ he)
    show List.lookup x ((if (k == NameKind.free && env.scope.kind == .function && env.kindOf n == some .cell) = true then (n, NameKind.cell) else (n, k)) :: _) = _
    by_cases hf : k = .free
    · subst hf
      have := h (n, .free) (.head _) rfl
      rw [if_pos (by simp [this, hk]), List.lookup_cons, List.lookup_cons]
      cases hx : x == n with
      | true => rfl
      | false => exact ih
    · have hb : (k == NameKind.free) = false := by simpa using hf
      rw [if_neg (by simp [hb]), List.lookup_cons, List.lookup_cons]
      cases hx : x == n with
      | true => simp only [Option.map_some, hb, Bool.false_eq_true, if_false]
      | false => exact ih

theorem closure_of {scope : Scope} {env : Env} (hfree : ∀ n, (n, NameKind.free) ∈ scope.names → ∃ a, env.cells.lookup n = some a) :
    ∃ cl, closureFor scope env = pure cl ∧ (∀ x a, cl.lookup x = some a → env.cells.lookup x = some a) ∧ (∀ x, (x, NameKind.free) ∈ scope.names → ∃ a, cl.lookup x = some a) := by
  have key : ∀ (names : List (Str × NameKind)) (acc : List (Str × Addr)), (∀ n, (n, NameKind.free) ∈ names → ∃ a, env.cells.lookup n = some a) → (∀ x a, acc.lookup x = some a → env.cells.lookup x = some a) →
      ∃ cl, (forIn names acc fun (x : Str × NameKind) (cs : List (Str × Addr)) => (if (x.2 == NameKind.free) = true then cellOf env x.1 >>= fun a => pure (ForInStep.yield ((x.1, a) :: cs)) else pure (ForInStep.yield cs) : Sem (ForInStep (List (Str × Addr))))) = pure cl ∧
        (∀ x a, cl.lookup x = some a → env.cells.lookup x = some a) ∧ (∀ x, ((x, NameKind.free) ∈ names ∨ ∃ a, acc.lookup x = some a) → ∃ a, cl.lookup x = some a) := by
    intro names
    induction names with
    | nil => intro acc _ hacc; exact ⟨acc, rfl, hacc, fun x h => h.elim (fun q => by cases q) id⟩
    | cons e r ih =>
      intro acc hn hacc
      obtain ⟨n, k⟩ := e
      by_cases hk : k = .free
      · subst hk
        obtain ⟨a, ha⟩ := hn n (.head _)
        obtain ⟨cl, e1, e2, e3⟩ := ih ((n, a) :: acc) (fun m hm => hn m (.tail _ hm)) (fun x b hb => by
          rw [List.lookup_cons] at hb
          cases hx : x == n with
          | true => rw [hx] at hb; cases hb; rw [beq_iff_eq.mp hx]; exact ha
          | false => rw [hx] at hb; exact hacc x b hb)
        refine ⟨cl, ?_, e2, fun x hx => e3 x ?_⟩
        · rw [List.forIn_cons]
          have : (cellOf env n >>= fun a => pure (ForInStep.yield ((n, a) :: acc)) : Sem (ForInStep (List (Str × Addr)))) = pure (ForInStep.yield ((n, a) :: acc)) := by
            unfold cellOf; rw [ha]; rfl
          simp only [beq_self_eq_true, if_true, this]
          exact e1
        · rcases hx with hx | ⟨b, hb⟩
          · rcases List.mem_cons.mp hx with hx | hx
            · cases hx; exact .inr ⟨a, by rw [List.lookup_cons, beq_self_eq_true]⟩
            · exact .inl hx
          · refine .inr ?_
            cases hxn : x == n with
            | true => exact ⟨a, by rw [List.lookup_cons, hxn]⟩
            | false => exact ⟨b, by rw [List.lookup_cons, hxn]; exact hb⟩
      · have hb : (k == NameKind.free) = false := by simpa using hk
        obtain ⟨cl, e1, e2, e3⟩ := ih acc (fun m hm => hn m (.tail _ hm)) hacc
        refine ⟨cl, ?_, e2, fun x hx => e3 x ?_⟩
        · rw [List.forIn_cons]
          simp only [hb, Bool.false_eq_true, if_false]
          exact e1
        · rcases hx with hx | hx
          · rcases List.mem_cons.mp hx with hx | hx
            · cases hx; exact absurd rfl hk
            · exact .inl hx
          · exact .inr hx
  obtain ⟨cl, e1, e2, e3⟩ := key scope.names [] hfree (fun x a h => by cases h)
  refine ⟨cl, ?_, e2, fun x hx => e3 x (.inl hx)⟩
  unfold closureFor
  show (forIn scope.names [] _ >>= fun cs => pure cs) = _
  rw [bind_pure]
  exact e1

/-- the names that the block takes from around -/
inductive Caps (kind : Str → Option NameKind) (scope : Scope) (vars : List (Str × PV)) : List (Str × PV) → Prop where
  | nil : Caps kind scope vars []
  | cons (x : Str) {p : PV} {r : List (Str × PV)} : vars.lookup x = some p → scope.names.lookup x = some .free → Caps kind scope vars r → Caps kind scope vars ((x, p) :: r)
theorem Caps.get {kind scope vars} : ∀ {r}, Caps kind scope vars r → ∀ {x p}, r.lookup x = some p → vars.lookup x = some p ∧ scope.names.lookup x = some .free
  | _, .cons y h1 h2 k, x, p, e => by
    rw [List.lookup_cons] at e
    cases hx : x == y with
    | true => rw [hx] at e; cases e; rw [beq_iff_eq.mp hx]; exact ⟨h1, h2⟩
    | false => rw [hx] at e; exact k.get e

/-- a dict that is none of ours turns -/
theorem St.turned {c : Cx} {g : Gh} {h h' : Heap} {C : Addr} (S : St c g h) (hs : Heap.SameBut C h h') (hF : ¬ Frm c C) (hd : C ∉ g.dom) (hb : c.hb.objs.size ≤ C) (hn : NotSeq h C) : HStep c (fun a => a = C) g h g h' := by
  have ev : ∀ B, Ev B (fun a => a = C) h h' := fun B => Ev.of_sameBut hs (.inr rfl)
  have nw : ∀ a, a = C → NotSeq h a := fun a e => e ▸ hn
  have nb : ∀ a ∈ c.B g, a ∈ c.B g ∨ h.objs.size ≤ a := fun _ q => .inl q
  have up : ∀ b o, b ≠ C → h.get? b = some o → h'.get? b = some o := fun b o n e => (hs.2 b n).trans e
  refine ⟨⟨S.ok, ?_, fun y a ha => ?_, fun y p e => ?_, fun a o ha => ?_, S.nodup, S.own, S.lent, S.boxAbove, S.lentIn, fun b o e nl => ?_, ?_, ?_, S.exApart⟩, ev _, fun _ q => .inl q, fun _ q => .inl q⟩
  · obtain ⟨m, hm⟩ := S.ns; exact ⟨m, hm.sameBut hs fun q => hF (.inl q.symm)⟩
  · obtain ⟨v, hv⟩ := S.cells y a ha; exact ⟨v, hv.sameBut hs fun q => hF (.inr ⟨y, q ▸ ha⟩)⟩
  · rcases S.vars y p e with ⟨k, m, v, hm, hv, r⟩ | ⟨k, cc, v, hc, hv, r⟩
    · exact .inl ⟨k, m, v, hm.sameBut hs fun q => hF (.inl q.symm), hv, VR.ext (ev _) nw nb r⟩
    · exact .inr ⟨k, cc, v, hc, hv.sameBut hs fun q => hF (.inr ⟨y, q ▸ hc⟩), VR.ext (ev _) nw nb r⟩
  · exact BoxIs.ext (ev _) nw nb (S.boxes a o ha) fun o' e => up a o' (fun q => hd (q ▸ List.mem_map_of_mem ha)) e
  · exact up b o (fun q => absurd (Heap.lt_size e) (Nat.not_lt.mpr (q ▸ hb))) (S.keep b o e nl)
  · rw [hs.1]; exact S.size
  · rw [hs.1]; exact S.exLt

/-- the tests of a comprehension -/
def WIfs (c : Cx) (E : Exc) (ifs : List Expr) (g : Gh) (Q : Bool → Gh → Prop) : Prop := ∀ s, St c g s.heap →
  wpAny c.M c.A (forIn ifs true fun e r => if r = true then do let ok ← isTrue e c.env (eval e c.env); pure (ForInStep.yield ok) else pure (ForInStep.yield r)) (fun b s' => ∃ g', Q b g' ∧ Step c NoW g s g' s') E s
theorem WIfs_nil {c E g} {Q : Bool → Gh → Prop} (h : Q true g) : WIfs c E [] g Q := fun s S => wpAny_tests_nil ⟨g, h, Step.refl S⟩
theorem WIfs_one {c E g t} {Q : Bool → Gh → Prop} (h : WT c E t g Q) : WIfs c E [t] g Q := fun s S => wpAny_tests_one (h s S)

/-- one turn: the target, the tests, the element -/
def WTurn (c : Cx) (target : Expr) (ifs : List Expr) (elt : Expr) (x : PV) (g : Gh) (no : Gh → Prop) (yes : PV → Gh → Prop) : Prop :=
  WAsg c NoExc target x g fun g₁ => WIfs c NoExc ifs g₁ fun ok g₂ => (ok = false → no g₂) ∧ (ok = true → WE c NoExc elt g₂ yes)

theorem comp_loop {prog : Program} {w : World} {A : Around} {R : Result → Shared → Prop} {s : Shared} {elt target iter : Expr} {ifs : List Expr} {scope : Scope} {pos : Pos} {it acc : Value} {env : Env} (I : Nat → Shared → Prop)
    (turn : ∀ n s, I n s → wpAny (model prog w) A (pyNext it) (fun r s₁ => match r with
      | none => R (.ok .next) s₁
      | some v => wpAny (model prog w) A (letOwnedTupleGo target it v) (fun _ s₁' => wpAny (model prog w) A (assign target env v) (fun _ s₂ =>
          wpAny (model prog w) A (forIn ifs true fun c r => if r = true then do let ok ← isTrue c env (eval c env); pure (ForInStep.yield ok) else pure (ForInStep.yield r)) (fun ok s₃ =>
            if ok = true then wpAny (model prog w) A (eval elt env) (fun x s₄ =>
              wpAny (model prog w) A (call (.builtin "list.append") [acc, x]) (fun _ s₅ => ∃ m, m < n ∧ I m s₅) NoExc s₄) NoExc s₃
            else ∃ m, m < n ∧ I m s₃) NoExc s₂) NoExc s₁') NoExc s₁) NoExc s)
    (n : Nat) (h : I n s) :
    codeAny (model prog w) A (.compLoop (.ListComp elt [⟨target, iter, ifs, 0⟩] scope pos) 0 it acc env) R s := by
  refine codeAny_loop rfl I (fun n s hI => ?_) n h
  show wpAny _ A ((compTurn (.ListComp elt [⟨target, iter, ifs, 0⟩] scope pos) 0 it acc env).onRaise (fun x => do noteFrame x env; theTreesLotGoes x)) _ _ s
  refine wpAny_noted ?_
  rw [compTurn_list]
  refine wpAny_bind (wpAny_standAt (wpAny_bind (wpAny_mono (turn n s hI) (fun r s₁ h₁ => ?_) fun _ _ h' => h'.elim)))
  cases r with
  | none => exact wpAny_pure h₁
  | some v =>
    refine wpAny_bind (wpAny_mono h₁ (fun _ s₁' h₁' => ?_) fun _ _ h' => h'.elim)
    refine wpAny_bind (wpAny_mono h₁' (fun _ s₂ h₂ => wpAny_bind (wpAny_mono h₂ (fun ok s₃ h₃ => ?_) fun _ _ h' => h'.elim)) fun _ _ h' => h'.elim)
    cases ok with
    | false => exact wpAny_pure ⟨rfl, h₃⟩
    | true =>
      exact wpAny_bind (wpAny_bind (wpAny_mono h₃ (fun x s₄ h₄ => wpAny_bind (wpAny_mono h₄ (fun _ s₅ h₅ => wpAny_pure (wpAny_pure ⟨rfl, h₅⟩)) fun _ _ h' => h'.elim)) fun _ _ h' => h'.elim))

end Mine

namespace Mine
open PySem PyProof.Rows

/-- places kept apart turn -/
theorem St.walkG {c : Cx} {g : Gh} {h h' : Heap} {wr : List Addr} (S : St c g h) (hsub : ∀ b ∈ wr, b ∈ c.ex) (hk : ∀ b o, b ∉ wr → h.get? b = some o → h'.get? b = some o) (hs : h.objs.size ≤ h'.objs.size)
    (ho : ∀ b ∈ wr, ¬ Frm c b ∧ c.hb.objs.size ≤ b) : St c g h' ∧ (∀ p v, VR (c.B g) h p v → VR (c.B g) h' p v) := by
  have inB : ∀ b ∈ wr, b ∈ c.B g := fun b q => List.mem_append_right _ (hsub b q)
  have x : Ev (c.B g) NoW h h' := ⟨fun a o e nb _ => hk a o (fun q => nb (inB a q)) e, hs⟩
  have nw : ∀ a, NoW a → NotSeq h a := fun _ q => q.elim
  have nb : ∀ a ∈ c.B g, a ∈ c.B g ∨ h.objs.size ≤ a := fun a q => .inl q
  have nl : c.env.locals ∉ wr := fun q => (ho _ q).1 (.inl rfl)
  have nc : ∀ y a, c.env.cells.lookup y = some a → a ∉ wr := fun y a ha q => (ho _ q).1 (.inr ⟨y, ha⟩)
  refine ⟨⟨S.ok, ?_, fun y a ha => ?_, fun y p e => ?_, fun a o ha => ?_, S.nodup, S.own, S.lent, S.boxAbove, S.lentIn, fun b o e nlt => ?_, Nat.le_trans S.size hs, fun a q => Nat.lt_of_lt_of_le (S.exLt a q) hs, S.exApart⟩, fun p v r => VR.ext x nw nb r⟩
  · obtain ⟨m, hm⟩ := S.ns; exact ⟨m, hm.at' fun o e => hk _ o nl e⟩
  · obtain ⟨v, o, ho, hv⟩ := S.cells y a ha; exact ⟨v, o, hk a o (nc y a ha) ho, hv⟩
  · rcases S.vars y p e with ⟨k, m, v, hn, hm, r⟩ | ⟨k, cc, v, hc, ⟨o, ho, hv⟩, r⟩
    · exact .inl ⟨k, m, v, hn.at' fun o e => hk _ o nl e, hm, VR.ext x nw nb r⟩
    · exact .inr ⟨k, cc, v, hc, ⟨o, hk cc o (nc y cc hc) ho, hv⟩, VR.ext x nw nb r⟩
  · exact BoxIs.ext x nw nb (S.boxes a o ha) fun o' e => hk a o' (fun q => S.exApart a (List.mem_map_of_mem ha) (hsub a q)) e
  · exact hk b o (fun q => absurd (Heap.lt_size e) (Nat.not_lt.mpr (ho b q).2)) (S.keep b o e nlt)

theorem dom_append {a b a' : List (Addr × PO)} (h : dom a = dom a') : dom (a ++ b) = dom (a' ++ b) := by
  show (a ++ b).map (·.1) = (a' ++ b).map (·.1)
  rw [List.map_append, List.map_append]
  have : a.map (·.1) = a'.map (·.1) := h
  rw [this]

/-- behind a walk: its places may have turned, and the boxes; new ones may have come -/
theorem St.afterX {c : Cx} {g : Gh} {h h' : Heap} {wr : List Addr} {bx' : List (Addr × PO)} (S : St (c.withEx (wr ++ c.ex)) g h) (hk : ∀ b o, b ∉ g.wr → b ∉ wr → h.get? b = some o → h'.get? b = some o) (hs : h.objs.size ≤ h'.objs.size)
    (ho : ∀ b ∈ wr, ¬ Frm c b ∧ c.hb.objs.size ≤ b) (hd : ∀ a ∈ dom bx', a ∈ g.wr ∨ h.objs.size ≤ a) (hd' : ∀ a ∈ g.wr, a ∈ dom bx') (hnd : (dom (bx' ++ g.ro)).Nodup)
    (hb : ∀ a o, (a, o) ∈ bx' ++ g.ro → BoxIs c.prog c.w (c.B ⟨g.vars, bx', g.ro⟩) h' a o) : St c ⟨g.vars, bx', g.ro⟩ h' := by
  have hD : ∀ a ∈ Gh.dom ⟨g.vars, bx', g.ro⟩, a ∈ g.dom ∨ h.objs.size ≤ a := fun a q => by
    have q' : a ∈ (bx' ++ g.ro).map (·.1) := q
    rw [List.map_append] at q'
    rcases List.mem_append.mp q' with q' | q'
    · exact (hd a q').imp (fun z => Gh.wr_dom z) id
    · refine .inl ?_
      show a ∈ (g.bx ++ g.ro).map (·.1)
      rw [List.map_append]; exact List.mem_append_right _ q'
  have x : Ev ((c.withEx (wr ++ c.ex)).B g) NoW h h' := ⟨fun a o e nb _ => hk a o (fun q => nb (Cx.wr_B q)) (fun q => nb (List.mem_append_right _ (List.mem_append_left _ q))) e, hs⟩
  have nw : ∀ a, NoW a → NotSeq h a := fun _ q => q.elim
  have nb : ∀ a ∈ c.B ⟨g.vars, bx', g.ro⟩, a ∈ (c.withEx (wr ++ c.ex)).B g ∨ h.objs.size ≤ a := fun a q => by
    rcases List.mem_append.mp q with q | q
    · exact (hD a q).imp (fun z => List.mem_append_left _ z) id
    · exact .inl (List.mem_append_right _ (List.mem_append_right _ q))
  have nl : c.env.locals ∉ g.wr ∧ c.env.locals ∉ wr := ⟨fun q => S.own _ (Gh.wr_dom q) (.inl rfl), fun q => (ho _ q).1 (.inl rfl)⟩
  have nc : ∀ y a, c.env.cells.lookup y = some a → a ∉ g.wr ∧ a ∉ wr := fun y a ha => ⟨fun q => S.own _ (Gh.wr_dom q) (.inr ⟨y, ha⟩), fun q => (ho _ q).1 (.inr ⟨y, ha⟩)⟩
  have ok := S.ok
  refine ⟨⟨ok.kind, ok.glb, ok.blt, ok.handled, ok.room, ok.ground, ok.lentAbove, ok.apart, ok.above, ok.kindOk, ok.cellOk, ok.nolimit, ok.h0size⟩, ?_, fun y a ha => ?_, fun y p e => ?_, hb, hnd, fun a q => ?_, fun a q => ?_, fun a q => ?_, fun a q => ?_, fun b o e nlt => ?_, Nat.le_trans S.size hs,
    fun a q => Nat.lt_of_lt_of_le (S.exLt a (List.mem_append_right _ q)) hs, fun a q q' => ?_⟩
  · obtain ⟨m, hm⟩ := S.ns; exact ⟨m, hm.at' fun o e => hk _ o nl.1 nl.2 e⟩
  · obtain ⟨v, o, ho, hv⟩ := S.cells y a ha; exact ⟨v, o, hk a o (nc y a ha).1 (nc y a ha).2 ho, hv⟩
  · rcases S.vars y p e with ⟨k, m, v, hn, hm, r⟩ | ⟨k, cc, v, hc, ⟨o, ho, hv⟩, r⟩
    · exact .inl ⟨k, m, v, hn.at' fun o e => hk _ o nl.1 nl.2 e, hm, VR.ext x nw nb r⟩
    · exact .inr ⟨k, cc, v, hc, ⟨o, hk cc o (nc y cc hc).1 (nc y cc hc).2 ho, hv⟩, VR.ext x nw nb r⟩
  · rcases hD a q with q | q
    · exact S.own a q
    · exact fun z => absurd (St.ownLt S a z) (Nat.not_lt.mpr q)
  · rcases hd a q with q | q
    · exact S.lent a q
    · exact .inr (Nat.le_trans S.size q)
  · rcases hD a q with q | q
    · exact S.boxAbove a q
    · exact Nat.le_trans (Nat.le_trans ok.h0size S.size) q
  · have q' := S.lentIn a q
    have q'' : a ∈ (g.bx ++ g.ro).map (·.1) := q'
    rw [List.map_append] at q''
    show a ∈ (bx' ++ g.ro).map (·.1)
    rw [List.map_append]
    rcases List.mem_append.mp q'' with z | z
    · exact List.mem_append_left _ (hd' a z)
    · exact List.mem_append_right _ z
  · refine hk b o (fun q => ?_) (fun q => absurd (Heap.lt_size e) (Nat.not_lt.mpr (ho b q).2)) (S.keep b o e nlt)
    rcases S.lent b q with q | q
    · exact nlt q
    · exact absurd (Heap.lt_size e) (Nat.not_lt.mpr q)
  · rcases hD a q with q | q
    · exact S.exApart a q (List.mem_append_right _ q')
    · exact absurd (S.exLt a (List.mem_append_right _ q')) (Nat.not_lt.mpr q)

/-- in a block that binds none of the names around: these are as they were -/
theorem St.regain {c : Cx} {g g' : Gh} {h h' : Heap} (S : St c g h) (x : HStep c (Own c) g h g' h') (hfn : c.fn = false) (hk : ∀ y p, g.vars.lookup y = some p → c.env.kindOf y = some .cell) : St c ⟨g.vars, g'.bx, g'.ro⟩ h' := by
  have T := x.st
  refine ⟨T.ok, T.ns, T.cells, fun y p e => ?_, T.boxes, T.nodup, T.own, T.lent, T.boxAbove, T.lentIn, T.keep, T.size, T.exLt, T.exApart⟩
  rcases S.vars y p e with ⟨k, _⟩ | ⟨k, cc, v, hc, ⟨o, ho, hv⟩, r⟩
  · rw [hk y p e] at k; cases k
  · refine .inr ⟨k, cc, v, hc, ⟨o, x.ev.ext cc o ho (fun q => S.own _ (Gh.wr_dom q) (.inr ⟨y, hc⟩)) (fun q => ?_), hv⟩, x.vrO S r⟩
    rcases q with q | q
    · obtain ⟨m, o', es, ep, ho', hd', _⟩ := S.ns
      rw [q, ho'] at ho; cases ho; rw [hd'] at hv; cases hv
    · rw [hfn] at q; cases q.1

/-- what a comprehension needs to know of its source -/
def CompAt (c : Cx) (scope : Scope) (target elt : Expr) (ifs : List Expr) (items : List PV) (g₁ : Gh) (Q : List PV → Gh → Prop) : Prop :=
  ∃ (vars' : List (Str × PV)) (I : List PV → List PV → List (Addr × PO) → Prop), items.length ≤ sizeLine ∧ Caps c.kind scope g₁.vars vars' ∧ I items [] g₁.bx ∧
    (∀ cl C ex x rest acc bx, dom bx = g₁.wr → I (x :: rest) acc bx → WTurn (c.comp scope cl C ex) target ifs elt x ⟨vars', bx, g₁.ro⟩
      (fun g' => g'.ro = g₁.ro ∧ dom g'.bx = g₁.wr ∧ I rest acc g'.bx) (fun p g' => g'.ro = g₁.ro ∧ dom g'.bx = g₁.wr ∧ I rest (acc ++ [p]) g'.bx)) ∧
    (∀ acc bx, dom bx = g₁.wr → acc.length ≤ items.length → I [] acc bx → Q acc ⟨g₁.vars, bx, g₁.ro⟩)

theorem comp_core {c : Cx} {g : Gh} {s : Shared} {E : Exc} {elt target iter : Expr} {ifs : List Expr} {scope : Scope} {pos : Pos} {Q : List PV → Gh → Prop} {cl : List (Str × Addr)} {R : Value → Addr → Result → Shared → Prop}
    (S : St c g s.heap) (hok : compOk c.kind scope = true) (hcl : ∀ x a, cl.lookup x = some a → c.env.cells.lookup x = some a) (hcl' : ∀ x, (x, NameKind.free) ∈ scope.names → ∃ a, cl.lookup x = some a)
    (h : WIter c E iter target g fun items g₁ => CompAt c scope target elt ifs items g₁ Q)
    (hR : ∀ D C g' acc s', Q acc g' → St c ⟨g'.vars, (D, .lst acc) :: g'.bx, g'.ro⟩ s'.heap → Step c NoW g s g' s' → VR (c.B g') s'.heap (.lst acc) (.ref D) → s.heap.objs.size ≤ D → (∃ m, s'.heap.Ns C m) → ¬ Frm c C → C ∉ g'.dom → c.hb.objs.size ≤ C → s.heap.objs.size ≤ C → R (.ref D) C (.ok .next) s') :
    wpAny c.M c.A (eval iter c.env) (fun x s₁ => wpAny c.M c.A (pyIter x) (fun it s₂ => wpAny c.M c.A (newList []) (fun acc s₃ =>
      wpAny c.M c.A (newFunctionEnv scope c.env.globals cl [] c.env.qual none .none (some c.env)) (fun cenv s₄ =>
        codeAny c.M c.A (.compStart (.ListComp elt [⟨target, iter, ifs, 0⟩] scope pos) 0 it acc { cenv with scope := relabel scope c.env }) (R acc cenv.locals) s₄) E s₃) E s₂) E s₁) E s := by
  refine wpAny_mono (h s S) (fun x s₁ h₁ => wpAny_mono h₁ (fun it s₂ hz1 => ?_) fun _ _ e => e) fun _ _ e => e
  obtain ⟨items, g₁, hC, x₁, ⟨W⟩⟩ := hz1
  obtain ⟨IA, fp, wr, src, T, rfl, P, hT, S₂, hsrc, hfp, hwr⟩ := W
  obtain ⟨vars', I, hsz, hcaps, hI, hturn, hfin⟩ := hC
  -- the scope
  have hok' := Bool.and_eq_true_iff.mp hok
  have hkind : scope.kind = .function := by simpa using hok'.1
  have hall := List.all_eq_true.mp hok'.2
  have hcell : ∀ y ∈ scope.names, y.2 ≠ .cell := fun y hy => by
    have := Bool.and_eq_true_iff.mp (Bool.and_eq_true_iff.mp (hall y hy)).1
    simpa using this.1
  have hfree : ∀ y ∈ scope.names, y.2 = .free → c.kind y.1 = some .cell := fun y hy e => by
    have := (Bool.and_eq_true_iff.mp (Bool.and_eq_true_iff.mp (hall y hy)).1).2
    rw [e] at this
    simpa using this
  have memLk : ∀ y k, scope.names.lookup y = some k → (y, k) ∈ scope.names := fun y k e => by
    have : ∀ (l : List (Str × NameKind)), l.lookup y = some k → (y, k) ∈ l := by
      intro l
      induction l with
      | nil => intro e; cases e
      | cons a r ih =>
        intro e
        obtain ⟨n, k'⟩ := a
        rw [List.lookup_cons] at e
        cases hx : y == n with
        | true => rw [hx] at e; cases e; rw [beq_iff_eq.mp hx]; exact .head _
        | false => rw [hx] at e; exact .tail _ (ih e)
    exact this _ e
  -- the two new objects
  refine wpAny_newList ?_
  refine wpAny_newFunctionEnv hcell (by intro y hy; simp at hy) (fun h₁ hns₁ hsb₁ => ?_) hkind
  dsimp only at hns₁ hsb₁ ⊢
  generalize hH2 : s₂.heap.push { cls := .type "list", data := .seq ([] : List Value).toArray } = H2 at hns₁ hsb₁ ⊢
  have hC2 : H2.objs.size = s₂.heap.objs.size + 1 := by rw [← hH2, Heap.size_push]
  have hDC : s₂.heap.objs.size ≠ H2.objs.size := by rw [hC2]; exact Nat.ne_of_lt (Nat.lt_succ_self _)
  have old : ∀ b o, s₂.heap.get? b = some o → h₁.get? b = some o := fun b o e => by
    have lt := Heap.lt_size e
    refine hsb₁.extBut b o (by rw [hC2]; exact Nat.ne_of_lt (Nat.lt_succ_of_lt lt)) (Heap.get?_push_of_some _ ?_)
    rw [← hH2]; exact Heap.get?_push_of_some _ e
  have hsz₁ : h₁.objs.size = s₂.heap.objs.size + 2 := by rw [hsb₁.1, Heap.size_push, hC2]
  have hD₁ : LstAt h₁ s₂.heap.objs.size [] := ⟨0, hsb₁.extBut _ _ hDC (Heap.get?_push_of_some _ (by rw [← hH2]; exact Heap.get?_push_size _ rfl))⟩
  generalize hDe : s₂.heap.objs.size = D at *
  generalize hCe : H2.objs.size = C at *
  let c' : Cx := c.comp scope cl C (D :: (wr ++ c.ex))
  have sz12 : s₂.heap.objs.size ≤ h₁.objs.size := by rw [hsz₁, hDe]; exact Nat.le_add_right _ _
  have ev₁ : ∀ B, Ev B NoW s₂.heap h₁ := fun B => Ev.of_keeps old sz12
  have nw : ∀ a, NoW a → NotSeq s₂.heap a := fun _ q => q.elim
  have frmLt : ∀ b, Frm c b → b < D := fun b hb => hDe ▸ St.ownLt S₂ b hb
  have nCF : ¬ Frm c C := fun q => absurd (frmLt _ q) (Nat.not_lt.mpr (hC2 ▸ Nat.le_succ _))
  have hD' : D ≤ C := hC2 ▸ Nat.le_succ _
  have hkOk : ∀ x, c'.env.kindOf x = c'.kind x := fun x => relabel_lookup S.ok.kind (fun e he hf => (S.ok.kindOk e.1).trans (hfree e he hf))
  have nbEx : ∀ a ∈ c'.B g₁, a ∈ (c.withEx (wr ++ c.ex)).B g₁ ∨ s₂.heap.objs.size ≤ a := fun a q => by
    rcases List.mem_append.mp q with q | q
    · exact .inl (List.mem_append_left _ q)
    · rcases List.mem_cons.mp q with rfl | q
      · exact .inr (Nat.le_of_eq hDe)
      · exact .inl (List.mem_append_right _ q)
  have ok := S.ok
  have S₁ : St c' ⟨vars', g₁.bx, g₁.ro⟩ h₁ := by
    refine ⟨⟨hkind, ok.glb, ok.blt, ok.handled, ok.room, ok.ground, ok.lentAbove, fun x y a e e' => ok.apart x y a (hcl x a e) (hcl y a e'), fun a ha => ?_, hkOk, fun x hx => ?_, ok.nolimit, ok.h0size⟩, ⟨_, hns₁⟩, fun x a hx => ?_, fun x p e => ?_, fun a o ha => ?_, S₂.nodup, fun a q ha => ?_, S₂.lent, S₂.boxAbove, S₂.lentIn,
      fun b o e nl => old b o (S₂.keep b o e nl), Nat.le_trans S₂.size sz12, fun a q => ?_, fun a q q' => ?_⟩
    · rcases ha with rfl | ⟨x, hx⟩
      · exact Nat.le_trans (hDe ▸ S₂.size) hD'
      · exact ok.above a (.inr ⟨x, hcl x a hx⟩)
    · have e := (hkOk x).symm.trans hx
      change (scope.names.lookup x).map _ = _ at e
      cases hl : scope.names.lookup x with
      | none => rw [hl] at e; cases e
      | some k =>
        rw [hl] at e
        by_cases hf : k = .free
        · subst hf; exact hcl' x (memLk x _ hl)
        · have hb : (k == NameKind.free) = false := by simpa using hf
          simp only [Option.map_some, hb, Bool.false_eq_true, if_false, Option.some.injEq] at e
          exact absurd e (hcell _ (memLk x _ hl))
    · obtain ⟨v, hv⟩ := S₂.cells x a (hcl x a hx); exact ⟨v, hv.keeps old⟩
    · obtain ⟨e1, e2⟩ := hcaps.get e
      have hcl2 := hcl' x (memLk x _ e2)
      have hck : c.env.kindOf x = some .cell := (ok.kindOk x).trans (hfree _ (memLk x _ e2) rfl)
      rcases S₂.vars x p e1 with ⟨k, _⟩ | ⟨k, cc, v, hc, hv, r⟩
      · have k' : c.env.kindOf x = some .local := k
        rw [hck] at k'; cases k'
      · obtain ⟨a, ha⟩ := hcl2
        have hac : a = cc := by
          have := hcl x a ha
          have hc' : c.env.cells.lookup x = some cc := hc
          rw [hc'] at this; exact (Option.some.inj this).symm
        subst hac
        refine .inr ⟨(hkOk x).trans (by show (scope.names.lookup x).map _ = _; rw [e2]; rfl), a, v, ha, hv.keeps old, VR.ext (ev₁ _) nw nbEx r⟩
    · exact BoxIs.ext (ev₁ _) nw nbEx (S₂.boxes a o ha) fun o e => old a o e
    · rcases ha with rfl | ⟨x, hx⟩
      · exact absurd (hDe ▸ S₂.ltB _ (Cx.dom_B q)) (Nat.not_lt.mpr hD')
      · exact S₂.own a q (.inr ⟨x, hcl x a hx⟩)
    · rcases List.mem_cons.mp q with rfl | q
      · rw [hsz₁]; exact Nat.lt_add_of_pos_right (by decide)
      · exact Nat.lt_of_lt_of_le (S₂.exLt a q) sz12
    · rcases List.mem_cons.mp q' with rfl | q'
      · exact absurd (hDe ▸ S₂.ltB _ (Cx.dom_B q)) (Nat.lt_irrefl _)
      · exact S₂.exApart a q q'
  have hfn : c'.fn = false := rfl
  have hvk : ∀ y p, List.lookup y vars' = some p → c'.env.kindOf y = some .cell := fun y p e => (hkOk y).trans (by show (scope.names.lookup y).map _ = _; rw [(hcaps.get e).2]; rfl)
  have wrLt : ∀ b ∈ wr, b < D := fun b q => hDe ▸ S₂.exLt b (List.mem_append_left _ q)
  have hoW : ∀ b ∈ wr, ¬ Frm c' b ∧ c'.hb.objs.size ≤ b := fun b q => ⟨fun qf => by
    rcases qf with rfl | ⟨x, hx⟩
    · exact absurd (wrLt _ q) (Nat.not_lt.mpr hD')
    · exact (hfp b (P.sub b q)).2.1 (.inr ⟨x, hcl x b hx⟩), (hwr b q).2⟩
  have nDF : ¬ Frm c' D := fun qf => by
    rcases qf with q | ⟨x, hx⟩
    · exact hDC q
    · exact absurd (frmLt D (.inr ⟨x, hcl x D hx⟩)) (Nat.lt_irrefl _)
  have hbD : c'.hb.objs.size ≤ D := hDe ▸ S₂.size
  have nDwr : D ∉ wr := fun q => absurd (wrLt _ q) (Nat.lt_irrefl _)
  have nCfp : ∀ b ∈ fp, b ≠ C ∧ b ≠ D := fun b q => ⟨fun e => absurd (hfp b q).1 (by rw [e]; exact Nat.not_lt.mpr hD'), fun e => absurd (hfp b q).1 (by rw [e]; exact Nat.lt_irrefl _)⟩
  -- the loop
  have loop : ∀ s₃ : Shared, s₃.heap = h₁ → Rest s s₃ → codeAny c.M c.A (.compLoop (.ListComp elt [⟨target, iter, ifs, 0⟩] scope pos) 0 (.ref IA) (.ref D) (compEnvC scope cl C c.env)) (R (.ref D) C) s₃ := by
    intro s₃ hs₃ hr₃
    refine comp_loop (fun n s' => ∃ i acc bx vs, i ≤ items.length ∧ n = items.length + 1 - i ∧ T i s'.heap ∧ St c' ⟨vars', bx, g₁.ro⟩ s'.heap ∧ dom bx = g₁.wr ∧ (∀ e ∈ src, VR (c'.B ⟨vars', bx, g₁.ro⟩) s'.heap e.1 e.2) ∧
        LstAt s'.heap D vs ∧ VRs (c'.B ⟨vars', bx, g₁.ro⟩) s'.heap acc vs ∧ acc.length ≤ i ∧ I (items.drop i) acc bx ∧
        (∀ b o, b ∉ g₁.wr → b ∉ wr → b ≠ D → b ≠ C → h₁.get? b = some o → s'.heap.get? b = some o) ∧ h₁.objs.size ≤ s'.heap.objs.size ∧ Rest s s') ?_ (items.length + 1)
      ⟨0, [], g₁.bx, [], Nat.zero_le _, rfl, hs₃ ▸ P.frame _ _ _ hT (fun b _ o e => old b o e), hs₃ ▸ S₁, rfl, fun e he => hs₃ ▸ VR.ext (ev₁ _) nw nbEx (hsrc e he), hs₃ ▸ hD₁, rfl, Nat.zero_le _, hI, fun b o _ _ _ _ e => hs₃ ▸ e, hs₃ ▸ Nat.le_refl _, hr₃⟩
    rintro n s₄ ⟨i, acc, bx, vs, hi, rfl, hT₄, S₄, hd₄, hsrc₄, hD₄, racc, hacc, hI₄, ev₄, sz₄, hr₄⟩
    rcases Nat.lt_or_ge i items.length with hlt | hge
    · have hp : items[i]? = some items[i] := List.getElem?_eq_getElem hlt
      rw [List.drop_eq_getElem_cons hlt] at hI₄
      refine grows (wpAny_mono (P.item i items[i] s₄ (fun v s₅ => s₄.heap.objs.size ≤ s₅.heap.objs.size → wpAny c.M c.A (assign target c'.env v) (fun _ s₂ =>
          wpAny c.M c.A (forIn ifs true fun e r => if r = true then do let ok ← isTrue e c'.env (eval e c'.env); pure (ForInStep.yield ok) else pure (ForInStep.yield r)) (fun ok s₃ =>
            if ok = true then wpAny c.M c.A (eval elt c'.env) (fun x s₄' =>
              wpAny c.M c.A (call (.builtin "list.append") [.ref D, x]) (fun _ s₅' => ∃ m, m < items.length + 1 - i ∧ ∃ i acc bx vs, i ≤ items.length ∧ m = items.length + 1 - i ∧ T i s₅'.heap ∧ St c' ⟨vars', bx, g₁.ro⟩ s₅'.heap ∧ dom bx = g₁.wr ∧ (∀ e ∈ src, VR (c'.B ⟨vars', bx, g₁.ro⟩) s₅'.heap e.1 e.2) ∧
                LstAt s₅'.heap D vs ∧ VRs (c'.B ⟨vars', bx, g₁.ro⟩) s₅'.heap acc vs ∧ acc.length ≤ i ∧ I (items.drop i) acc bx ∧ (∀ b o, b ∉ g₁.wr → b ∉ wr → b ≠ D → b ≠ C → h₁.get? b = some o → s₅'.heap.get? b = some o) ∧ h₁.objs.size ≤ s₅'.heap.objs.size ∧ Rest s s₅') NoExc s₄') NoExc s₃
            else ∃ m, m < items.length + 1 - i ∧ ∃ i acc bx vs, i ≤ items.length ∧ m = items.length + 1 - i ∧ T i s₃.heap ∧ St c' ⟨vars', bx, g₁.ro⟩ s₃.heap ∧ dom bx = g₁.wr ∧ (∀ e ∈ src, VR (c'.B ⟨vars', bx, g₁.ro⟩) s₃.heap e.1 e.2) ∧
                LstAt s₃.heap D vs ∧ VRs (c'.B ⟨vars', bx, g₁.ro⟩) s₃.heap acc vs ∧ acc.length ≤ i ∧ I (items.drop i) acc bx ∧ (∀ b o, b ∉ g₁.wr → b ∉ wr → b ≠ D → b ≠ C → h₁.get? b = some o → s₃.heap.get? b = some o) ∧ h₁.objs.size ≤ s₃.heap.objs.size ∧ Rest s s₃) NoExc s₂) NoExc s₅) NoExc hp hT₄
          (fun v h' tk hv hT₅ hk hgs => ?_)) (fun r s₅ ⟨v, e, hr⟩ hsz₅ => ?_) fun _ _ e => e.elim)
      · obtain ⟨S₅, up⟩ := St.walkG S₄ (wr := wr) (fun b q => .tail _ (List.mem_append_left _ q)) hk hgs hoW
        have hsrc₅ : ∀ e ∈ src, VR (c'.B ⟨vars', bx, g₁.ro⟩) h' e.1 e.2 := fun e he => up _ _ (hsrc₄ e he)
        have racc₅ : VRs (c'.B ⟨vars', bx, g₁.ro⟩) h' acc vs := VRs.of_pointwise racc.length fun j p u hp hu => by
          obtain ⟨u', hu', ru⟩ := racc.get hp
          rw [hu] at hu'; cases hu'
          exact up _ _ ru
        have hD₅ : LstAt h' D vs := by obtain ⟨k, e⟩ := hD₄; exact ⟨k, hk D _ nDwr e⟩
        have rv := hv _ S₄.ltB hsrc₅
        have ht := hturn cl C (D :: (wr ++ c.ex)) items[i] (items.drop (i + 1)) acc bx hd₄ hI₄
        refine wpAny_mono (ht { s₄ with heap := h', toks := tk } v S₅ rv) (fun _ s₆ hz3 => ?_) fun _ _ e => e
        obtain ⟨g₆, h₆, x₆⟩ := hz3
        refine wpAny_mono (h₆ s₆ x₆.st) (fun okb s₇ hz4 => ?_) fun _ _ e => e
        obtain ⟨g₇, h₇, x₇⟩ := hz4
        have y₇ : Step c' (Own c') ⟨vars', bx, g₁.ro⟩ { s₄ with heap := h', toks := tk } g₇ s₇ := x₆.trans x₇.toOwn
        -- what a turn leaves
        have keepD : ∀ {g₈ : Gh} {s₈ : Shared}, Step c' (Own c') ⟨vars', bx, g₁.ro⟩ { s₄ with heap := h', toks := tk } g₈ s₈ → LstAt s₈.heap D vs := fun {g₈ s₈} y => by
          obtain ⟨k, e⟩ := hD₅
          exact ⟨k, y.ev.ext D _ e (fun q => S₅.exApart D (Gh.wr_dom q) (.head _)) (fun q => nDF (Own.frm q))⟩
        have keepT : ∀ {g₈ : Gh} {s₈ : Shared}, Step c' (Own c') ⟨vars', bx, g₁.ro⟩ { s₄ with heap := h', toks := tk } g₈ s₈ → T (i + 1) s₈.heap := fun {g₈ s₈} y => P.frame _ _ _ hT₅ fun b hb o e => by
          refine y.ev.ext b o e (fun q => (hfp b hb).2.2 (hd₄ ▸ q)) (fun q => ?_)
          rcases q with q | q
          · exact (nCfp b hb).1 q
          · cases q.1
        have keepE : ∀ {g₈ : Gh} {s₈ : Shared}, Step c' (Own c') ⟨vars', bx, g₁.ro⟩ { s₄ with heap := h', toks := tk } g₈ s₈ → ∀ b o, b ∉ g₁.wr → b ∉ wr → b ≠ D → b ≠ C → h₁.get? b = some o → s₈.heap.get? b = some o := fun {g₈ s₈} y b o n1 n2 n3 n4 e => by
          refine y.ev.ext b o (hk b o n2 (ev₄ b o n1 n2 n3 n4 e)) (fun q => n1 (hd₄ ▸ q)) (fun q => ?_)
          rcases q with q | q
          · exact n4 q
          · cases q.1
        have eqB : ∀ {g₈ : Gh}, g₈.ro = g₁.ro → c'.B g₈ = c'.B ⟨vars', g₈.bx, g₁.ro⟩ := fun {g₈} e => by
          show dom (g₈.bx ++ g₈.ro) ++ _ = dom (g₈.bx ++ g₁.ro) ++ _; rw [e]
        cases okb with
        | false =>
          obtain ⟨e1, e2, e3⟩ := h₇.1 rfl
          have S₇ := S₅.regain y₇.down hfn hvk
          rw [e1] at S₇
          exact ⟨items.length + 1 - (i + 1), by omega, i + 1, acc, g₇.bx, vs, hlt, rfl, keepT y₇, S₇, e2, fun e he => eqB e1 ▸ y₇.vrO S₅ (hsrc₅ e he), keepD y₇, eqB e1 ▸ y₇.vrsO S₅ racc₅, Nat.le_succ_of_le hacc, e3, keepE y₇,
            Nat.le_trans sz₄ (Nat.le_trans hgs y₇.ev.size), Rest.trans (s' := { s₄ with heap := h', toks := tk }) hr₄ y₇.rest⟩
        | true =>
          refine wpAny_mono (h₇.2 rfl s₇ x₇.st) (fun u s₈ hz5 => ?_) fun _ _ e => e
          obtain ⟨p, g₈, ⟨e1, e2, e3⟩, r₈, x₈⟩ := hz5
          have y₈ := y₇.trans x₈.toOwn
          have S₈ := S₅.regain y₈.down hfn hvk
          rw [e1] at S₈
          have hvl : vs.length ≤ sizeLine := by rw [racc.length]; omega
          refine wpAny_list_append_plain (hsz := by simpa using hvl) (keepD y₈).plain fun h₉ hl₉ hs₉ => ?_
          obtain ⟨S₉, up₉⟩ := St.walkG S₈ (wr := [D]) (h' := h₉) (fun b q => by rw [List.mem_singleton.mp q]; exact .head _) (fun b o nb e => (hs₉.2 b fun q => nb (by simp [q])).trans e) (Nat.le_of_eq hs₉.1.symm)
            (fun b q => by rw [List.mem_singleton.mp q]; exact ⟨nDF, hbD⟩)
          have toV : ∀ {p v}, VR (c'.B g₈) s₈.heap p v → VR (c'.B ⟨vars', g₈.bx, g₁.ro⟩) h₉ p v := fun r => up₉ _ _ (eqB e1 ▸ r)
          refine ⟨items.length + 1 - (i + 1), by omega, i + 1, acc ++ [p], g₈.bx, vs ++ [u], hlt, rfl, P.frame _ _ _ (keepT y₈) (fun b hb o e => (hs₉.2 b (nCfp b hb).2).trans e), S₉, e2, fun e he => toV (y₈.vrO S₅ (hsrc₅ e he)), ?_,
            VRs.append ?_ (VRs.one (toV r₈)), by rw [List.length_append, List.length_singleton]; omega, e3, fun b o n1 n2 n3 n4 e => (hs₉.2 b n3).trans (keepE y₈ b o n1 n2 n3 n4 e), ?_, Rest.trans (s' := { s₄ with heap := h', toks := tk }) hr₄ y₈.rest⟩
          · obtain ⟨k, e⟩ := hl₉; exact ⟨k, by simpa using e⟩
          · have ra := y₈.vrsO S₅ racc₅
            exact VRs.of_pointwise ra.length fun j p u hp hu => by
              obtain ⟨u', hu', ru⟩ := ra.get hp
              rw [hu] at hu'; cases hu'
              exact toV ru
          · rw [hs₉.1]; exact Nat.le_trans sz₄ (Nat.le_trans hgs y₈.ev.size)
      · subst e
        exact grows (wpAny_mono hr (fun _ s₆ h₆ hs₆ => h₆ (Nat.le_trans hsz₅ hs₆)) fun _ _ e => e.elim)
    · obtain rfl : i = items.length := Nat.le_antisymm hi hge
      rw [List.drop_length] at hI₄
      refine grows (wpAny_mono (P.done s₄ (fun s₅ => s₄.heap.objs.size ≤ s₅.heap.objs.size → R (.ref D) C (.ok .next) s₅) NoExc hT₄ fun h' tk hk hgs => ?_) (fun r s₅ ⟨e, hr⟩ hsz₅ => ?_) fun _ _ e => e.elim)
      · obtain ⟨S₅, up⟩ := St.walkG S₄ (wr := wr) (fun b q => .tail _ (List.mem_append_left _ q)) hk hgs hoW
        have hD₅ : LstAt h' D vs := by obtain ⟨k, e⟩ := hD₄; exact ⟨k, hk D _ nDwr e⟩
        have racc₅ : VRs (c'.B ⟨vars', bx, g₁.ro⟩) h' acc vs := VRs.of_pointwise racc.length fun j p u hp hu => by
          obtain ⟨u', hu', ru⟩ := racc.get hp
          rw [hu] at hu'; cases hu'
          exact up _ _ ru
        have fewB : ∀ a ∈ c.B ⟨g₁.vars, bx, g₁.ro⟩, a ∈ c'.B ⟨vars', bx, g₁.ro⟩ := fun a q => by
          rcases List.mem_append.mp q with q | q
          · exact List.mem_append_left _ q
          · exact List.mem_append_right _ (.tail _ (List.mem_append_right _ q))
        have evS : ∀ b o, b ∉ g₁.wr → b ∉ wr → s₂.heap.get? b = some o → h'.get? b = some o := fun b o n1 n2 e => by
          have lt : b < D := hDe ▸ Heap.lt_size e
          exact hk b o n2 (ev₄ b o n1 n2 (Nat.ne_of_lt lt) (Nat.ne_of_lt (Nat.lt_of_lt_of_le lt hD')) (old b o e))
        have szS : s₂.heap.objs.size ≤ h'.objs.size := Nat.le_trans sz12 (Nat.le_trans sz₄ hgs)
        have hDg : Gh.dom ⟨g₁.vars, bx, g₁.ro⟩ = g₁.dom := dom_append hd₄
        have ndB : (dom (bx ++ g₁.ro)).Nodup := by rw [dom_append hd₄]; exact S₂.nodup
        have hoO : ∀ b ∈ wr, ¬ Frm c b ∧ c.hb.objs.size ≤ b := fun b q => ⟨(hfp b (P.sub b q)).2.1, (hwr b q).2⟩
        have So := St.afterX (c := c) S₂ evS szS hoO (fun a q => .inl (hd₄ ▸ q)) (fun a q => hd₄.symm ▸ q) ndB (fun a o ha => BoxIs.ext (Ev.refl (W := NoW)) (fun _ q => q.elim) (fun b q => .inl (fewB b q)) (S₅.boxes a o ha) fun _ e => e)
        have fewD : ∀ a ∈ c.B ⟨g₁.vars, (D, .lst acc) :: bx, g₁.ro⟩, a ∈ c'.B ⟨vars', bx, g₁.ro⟩ := fun a q => by
          have q' : a ∈ D :: (dom (bx ++ g₁.ro) ++ c.ex) := q
          rcases List.mem_cons.mp q' with rfl | q'
          · exact List.mem_append_right _ (.head _)
          · rcases List.mem_append.mp q' with q' | q'
            · exact List.mem_append_left _ q'
            · exact List.mem_append_right _ (.tail _ (List.mem_append_right _ q'))
        have nDd : D ∉ g₁.dom := fun q => absurd (hDe ▸ S₂.ltB D (Cx.dom_B q)) (Nat.lt_irrefl _)
        have Sb : St c ⟨g₁.vars, (D, .lst acc) :: bx, g₁.ro⟩ h' := St.afterX (c := c) S₂ evS szS hoO (fun a q => by
            have q' : a ∈ D :: dom bx := q
            rcases List.mem_cons.mp q' with rfl | q'
            · exact .inr (Nat.le_of_eq hDe)
            · exact .inl (hd₄ ▸ q')) (fun a q => by show a ∈ D :: dom bx; rw [hd₄]; exact .tail _ q) (List.nodup_cons.mpr ⟨fun q => nDd (hDg ▸ q), ndB⟩) (fun a o ha => by
            have ha' : (a, o) ∈ (D, PO.lst acc) :: (bx ++ g₁.ro) := ha
            rcases List.mem_cons.mp ha' with e | ha'
            · cases e; exact ⟨vs, hD₅, Nat.le_trans hacc hsz, VRs.fewer fewD racc₅⟩
            · exact BoxIs.ext (Ev.refl (W := NoW)) (fun _ q => q.elim) (fun b q => .inl (fewD b q)) (S₅.boxes a o ha') fun _ e => e)
        have stp : Step c NoW g s ⟨g₁.vars, bx, g₁.ro⟩ { s₄ with heap := h', toks := tk } := by
          refine ⟨So, ⟨fun a o e nb _ => ?_, Nat.le_trans x₁.ev.size szS⟩, fun a q => x₁.dom a (hDg ▸ q), fun a q => x₁.wr a (hd₄ ▸ q), hr₄⟩
          refine evS a o (fun q => ?_) (fun q => absurd (Heap.lt_size e) (Nat.not_lt.mpr (hwr a q).1)) (x₁.ev.ext a o e nb id)
          rcases x₁.wr a q with q | q
          · exact nb q
          · exact absurd (Heap.lt_size e) (Nat.not_lt.mpr q)
        have sD : s.heap.objs.size ≤ D := hDe ▸ x₁.ev.size
        have hal : acc.length ≤ items.length := hacc
        exact hR D C _ acc _ (hfin acc bx hd₄ hal hI₄) Sb stp ⟨D, vs, rfl, hD₅, fun q => (by
            rcases List.mem_append.mp q with q | q
            · exact S₅.exApart D q (.head _)
            · exact absurd (hDe ▸ S₂.exLt D (List.mem_append_right _ q)) (Nat.lt_irrefl _)), Nat.le_trans hal hsz, VRs.fewer fewB racc₅⟩ sD S₅.ns nCF
          (fun q => by rw [hDg] at q; exact absurd (hDe ▸ S₂.ltB _ (Cx.dom_B q)) (Nat.not_lt.mpr hD')) (Nat.le_trans hbD hD') (Nat.le_trans sD hD')
      · subst e; exact hr hsz₅
  refine codeAny_compStart_list (loop _ rfl x₁.rest) ?_
  exact P.self 0 _ _ _ (P.frame _ _ _ hT (fun b _ o e => old b o e)) (loop _ rfl x₁.rest)

end Mine

namespace Mine
open PySem PyProof.Rows

theorem Ns_notSeq {h : Heap} {C : Addr} {m : Str → Option Value} (hn : h.Ns C m) : NotSeq h C := by
  obtain ⟨o, es, ep, ho, hd, _⟩ := hn
  intro o' xs n e hh
  rw [ho] at e; cases e; rw [hd] at hh; cases hh

/-- behind the end of a block: its dict turns -/
theorem Step.turned {c : Cx} {W : Addr → Prop} {g g' : Gh} {s s' s'' : Shared} {C : Addr} (x : Step c W g s g' s') (hs : Heap.SameBut C s'.heap s''.heap) (hm : ∃ m, s'.heap.Ns C m) (hF : ¬ Frm c C) (hd : C ∉ g'.dom) (hb : c.hb.objs.size ≤ C) (hC : s.heap.objs.size ≤ C) (hr : Rest s' s'' := by exact ⟨rfl, rfl⟩) :
    Step c W g s g' s'' ∧ (∀ p v, VR (c.B g') s'.heap p v → VR (c.B g') s''.heap p v) := by
  obtain ⟨m, hm⟩ := hm
  have y := x.st.turned hs hF hd hb (Ns_notSeq hm)
  refine ⟨⟨y.st, ⟨fun a o e nb nw => ?_, Nat.le_trans x.ev.size y.ev.size⟩, x.dom, x.wr, x.rest.trans hr⟩, fun p v r => ?_⟩
  · exact (hs.2 a fun q => absurd (Heap.lt_size e) (Nat.not_lt.mpr (q ▸ hC))).trans (x.ev.ext a o e nb nw)
  · exact VR.ext (W := fun a => a = C) (Ev.of_sameBut hs (.inr rfl)) (fun a e => e ▸ Ns_notSeq hm) (fun a q => .inl q) r

section
variable {c : Cx} {E : Exc} {g : Gh}

theorem comp_facts {scope : Scope} (S : CxOk c) (hok : compOk c.kind scope = true) :
    (∃ cl, closureFor scope c.env = pure cl ∧ (∀ x a, cl.lookup x = some a → c.env.cells.lookup x = some a) ∧ (∀ x, (x, NameKind.free) ∈ scope.names → ∃ a, cl.lookup x = some a)) ∧ scope.kind = .function ∧
      (∀ x ∈ scope.names, x.2 = .local → scope.names.lookup x.1 = some .local) := by
  have hok' := Bool.and_eq_true_iff.mp hok
  have hall := List.all_eq_true.mp hok'.2
  refine ⟨closure_of fun n hn => S.cellOk n ?_, by simpa using hok'.1, fun y hy e => ?_⟩
  · have := (Bool.and_eq_true_iff.mp (Bool.and_eq_true_iff.mp (hall _ hn)).1).2
    rw [S.kindOk]
    simpa using this
  · have := (Bool.and_eq_true_iff.mp (hall y hy)).2
    rw [e] at this
    simpa using this

/-! ## a list that is new -/
def WEF (c : Cx) (E : Exc) (e : Expr) (g : Gh) (Q : List PV → Prop) : Prop := ∀ s, St c g s.heap →
  wpAny c.M c.A (eval e c.env) (fun v s' => ∃ xs a, Q xs ∧ v = .ref a ∧ s.heap.objs.size ≤ a ∧ VR (c.B g) s'.heap (.lst xs) (.ref a) ∧ Step c NoW g s g s' ∧ St c ⟨g.vars, (a, .lst xs) :: g.bx, g.ro⟩ s'.heap) E s
theorem WE_of_WEF {e : Expr} {Q : PV → Gh → Prop} (h : WEF c E e g fun xs => Q (.lst xs) g) : WE c E e g Q := fun s S =>
  wpAny_mono (h s S) (fun v s' hz1 => by obtain ⟨xs, a, hq, e, _, r, x, _⟩ := hz1; exact ⟨.lst xs, g, hq, e ▸ r, x⟩) fun _ _ e => e

/-! ## comprehensions -/
theorem WE_ListComp {elt target iter : Expr} {ifs : List Expr} {scope : Scope} {pos : Pos} {Q : PV → Gh → Prop}
    (h : WIter c E iter target g fun items g₁ => CompAt c scope target elt ifs items g₁ fun acc g₂ => Q (.lst acc) g₂)
    (hok : compOk c.kind scope = true := by rfl) (hs : ∀ x, foldedSetIterable iter c.env x = pure x := by intro _; rfl) :
    WE c E (.ListComp elt [⟨target, iter, ifs, 0⟩] scope pos) g Q := fun s S => by
  obtain ⟨⟨cl, hclos, h1, h2⟩, hkind, hnames⟩ := comp_facts S.ok hok
  unfold WVal
  rw [eval_ListComp]
  refine wpAny_comprehension_free (use := none) rfl hs hclos hkind hnames (comp_core S hok h1 h2 h ?_)
  intro D C g' acc s' hq hbx x r hD hm hF hd hb hC
  obtain ⟨m, hm'⟩ := id hm
  refine ⟨m, hm', fun h'' hs'' => ?_⟩
  obtain ⟨y, up⟩ := x.turned (s'' := { s' with heap := h'' }) hs'' hm hF hd hb hC
  exact ⟨_, g', hq, up _ _ r, y⟩
theorem swaps_true {elt : Expr} {gens : List Comprehension} {scope : Scope} {pos py : Pos} {y : Str} {n : Nat} (ok : CxOk c) (hk : c.kind y = some .local) (hl : (py.line == pos.line) = true)
    (hn : (scope.names.any fun e => e.1 == y && (e.2 == .local || e.2 == .cell)) = false) : swapsWith (.ListComp elt gens scope pos) (some (.Name y py)) n c.env = pure true := by
  show (pure (c.env.blockKind == .function && c.env.kindOf y == some .local && py.line == pos.line && !(scope.names.any fun e => e.1 == y && (e.2 == .local || e.2 == .cell))) : Sem Bool) = pure true
  have : c.env.blockKind = .function := by unfold Env.blockKind; rw [ok.kind]; rfl
  rw [this, ok.kindOk, hk, hl, hn]; rfl
/-- x = [.. for ..], x a plain local on the same line: the stores are exchanged -/
theorem WS_AssignComp {elt target iter : Expr} {ifs : List Expr} {scope : Scope} {pos py spos : Pos} {y : Str} {rest : List Stmt} {Q : PF → Gh → Prop}
    (h : WIter c E iter target g fun items g₁ => CompAt c scope target elt ifs items g₁ fun acc g₂ => WS c E rest (g₂.set y (.lst acc)) Q)
    (hy : c.kind y = some .local := by rfl) (hl : (py.line == pos.line) = true := by rfl) (hn : (scope.names.any fun e => e.1 == y && (e.2 == .local || e.2 == .cell)) = false := by rfl)
    (hok : compOk c.kind scope = true := by rfl) (hs : ∀ x, foldedSetIterable iter c.env x = pure x := by intro _; rfl) :
    WS c E (.Assign [.Name y py] (.ListComp elt [⟨target, iter, ifs, 0⟩] scope pos) spos :: rest) g Q := WS_cons fun s S => by
  obtain ⟨⟨cl, hclos, h1, h2⟩, hkind, hnames⟩ := comp_facts S.ok hok
  rw [exec_Assign_Name_used _ _ _ _ (swaps_true S.ok hy hl hn)]
  refine wpAny_bind (wpAny_standAt (wpAny_bind ?_))
  show wpAny _ _ (do let _ ← comprehension (.ListComp elt [⟨target, iter, ifs, 0⟩] scope pos) scope c.env _ (newList []) false (eval iter c.env) (some (assign (.Name y py) c.env))) _ _ s
  refine wpAny_bind (wpAny_mono (wpAny_comprehension_free (use := some (assign (.Name y py) c.env)) (Q := fun _ s' => ∃ pf g', Then c E rest Q pf g' ∧ FlowR (c.B g') s'.heap pf .next ∧ Step c (Own c) g s g' s') rfl hs hclos hkind hnames
    (comp_core S hok h1 h2 h ?_)) (fun _ s' hq => wpAny_pure (wpAny_pure hq)) fun _ _ e => e)
  intro D C g' acc s' hq hbx x r hD hm hF hd hb hC
  refine wpAny_assign_Name (store x.st r (.inl hy) fun s'' x' => ?_)
  have hm'' : ∃ m, s''.heap.Ns C m := by
    obtain ⟨m, hm'⟩ := hm
    exact ⟨m, hm'.at' fun o e => x'.ev.ext C o e (fun q => hd (Gh.wr_dom q)) (fun q => hF q.frm)⟩
  obtain ⟨m, hmm⟩ := id hm''
  refine ⟨m, hmm, fun h3 hs3 => ?_⟩
  have z := (x.toOwn.trans x').turned (s'' := { s'' with heap := h3 }) hs3 hm'' hF hd hb hC
  exact ⟨.next, _, hq, rfl, z.1⟩

/-! ## boxes -/
/-- a new list, of items that stood -/
theorem fresh_lst {h h' : Heap} {xs : List PV} {vs : List Value} {a : Addr} (S : St c g h) (hk : ∀ b o, h.get? b = some o → h'.get? b = some o) (hs : h.objs.size ≤ h'.objs.size) (ha : h.objs.size ≤ a) (hl : LstAt h' a vs) (hz : xs.length ≤ sizeLine)
    (r : VRs (c.B g) h xs vs) : VR (c.B g) h' (.lst xs) (.ref a) ∧ HStep c NoW g h g h' ∧ St c ⟨g.vars, (a, .lst xs) :: g.bx, g.ro⟩ h' := by
  have x : HStep c NoW g h g h' := HStep.keeps S hk hs
  have nd : a ∉ c.B g := fun q => absurd (S.ltB a q) (Nat.not_lt.mpr ha)
  have nbB : ∀ b ∈ c.B ⟨g.vars, (a, .lst xs) :: g.bx, g.ro⟩, b ∈ c.B g ∨ h.objs.size ≤ b := fun b q => by
    have q' : b ∈ a :: c.B g := q
    rcases List.mem_cons.mp q' with rfl | q'
    · exact .inr ha
    · exact .inl q'
  refine ⟨⟨a, vs, rfl, hl, nd, hz, x.vrs r⟩, x, ?_⟩
  have evD := x.evD
  have nw : ∀ b, NoW b → NotSeq h b := fun _ q => q.elim
  have T := x.st
  refine ⟨T.ok, T.ns, T.cells, fun y p e => ?_, fun b o hb => ?_, List.nodup_cons.mpr ⟨fun q => nd (Cx.dom_B q), T.nodup⟩, fun b q => ?_, fun b q => ?_, fun b q => ?_, fun b q => .tail _ (T.lentIn b q), T.keep, T.size, T.exLt, fun b q => ?_⟩
  · rcases S.vars y p e with ⟨k, m, v, hn, hm, r⟩ | ⟨k, cc, v, hc, hm, r⟩
    · exact .inl ⟨k, m, v, hn.keeps hk, hm, VR.ext evD nw nbB r⟩
    · exact .inr ⟨k, cc, v, hc, hm.keeps hk, VR.ext evD nw nbB r⟩
  · have hb' : (b, o) ∈ (a, PO.lst xs) :: (g.bx ++ g.ro) := hb
    rcases List.mem_cons.mp hb' with e | hb'
    · cases e
      exact ⟨vs, hl, hz, VRs.ext evD nw nbB r⟩
    · exact BoxIs.ext evD nw nbB (S.boxes b o hb') fun o e => hk b o e
  · have q' : b ∈ a :: g.dom := q
    rcases List.mem_cons.mp q' with rfl | q'
    · exact fun z => absurd (S.ownLt _ z) (Nat.not_lt.mpr ha)
    · exact T.own b q'
  · have q' : b ∈ a :: g.wr := q
    rcases List.mem_cons.mp q' with rfl | q'
    · exact .inr (Nat.le_trans S.size ha)
    · exact T.lent b q'
  · have q' : b ∈ a :: g.dom := q
    rcases List.mem_cons.mp q' with rfl | q'
    · exact Nat.le_trans (Nat.le_trans S.ok.h0size S.size) ha
    · exact T.boxAbove b q'
  · have q' : b ∈ a :: g.dom := q
    rcases List.mem_cons.mp q' with rfl | q'
    · exact fun z => absurd (S.exLt _ z) (Nat.not_lt.mpr ha)
    · exact T.exApart b q'

theorem WEF_List {elts pos} {Q : List PV → Prop} (h : WEs c E elts g fun ps g₁ => g₁ = g ∧ ps.length ≤ sizeLine ∧ Q ps) : WEF c E (.List elts pos) g Q := fun s S => by
  refine wpAny_List (wpAny_mono (h pos s S) (fun vs s₁ hz4 => ?_) fun _ _ e => e)
  obtain ⟨ps, g₁, ⟨e, hl, h₁⟩, r₁, x₁⟩ := hz4
  subst e
  obtain ⟨f1, f2, f3⟩ := fresh_lst x₁.st (h' := s₁.heap.push { cls := .type "list", data := .seq vs.toArray }) (a := s₁.heap.objs.size) (fun b o e => Heap.get?_push_of_some _ e) (by simp) (Nat.le_refl _) ⟨_, Heap.get?_push_size _ rfl⟩ hl r₁
  exact ⟨by rw [r₁.length]; exact hl, ps, _, h₁, rfl, x₁.ev.size, f1, x₁.trans f2.up, f3⟩

/-- x = <a new list>: a box -/
theorem WS_AssignBox {x : Str} {pos' : Pos} {value : Expr} {pos : Pos} {rest : List Stmt} {Q : PF → Gh → Prop} (h : WEF c E value g fun xs => ∀ a, WS c E rest ⟨(x, .box a) :: g.vars, (a, .lst xs) :: g.bx, g.ro⟩ Q) (hk : Kept c x)
    (hs : CxOk c → swapsWith value (some (.Name x pos')) pos.line c.env = pure false := by intro _; rfl) : WS c E (.Assign [.Name x pos'] value pos :: rest) g Q := WS_cons fun s S => by
  refine wpAny_Assign_Name (wpAny_mono (h s S) (fun v s₁ hz5 => ?_) fun _ _ e => e) (hs S.ok)
  obtain ⟨xs, a, h₁, e, ha, r₁, x₁, S₁⟩ := hz5
  subst e
  refine store (p := .box a) S₁ rfl hk fun s₂ x₂ => ⟨.next, _, h₁ a, rfl, x₂.st, ⟨fun b o e nb nw => ?_, Nat.le_trans x₁.ev.size x₂.ev.size⟩, fun b q => ?_, fun b q => ?_, x₁.rest.trans x₂.rest⟩
  · refine x₂.ev.ext b o (x₁.ev.ext b o e nb id) (fun q => ?_) nw
    have q' : b ∈ a :: g.wr := q
    rcases List.mem_cons.mp q' with rfl | q'
    · exact absurd (Heap.lt_size e) (Nat.not_lt.mpr ha)
    · exact nb q'
  · have q' : b ∈ a :: g.dom := q
    rcases List.mem_cons.mp q' with rfl | q'
    · exact .inr ha
    · exact .inl q'
  · have q' : b ∈ a :: g.wr := q
    rcases List.mem_cons.mp q' with rfl | q'
    · exact .inr ha
    · exact .inl q'
end

end Mine

namespace Mine
open PySem PyProof.Rows

/-- one box changed -/
inductive At : List (Addr × PO) → Addr → PO → PO → List (Addr × PO) → Prop where
  | head {a o o' r} : At ((a, o) :: r) a o o' ((a, o') :: r)
  | tail {e r a o o' r'} : At r a o o' r' → At (e :: r) a o o' (e :: r')
theorem At.mem {bx a o o' bx'} (h : At bx a o o' bx') : (a, o) ∈ bx := by
  induction h with
  | head => exact .head _
  | tail _ ih => exact .tail _ ih
theorem At.dom {bx a o o' bx'} (h : At bx a o o' bx') : Mine.dom bx' = Mine.dom bx := by
  induction h with
  | head => rfl
  | tail _ ih => exact congrArg (_ :: ·) ih
theorem At.cases {bx a o o' bx'} (h : At bx a o o' bx') : ∀ e ∈ bx', e = (a, o') ∨ e ∈ bx := by
  induction h with
  | head => intro e he; rcases List.mem_cons.mp he with rfl | he; exact .inl rfl; exact .inr (.tail _ he)
  | tail _ ih => intro e he; rcases List.mem_cons.mp he with rfl | he; exact .inr (.head _); exact (ih e he).imp id fun q => .tail _ q

theorem At.mem' {bx a o o' bx'} (h : At bx a o o' bx') : (a, o') ∈ bx' := by
  induction h with
  | head => exact .head _
  | tail _ ih => exact .tail _ ih
theorem dom_uniq {b : Addr} {p q : PO} : ∀ {l : List (Addr × PO)}, (dom l).Nodup → (b, p) ∈ l → (b, q) ∈ l → p = q
  | [], _, h, _ => by cases h
  | e :: r, nd, h, h' => by
    obtain ⟨n1, n2⟩ := List.nodup_cons.mp nd
    have key : ∀ {x : PO}, (b, x) ∈ r → b ∈ dom r := fun {x} hx => List.mem_map.mpr ⟨(b, x), hx, rfl⟩
    rcases List.mem_cons.mp h with h | h <;> rcases List.mem_cons.mp h' with h' | h'
    · rw [← h] at h'; exact ((Prod.mk.inj h').2).symm
    · exact absurd (key h') (by have : e.1 = b := by rw [← h]
                                rw [← this]; exact n1)
    · exact absurd (key h) (by have : e.1 = b := by rw [← h']
                               rw [← this]; exact n1)
    · exact dom_uniq n2 h h'

section
variable {c : Cx} {E : Exc} {g : Gh}

theorem St.setBox {h h' : Heap} {a : Addr} {o o' : PO} {bx' : List (Addr × PO)} (S : St c g h) (hat : At g.bx a o o' bx') (hs : Heap.SameBut a h h') (hb : BoxIs c.prog c.w (c.B g) h' a o') : HStep c NoW g h ⟨g.vars, bx', g.ro⟩ h' := by
  have hin : a ∈ g.wr := List.mem_map_of_mem hat.mem
  have ev : Ev g.wr NoW h h' := Ev.of_sameBut hs (.inl hin)
  have evB : Ev (c.B g) NoW h h' := Ev.of_sameBut hs (.inl (Cx.wr_B hin))
  have hdB : dom (bx' ++ g.ro) = dom (g.bx ++ g.ro) := dom_append hat.dom
  refine S.after ev hat.dom fun b po hm => ?_
  show BoxIs _ _ (dom (bx' ++ g.ro) ++ c.ex) h' b po
  rw [hdB]
  have old : (b, po) ∈ g.bx ++ g.ro → (b ≠ a) → BoxIs c.prog c.w (c.B g) h' b po := fun q ne =>
    BoxIs.ext evB (fun _ q => q.elim) (fun _ q => .inl q) (S.boxes b po q) fun o'' e => (hs.2 b ne).trans e
  have nd : (dom (bx' ++ g.ro)).Nodup := by rw [hdB]; exact S.nodup
  by_cases hba : b = a
  · subst hba
    have : po = o' := dom_uniq nd hm (List.mem_append_left _ hat.mem')
    subst this; exact hb
  · rcases List.mem_append.mp hm with hm | hm
    · rcases hat.cases _ hm with e | q
      · exact absurd (Prod.mk.inj e).1 hba
      · exact old (List.mem_append_left _ q) hba
    · exact old (List.mem_append_right _ hm) hba

theorem LstAt.sameBut_box {h h' : Heap} {a : Addr} {xs : List PV} {vs : List Value} (S : St c g h) (ha : a ∈ g.wr) (hs : Heap.SameBut a h h') (hl : LstAt h' a vs) (hz : xs.length ≤ sizeLine) (r : VRs (c.B g) h xs vs) :
    BoxIs c.prog c.w (c.B g) h' a (.lst xs) :=
  ⟨vs, hl, hz, VRs.ext (Ev.of_sameBut hs (.inl (Cx.wr_B ha)) : Ev (c.B g) NoW h h') (fun _ q => q.elim) (fun _ q => .inl q) r⟩

theorem LstAt.noDict {h a vs} (x : LstAt h a vs) : ∀ b, Value.ref a = .ref b → ∃ ob, h.get? b = some ob ∧ ob.dict = none := fun b e => by
  cases e; obtain ⟨n, q⟩ := x; exact ⟨_, q, rfl⟩

/-- a method of a box, one argument -/
theorem WE_method1 {x name : Str} {id : String} {p ap pos : Pos} {e : Expr} {a : Addr} {xs₀ : List PV} {Q : PV → Gh → Prop} (slot : Slot "list" name id) (hty : typeOf (.builtin id) = pure (.type "method_descriptor"))
    (hx : g.vars.lookup x = some (.box a)) (h0 : (a, PO.lst xs₀) ∈ g.all)
    (h : WE c E e g fun q g₁ => ∀ s v, St c g₁ s.heap → VR (c.B g₁) s.heap q v → WVal c E g₁ (call (.builtin id) [.ref a, v]) Q s)
    (hd : (x == ("__debug__" : Str)) = false := by decide +kernel)
    (hline : (ap.endLine == pos.line) = true := by rfl)
    (he : starEach [e] c.env = (false, eval e c.env) :: starEach [] c.env := by rfl) : WE c E (.Call (.Attribute (.Name x p) name ap) [e] [] pos) g Q := fun s S => by
  have hn : WE c E (.Name x p) g fun q g' => q = .box a ∧ g' = g := WE_Name hx ⟨rfl, rfl⟩ hd
  have htr : backTo pos (starEach [e] c.env) = [(false, eval e c.env)] := by rw [he]; rfl
  refine wpAny_Call_method1_late rfl hline htr (wpAny_mono (hn s S) (fun f s₁ hz1 => ?_) fun _ _ e => e)
  obtain ⟨q, g₁, ⟨e₁, e₂⟩, r₁, x₁⟩ := hz1
  subst e₁; subst e₂
  obtain rfl : f = .ref a := r₁
  obtain ⟨vs₀, hl₀, _⟩ := x₁.st.boxes _ _ h0
  refine ⟨"list", id, PySem.F.plainAttrs_list, slot, hty, hl₀.isList.typeIs, hl₀.noDict, ?_⟩
  refine Calls.callWith_builtin rfl (Calls.evalArgs_plain ?_)
  have hs : WEs c E [e] g₁ fun ps g' => ∃ q, ps = [q] ∧ ∀ s v, St c g' s.heap → VR (c.B g') s.heap q v → WVal c E g' (call (.builtin id) [.ref a, v]) Q s :=
    WEs_cons (h.mono fun q g' k => WEs_nil ⟨q, rfl, k⟩) he
  have hs' := hs pos s₁ x₁.st
  rw [htr] at hs'
  refine wpAny_mono hs' (fun vs s₂ hz2 => ?_) fun _ _ e => e
  obtain ⟨ps, g₂, ⟨q, e, k⟩, r₂, x₂⟩ := hz2
  subst e
  obtain ⟨v, _, rfl, rv, rfl⟩ := r₂
  exact wpAny_mono (k s₂ v x₂.st rv) (fun y s₃ hz3 => by obtain ⟨p₃, g₃, h₃, r₃, x₃⟩ := hz3; exact ⟨p₃, g₃, h₃, r₃, (x₁.trans x₂).trans x₃⟩) fun _ _ e => e

/-- x.append(e) -/
theorem WE_append {x : Str} {p ap pos : Pos} {e : Expr} {a : Addr} {xs₀ : List PV} {Q : PV → Gh → Prop} (hx : g.vars.lookup x = some (.box a)) (h0 : (a, PO.lst xs₀) ∈ g.all)
    (h : WE c E e g fun q g₁ => ∃ xs bx', At g₁.bx a (.lst xs) (.lst (xs ++ [q])) bx' ∧ xs.length < sizeLine ∧ Q .none ⟨g₁.vars, bx', g₁.ro⟩)
    (hd : (x == ("__debug__" : Str)) = false := by decide +kernel)
    (hline : (ap.endLine == pos.line) = true := by rfl)
    (he : starEach [e] c.env = (false, eval e c.env) :: starEach [] c.env := by rfl) : WE c E (.Call (.Attribute (.Name x p) "append" ap) [e] [] pos) g Q := by
  refine WE_method1 PySem.F.slot_list_append PySem.F.type_list_append hx h0 (h.mono fun q g₁ ⟨xs, bx', hat, hz, hq⟩ s v S r => ?_) hd hline he
  obtain ⟨vs, hl, hz', rs⟩ := S.boxes _ _ (List.mem_append_left _ hat.mem)
  refine wpAny_list_append_plain hl (fun h' hl' hs => ?_) (by simp only [List.size_toArray]; rw [rs.length]; exact hz')
  have hl'' : LstAt h' a (vs ++ [v]) := by
    obtain ⟨n, q⟩ := hl'
    exact ⟨n, by rw [q]; simp⟩
  have hb : BoxIs c.prog c.w (c.B g₁) h' a (.lst (xs ++ [q])) := LstAt.sameBut_box S (List.mem_map_of_mem hat.mem) hs hl'' (by simp; omega) (rs.append (VRs.one r))
  exact ⟨.none, _, hq, rfl, (S.setBox hat hs hb).up⟩

/-- one box taken out -/
inductive Out : List (Addr × PO) → Addr → PO → List (Addr × PO) → Prop where
  | head {a o r} : Out ((a, o) :: r) a o r
  | tail {e r a o r'} : Out r a o r' → Out (e :: r) a o (e :: r')
theorem Out.mem {bx a o bx'} (h : Out bx a o bx') : (a, o) ∈ bx := by
  induction h with
  | head => exact .head _
  | tail _ ih => exact .tail _ ih
theorem Out.sub {bx a o bx'} (h : Out bx a o bx') : ∀ e ∈ bx', e ∈ bx := by
  induction h with
  | head => intro e he; exact .tail _ he
  | tail _ ih => intro e he; rcases List.mem_cons.mp he with rfl | he; exact .head _; exact .tail _ (ih e he)
theorem Out.other {bx a o bx' b p} (h : Out bx a o bx') (ne : b ≠ a) : (b, p) ∈ bx → (b, p) ∈ bx' := by
  induction h with
  | head => intro q; rcases List.mem_cons.mp q with q | q; exact absurd (Prod.mk.inj q).1 ne; exact q
  | tail _ ih => intro q; rcases List.mem_cons.mp q with q | q; exact q ▸ .head _; exact .tail _ (ih ne q)
theorem Out.nodup {bx a o bx' r} (h : Out bx a o bx') (nd : (Mine.dom (bx ++ r)).Nodup) : a ∉ Mine.dom (bx' ++ r) ∧ (Mine.dom (bx' ++ r)).Nodup := by
  induction h with
  | head => exact List.nodup_cons.mp nd
  | @tail e bx a o bx' h ih =>
    obtain ⟨n1, n2⟩ := List.nodup_cons.mp nd
    obtain ⟨i1, i2⟩ := ih n2
    have sub : ∀ b ∈ Mine.dom (bx' ++ r), b ∈ Mine.dom (bx ++ r) := fun b hb => by
      obtain ⟨x, hx, rfl⟩ := List.mem_map.mp hb
      refine List.mem_map_of_mem ?_
      rcases List.mem_append.mp hx with q | q
      · exact List.mem_append_left _ (h.sub _ q)
      · exact List.mem_append_right _ q
    refine ⟨fun q => ?_, List.nodup_cons.mpr ⟨fun q => n1 (sub _ q), i2⟩⟩
    have q' : a ∈ e.1 :: Mine.dom (bx' ++ r) := q
    rcases List.mem_cons.mp q' with q' | q'
    · refine n1 ?_
      have : a ∈ Mine.dom (bx ++ r) := List.mem_map.mpr ⟨(a, o), List.mem_append_left _ h.mem, rfl⟩
      rw [q'] at this; exact this
    · exact i1 q'

/-- a box is let go: from now on nothing turns it -/
theorem St.freeze {h : Heap} {a : Addr} {x : Str} {xs : List PV} {bx' : List (Addr × PO)} (S : St c g h) (hx : g.vars.lookup x = some (.box a)) (ho : Out g.bx a (.lst xs) bx') (hl : a ∉ c.lent) : St c ⟨(x, .lst xs) :: g.vars, bx', g.ro⟩ h := by
  have subE : ∀ e ∈ bx' ++ g.ro, e ∈ g.bx ++ g.ro := fun e he => by
    rcases List.mem_append.mp he with q | q
    · exact List.mem_append_left _ (ho.sub _ q)
    · exact List.mem_append_right _ q
  have subD : ∀ b ∈ dom (bx' ++ g.ro), b ∈ g.dom := fun b hb => by
    obtain ⟨y, hy, rfl⟩ := List.mem_map.mp hb
    exact List.mem_map_of_mem (subE _ hy)
  have subB : ∀ b ∈ c.B ⟨(x, .lst xs) :: g.vars, bx', g.ro⟩, b ∈ c.B g := fun b hb => by
    rcases List.mem_append.mp hb with q | q
    · exact List.mem_append_left _ (subD b q)
    · exact List.mem_append_right _ q
  obtain ⟨na, nd⟩ := ho.nodup (r := g.ro) S.nodup
  obtain ⟨vs, hla, hz, rs⟩ := S.boxes _ _ (List.mem_append_left _ ho.mem)
  have inD : a ∈ g.dom := List.mem_map.mpr ⟨(a, .lst xs), List.mem_append_left _ ho.mem, rfl⟩
  have rl : VR (c.B ⟨(x, .lst xs) :: g.vars, bx', g.ro⟩) h (.lst xs) (.ref a) := by
    refine ⟨a, vs, rfl, hla, fun q => ?_, hz, VRs.fewer subB rs⟩
    rcases List.mem_append.mp q with q | q
    · exact na q
    · exact S.exApart a inD q
  refine ⟨S.ok, S.ns, S.cells, fun y p e => ?_, fun b o hb => ?_, nd, fun b q => S.own b (subD b q), fun b q => ?_, fun b q => S.boxAbove b (subD b q), fun b q => ?_, S.keep, S.size, S.exLt, fun b q => S.exApart b (subD b q)⟩
  · have e' : ((x, PV.lst xs) :: g.vars).lookup y = some p := e
    by_cases hyx : y = x
    · subst hyx
      rw [lookup_hit] at e'
      cases e'
      rcases S.vars _ _ hx with ⟨k, m, v, hn, hm, r⟩ | ⟨k, cc, v, hc, hm, r⟩
      · obtain rfl : v = .ref a := r; exact .inl ⟨k, m, _, hn, hm, rl⟩
      · obtain rfl : v = .ref a := r; exact .inr ⟨k, cc, _, hc, hm, rl⟩
    · rw [lookup_cons_ne (beq_eq_false_iff_ne.mpr hyx)] at e'
      rcases S.vars _ _ e' with ⟨k, m, v, hn, hm, r⟩ | ⟨k, cc, v, hc, hm, r⟩
      · exact .inl ⟨k, m, v, hn, hm, VR.fewer subB r⟩
      · exact .inr ⟨k, cc, v, hc, hm, VR.fewer subB r⟩
  · exact BoxIs.ext (Ev.refl (W := NoW)) (fun _ q => q.elim) (fun b q => .inl (subB b q)) (S.boxes b o (subE _ hb)) fun _ e => e
  · obtain ⟨y, hy, rfl⟩ := List.mem_map.mp q
    exact S.lent _ (List.mem_map_of_mem (ho.sub _ hy))
  · have := S.lentIn b q
    obtain ⟨⟨b', o⟩, hy, e⟩ := List.mem_map.mp this
    have e : b' = b := e
    subst e
    have ne : b' ≠ a := fun q' => hl (q' ▸ q)
    refine List.mem_map.mpr ⟨(b', o), ?_, rfl⟩
    rcases List.mem_append.mp hy with hy | hy
    · refine List.mem_append_left _ ?_
      exact ho.other ne hy
    · exact List.mem_append_right _ hy

theorem WS_freeze {ss : List Stmt} {a : Addr} {x : Str} {xs : List PV} {bx' : List (Addr × PO)} {Q : PF → Gh → Prop} (hx : g.vars.lookup x = some (.box a)) (ho : Out g.bx a (.lst xs) bx') (hl : a ∉ c.lent)
    (h : WS c E ss ⟨(x, .lst xs) :: g.vars, bx', g.ro⟩ Q) : WS c E ss g Q := fun s S => by
  refine wpAny_mono (h s (S.freeze hx ho hl)) (fun f s' ⟨pf, g', hq, r, x⟩ => ⟨pf, g', hq, r, x.st, x.ev.mono (fun b _ q => ?_) (fun _ _ q => q), fun b q => ?_, fun b q => ?_, x.rest⟩) fun _ _ e => e
  · obtain ⟨y, hy, rfl⟩ := List.mem_map.mp q
    exact List.mem_map_of_mem (ho.sub _ hy)
  · refine (x.dom b q).imp (fun q => ?_) id
    obtain ⟨y, hy, rfl⟩ := List.mem_map.mp q
    refine List.mem_map_of_mem ?_
    rcases List.mem_append.mp hy with q | q
    · exact List.mem_append_left _ (ho.sub _ q)
    · exact List.mem_append_right _ q
  · refine (x.wr b q).imp (fun q => ?_) id
    obtain ⟨y, hy, rfl⟩ := List.mem_map.mp q
    exact List.mem_map_of_mem (ho.sub _ hy)
end

end Mine

namespace Mine
open PySem PyProof.Rows
open AutoSeq1 (wpAny_loadPart')
open MeetsSeq MeetsSeq2 MeetsSeq3 SeqRoads2

theorem collect_grows {prog : Program} {w : World} {A : Around} {E : Value → Shared → Prop} {s : Shared} {Q : List Value → Shared → Prop} (it : Addr) {o : Obj} {items : Array Value} {n : Nat}
    (ho : s.heap.get? it = some o) (hc : o.cls = .type "list") (hd : o.data = .seq items n)
    (hQ : ∀ h', s.heap.objs.size ≤ h'.objs.size → (∀ b o', s.heap.get? b = some o' → h'.get? b = some o') → Q items.toList { s with heap := h' }) (hsz : items.size ≤ sizeLine) :
    wpAny (model prog w) A (collect (.ref it)) Q E s :=
  grows (wpAny_mono (wpAny_collect_seq (Q := fun a s' => s.heap.objs.size ≤ s'.heap.objs.size → Q a s') (E := fun _ _ => False) it (.inl rfl) ho hc hd (fun h' hk hs => hQ h' hs hk) hsz) (fun _ _ e => e) fun _ _ e => e.elim)

theorem meets_tuple_grows (l : Addr) (o : Obj) (items : Array Value) (n : Nat) (hc : o.cls = .type "list") (hd : o.data = .seq items n) (hsz : items.size ≤ sizeLine) :
    Meets (Builtin.«tuple.__new__» ⟨[.type "tuple", .ref l], []⟩)
      (fun _ R s => s.heap.get? l = some o ∧ ∀ h' : Heap, s.heap.objs.size ≤ h'.objs.size → (∀ b o', s.heap.get? b = some o' → h'.get? b = some o') → R (.ok (.ret (.ref h'.objs.size))) { s with heap := h'.push { cls := .type "tuple", data := .seq items } }) :=
  .of_wp fun prog w A R s h => by
    obtain ⟨hp, g, d, tk, os⟩ := s; obtain ⟨ht, h⟩ := h
    have hsub := sub_tuple_self
    have hinit := init_tuple_lookup
    have hmh := madeHere_tuple
    have hT : Shared.TypeIs ⟨hp, g, d, tk, os⟩ (.ref l) "list" := ⟨o, ht, hc⟩
    wp_walk using wpAny_loadPart' ht, wpAny_typeOf hT, collect_grows (hsz := hsz) l ht hc hd
    intro h' hs hk
    show wpAny _ _ (Builtin.Tuple.tupleExact items.toList.toArray >>= fun v => ret v) _ _ _
    unfold Builtin.Tuple.tupleExact
    refine wpAny_bind (wpAny_newObj_type ?_ (by show items.toList.toArray.size ≤ sizeLine; simpa using hsz))
    refine wpAny_pure ⟨_, rfl, ?_⟩
    rw [show items.toList.toArray = items by simp]
    exact h h' hs hk

theorem call_tuple_grows {prog : Program} {w : World} {A : Around} {E : Value → Shared → Prop} {s : Shared} {l : Addr} {items : Array Value} {Q : Value → Shared → Prop} (hl : s.heap.IsList l items)
    (h : ∀ h' : Heap, s.heap.objs.size ≤ h'.objs.size → (∀ b o', s.heap.get? b = some o' → h'.get? b = some o') → Q (.ref h'.objs.size) { s with heap := h'.push { cls := .type "tuple", data := .seq items } })
    (hsz : items.size ≤ sizeLine) : wpAny (model prog w) A (call (.type "tuple") [.ref l]) Q E s := by
  obtain ⟨o, ho, hc, n, hd⟩ := hl
  exact callType_new F.called_tuple (by decide) (F.typeCall_tuple_1 _) (F.newCall_tuple_1 _) (fun obj => F.args_object_init_2 obj _) F.entry_tuple_new
    (meets_tuple_grows l o items n hc hd hsz) ⟨ho, fun h' hs hk => ⟨⟨_, Heap.get?_push_size _ rfl, rfl⟩, h h' hs hk⟩⟩

section
variable {c : Cx} {E : Exc} {g : Gh} {Q : PV → Gh → Prop}

theorem seq_fit {n : Nat} (h : n ≤ sizeLine) : (n : Int) < 2 ^ 63 := by rw [sizeLine_eq] at h; omega

/-! ## len -/
theorem CallV_len_lst {xs : List PV} (h : Q (.int xs.length) g) : CallV c E g (.builtin "len") [.lst xs] Q := fun s vs S r => by
  obtain ⟨v, _, rfl, ⟨a, us, rfl, hl, nb, hz, rs⟩, rfl⟩ := r
  refine Calls.call_len_list hl.isList (by simp only [List.size_toArray]; rw [rs.length]; exact seq_fit hz) ⟨_, g, h, ⟨s.toks + 1, ?_⟩, Step.refl S⟩
  rw [List.size_toArray, rs.length]
theorem CallV_len_tup {xs : List PV} (h : Q (.int xs.length) g) : CallV c E g (.builtin "len") [.tup xs] Q := fun s vs S r => by
  obtain ⟨v, _, rfl, ⟨a, us, rfl, hl, nb, hz, rs⟩, rfl⟩ := r
  refine len_tuple hl.isTup (by simp only [List.size_toArray]; rw [rs.length]; exact seq_fit hz) ⟨_, g, h, ⟨s.toks + 1, ?_⟩, Step.refl S⟩
  rw [List.size_toArray, rs.length]
/-! ## tuple(..), list(..) -/
theorem tuple_of {xs : List PV} {us : List Value} {a : Addr} {s : Shared} (S : St c g s.heap) (hl : LstAt s.heap a us) (hz : xs.length ≤ sizeLine) (rs : VRs (c.B g) s.heap xs us) (h : Q (.tup xs) g) :
    WVal c E g (call (.type "tuple") [.ref a]) Q s := by
  refine call_tuple_grows hl.isList (fun h' hh hk => ?_) (by simp only [List.size_toArray]; rw [rs.length]; exact hz)
  have x : Step c NoW g s g { s with heap := h' } := Step.keeps S hk hh
  have y := pushTup (s := { s with heap := h' }) x.st (x.vrs rs) hz
  exact ⟨_, g, h, y.1, x.trans y.2⟩
theorem CallV_tuple_lst {xs : List PV} (h : Q (.tup xs) g) : CallV c E g (.type "tuple") [.lst xs] Q := fun s vs S r => by
  obtain ⟨v, _, rfl, ⟨a, us, rfl, hl, nb, hz, rs⟩, rfl⟩ := r
  exact tuple_of S hl hz rs h
theorem CallV_tuple_box {a : Addr} {xs : List PV} (hb : (a, PO.lst xs) ∈ g.all) (h : Q (.tup xs) g) : CallV c E g (.type "tuple") [.box a] Q := fun s vs S r => by
  obtain ⟨v, _, rfl, rfl, rfl⟩ := r
  obtain ⟨us, hl, hz, rs⟩ := S.boxes _ _ hb
  exact tuple_of S hl hz rs h

/-! ## min, max -/
theorem CallV_min {a b : Int} (h : Q (.int (min a b)) g) : CallV c E g (.builtin "min") [.int a, .int b] Q := fun s vs S r => by
  obtain ⟨v, _, rfl, ⟨t, rfl⟩, ⟨w, _, rfl, ⟨u, rfl⟩, rfl⟩⟩ := r
  refine grows (min_two_ints S.ok.handled fun h' tk hk hs => ⟨_, g, h, ?_, Step.keeps S hk hs⟩)
  by_cases q : b < a
  · rw [if_pos q]; exact ⟨u, by congr 1; omega⟩
  · rw [if_neg q]; exact ⟨t, by congr 1; omega⟩
theorem CallV_max {a b : Int} (h : Q (.int (max a b)) g) : CallV c E g (.builtin "max") [.int a, .int b] Q := fun s vs S r => by
  obtain ⟨v, _, rfl, ⟨t, rfl⟩, ⟨w, _, rfl, ⟨u, rfl⟩, rfl⟩⟩ := r
  refine grows (max_two_ints S.ok.handled fun h' tk hk hs => ⟨_, g, h, ?_, Step.keeps S hk hs⟩)
  by_cases q : b > a
  · rw [if_pos q]; exact ⟨u, by congr 1; omega⟩
  · rw [if_neg q]; exact ⟨t, by congr 1; omega⟩

/-! ## isinstance, int -/
theorem CallV_isi_int {i : Int} (h : Q (.bool true) g) : CallV c E g (.builtin "isinstance") [.int i, .raw (.type "int")] Q := fun s vs S r => by
  obtain ⟨v, _, rfl, ⟨t, rfl⟩, ⟨w, _, rfl, rfl, rfl⟩⟩ := r
  exact IsiPair.int_int ⟨_, g, h, rfl, Step.refl S⟩
theorem CallV_isi_bool {i : Int} (h : Q (.bool false) g) : CallV c E g (.builtin "isinstance") [.int i, .raw (.type "bool")] Q := fun s vs S r => by
  obtain ⟨v, _, rfl, ⟨t, rfl⟩, ⟨w, _, rfl, rfl, rfl⟩⟩ := r
  exact IsiPair.int_bool ⟨_, g, h, rfl, Step.refl S⟩
/-- list(..): a new list -/
theorem WEF_list_lst {p pos : Pos} {e : Expr} {K : List PV → Prop} (hb : BuiltIs c.h0 "list" (.type "list"))
    (h : WE c E e g fun q g₁ => g₁ = g ∧ ∃ xs, (q = .lst xs ∨ q = .tup xs ∨ ∃ a, q = .box a ∧ (a, PO.lst xs) ∈ g.all) ∧ K xs)
    (hk : c.kind "list" = some .globalImplicit := by rfl) (he : starEach [e] c.env = (false, eval e c.env) :: starEach [] c.env := by rfl) :
    WEF c E (.Call (.Name "list" p) [e] [] pos) g K := fun s S => by
  have hn : WE c E (.Name "list" p) g fun q g' => q = .raw (.type "list") ∧ g' = g := WE_Builtin hb ⟨rfl, rfl⟩ hk
  refine wpAny_Call_Name_kw (keywords := []) (wpAny_mono (hn s S) (fun f' s₁ hz1 => ?_) fun _ _ e => e)
  obtain ⟨q, g₁, ⟨e₁, e₂⟩, r₁, x₁⟩ := hz1
  subst e₁; subst e₂
  obtain rfl : f' = .type "list" := r₁
  have hs : WEs c E [e] g₁ fun ps g' => ∃ q, ps = [q] ∧ g' = g₁ ∧ ∃ xs, (q = .lst xs ∨ q = .tup xs ∨ ∃ a, q = .box a ∧ (a, PO.lst xs) ∈ g₁.all) ∧ K xs :=
    WEs_cons (h.mono fun q g' k => WEs_nil ⟨q, rfl, k⟩) he
  refine callWith_args (.inl ⟨_, rfl⟩) (wpAny_mono (hs pos s₁ x₁.st) (fun vs s₂ hz2 => ?_) fun _ _ e => e) he rfl
  obtain ⟨ps, g₂, ⟨q, e1, e2, xs, hq, hK⟩, r₂, x₂⟩ := hz2
  subst e1; subst e2
  obtain ⟨v, _, rfl, rv, rfl⟩ := r₂
  have S₂ := x₂.st
  have key : ∃ a us T o n, v = .ref a ∧ (T = "list" ∨ T = "tuple") ∧ s₂.heap.get? a = some o ∧ o.cls = .type T ∧ o.data = .seq us.toArray n ∧ xs.length ≤ sizeLine ∧ VRs (c.B g₂) s₂.heap xs us := by
    rcases hq with rfl | rfl | ⟨a, rfl, hb⟩
    · obtain ⟨a, us, rfl, ⟨n, ho⟩, nb, hz, rs⟩ := rv; exact ⟨a, us, "list", _, n, rfl, .inl rfl, ho, rfl, rfl, hz, rs⟩
    · obtain ⟨a, us, rfl, ⟨n, ho⟩, nb, hz, rs⟩ := rv; exact ⟨a, us, "tuple", _, n, rfl, .inr rfl, ho, rfl, rfl, hz, rs⟩
    · obtain ⟨us, ⟨n, ho⟩, hz, rs⟩ := S₂.boxes _ _ hb; exact ⟨a, us, "list", _, n, rv, .inl rfl, ho, rfl, rfl, hz, rs⟩
  obtain ⟨a, us, T, o, n, rfl, hT, ho, hc, hd, hz, rs⟩ := key
  refine grows (call_list_seq a hT ho hc hd (fun h' c' hk' hD hs => ?_) (by simp only [List.size_toArray]; rw [rs.length]; exact hz))
  obtain ⟨f1, f2, f3⟩ := fresh_lst S₂ hk' hs (Nat.le_refl _) ⟨_, hD⟩ hz rs
  exact ⟨xs, _, hK, rfl, (x₁.trans x₂).ev.size, f1, (x₁.trans x₂).trans f2.up, f3⟩

/-! ## == over data -/
mutual
def PV.pd : PV → PyData
  | .none => .none
  | .bool b => .bool b
  | .int i => .int i
  | .str x => .str x
  | .tup xs => .tuple (PV.pds xs)
  | .lst xs => .list (PV.pds xs)
  | .box _ => .none
  | .raw _ => .none
def PV.pds : List PV → List PyData
  | [] => []
  | p :: ps => p.pd :: PV.pds ps
end
mutual
def PV.data : PV → Bool
  | .box _ => false
  | .raw _ => false
  | .tup xs => PV.datas xs
  | .lst xs => PV.datas xs
  | _ => true
def PV.datas : List PV → Bool
  | [] => true
  | p :: ps => p.data && PV.datas ps
end
mutual
theorem VR.reads {B : List Addr} {h : Heap} : ∀ {p : PV} {v : Value}, p.data = true → VR B h p v → ∃ as, Reads h v p.pd as
  | .none, _, _, e => by cases e; exact ⟨_, .none⟩
  | .bool b, _, _, e => by cases e; exact ⟨_, .bool b⟩
  | .int i, _, _, ⟨t, e⟩ => by subst e; exact ⟨_, .int i t⟩
  | .str x, _, _, ⟨t, e⟩ => by subst e; exact ⟨_, .str x t⟩
  | .box _, _, d, _ => by simp [PV.data] at d
  | .raw _, _, d, _ => by simp [PV.data] at d
  | .tup ps, _, d, ⟨a, vs, e, ⟨n, ho⟩, nb, hl, r⟩ => by
    subst e
    obtain ⟨as, q⟩ := VRs.reads (by simpa [PV.data] using d) r
    rw [PV.pd]
    exact ⟨_, .tuple ho rfl rfl (by simpa using q)⟩
  | .lst ps, _, d, ⟨a, vs, e, ⟨n, ho⟩, nb, hl, r⟩ => by
    subst e
    obtain ⟨as, q⟩ := VRs.reads (by simpa [PV.data] using d) r
    rw [PV.pd]
    exact ⟨_, .list ho rfl rfl (by simpa using q)⟩
theorem VRs.reads {B : List Addr} {h : Heap} : ∀ {ps : List PV} {vs : List Value}, PV.datas ps = true → VRs B h ps vs → ∃ as, ReadsAll h vs (PV.pds ps) as
  | [], _, _, e => by cases e; exact ⟨_, .nil⟩
  | p :: ps, _, d, ⟨v, ws, e, a, r⟩ => by
    subst e
    rw [PV.datas, Bool.and_eq_true] at d
    obtain ⟨as, q⟩ := VR.reads d.1 a
    obtain ⟨bs, q'⟩ := VRs.reads d.2 r
    rw [PV.pds]
    exact ⟨_, .cons q q'⟩
end
open PySem.SeqAt in
theorem Cmp_eq_data {p q : PV} (hp : p.data = true) (hq : q.data = true) (sp : shaped p.pd = true) (sq : shaped q.pd = true) (hm : noMix p.pd q.pd = true) (h : Q (.bool (PySem.Spec.same p.pd q.pd)) g) : Cmp c E g .Eq p q Q := fun s v w S r r' => by
  obtain ⟨as, ra⟩ := r.reads hp
  obtain ⟨bs, rb⟩ := r'.reads hq
  exact eq_dataH_same ra rb sp sq (by have := S.ok.room.2; omega) hm ⟨_, g, h, rfl, Step.refl S⟩
open PySem.SeqAt in
theorem Cmp_ne_data {p q : PV} (hp : p.data = true) (hq : q.data = true) (sp : shaped p.pd = true) (sq : shaped q.pd = true) (hm : noMix p.pd q.pd = true) (h : Q (.bool (!PySem.Spec.same p.pd q.pd)) g) : Cmp c E g .NotEq p q Q := fun s v w S r r' => by
  obtain ⟨as, ra⟩ := r.reads hp
  obtain ⟨bs, rb⟩ := r'.reads hq
  exact ne_dataH_same ra rb sp sq (by have := S.ok.room.2; omega) hm ⟨_, g, h, rfl, Step.refl S⟩
end

end Mine

set_option maxRecDepth 100000
namespace Mine
open PySem PyProof.Rows PySem.W

/-! ## the questions that a sort asks -/
def AllT (n : Nat) {α : Type} (P : α → Prop) : KasT α → Prop
  | .ret a => P a
  | .ask i j k => i < n ∧ j < n ∧ ∀ b, AllT n P (k b)
theorem AllT.bind {n : Nat} {α β : Type} {P : α → Prop} {R : β → Prop} {f : α → KasT β} (hf : ∀ a, P a → AllT n R (f a)) : ∀ (t : KasT α), AllT n P t → AllT n R (t.bind f)
  | .ret a, h => hf a h
  | .ask i j k, h => ⟨h.1, h.2.1, fun b => AllT.bind hf (k b) (h.2.2 b)⟩
theorem AllT.wp {n : Nat} {α : Type} {P : α → Prop} {cmp : Nat → Nat → (Bool → Shared → Prop) → Shared → Prop} {s : Shared} (hc : ∀ i j, i < n → j < n → ∀ C, (∀ b, C b s) → cmp i j C s) {Q : α → Shared → Prop} (hQ : ∀ a, P a → Q a s) :
    ∀ (t : KasT α), AllT n P t → t.kasWp cmp Q s
  | .ret a, h => hQ a h
  | .ask i j k, h => hc i j h.1 h.2.1 _ fun b => AllT.wp hc hQ (k b) (h.2.2 b)

def PermR (n : Nat) (p : Array Nat) : Prop := p.Perm (List.range n).toArray
theorem PermR.lt {n : Nat} {p : Array Nat} (h : PermR n p) (hn : 0 < n) (i : Nat) : p.getD i 0 < n := by
  by_cases hi : i < p.size
  · have e : p.getD i 0 = p[i] := by simp [Array.getD, hi]
    rw [e]
    have hm : p[i] ∈ p.toList := by simp
    have := (Array.perm_iff_toList_perm.mp h).mem_iff.mp hm
    simpa using this
  · have e : p.getD i 0 = 0 := by simp [Array.getD, hi]
    rw [e]; exact hn
theorem PermR.rev {n : Nat} {p : Array Nat} (h : PermR n p) (i j : Nat) : PermR n (kas_rev p i j) := (mirror_perm _ _ _ _).trans h
theorem PermR.bub {n : Nat} {p : Array Nat} (h : PermR n p) (i j : Nat) : PermR n (bubble p i j) := (bubble_perm _ _ _).trans h

section
variable {n : Nat} (hn : 0 < n)
include hn
theorem all_asc {p : Array Nat} (h : PermR n p) : ∀ f m, AllT n (fun _ => True) (kas_asc p f m)
  | 0, m => trivial
  | f + 1, m => ⟨h.lt hn _, h.lt hn _, fun b => by cases b <;> simp only [if_true, Bool.false_eq_true, if_false] <;> first | exact all_asc h f (m + 1) | trivial⟩
theorem all_desc : ∀ f (p : Array Nat) m q, PermR n p → AllT n (fun r : Array Nat × Nat × Nat => PermR n r.1) (kas_desc f p m q)
  | 0, p, m, q, h => h
  | f + 1, p, m, q, h => ⟨h.lt hn _, h.lt hn _, fun b => by
      cases b
      · simp only [Bool.false_eq_true, if_false]
        refine ⟨h.lt hn _, h.lt hn _, fun d => ?_⟩
        cases d
        · simp only [Bool.false_eq_true, if_false]; exact all_desc f p (m + 1) (q + 1) h
        · simp only [if_true]; exact h
      · simp only [if_true]
        by_cases hq : q > 0
        · rw [if_pos hq]; exact all_desc f _ (m + 1) 0 (h.rev _ _)
        · rw [if_neg hq]; exact all_desc f p (m + 1) 0 h⟩
theorem all_tail3 {p : Array Nat} (h : PermR n p) (m r : Nat) : AllT n (fun x : Nat × Array Nat => PermR n x.2) (kas_tail3 m r p) :=
  AllT.bind (R := fun x : Nat × Array Nat => PermR n x.2) (f := fun k => KasT.ret (k, kas_rev p 0 m)) (fun a _ => (h.rev 0 m : PermR n _)) _ (all_asc hn (h.rev 0 m) _ _)
theorem all_descPart {p : Array Nat} (h : PermR n p) (m r : Nat) : AllT n (fun x : Nat × Array Nat => PermR n x.2) (kas_descPart m r p) :=
  AllT.bind (fun a ha => by
    by_cases hq : a.2.2 > 0
    · rw [if_pos hq]; exact all_tail3 hn (ha.rev _ _) _ _
    · rw [if_neg hq]; exact all_tail3 hn ha _ _) _ (all_desc hn _ p _ _ h)
theorem all_count {p : Array Nat} (h : PermR n p) (r : Nat) : AllT n (fun x : Nat × Array Nat => PermR n x.2) (kas_count r p) :=
  AllT.bind (fun a _ => by
    by_cases h1 : (a == r) = true
    · rw [if_pos h1]; exact h
    · rw [if_neg h1]
      by_cases h2 : a > 1
      · rw [if_pos h2]
        refine ⟨h.lt hn _, h.lt hn _, fun b => ?_⟩
        cases b
        · simp only [Bool.false_eq_true, if_false]; exact all_descPart hn (h.rev _ _) _ _
        · simp only [if_true]; exact h
      · rw [if_neg h2]; exact all_descPart hn h _ _) _ (all_asc hn h _ _)
theorem all_place {p : Array Nat} (h : PermR n p) (k : Nat) : ∀ f l r, AllT n (fun _ => True) (kas_place p k f l r)
  | 0, l, r => trivial
  | f + 1, l, r => by
    unfold kas_place
    by_cases hl : l ≥ r
    · rw [if_pos hl]; trivial
    · rw [if_neg hl]
      refine ⟨h.lt hn _, h.lt hn _, fun b => ?_⟩
      cases b
      · simp only [Bool.false_eq_true, if_false]; exact all_place h k f _ _
      · simp only [if_true]; exact all_place h k f _ _
theorem all_bin : ∀ f (p : Array Nat) k, PermR n p → AllT n (PermR n) (kas_bin f p k)
  | 0, p, k, h => h
  | f + 1, p, k, h => AllT.bind (fun a _ => all_bin f _ (k + 1) (h.bub _ _)) _ (all_place hn h _ _ _ _)
theorem all_sort : AllT n (PermR n) (kas_sort n) :=
  AllT.bind (fun a ha => by
    by_cases h1 : a.1 < n
    · rw [if_pos h1]; exact all_bin hn _ _ _ ha
    · rw [if_neg h1]; exact ha) _ (all_count hn (Array.Perm.refl _) n)
end

/-! ## sorted(..) of pairs of ints -/
def PairAt (h : Heap) (v : Value) : Prop := ∃ a x y t u, v = .ref a ∧ TupAt h a [.int x t, .int y u]

theorem pairs_firsts {h : Heap} : ∀ {vs : List Value}, (∀ v ∈ vs, PairAt h v) → ∃ fs, KatTups h vs fs ∧ fs.length = vs.length ∧ ∀ f ∈ fs, ∃ x t, f = Value.int x t
  | [], _ => ⟨[], trivial, rfl, fun _ q => by cases q⟩
  | v :: vs, hp => by
    obtain ⟨fs, h1, h2, h3⟩ := pairs_firsts fun v hv => hp v (.tail _ hv)
    obtain ⟨a, x, y, t, u, rfl, n, ho⟩ := hp v (.head _)
    exact ⟨.int x t :: fs, KatTups.cons ho rfl rfl rfl h1, by simp [h2], fun f hf => by
      rcases List.mem_cons.mp hf with rfl | hf
      · exact ⟨x, t, rfl⟩
      · exact h3 f hf⟩

section
variable {prog : Program} {w : World} {A : Around} {E : Value → Shared → Prop} {s : Shared}
theorem pair_lt {h : Heap} {v w' : Value} {C : Bool → Shared → Prop} (hv : PairAt s.heap v) (hw : PairAt s.heap w') (hC : ∀ b, C b s) : wpAny (model prog w) A (keyLt' (tuples' (Value.type "int" != Value.type "tuple")) v w') C E s := by
  obtain ⟨a, x, y, t, u, rfl, n, ho⟩ := hv
  obtain ⟨a', x', y', t', u', rfl, n', ho'⟩ := hw
  refine kat_lt ho rfl ho' rfl ?_
  show KatLex prog w A _ _ C [(.int x t, .int x' t'), (.int y u, .int y' u')] 0 s
  refine kat_cons (wpAny_eqBool_int ?_)
  refine kat_go (fun _ => kat_yes (kat_cons (wpAny_eqBool_int ?_))) fun _ => kat_no ?_
  · refine kat_go (fun _ => kat_yes (kat_nil (hC _))) fun _ => kat_no ?_
    show wpAny (model prog w) A (oneLt' false _ _) C _ s
    exact kat_one _ _ (lt_int (hC _))
  · show wpAny (model prog w) A (oneLt' true _ _) C _ s
    exact oneLt_int (hC _)

theorem list_sort_pairs {a : Addr} {vs : List Value} {n : Nat} {P : PySem.Fin → Shared → Prop} (ho : s.heap.get? a = some (seqObj "list" vs.toArray n))
    (hpairs : ∀ v ∈ vs, PairAt s.heap v) (h64 : vs.length < 64)
    (h : ∀ p : Array Nat, PermR vs.length p → P (.done (.ret .none)) { s with heap := sortedHeap s.heap a vs (p.toList.map fun i => vs.getD i Value.none).toArray }) :
    wpAny (model prog w) A (Builtin.«list.sort» ⟨[.ref a], []⟩) P E s := by
  rw [list_sort_plain]
  have ha : a < s.heap.objs.size := Heap.lt_size ho
  refine wpAny_bind (listItems_at ho rfl ?_)
  refine wpAny_bind (listUpdate_at ho rfl ?_ (by rw [List.size_toArray, sizeLine_eq]; omega) (Nat.zero_le _))
  obtain ⟨e1, ho1⟩ : ∃ e1, (s.heap.update a (Obj.mapSeq fun _ => (#[] : Array Value))).get? a = some (seqObj "list" #[] e1) := ⟨_, get?_update_seq ho fun _ => #[]⟩
  refine wpAny_bind (seqEpoch_at ho1 rfl ?_)
  refine wpAny_bind (wpAny_newTuple ?_ (by show vs.length ≤ _; rw [sizeLine_eq]; omega))
  refine wpAny_bind (wpAny_newList ?_ (Nat.zero_le _))
  refine wpAny_holding ?_
  have ho6 : (((s.heap.update a (Obj.mapSeq fun _ => (#[] : Array Value))).push (seqObj "tuple" vs.toArray 0)).push (seqObj "list" #[] 0)).get? a = some (seqObj "list" #[] e1) := by
    rw [Heap.get?_push_ne _ _ _ (by rw [size_push', Heap.size_update]; exact Nat.ne_of_lt (Nat.lt_succ_of_lt ha)), Heap.get?_push_ne _ _ _ (by rw [Heap.size_update]; exact Nat.ne_of_lt ha)]
    exact ho1
  show wpAny (model prog w) A _ P E { s with heap := ((s.heap.update a (Obj.mapSeq fun _ => (#[] : Array Value))).push (seqObj "tuple" vs.toArray 0)).push (seqObj "list" #[] 0) }
  dsimp only
  have hsz : vs.toArray.size = vs.length := by simp
  by_cases h2 : vs.toArray.size < 2
  · rw [if_pos h2, if_pos h2]
    refine wpAny_bind (wpAny_pure ?_)
    rw [StateT.run_pure]
    refine wpAny_bind (wpAny_pure ?_)
    dsimp only
    refine wpAny_bind (seqEpoch_at ho6 rfl ?_)
    refine wpAny_bind (listUpdate_at ho6 rfl ?_ (Nat.zero_le _) (hsz2 := by rw [Array.size_map]; show (pairsOf vs).size ≤ _; rw [pairsOf_size, sizeLine_eq]; omega))
    simp only [bne_self_eq_false, Bool.false_eq_true, if_false]
    have hp := h (List.range vs.length).toArray (Array.Perm.refl _)
    have e : ((List.range vs.length).toArray.toList.map fun i => vs.getD i Value.none).toArray = (arrOf (SortSt.mk' general' (vs.toArray.zip vs.toArray) #[] 7 none)).map (·.2) := by
      show _ = (vs.toArray.zip vs.toArray).map (·.2)
      apply Array.toList_inj.mp
      rw [Array.toList_map, Array.toList_zip]
      show (List.range vs.length).map (fun i => vs.getD i Value.none) = (vs.zip vs).map (·.2)
      rw [List.map_snd_zip (Nat.le_refl _)]
      refine List.ext_getElem (by simp) fun i h1 h2 => ?_
      have : i < vs.length := by simpa using h1
      simp [this]
    rw [e] at hp
    exact wpAny_pure hp
  · rw [if_neg h2, if_neg h2]
    have hp3 : ∀ v ∈ vs, PairAt (((s.heap.update a (Obj.mapSeq fun _ => (#[] : Array Value))).push (seqObj "tuple" vs.toArray 0)).push (seqObj "list" #[] 0)) v := fun v hv => by
      obtain ⟨b, x, y, t, u, e, k, hb⟩ := hpairs v hv
      have hne : b ≠ a := by rintro rfl; rw [ho] at hb; have := congrArg Obj.cls (Option.some.inj hb); simp [seqObj] at this
      exact ⟨b, x, y, t, u, e, k, Heap.get?_push_of_some _ (Heap.get?_push_of_some _ (by rw [Heap.get?_update_ne _ _ _ _ hne]; exact hb))⟩
    obtain ⟨fs, t1, t2, t3⟩ := pairs_firsts hp3
    refine wpAny_bind (kat_kind (T := Value.type "int") (fs := fs) t1 (by omega) (fun f hf => ?_) rfl ?_)
    · obtain ⟨x, t, rfl⟩ := t3 f hf
      exact Looks.now
    · refine wpAny_bind (wpAny_mono (kat_run (κ := tuples' (Value.type "int" != Value.type "tuple")) (ks := vs) (vs := vs) (E := E) (G := fun p s' => PermR vs.length p ∧ s' = { s with heap := ((s.heap.update a (Obj.mapSeq fun _ => (#[] : Array Value))).push (seqObj "tuple" vs.toArray 0)).push (seqObj "list" #[] 0) })
        (Q := fun st' s' => ∃ p : Array Nat, PermR vs.length p ∧ arrOf st' = p.map (kas_item (vs.toArray.zip vs.toArray)) ∧ failedOf st' = none ∧ s' = { s with heap := ((s.heap.update a (Obj.mapSeq fun _ => (#[] : Array Value))).push (seqObj "tuple" vs.toArray 0)).push (seqObj "list" #[] 0) }) rfl (by omega) h64 (fun p st' s' a1 a2 a3 a4 => ⟨p, a4.1, a2, a3, a4.2⟩) ?_) ?_ fun _ _ e => e)
      · refine AllT.wp (fun i j hi hj C hC => ?_) (fun p hp => ⟨hp, rfl⟩) _ (all_sort (by omega))
        unfold kas_ask
        have gi : ∀ {i}, i < vs.length → PairAt (((s.heap.update a (Obj.mapSeq fun _ => (#[] : Array Value))).push (seqObj "tuple" vs.toArray 0)).push (seqObj "list" #[] 0)) (vs.getD i Value.none) := fun {i} hi => by
          have : vs.getD i Value.none = vs[i] := by simp [hi]
          rw [this]; exact hp3 _ (List.getElem_mem hi)
        exact pair_lt (h := s.heap) (gi hi) (gi hj) hC
      · rintro ⟨⟨⟩, st'⟩ s' ⟨p, hp, har, hf, rfl⟩
        dsimp only
        have hout := kat_snds (ks := vs) (vs := vs) rfl har
        rw [hout]
        have hps : p.size = vs.length := by
          have := hp.size_eq; simpa using this
        refine wpAny_bind (seqEpoch_at ho6 rfl ?_)
        refine wpAny_bind (listUpdate_at ho6 rfl ?_ (Nat.zero_le _) (hsz2 := by rw [List.size_toArray, List.length_map, Array.length_toList, hps, sizeLine_eq]; omega))
        rw [hf]
        simp only [bne_self_eq_false, Bool.false_eq_true, if_false]
        exact wpAny_pure (h p hp)

theorem call_sorted_pairs {l : Addr} {vs : List Value} {Q : Value → Shared → Prop} (hl : s.heap.IsList l vs.toArray) (hpairs : ∀ v ∈ vs, PairAt s.heap v) (h64 : vs.length < 64)
    (h : ∀ p : Array Nat, PermR vs.length p → Q (.ref (s.heap.objs.size + 1)) { s with heap := sortedAll s.heap vs (p.toList.map fun i => vs.getD i Value.none).toArray }) :
    wpAny (model prog w) A (call (.builtin "sorted") [.ref l]) Q E s := by
  refine Calls.call_function_entry kind_sorted plain_sorted entry_sorted (args_sorted1 _) ?_
  unfold Builtin.«sorted»
  refine wpAny_bind (m := checkCount "sorted" 1 1 _) (wpAny_pure ?_)
  refine wpAny_bind (collect_list hl ?_ (by rw [sizeLine_eq]; omega))
  refine wpAny_bind (wpAny_newList ?_ (by rw [sizeLine_eq]; omega))
  have hsz : ((s.heap.push (seqObj "list" #[] 0)).update s.heap.objs.size (Obj.mapSeq (· ++ vs.toArray))).objs.size = s.heap.objs.size + 1 := by
    rw [Heap.size_update, size_push']
  have hoL : (((s.heap.push (seqObj "list" #[] 0)).update s.heap.objs.size (Obj.mapSeq (· ++ vs.toArray))).push (seqObj "list" vs.toArray 0)).get? (s.heap.objs.size + 1) = some (seqObj "list" vs.toArray 0) := by
    rw [← hsz]; exact Heap.get?_push_size _ rfl
  have hp3 : ∀ v ∈ vs, PairAt (((s.heap.push (seqObj "list" #[] 0)).update s.heap.objs.size (Obj.mapSeq (· ++ vs.toArray))).push (seqObj "list" vs.toArray 0)) v := fun v hv => by
    obtain ⟨b, x, y, t, u, e, k, hb⟩ := hpairs v hv
    have hlt : b < s.heap.objs.size := Heap.lt_size hb
    refine ⟨b, x, y, t, u, e, k, ?_⟩
    rw [Heap.get?_push_ne _ _ _ (by rw [hsz]; exact Nat.ne_of_lt (Nat.lt_succ_of_lt hlt)), Heap.get?_update_ne _ _ _ _ (Nat.ne_of_lt hlt), Heap.get?_push_ne _ _ _ (Nat.ne_of_lt hlt)]
    exact hb
  show wpAny _ _ _ _ _ { s with heap := ((s.heap.push (seqObj "list" #[] 0)).update s.heap.objs.size (Obj.mapSeq (· ++ vs.toArray))).push (seqObj "list" vs.toArray 0) }
  rw [hsz]
  refine wpAny_bind (wpAny_holding (wpAny_call_entry slot_list_sort ⟨_, hoL, rfl⟩ entry_list_sort (list_sort_pairs hoL hp3 h64 fun p a1 => ⟨_, rfl, ?_⟩) (args_list_sort _)))
  exact wpAny_pure ⟨_, rfl, h p a1⟩
end

section
variable {c : Cx} {E : Exc} {g : Gh} {Q : PV → Gh → Prop}
theorem CallV_sorted_pairs {ps : List PV} (hp : ∀ p ∈ ps, ∃ x y, p = .tup [.int x, .int y]) (h64 : ps.length < 64) (h : ∀ qs, qs.Perm ps → Q (.lst qs) g) : CallV c E g (.builtin "sorted") [.lst ps] Q := fun s vs S r => by
  obtain ⟨v, _, rfl, ⟨a, us, rfl, hl, nb, hz, rs⟩, rfl⟩ := r
  have hlen := rs.length
  refine call_sorted_pairs hl.isList (fun v hv => ?_) (by omega) fun p hperm => ?_
  · obtain ⟨i, hi, rfl⟩ := List.getElem_of_mem hv
    obtain ⟨q, hq, rq⟩ := rs.get' (List.getElem?_eq_getElem hi)
    obtain ⟨x, y, rfl⟩ := hp q (List.mem_of_getElem? hq)
    obtain ⟨b, ws, e, ht, _, _, ⟨v1, _, rfl, ⟨t, rfl⟩, ⟨v2, _, rfl, ⟨u, rfl⟩, rfl⟩⟩⟩ := rq
    exact ⟨b, x, y, t, u, e, ht⟩
  · have hps : p.size = us.length := by have := hperm.size_eq; simpa using this
    have hk : ∀ b o, s.heap.get? b = some o → (sortedAll s.heap us (p.toList.map fun i => us.getD i Value.none).toArray).get? b = some o := fun b o e => sortedAll_old e
    have hss : s.heap.objs.size ≤ (sortedAll s.heap us (p.toList.map fun i => us.getD i Value.none).toArray).objs.size := by
      unfold sortedAll sortedHeap
      simp only [Heap.size_update, size_push']
      omega
    obtain ⟨e1, he1⟩ := sortedAll_at s.heap us (p.toList.map fun i => us.getD i Value.none).toArray
    have hpl : p.toList.Perm (List.range us.length) := by
      have := Array.perm_iff_toList_perm.mp hperm; simpa using this
    have hlt : ∀ i ∈ p.toList, i < us.length := fun i hi => by have := hpl.mem_iff.mp hi; simpa using this
    have hperm2 : (p.toList.map fun i => ps.getD i .none).Perm ps := by
      have h1 : (p.toList.map fun i => ps.getD i PV.none).Perm ((List.range us.length).map fun i => ps.getD i PV.none) := hpl.map _
      have h2 : ((List.range us.length).map fun i => ps.getD i PV.none) = ps := by
        refine List.ext_getElem (by simp [hlen]) fun i h1 h2 => ?_
        simp [h2]
      rw [h2] at h1; exact h1
    have rr : VRs (c.B g) s.heap (p.toList.map fun i => ps.getD i .none) (p.toList.map fun i => us.getD i Value.none) := by
      refine VRs.of_pointwise (by simp) fun i q v hq hv => ?_
      rw [List.getElem?_map] at hq hv
      cases hpi : p.toList[i]? with
      | none => rw [hpi] at hq; cases hq
      | some j =>
        rw [hpi] at hq hv
        have hj := hlt j (List.mem_of_getElem? hpi)
        have hj' : j < ps.length := by omega
        simp only [Option.map_some, Option.some.injEq] at hq hv
        obtain ⟨y, hy, ry⟩ := rs.get (List.getElem?_eq_getElem hj')
        have e1 : ps.getD j .none = ps[j] := by simp [hj']
        have e2 : us.getD j Value.none = y := by simp [List.getD, hy]
        rw [← hq, ← hv, e1, e2]; exact ry
    have x : Step c NoW g s g { s with heap := sortedAll s.heap us (p.toList.map fun i => us.getD i Value.none).toArray } := Step.keeps S hk hss
    refine ⟨_, g, h _ hperm2, ⟨_, _, rfl, ⟨e1, he1⟩, fun q => ?_, by simp [hps, hlen]; exact hz, x.vrs rr⟩, x⟩
    exact absurd (S.ltB _ q) (Nat.not_lt.mpr (Nat.le_succ _))
end

end Mine

set_option maxRecDepth 100000
namespace Mine
open PySem PyProof.Rows
open Builtin

/-! ## sequences of either kind, and what draws from them -/
def SIName (b : Bool) : String := if b then "tuple_iterator" else "list_iterator"
def SeqK (b : Bool) (h : Heap) (l : Addr) (vs : List Value) : Prop := if b then TupAt h l vs else LstAt h l vs
def SIt (b : Bool) (h : Heap) (it l : Addr) (i : Nat) : Prop := if b then h.IsTupleIter it l i else h.IsListIter it l i
theorem SeqK.at {b h h' l vs} (x : SeqK b h l vs) (hk : ∀ o, h.get? l = some o → h'.get? l = some o) : SeqK b h' l vs := by
  cases b <;> exact let ⟨n, e⟩ := x; ⟨n, hk _ e⟩
theorem SIt.at {b h h' it l i} (x : SIt b h it l i) (hk : ∀ o, h.get? it = some o → h'.get? it = some o) : SIt b h' it l i := by
  cases b <;> exact let ⟨o, e, r⟩ := x; ⟨o, hk _ e, r⟩
theorem SeqK.lt {b h l vs} (x : SeqK b h l vs) : l < h.objs.size := by cases b <;> exact let ⟨n, e⟩ := x; Heap.lt_size e

section
variable {prog : Program} {w : World} {A : Around} {E : Value → Shared → Prop} {s : Shared}

theorem nextOf_tuple_item {it l : Addr} {i : Nat} {items} {x : Value} {Q : Value → Shared → Prop} (hit : s.heap.IsTupleIter it l i)
    (hl : s.heap.IsTuple l items) (hx : items[i]? = some x)
    (hQ : ∀ h', h'.IsTupleIter it l (i + 1) → Heap.SameBut it s.heap h' → Q x { s with heap := h' }) :
    wpAny (model prog w) A (Builtin.SmallTypes.nextOf (.ref it)) Q E s := by
  obtain ⟨o, ho, hc, hd⟩ := id hit
  obtain ⟨ol, hol, _, nl, hdl⟩ := hl
  unfold Builtin.SmallTypes.nextOf
  refine wpAny_bind (wpAny_callSpecial?_slot (name := Str.ofString "__next__") hit.typeIs F.slot_tuple_iterator_next
    (wpAny_call_entry F.slot_tuple_iterator_next hit.typeIs F.entry_tuple_iterator_next ?_ (F.args_tuple_iterator_next_1 _)))
  show wpAny _ _ (field (.ref it) 0 >>= _) _ _ s
  refine wpAny_bind (wpAny_field ho hd (x := .ref l) rfl ?_)
  show wpAny _ _ (if (Value.ref l == Value.none) = true then _ else _) _ _ s
  rw [if_neg (show ¬ ((Value.ref l == Value.none) = true) from Bool.false_ne_true)]
  show wpAny _ _ (field (.ref it) 1 >>= _) _ _ s
  refine wpAny_bind (wpAny_field ho hd (x := .int i 0) rfl ?_)
  show wpAny _ _ (seqItems? (.ref l) >>= _) _ _ s
  refine wpAny_bind (wpAny_seqItems hol hdl ?_)
  simp only [Int.toNat_natCast, hx]
  refine wpAny_bind (wpAny_setField ho hd (by simp) (wpAny_pure ⟨x, rfl, wpAny_pure (hQ _ ?_ (Heap.SameBut.update ..))⟩))
  exact ⟨_, Heap.get?_update_self _ ho (Obj.isFreed_of_fields (Obj.data_mapFields hd _)), (Obj.cls_mapFields ..).trans hc, by
    rw [Obj.data_mapFields hd]; simp [rawInt]⟩

theorem nextOf_tuple_end {it l : Addr} {i : Nat} {items} {Q : Value → Shared → Prop} (hh : A.handled = none)
    (hit : s.heap.IsTupleIter it l i) (hl : s.heap.IsTuple l items) (hx : items[i]? = none)
    (hE : ∀ h' e, Heap.ExtBut it s.heap h' → (∃ o, h'.get? e = some o ∧ o.cls = .type "StopIteration") → E (.ref e) { s with heap := h' }) :
    wpAny (model prog w) A (Builtin.SmallTypes.nextOf (.ref it)) Q E s := by
  obtain ⟨o, ho, hc, hd⟩ := id hit
  obtain ⟨ol, hol, _, nl, hdl⟩ := hl
  unfold Builtin.SmallTypes.nextOf
  refine wpAny_bind (wpAny_callSpecial?_slot (name := Str.ofString "__next__") hit.typeIs F.slot_tuple_iterator_next
    (wpAny_call_entry F.slot_tuple_iterator_next hit.typeIs F.entry_tuple_iterator_next ?_ (F.args_tuple_iterator_next_1 _)))
  show wpAny _ _ (field (.ref it) 0 >>= _) _ _ s
  refine wpAny_bind (wpAny_field ho hd (x := .ref l) rfl ?_)
  show wpAny _ _ (if (Value.ref l == Value.none) = true then _ else _) _ _ s
  rw [if_neg (show ¬ ((Value.ref l == Value.none) = true) from Bool.false_ne_true)]
  show wpAny _ _ (field (.ref it) 1 >>= _) _ _ s
  refine wpAny_bind (wpAny_field ho hd (x := .int i 0) rfl ?_)
  show wpAny _ _ (seqItems? (.ref l) >>= _) _ _ s
  refine wpAny_bind (wpAny_seqItems hol hdl ?_)
  simp only [Int.toNat_natCast, hx]
  refine wpAny_bind (wpAny_rule (wpAny_bind (wpAny_setField ho hd (by simp) ?_)))
  show wpAny _ _ (newExc (.type "StopIteration") [] >>= _) _ _ _
  refine wpAny_bind ?_
  simp only [newExc, newTuple]
  refine wpAny_bind (wpAny_newObj_type ?_ (by size_fits))
  refine wpAny_bind (m := firstArgMember _ _) (wpAny_of_eq (a := Value.none) (by first | rfl | (simp only [firstArgMember]; rfl)) ?_)
  refine wpAny_newObj_type ?_ (by size_fits)
  simp only [raiseNew]
  refine wpAny_bind (wpAny_handled ?_)
  first | rw [show A.in1.handled = none from hh] | rw [hh]
  refine wpAny_bind (wpAny_pure (wpAny_throw ?_))
  exact hE _ _ (((Heap.SameBut.update ..).extBut.push _).push _) ⟨_, Heap.get?_push_size _ rfl, rfl⟩
end

theorem Draws_seq {prog : Program} {w : World} {A : Around} (hh : A.handled = none) (b : Bool) (it l : Addr) (hne : l ≠ it) (vs : List Value) :
    Draws prog w A it [it, l] vs.length (fun i v => vs[i]? = some v) (fun i h => SIt b h it l i ∧ SeqK b h l vs) where
  live := fun _ _ st => by cases b <;> exact let ⟨o, ho, _⟩ := st.1; ⟨o, ho⟩
  frame := fun _ _ _ st hk => ⟨st.1.at fun o e => hk it (by simp) o e, st.2.at fun o e => hk l (by simp) o e⟩
  item := fun i s Q E hi st hQ => by
    have keep : ∀ {h'}, Heap.SameBut it s.heap h' → SeqK b h' l vs := fun hs' => st.2.at fun o e => (hs'.2 l hne).trans e
    cases b with
    | true => exact nextOf_tuple_item (x := vs[i]) st.1 (TupAt.isTuple st.2) (by simp [hi]) fun h' hit' hs' => hQ _ h' s.toks (by simp [hi]) ⟨hit', keep hs'⟩ hs'
    | false => exact wpAny_nextOf_list_item (x := vs[i]) st.1 (LstAt.isList st.2) (by simp [hi]) fun h' hit' hs' => hQ _ h' s.toks (by simp [hi]) ⟨hit', keep hs'⟩ hs'
  done := fun s Q E st hE => by
    cases b with
    | true => exact nextOf_tuple_end hh st.1 (TupAt.isTuple st.2) (by simp) hE
    | false => exact wpAny_nextOf_list_end hh st.1 (LstAt.isList st.2) (by simp) hE

/-! ## zip, whatever it draws from -/
structure Zap (z TI TO i1 i2 : Addr) (fp1 fp2 : List Addr) : Prop where
  TIz : TI ≠ z
  TOz : TO ≠ z
  i1z : i1 ≠ z
  i2z : i2 ≠ z
  TITO : TI ≠ TO
  TIi1 : TI ≠ i1
  TIi2 : TI ≠ i2
  TOi1 : TO ≠ i1
  TOi2 : TO ≠ i2
  zf1 : z ∉ fp1
  zf2 : z ∉ fp2
  of1 : TO ∉ fp1
  of2 : TO ∉ fp2
  i1f2 : i1 ∉ fp2
  i2f1 : i2 ∉ fp1
  i2f2 : i2 ∈ fp2
section
variable {prog : Program} {w : World} {A : Around} {E : Value → Shared → Prop} {s : Shared} {z TI TO i1 i2 : Addr} {fp1 fp2 : List Addr} {n1 n2 i : Nat} {P1 P2 : Nat → Value → Prop} {S1 S2 : Nat → Heap → Prop}

theorem Draws.but {it : Addr} {fp : List Addr} {n : Nat} {P : Nat → Value → Prop} {St : Nat → Heap → Prop} (D : Draws prog w A it fp n P St) {i : Nat} {h h' : Heap} {a : Addr} (x : St i h) (hs : Heap.SameBut a h h') (ha : a ∉ fp) : St i h' :=
  D.frame _ _ _ x fun b hb o e => (hs.2 b fun q => ha (q ▸ hb)).trans e

theorem zip_next_itemD {a b : Value} {Q : Value → Shared → Prop} (D1 : Draws prog w A i1 fp1 n1 P1 S1) (D2 : Draws prog w A i2 fp2 n2 P2 S2) (D : Zap z TI TO i1 i2 fp1 fp2)
    (hz : IsZip s.heap z TI TO .none) (hTI : IsPair s.heap TI (.ref i1) (.ref i2)) (hTO : IsPair s.heap TO a b) (h1 : S1 i s.heap) (h2 : S2 i s.heap) (l1 : i < n1) (l2 : i < n2)
    (hQ : ∀ x y h' tk, P1 i x → P2 i y → IsZip h' z TI TO (rawInt s.heap.objs.size) → IsPair h' TO x y → S1 (i + 1) h' → S2 (i + 1) h' → IsPair h' s.heap.objs.size x y → h'.objs.size = s.heap.objs.size + 1 →
      (∀ c o, c ≠ z → c ≠ TO → c ≠ i1 → c ≠ i2 → s.heap.get? c = some o → h'.get? c = some o) → Q (.ref s.heap.objs.size) { s with heap := h', toks := tk }) :
    wpAny (model prog w) A (Builtin.«zip.__next__» ⟨[.ref z], []⟩) (fun fin s' => ∃ v, fin = .done (.ret v) ∧ Q v s') E s := by
  obtain ⟨hp, gg, dd, tk₀, os⟩ := s
  replace hz : IsZip hp z TI TO .none := hz
  replace hTI : IsPair hp TI (.ref i1) (.ref i2) := hTI
  replace hTO : IsPair hp TO a b := hTO
  show wpAny _ _ (field (.ref z) 2 >>= _) _ _ _
  refine wpAny_bind (wpAny_field hz rfl (x := .bool false) rfl ?_)
  show wpAny _ _ (field (.ref z) 3 >>= _) _ _ _
  refine wpAny_bind (wpAny_field hz rfl (x := .ref TI) rfl ?_)
  refine wpAny_bind (wpAny_seqItems hTI rfl ?_)
  show wpAny _ _ (Builtin.SmallTypes.ownedTupleIsFree (.ref z) >>= _) _ _ _
  refine wpAny_bind ?_
  unfold Builtin.SmallTypes.ownedTupleIsFree
  refine wpAny_bind (wpAny_field hz rfl (x := .none) rfl (wpAny_pure ?_))
  simp only [if_true]
  refine wpAny_bind (wpAny_rule ?_)
  refine wpAny_bind (wpAny_field hz rfl (x := .ref TO) rfl ?_)
  refine wpAny_bind (wpAny_setField_rec hz (by simp) fun h₁ hz₁ hs₁ => ?_)
  replace hs₁ : Heap.SameBut z hp h₁ := hs₁
  replace hz₁ : IsZip h₁ z TI TO .ellipsis := hz₁
  refine wpAny_bind ?_
  simp only [List.zipIdx_cons, List.zipIdx_nil, List.forIn_cons, List.forIn_nil]
  refine wpAny_bind (wpAny_bind (wpAny_onRaise ?_))
  show wpAny _ _ (Builtin.SmallTypes.nextOf (.ref i1) >>= _) _ _ _
  refine wpAny_bind (D1.item i _ _ _ l1 (Draws.but D1 h1 hs₁ D.zf1) fun x h₂ tk₂ hPx h1₂ hs₂ => wpAny_pure ?_)
  replace hs₂ : Heap.SameBut i1 h₁ h₂ := hs₂
  have hTO₂ : IsPair h₂ TO a b := hs₂.extBut _ _ D.TOi1 (hs₁.extBut _ _ D.TOz hTO)
  refine wpAny_bind (wpAny_seqItems hTO₂ rfl ?_)
  refine wpAny_bind (wpAny_updateSeq_pair hTO₂ fun h₃ hTO₃ hs₃ => ?_)
  replace hs₃ : Heap.SameBut TO h₂ h₃ := hs₃
  replace hTO₃ : IsPair h₃ TO x b := hTO₃
  refine wpAny_bind (wpAny_letGo (wpAny_pure ?_))
  refine wpAny_bind (wpAny_bind (wpAny_onRaise ?_))
  show wpAny _ _ (Builtin.SmallTypes.nextOf (.ref i2) >>= _) _ _ _
  refine wpAny_bind (D2.item i _ _ _ l2 (Draws.but D2 (Draws.but D2 (Draws.but D2 h2 hs₁ D.zf2) hs₂ D.i1f2) hs₃ D.of2) fun y h₄ tk₄ hPy h2₄ hs₄ => wpAny_pure ?_)
  replace hs₄ : Heap.SameBut i2 h₃ h₄ := hs₄
  have hTO₄ : IsPair h₄ TO x b := hs₄.extBut _ _ D.TOi2 hTO₃
  refine wpAny_bind (wpAny_seqItems hTO₄ rfl ?_)
  refine wpAny_bind (wpAny_updateSeq_pair hTO₄ fun h₅ hTO₅ hs₅ => ?_)
  replace hs₅ : Heap.SameBut TO h₄ h₅ := hs₅
  replace hTO₅ : IsPair h₅ TO x y := hTO₅
  refine wpAny_bind (wpAny_letGo (wpAny_pure (wpAny_pure ?_)))
  refine wpAny_bind (wpAny_seqItems hTO₅ rfl ?_)
  refine wpAny_bind (wpAny_newTuple ?_)
  have hsz : h₅.objs.size = hp.objs.size := by rw [hs₅.1, hs₄.1, hs₃.1, hs₂.1, hs₁.1]
  have hz₅ : IsZip h₅ z TI TO .ellipsis := hs₅.extBut _ _ D.TOz.symm (hs₄.extBut _ _ D.i2z.symm (hs₃.extBut _ _ D.TOz.symm (hs₂.extBut _ _ D.i1z.symm hz₁)))
  have hk₅ : ∀ c o, c ≠ z → c ≠ TO → c ≠ i1 → c ≠ i2 → hp.get? c = some o → h₅.get? c = some o := fun c o c1 c2 c3 c4 e =>
    hs₅.extBut _ _ c2 (hs₄.extBut _ _ c4 (hs₃.extBut _ _ c2 (hs₂.extBut _ _ c3 (hs₁.extBut _ _ c1 e))))
  have h1₅ : S1 (i + 1) h₅ := Draws.but D1 (Draws.but D1 (Draws.but D1 h1₂ hs₃ D.of1) hs₄ D.i2f1) hs₅ D.of1
  have h2₅ : S2 (i + 1) h₅ := Draws.but D2 h2₄ hs₅ D.of2
  have hzlt : z < h₅.objs.size := Heap.lt_size hz₅
  show wpAny _ _ (Builtin.SmallTypes.ownedTupleHandOut (.ref z) (.ref h₅.objs.size) >>= _) _ _ _
  refine wpAny_bind ?_
  unfold Builtin.SmallTypes.ownedTupleHandOut
  have hz₆ : IsZip (h₅.push { cls := .type "tuple", data := .seq #[x, y] }) z TI TO .ellipsis := Heap.get?_push_of_some _ hz₅
  refine wpAny_bind (wpAny_setField_rec hz₆ (by simp) fun h₇ hz₇ hs₇ => ?_)
  replace hz₇ : IsZip h₇ z TI TO (rawInt h₅.objs.size) := hz₇
  refine wpAny_setField_rec hz₇ (by simp) fun h₈ hz₈ hs₈ => ?_
  replace hz₈ : IsZip h₈ z TI TO (rawInt h₅.objs.size) := hz₈
  have up : ∀ c o, c ≠ z → h₅.get? c = some o → h₈.get? c = some o := fun c o c1 e => hs₈.extBut _ _ c1 (hs₇.extBut _ _ c1 (Heap.get?_push_of_some _ e))
  have hT₈ : IsPair h₈ h₅.objs.size x y := hs₈.extBut _ _ (Nat.ne_of_gt hzlt) (hs₇.extBut _ _ (Nat.ne_of_gt hzlt) (Heap.get?_push_size _ rfl))
  have hz8 : h₈.objs.size = h₅.objs.size + 1 := by rw [hs₈.1, hs₇.1, Heap.size_push]
  rw [hsz] at hz₈ hT₈ hz8
  refine wpAny_pure ⟨_, rfl, ?_⟩
  show Q (.ref h₅.objs.size) _
  rw [hsz]
  exact hQ x y h₈ tk₄ hPx hPy hz₈ (up _ _ D.TOz hTO₅) (D1.frame _ _ _ h1₅ fun c hc o e => up c o (fun q => D.zf1 (q ▸ hc)) e) (D2.frame _ _ _ h2₅ fun c hc o e => up c o (fun q => D.zf2 (q ▸ hc)) e) hT₈ hz8 fun c o c1 c2 c3 c4 e => up c o c1 (hk₅ c o c1 c2 c3 c4 e)

theorem zip_next_endD {a b : Value} {Q : PySem.Fin → Shared → Prop} (D1 : Draws prog w A i1 fp1 n1 P1 S1) (D2 : Draws prog w A i2 fp2 n2 P2 S2) (D : Zap z TI TO i1 i2 fp1 fp2)
    (hz : IsZip s.heap z TI TO .none) (hTI : IsPair s.heap TI (.ref i1) (.ref i2)) (hTO : IsPair s.heap TO a b) (h1 : S1 i s.heap) (h2 : S2 i s.heap) (hend : i = n1 ∨ (i < n1 ∧ i = n2))
    (hE : ∀ h' tk e, (∀ c o, c ≠ z → c ≠ TO → c ≠ i1 → c ≠ i2 → s.heap.get? c = some o → h'.get? c = some o) → (∃ o, h'.get? e = some o ∧ o.cls = .type "StopIteration") → E (.ref e) { s with heap := h', toks := tk }) :
    wpAny (model prog w) A (Builtin.«zip.__next__» ⟨[.ref z], []⟩) Q E s := by
  obtain ⟨hp, gg, dd, tk₀, os⟩ := s
  replace hz : IsZip hp z TI TO .none := hz
  replace hTI : IsPair hp TI (.ref i1) (.ref i2) := hTI
  replace hTO : IsPair hp TO a b := hTO
  show wpAny _ _ (field (.ref z) 2 >>= _) _ _ _
  refine wpAny_bind (wpAny_field hz rfl (x := .bool false) rfl ?_)
  show wpAny _ _ (field (.ref z) 3 >>= _) _ _ _
  refine wpAny_bind (wpAny_field hz rfl (x := .ref TI) rfl ?_)
  refine wpAny_bind (wpAny_seqItems hTI rfl ?_)
  show wpAny _ _ (Builtin.SmallTypes.ownedTupleIsFree (.ref z) >>= _) _ _ _
  refine wpAny_bind ?_
  unfold Builtin.SmallTypes.ownedTupleIsFree
  refine wpAny_bind (wpAny_field hz rfl (x := .none) rfl (wpAny_pure ?_))
  simp only [if_true]
  refine wpAny_bind (wpAny_rule ?_)
  refine wpAny_bind (wpAny_field hz rfl (x := .ref TO) rfl ?_)
  refine wpAny_bind (wpAny_setField_rec hz (by simp) fun h₁ hz₁ hs₁ => ?_)
  replace hs₁ : Heap.SameBut z hp h₁ := hs₁
  replace hz₁ : IsZip h₁ z TI TO .ellipsis := hz₁
  refine wpAny_bind ?_
  simp only [List.zipIdx_cons, List.zipIdx_nil, List.forIn_cons, List.forIn_nil]
  refine wpAny_bind (wpAny_bind (wpAny_onRaise ?_))
  show wpAny _ _ (Builtin.SmallTypes.nextOf (.ref i1) >>= _) _ _ _
  rcases hend with rfl | ⟨hlt, rfl⟩
  · refine wpAny_bind (D1.done _ _ _ (Draws.but D1 h1 hs₁ D.zf1) fun h₂ e hs₂ he => ?_)
    replace hs₂ : Heap.ExtBut i1 h₁ h₂ := hs₂
    obtain ⟨oe, hoe, hce⟩ := he
    have hz₂ : IsZip h₂ z TI TO .ellipsis := hs₂ _ _ D.i1z.symm hz₁
    have hez : e ≠ z := fun x => by subst x; rw [hz₂] at hoe; cases hoe; simp at hce
    refine wpAny_setField_rec hz₂ (by simp) fun h₃ _ hs₃ => hE h₃ _ e (fun c o c1 _ c3 _ x => hs₃.extBut _ _ c1 (hs₂ _ _ c3 (hs₁.extBut _ _ c1 x))) ⟨oe, hs₃.extBut _ _ hez hoe, hce⟩
  · refine wpAny_bind (D1.item i _ _ _ hlt (Draws.but D1 h1 hs₁ D.zf1) fun x h₂ tk₂ hPx h1₂ hs₂ => wpAny_pure ?_)
    replace hs₂ : Heap.SameBut i1 h₁ h₂ := hs₂
    have hTO₂ : IsPair h₂ TO a b := hs₂.extBut _ _ D.TOi1 (hs₁.extBut _ _ D.TOz hTO)
    refine wpAny_bind (wpAny_seqItems hTO₂ rfl ?_)
    refine wpAny_bind (wpAny_updateSeq_pair hTO₂ fun h₃ hTO₃ hs₃ => ?_)
    replace hs₃ : Heap.SameBut TO h₂ h₃ := hs₃
    refine wpAny_bind (wpAny_letGo (wpAny_pure ?_))
    refine wpAny_bind (wpAny_bind (wpAny_onRaise ?_))
    show wpAny _ _ (Builtin.SmallTypes.nextOf (.ref i2) >>= _) _ _ _
    refine wpAny_bind (D2.done _ _ _ (Draws.but D2 (Draws.but D2 (Draws.but D2 h2 hs₁ D.zf2) hs₂ D.i1f2) hs₃ D.of2) fun h₄ e hs₄ he => ?_)
    replace hs₄ : Heap.ExtBut i2 h₃ h₄ := hs₄
    obtain ⟨oe, hoe, hce⟩ := he
    have hz₄ : IsZip h₄ z TI TO .ellipsis := hs₄ _ _ D.i2z.symm (hs₃.extBut _ _ D.TOz.symm (hs₂.extBut _ _ D.i1z.symm hz₁))
    have hez : e ≠ z := fun x => by subst x; rw [hz₄] at hoe; cases hoe; simp at hce
    refine wpAny_setField_rec hz₄ (by simp) fun h₅ _ hs₅ => hE h₅ _ e (fun c o c1 c2 c3 c4 x => hs₅.extBut _ _ c1 (hs₄ _ _ c4 (hs₃.extBut _ _ c2 (hs₂.extBut _ _ c3 (hs₁.extBut _ _ c1 x))))) ⟨oe, hs₅.extBut _ _ hez hoe, hce⟩
end

/-- what zip draws, taken apart by the target -/
theorem PIter_zip {prog : Program} {w : World} {A : Around} {z TI TO i1 i2 : Addr} {fp1 fp2 : List Addr} {ps qs : List PV} {vs ws : List Value} {S1 S2 : Nat → Heap → Prop} {elts : List Expr} {k : Nat} {pos : Pos} (hh : A.handled = none)
    (D1 : Draws prog w A.in1 i1 fp1 vs.length (fun i v => vs[i]? = some v) S1) (D2 : Draws prog w A.in1 i2 fp2 ws.length (fun i v => ws[i]? = some v) S2) (D : Zap z TI TO i1 i2 fp1 fp2) (hif1 : i1 ∈ fp1)
    (e1 : vs.length = ps.length) (e2 : ws.length = qs.length) :
    PIter prog w A (.Tuple elts k pos) z (z :: TI :: TO :: (fp1 ++ fp2)) [z, TO, i1, i2] (List.zipWith (fun p q => PV.tup [p, q]) ps qs) (ps.zip vs ++ qs.zip ws)
      (fun i h => IsZip h z TI TO .none ∧ IsPair h TI (.ref i1) (.ref i2) ∧ (∃ a b, IsPair h TO a b) ∧ S1 i h ∧ S2 i h) where
  sub := fun b hb => by
    simp only [List.mem_cons, List.not_mem_nil, or_false, List.mem_append] at hb ⊢
    rcases hb with rfl | rfl | rfl | rfl
    · exact .inl rfl
    · exact .inr (.inr (.inl rfl))
    · exact .inr (.inr (.inr (.inl hif1)))
    · exact .inr (.inr (.inr (.inr D.i2f2)))
  frame := fun i h h' ⟨hz, hTI, ⟨a, b, hTO⟩, h1, h2⟩ hk =>
    ⟨hk z (by simp) _ hz, hk TI (by simp) _ hTI, ⟨a, b, hk TO (by simp) _ hTO⟩, D1.frame _ _ _ h1 fun b hb o e => hk b (by simp [hb]) o e, D2.frame _ _ _ h2 fun b hb o e => hk b (by simp [hb]) o e⟩
  item := fun i p s K E hp hz1 hK => by
    obtain ⟨hz, hTI, ⟨a, b, hTO⟩, h1, h2⟩ := hz1
    rw [List.getElem?_zipWith] at hp
    cases hpi : ps[i]? with
    | none => rw [hpi] at hp; simp at hp
    | some p1 =>
      cases hqi : qs[i]? with
      | none => rw [hpi, hqi] at hp; simp at hp
      | some q1 =>
        rw [hpi, hqi] at hp
        simp only [Option.some.injEq] at hp
        subst hp
        have l1 : i < vs.length := by rw [e1]; exact (List.getElem?_eq_some_iff.mp hpi).1
        have l2 : i < ws.length := by rw [e2]; exact (List.getElem?_eq_some_iff.mp hqi).1
        have hT : s.TypeIs (.ref z) "zip" := ⟨_, hz, rfl⟩
        unfold pyNext
        refine wpAny_bind (wpAny_attempt (wpAny_callSpecial?_slot (name := Str.ofString "__next__") hT F.slot_zip_next
          (wpAny_call_entry F.slot_zip_next hT F.entry_zip_next
            (zip_next_itemD D1 D2 D hz hTI hTO h1 h2 l1 l2 fun x y h' tk hx hy a1 a2 a3 a4 a5 a6 hk => wpAny_pure ⟨_, rfl, ?_⟩) (F.args_zip_next_1 _))))
        refine wpAny_letOwnedTupleGo_zip a1 fun h'' hz'' hs'' => ?_
        replace hs'' : Heap.SameBut z h' h'' := hs''
        have hzs : z < s.heap.objs.size := Heap.lt_size hz
        have hpair : TupAt h'' s.heap.objs.size [x, y] := ⟨0, hs''.extBut _ _ (Nat.ne_of_gt hzs) a5⟩
        refine hK _ h'' tk (fun B hB hsrc => ⟨s.heap.objs.size, [x, y], rfl, hpair, fun q => absurd (hB _ q) (Nat.lt_irrefl _), by rw [sizeLine_eq]; simp, ?_⟩)
          ⟨hz'', hs''.extBut _ _ D.TIz (hk _ _ D.TIz D.TITO D.TIi1 D.TIi2 hTI), ⟨_, _, hs''.extBut _ _ D.TOz a2⟩, Draws.but D1 a3 hs'' D.zf1, Draws.but D2 a4 hs'' D.zf2⟩
          (fun c o hc e => hs''.extBut _ _ (fun q => hc (by simp [q])) (hk c o (fun q => hc (by simp [q])) (fun q => hc (by simp [q])) (fun q => hc (by simp [q])) (fun q => hc (by simp [q])) e))
        exact VRs.cons (hsrc (p1, x) (List.mem_append_left _ (zip_get hpi hx))) (VRs.one (hsrc (q1, y) (List.mem_append_right _ (zip_get hqi hy))))
  done := fun s K E hz2 hK => by
    obtain ⟨hz, hTI, ⟨a, b, hTO⟩, h1, h2⟩ := hz2
    have hlen : (List.zipWith (fun p q => PV.tup [p, q]) ps qs).length = min vs.length ws.length := by rw [List.length_zipWith, e1, e2]
    rw [hlen] at h1 h2
    have hT : s.TypeIs (.ref z) "zip" := ⟨_, hz, rfl⟩
    unfold pyNext
    refine wpAny_bind (wpAny_attempt (wpAny_callSpecial?_slot (name := Str.ofString "__next__") hT F.slot_zip_next
      (wpAny_call_entry F.slot_zip_next hT F.entry_zip_next (zip_next_endD D1 D2 D hz hTI hTO h1 h2 (by omega) fun h' tk e hk he => ?_) (F.args_zip_next_1 _))))
    obtain ⟨o, ho, hc⟩ := he
    refine wpAny_bind (wpAny_isInstance (T := "StopIteration") (b := true) ⟨o, ho, hc⟩ isSubtype_stop ?_)
    exact wpAny_pure ⟨rfl, hK h' tk fun c o hc e => hk c o (fun q => hc (by simp [q])) (fun q => hc (by simp [q])) (fun q => hc (by simp [q])) (fun q => hc (by simp [q])) e⟩
  self := fun i s Q E ⟨hz, _⟩ hQ => wpAny_pyIter_zip hz hQ

/-! ## zip(..) of two sequences -/
abbrev itObj (b : Bool) (l : Addr) : Obj := { cls := .type (SIName b), data := .fields #[.ref l, .int 0 0] }
theorem pyIter_seqK {prog : Program} {w : World} {A : Around} {E : Value → Shared → Prop} {s : Shared} {b : Bool} {l : Addr} {vs : List Value} {Q : Value → Shared → Prop} (hl : SeqK b s.heap l vs)
    (hQ : Q (.ref s.heap.objs.size) { s with heap := s.heap.push (itObj b l) }) : wpAny (model prog w) A (pyIter (.ref l)) Q E s := by
  cases b with
  | true => exact wpAny_pyIter_tuple (TupAt.isTuple hl) hQ
  | false => exact wpAny_pyIter_list (LstAt.isList hl) hQ

abbrev zH1 (h : Heap) (b1 : Bool) (l1 : Addr) : Heap := h.push (itObj b1 l1)
abbrev zH2 (h : Heap) (b1 b2 : Bool) (l1 l2 : Addr) : Heap := (zH1 h b1 l1).push (itObj b2 l2)
abbrev zH3 (h : Heap) (b1 b2 : Bool) (l1 l2 : Addr) : Heap := (zH2 h b1 b2 l1 l2).push { cls := .type "tuple", data := .seq #[.ref h.objs.size, .ref (zH1 h b1 l1).objs.size] }
abbrev zH4 (h : Heap) (b1 b2 : Bool) (l1 l2 : Addr) : Heap := (zH3 h b1 b2 l1 l2).push { cls := .type "tuple", data := .seq #[.none, .none] }
abbrev zH5 (h : Heap) (b1 b2 : Bool) (l1 l2 : Addr) : Heap := (zH4 h b1 b2 l1 l2).push { cls := .type "zip", data := .fields #[.none, .bool false, .bool false, .ref (zH2 h b1 b2 l1 l2).objs.size, .ref (zH3 h b1 b2 l1 l2).objs.size] }

theorem meets_zip_newK (b1 b2 : Bool) (l1 l2 : Addr) (vs ws : List Value) :
    Meets (Builtin.«zip.__new__» ⟨[.type "zip", .ref l1, .ref l2], []⟩) (fun _ R s => SeqK b1 s.heap l1 vs ∧ SeqK b2 s.heap l2 ws ∧
      R (.ok (.ret (.ref (zH4 s.heap b1 b2 l1 l2).objs.size))) { s with heap := zH5 s.heap b1 b2 l1 l2 }) :=
  .of_wp fun prog w A R s h => by
    obtain ⟨hp, g, d, tk, os⟩ := s; obtain ⟨hl1, hl2, h⟩ := h
    have hsub := sub_zip
    have hL1 : SeqK b1 (Shared.heap ⟨hp, g, d, tk, os⟩) l1 vs := hl1
    have hL2 : SeqK b2 (Shared.heap ⟨hp.push (itObj b1 l1), g, d, tk, os⟩) l2 ws := SeqK.at hl2 fun o e => Heap.get?_push_of_some _ e
    wp_walk using pyIter_seqK hL1, pyIter_seqK hL2
    exact ⟨_, rfl, h⟩

section
variable {c : Cx} {E : Exc} {g : Gh}
theorem seqK_of {p : PV} {v : Value} {h : Heap} (S : St c g h) (r : VR (c.B g) h p v) {xs : List PV} (hp : p = .lst xs ∨ p = .tup xs) :
    ∃ b l vs, v = .ref l ∧ SeqK b h l vs ∧ vs.length = xs.length ∧ VRs (c.B g) h xs vs ∧ l ∉ c.B g := by
  rcases hp with rfl | rfl
  · obtain ⟨a, vs, rfl, hl, nb, hz, rs⟩ := r; exact ⟨false, a, vs, rfl, hl, rs.length, rs, nb⟩
  · obtain ⟨a, vs, rfl, hl, nb, hz, rs⟩ := r; exact ⟨true, a, vs, rfl, hl, rs.length, rs, nb⟩

theorem SeqK.notSeq {b h l vs} (x : SeqK b h l vs) : ¬ NotSeq h l := fun k => by
  cases b with
  | true => obtain ⟨n, e⟩ := x; exact k _ _ _ e rfl
  | false => obtain ⟨n, e⟩ := x; exact k _ _ _ e rfl

theorem CallI_zip {elts : List Expr} {k : Nat} {pos : Pos} {p q : PV} {ps qs : List PV} {K : List PV → Prop} (hp : p = .lst ps ∨ p = .tup ps) (hq : q = .lst qs ∨ q = .tup qs)
    (h : K (List.zipWith (fun p q => PV.tup [p, q]) ps qs)) : CallI c E g (.Tuple elts k pos) (.type "zip") [p, q] K := fun s us S r => by
  obtain ⟨v, _, rfl, rv, ⟨w, _, rfl, rw', rfl⟩⟩ := r
  obtain ⟨b1, l1, vs, rfl, s1, n1, r1, x1⟩ := seqK_of S rv hp
  obtain ⟨b2, l2, ws, rfl, s2, n2, r2, x2⟩ := seqK_of S rw' hq
  refine callType_new F.called_zip (by decide) (F.typeCall_zip_2 _ _) (F.newCall_zip_2 _ _) (fun obj => F.args_object_init_3 obj _ _) F.entry_zip_new
    (meets_zip_newK b1 b2 l1 l2 vs ws) ⟨s1, s2, ?_⟩
  have z1 : (zH1 s.heap b1 l1).objs.size = s.heap.objs.size + 1 := Heap.size_push ..
  have z2 : (zH2 s.heap b1 b2 l1 l2).objs.size = s.heap.objs.size + 2 := by rw [Heap.size_push, z1]
  have z3 : (zH3 s.heap b1 b2 l1 l2).objs.size = s.heap.objs.size + 3 := by rw [Heap.size_push, z2]
  have z4 : (zH4 s.heap b1 b2 l1 l2).objs.size = s.heap.objs.size + 4 := by rw [Heap.size_push, z3]
  have z5 : (zH5 s.heap b1 b2 l1 l2).objs.size = s.heap.objs.size + 5 := by rw [Heap.size_push, z4]
  have g5 : (zH5 s.heap b1 b2 l1 l2).get? (zH4 s.heap b1 b2 l1 l2).objs.size = some _ := Heap.get?_push_size _ rfl
  have g4 : (zH5 s.heap b1 b2 l1 l2).get? (zH3 s.heap b1 b2 l1 l2).objs.size = some _ := Heap.get?_push_of_some _ (Heap.get?_push_size _ rfl)
  have g3 : (zH5 s.heap b1 b2 l1 l2).get? (zH2 s.heap b1 b2 l1 l2).objs.size = some _ := Heap.get?_push_of_some _ (Heap.get?_push_of_some _ (Heap.get?_push_size _ rfl))
  have g2 : (zH5 s.heap b1 b2 l1 l2).get? (zH1 s.heap b1 l1).objs.size = some _ := Heap.get?_push_of_some _ (Heap.get?_push_of_some _ (Heap.get?_push_of_some _ (Heap.get?_push_size _ rfl)))
  have g1 : (zH5 s.heap b1 b2 l1 l2).get? s.heap.objs.size = some _ := Heap.get?_push_of_some _ (Heap.get?_push_of_some _ (Heap.get?_push_of_some _ (Heap.get?_push_of_some _ (Heap.get?_push_size _ rfl))))
  show _ ∧ _
  rw [z2, z3, z4] at g5
  rw [z1, z2] at g3
  rw [z3] at g4
  rw [z1] at g2
  rw [z4]
  have hk : ∀ b o, s.heap.get? b = some o → (zH5 s.heap b1 b2 l1 l2).get? b = some o := fun b o x => Heap.get?_push_of_some _ (Heap.get?_push_of_some _ (Heap.get?_push_of_some _ (Heap.get?_push_of_some _ (Heap.get?_push_of_some _ x))))
  have hs : s.heap.objs.size ≤ (zH5 s.heap b1 b2 l1 l2).objs.size := by rw [z5]; exact Nat.le_add_right _ _
  have a1 : l1 < s.heap.objs.size := s1.lt
  have a2 : l2 < s.heap.objs.size := s2.lt
  generalize zH5 s.heap b1 b2 l1 l2 = H at *
  refine ⟨⟨_, g5, rfl⟩, ?_⟩
  refine wpAny_pyIter_zip g5 ⟨_, h, Step.keeps S hk hs, ?_⟩
  have hw : ∀ b ∈ [s.heap.objs.size + 4, s.heap.objs.size + 3, s.heap.objs.size, s.heap.objs.size + 1], s.heap.objs.size ≤ b ∧ b < H.objs.size := fun b hb => by
    rw [z5]
    simp only [List.mem_cons, List.not_mem_nil, or_false] at hb
    generalize s.heap.objs.size = N at *
    rcases hb with rfl | rfl | rfl | rfl <;> constructor <;> omega
  have ne1 : l1 ≠ s.heap.objs.size := Nat.ne_of_lt a1
  have zap : Zap (s.heap.objs.size + 4) (s.heap.objs.size + 2) (s.heap.objs.size + 3) s.heap.objs.size (s.heap.objs.size + 1) [s.heap.objs.size, l1] [s.heap.objs.size + 1, l2] := by
    generalize hN : s.heap.objs.size = N at *
    have b1 : (l1 : Nat) < N := a1
    have b2 : (l2 : Nat) < N := a2
    have c1 : ∀ d : Nat, ¬ (N + d : Nat) = l1 := fun d e => absurd (Nat.lt_of_le_of_lt (Nat.le_add_right N d) (e ▸ b1)) (Nat.lt_irrefl N)
    have c2 : ∀ d : Nat, ¬ (N + d : Nat) = l2 := fun d e => absurd (Nat.lt_of_le_of_lt (Nat.le_add_right N d) (e ▸ b2)) (Nat.lt_irrefl N)
    have n1 : ∀ {x y : Nat}, x ≠ y → N + x ≠ N + y := fun h e => h (Nat.add_left_cancel e)
    have n0 : ∀ {x : Nat}, x ≠ 0 → N + x ≠ N := fun h e => h (by omega)
    refine ⟨n1 (by decide), n1 (by decide), (n0 (by decide)).symm, n1 (by decide), n1 (by decide), n0 (by decide), n1 (by decide), n0 (by decide), n1 (by decide), ?_, ?_, ?_, ?_, ?_, ?_, by simp⟩ <;>
      simp only [List.mem_cons, List.not_mem_nil, or_false, not_or]
    · exact ⟨n0 (by decide), c1 4⟩
    · exact ⟨n1 (by decide), c2 4⟩
    · exact ⟨n0 (by decide), c1 3⟩
    · exact ⟨n1 (by decide), c2 3⟩
    · exact ⟨(n0 (by decide)).symm, c2 0⟩
    · exact ⟨n0 (by decide), c1 1⟩
  have hnf : ∀ l, (∃ b us, SeqK b s.heap l us) → ¬ Frm c l := fun l ⟨b, us, x⟩ q => x.notSeq (S.notSeqF l q)
  refine ⟨s.heap.objs.size + 4, _, _, _, _, rfl, PIter_zip (elts := elts) (k := k) (pos := pos) S.ok.handled (Draws_seq (A := c.A.in1) S.ok.handled b1 s.heap.objs.size l1 ne1 vs) (Draws_seq (A := c.A.in1) S.ok.handled b2 (s.heap.objs.size + 1) l2 (Nat.ne_of_lt (Nat.lt_succ_of_lt a2)) ws) zap (by simp) n1 n2,
    ⟨g5, g3, ⟨_, _, g4⟩, ⟨?_, s1.at fun o e => hk _ o e⟩, ⟨?_, s2.at fun o e => hk _ o e⟩⟩, S.withEx hk hs hw, fun e he => ?_, fun b hb => ?_, fun b hb => ?_⟩
  · cases b1 <;> exact ⟨_, g1, rfl, rfl⟩
  · cases b2 <;> exact ⟨_, g2, rfl, rfl⟩
  · have up : ∀ {p v}, VR (c.B g) s.heap p v → VR ((c.withEx ([s.heap.objs.size + 4, s.heap.objs.size + 3, s.heap.objs.size, s.heap.objs.size + 1] ++ c.ex)).B g) H p v := fun {p v} r => by
      refine VR.ext (Ev.of_keeps (B := c.B g) (W := NoW) hk hs) (fun _ q => q.elim) (fun a q => ?_) r
      rcases List.mem_append.mp q with q | q
      · exact .inl (List.mem_append_left _ q)
      · rcases List.mem_append.mp q with q | q
        · exact .inr (hw a q).1
        · exact .inl (List.mem_append_right _ q)
    rcases List.mem_append.mp he with he | he
    · exact up (mem_zip_vr r1 e he)
    · exact up (mem_zip_vr r2 e he)
  · have new : ∀ d : Nat, d < 5 → (s.heap.objs.size + d < H.objs.size ∧ ¬ Frm c (s.heap.objs.size + d) ∧ s.heap.objs.size + d ∉ g.wr) := fun d hd =>
      ⟨by rw [z5]; exact Nat.add_lt_add_left hd _, fun q => absurd (S.ownLt _ q) (Nat.not_lt.mpr (Nat.le_add_right _ _)), fun q => absurd (S.ltB _ (Cx.wr_B q)) (Nat.not_lt.mpr (Nat.le_add_right _ _))⟩
    simp only [List.mem_cons, List.not_mem_nil, or_false, List.mem_append, List.cons_append, List.nil_append] at hb
    rcases hb with rfl | rfl | rfl | rfl | rfl | rfl | rfl
    · exact new 4 (by decide)
    · exact new 2 (by decide)
    · exact new 3 (by decide)
    · exact new 0 (by decide)
    · exact ⟨Nat.lt_of_lt_of_le a1 hs, hnf _ ⟨_, _, s1⟩, fun q => x1 (Cx.wr_B q)⟩
    · exact new 1 (by decide)
    · exact ⟨Nat.lt_of_lt_of_le a2 hs, hnf _ ⟨_, _, s2⟩, fun q => x2 (Cx.wr_B q)⟩
  · exact ⟨(hw b hb).1, Nat.le_trans S.size (hw b hb).1⟩
end

end Mine

set_option maxRecDepth 100000
namespace Mine
open PySem PyProof.Rows

def VSub : List (Str × PV) → List (Str × PV) → Prop
  | [], _ => True
  | (x, p) :: r, vs => vs.lookup x = some p ∧ VSub r vs
theorem VSub.all : ∀ {r vs}, VSub r vs → ∀ e ∈ r, vs.lookup e.1 = some e.2
  | [], _, _, _, h => by cases h
  | (x, p) :: r, vs, h, e, he => by
    rcases List.mem_cons.mp he with rfl | he
    · exact h.1
    · exact h.2.all e he

section
variable {c : Cx} {E : Exc} {g : Gh} {Q : PF → Gh → Prop}
theorem WX_ForI {target iter : Expr} {body : List Stmt} {pos : Pos} (items : List PV) (Inv : Nat → Gh → Prop)
    (h : WIter c E iter target g fun its g₁ => its = items ∧ Inv 0 g₁)
    (turn : ∀ ex k x g, items[k]? = some x → Inv k g → WAsg (c.withEx ex) NoExc target x g fun g₁ => WS (c.withEx ex) NoExc body g₁ (Turn Q (Inv (k + 1))))
    (fin : ∀ g, Inv items.length g → Q .next g)
    (hs : ∀ x, foldedSetIterable iter c.env x = pure x := by intro _; rfl) :
    WX c E (.For target iter body [] pos) g Q := by
  refine WX_For (fun r g => ∃ k, k ≤ items.length ∧ r = items.drop k ∧ Inv k g) ?_ (fun ex x rest' g ⟨k, hk, e, hi⟩ => ?_) (fun g ⟨k, hk, e, hi⟩ => ?_) hs
  · intro s S
    refine wpAny_mono (h s S) (fun x s₁ h₁ => wpAny_mono h₁ (fun it s₂ ⟨its, g', ⟨e, hi⟩, x₂, W⟩ => ⟨its, g', ⟨0, Nat.zero_le _, by rw [e]; rfl, hi⟩, x₂, W⟩) fun _ _ e => e) fun _ _ e => e
  · have hlt : k < items.length := by
      rcases Nat.lt_or_ge k items.length with q | q
      · exact q
      · rw [List.drop_eq_nil_of_le q] at e; cases e
    rw [List.drop_eq_getElem_cons hlt] at e
    obtain ⟨e1, e2⟩ := List.cons.inj e
    have hx : items[k]? = some x := by rw [List.getElem?_eq_getElem hlt, e1]
    intro s v S r
    refine wpAny_mono (turn ex k x g hx hi s v S r) (fun _ s₁ ⟨g₁, h₁, x₁⟩ => ⟨g₁, h₁.mono fun pf g' hq => ?_, x₁⟩) fun _ _ e => e
    cases pf with
    | next => exact ⟨k + 1, hlt, e2, hq⟩
    | cont => exact ⟨k + 1, hlt, e2, hq⟩
    | brk => exact hq
    | ret p => exact hq
  · have : k = items.length := by
      rcases Nat.lt_or_ge k items.length with q | q
      · rw [List.drop_eq_getElem_cons q] at e; cases e
      · omega
    subst this
    exact fin g hi
end

section
variable {c : Cx} {E : Exc} {g : Gh} {Q : PF → Gh → Prop} {rest : List Stmt}

/-- what is known, written out anew -/
theorem WS_to {ss : List Stmt} (vars : List (Str × PV)) (hv : VSub vars g.vars) (h : WS c E ss ⟨vars, g.bx, g.ro⟩ Q) : WS c E ss g Q := h.weaken rfl rfl hv.all

/-- the end of a loop's turn -/
theorem WS_turn {I : Gh → Prop} (h : I g) : WS c E [] g (Turn Q I) := WS_nil h
theorem WS_turnTo {I : Gh → Prop} (vars : List (Str × PV)) (hv : VSub vars g.vars) (h : I ⟨vars, g.bx, g.ro⟩) : WS c E [] g (Turn Q I) := WS_to vars hv (WS_turn h)

/-- a loop by places -/
theorem WS_ForI {target iter : Expr} {body : List Stmt} {pos : Pos} (items : List PV) (Inv : Nat → Gh → Prop)
    (h : WIter c E iter target g fun its g₁ => its = items ∧ Inv 0 g₁)
    (turn : ∀ ex k x g, items[k]? = some x → Inv k g → WAsg (c.withEx ex) NoExc target x g fun g₁ => WS (c.withEx ex) NoExc body g₁ (Turn (Then c E rest Q) (Inv (k + 1))))
    (fin : ∀ g, Inv items.length g → WS c E rest g Q)
    (hs : ∀ x, foldedSetIterable iter c.env x = pure x := by intro _; rfl) :
    WS c E (.For target iter body [] pos :: rest) g Q :=
  WS_cons (WX_ForI items Inv h turn fin hs)

theorem pints_get {ns : List Int} {k : Nat} {x : PV} (h : (pints ns)[k]? = some x) : ∃ i, ns[k]? = some i ∧ x = .int i := by
  rw [pints, List.getElem?_map] at h
  cases e : ns[k]? with
  | none => rw [e] at h; cases h
  | some i => rw [e] at h; exact ⟨i, rfl, by simpa using h.symm⟩
theorem pints_length (ns : List Int) : (pints ns).length = ns.length := List.length_map ..

/-- for x in range(..) -/
theorem WS_ForR {x : Str} {px : Pos} {iter : Expr} {body : List Stmt} {pos : Pos} (a : Int) (n : Nat) (Inv : Nat → Gh → Prop)
    (h : WIter c E iter (.Name x px) g fun its g₁ => its = pints (rangeInts a 1 n) ∧ Inv 0 g₁)
    (turn : ∀ ex (k : Nat) g, k < n → Inv k g → WS (c.withEx ex) NoExc body (g.set x (.int (a + k))) (Turn (Then c E rest Q) (Inv (k + 1))))
    (fin : ∀ g, Inv n g → WS c E rest g Q) (hk : Kept c x := by first | exact .inl rfl | exact .inr ⟨rfl, rfl⟩)
    (hs : ∀ x, foldedSetIterable iter c.env x = pure x := by intro _; rfl) :
    WS c E (.For (.Name x px) iter body [] pos :: rest) g Q := by
  have hl : (pints (rangeInts a 1 n)).length = n := by rw [pints_length, rangeInts_length]
  refine WS_ForI (pints (rangeInts a 1 n)) Inv h (fun ex k y g hy hi => ?_) (fun g hi => fin g (by rw [hl] at hi; exact hi)) hs
  obtain ⟨i, hi', rfl⟩ := pints_get hy
  have hkn : k < n := by have := (List.getElem?_eq_some_iff.mp hi').1; rwa [rangeInts_length] at this
  rw [rangeInts_get hkn] at hi'
  have : i = a + k := by have := Option.some.inj hi'; omega
  subst this
  exact WAsg_Name (turn ex k g hkn hi) hk

/-- one target that is no name -/
theorem WS_AssignT {t value : Expr} {pos : Pos} (h : WE c E value g fun p g₁ => WAsg c E t p g₁ fun g₂ => WS c E rest g₂ Q) (hs : swapsWithSole [t] value pos.line c.env = pure false := by rfl)
    (hw : swappedStores [t] value c.env = pure none := by rfl) (he : (assignEach [t] c.env).map (·.2) = [assign t c.env] := by rfl) : WS c E (.Assign [t] value pos :: rest) g Q := WS_cons fun s S => by
  refine wpAny_Assign_stores (wpAny_mono (h s S) (fun v s₁ hz5 => ?_) fun _ _ e => e) hs hw
  obtain ⟨p, g₁, h₁, r₁, x₁⟩ := hz5
  rw [he]
  refine wpAny_mono (h₁ s₁ v x₁.st r₁) (fun _ s₂ hz6 => ?_) fun _ _ e => e
  obtain ⟨g₂, h₂, x₂⟩ := hz6
  exact ⟨.next, g₂, h₂, rfl, x₁.toOwn.trans x₂⟩

/-- if, and on with one thing known -/
theorem WS_IfJ {test : Expr} {body orelse : List Stmt} {pos : Pos} (J : Gh → Prop) (h : WT c E test g fun b g₁ => (b = true → WS c E body g₁ fun pf g' => pf = .next ∧ J g') ∧ (b = false → WS c E orelse g₁ fun pf g' => pf = .next ∧ J g'))
    (hJ : ∀ g', J g' → WS c E rest g' Q) : WS c E (.If test body orelse pos :: rest) g Q :=
  WS_If (h.mono fun b g₁ k => ⟨fun e => (k.1 e).mono fun pf g' ⟨e, j⟩ => by subst e; exact hJ g' j, fun e => (k.2 e).mono fun pf g' ⟨e, j⟩ => by subst e; exact hJ g' j⟩)
theorem WS_join {J : Gh → Prop} (vars : List (Str × PV)) (hv : VSub vars g.vars) (h : J ⟨vars, g.bx, g.ro⟩) : WS c E [] g fun pf g' => pf = .next ∧ J g' := WS_to vars hv (WS_nil ⟨rfl, h⟩)
end

/-! ## comprehensions over ints -/
section
variable {c : Cx} {g : Gh}
theorem CompAt.ofG {α : Type} {scope : Scope} {target elt : Expr} {ifs : List Expr} {zs : List α} (pv : α → PV) {Q : List PV → Gh → Prop} (f : α → Option PV) (vars' : List (Str × PV)) (hcaps : Caps c.kind scope g.vars vars')
    (hturn : ∀ z ∈ zs, ∀ cl C ex, WTurn (c.comp scope cl C ex) target ifs elt (pv z) ⟨vars', g.bx, g.ro⟩ (fun g' => g'.bx = g.bx ∧ g'.ro = g.ro ∧ f z = none) (fun p g' => g'.bx = g.bx ∧ g'.ro = g.ro ∧ f z = some p))
    (hQ : Q (zs.filterMap f) g) (hsz : zs.length ≤ sizeLine) : CompAt c scope target elt ifs (zs.map pv) g Q := by
  refine ⟨vars', fun rest acc bx => bx = g.bx ∧ ∃ done r, zs = done ++ r ∧ rest = r.map pv ∧ acc = done.filterMap f, by rw [List.length_map]; exact hsz, hcaps, ⟨rfl, [], zs, rfl, rfl, rfl⟩, ?_, ?_⟩
  · rintro cl C ex y rest acc bx hd ⟨rfl, done, r, e1, e2, rfl⟩
    match r, e2 with
    | [], e2 => cases e2
    | z :: r, e2 =>
      obtain ⟨rfl, rfl⟩ := List.cons.inj e2
      have hz : z ∈ zs := by rw [e1]; simp
      have hs : zs = (done ++ [z]) ++ r := by rw [e1]; simp
      intro s v S rr
      refine wpAny_mono (hturn z hz cl C ex s v S rr) (fun _ s₁ ⟨g₁, h₁, x₁⟩ => ⟨g₁, fun s₂ S₂ => wpAny_mono (h₁ s₂ S₂) (fun b s₃ ⟨g₃, ⟨k1, k2⟩, x₃⟩ => ⟨g₃, ⟨fun e => ?_, fun e => ?_⟩, x₃⟩) fun _ _ e => e, x₁⟩) fun _ _ e => e
      · obtain ⟨q1, q2, q3⟩ := k1 e
        exact ⟨q2, by rw [q1], q1, done ++ [z], r, hs, rfl, by simp [q3]⟩
      · exact (k2 e).mono fun p g' ⟨q1, q2, q3⟩ => ⟨q2, by rw [q1], q1, done ++ [z], r, hs, rfl, by simp [q3]⟩
  · rintro acc bx hd _ ⟨rfl, done, r, e1, e2, rfl⟩
    match r, e2 with
    | [], e2 =>
      rw [List.append_nil] at e1
      subst e1
      exact hQ
    | _ :: _, e2 => cases e2

theorem CompAt.ofList {α : Type} {scope : Scope} {x : Str} {px : Pos} {elt : Expr} {zs : List α} (pv : α → PV) {Q : List PV → Gh → Prop} (f : α → PV) (vars' : List (Str × PV)) (hcaps : Caps c.kind scope g.vars vars')
    (hturn : ∀ z ∈ zs, ∀ cl C ex, WE (c.comp scope cl C ex) NoExc elt ⟨(x, pv z) :: vars', g.bx, g.ro⟩ fun p g' => g' = ⟨(x, pv z) :: vars', g.bx, g.ro⟩ ∧ p = f z)
    (hQ : Q (zs.map f) g) (hsz : zs.length ≤ sizeLine) (hx : scope.names.lookup x = some .local := by rfl) : CompAt c scope (.Name x px) elt [] (zs.map pv) g Q := by
  refine CompAt.ofG pv (fun z => some (f z)) vars' hcaps (fun z hz cl C ex => ?_) (by rw [List.filterMap_eq_map']; exact hQ) hsz
  refine WAsg_Name (WIfs_nil ⟨fun e => (by cases e), fun _ => (hturn z hz cl C ex).mono fun p g' h => ?_⟩) (.inl ?_)
  · obtain ⟨rfl, rfl⟩ := h
    exact ⟨rfl, rfl, rfl⟩
  · show (scope.names.lookup x).map _ = _
    rw [hx]; rfl
theorem CompAt.ofInts {scope : Scope} {x : Str} {px : Pos} {elt : Expr} {zs : List Int} {Q : List PV → Gh → Prop} (f : Int → PV) (vars' : List (Str × PV)) (hcaps : Caps c.kind scope g.vars vars')
    (hturn : ∀ z ∈ zs, ∀ cl C ex, WE (c.comp scope cl C ex) NoExc elt ⟨(x, .int z) :: vars', g.bx, g.ro⟩ fun p g' => g' = ⟨(x, .int z) :: vars', g.bx, g.ro⟩ ∧ p = f z)
    (hQ : Q (zs.map f) g) (hsz : zs.length ≤ sizeLine) (hx : scope.names.lookup x = some .local := by rfl) : CompAt c scope (.Name x px) elt [] (pints zs) g Q :=
  CompAt.ofList PV.int f vars' hcaps hturn hQ hsz hx
end

end Mine

set_option maxRecDepth 100000
namespace Mine
open PySem PyProof.Rows

/-! ## the program's defs, by their place in it -/
def fnBody : Stmt → List Stmt
  | .FunctionDef _ _ b _ _ _ _ _ _ _ => b
  | _ => []
def fnScope : Stmt → Scope
  | .FunctionDef _ _ _ _ _ _ sc _ _ _ => sc
  | _ => default
def stAt (P : Program) (k : Nat) : Stmt := P.main.body.getD k (.Pass default)
abbrev FnK (P : Program) (h0 : Heap) (k : Nat) (nm : Str) (ps : List Str) : Prop := FnAt h0 nm ps (fnBody (stAt P k)) (fnScope (stAt P k))

structure Bl (h0 : Heap) : Prop where
  lim : h0.NoLimit
  len : BuiltIs h0 "len" (.builtin "len")
  range : BuiltIs h0 "range" (.type "range")
  min : BuiltIs h0 "min" (.builtin "min")
  max : BuiltIs h0 "max" (.builtin "max")
  isinstance : BuiltIs h0 "isinstance" (.builtin "isinstance")
  int : BuiltIs h0 "int" (.type "int")
  bool : BuiltIs h0 "bool" (.type "bool")
  list : BuiltIs h0 "list" (.type "list")
  tuple : BuiltIs h0 "tuple" (.type "tuple")
  sorted : BuiltIs h0 "sorted" (.builtin "sorted")
  zip : BuiltIs h0 "zip" (.type "zip")

section
variable {c : Cx} {E : Exc} {g : Gh} {Q : PV → Gh → Prop}
theorem Item_any {value slice : Expr} {xs : List PV} {k : Int} (h0 : 0 ≤ k) (h1 : k < xs.length) (h : ∀ p, xs[k.toNat]? = some p → Q p g) (hs : notSlice slice = true := by rfl) :
    Item c E g value slice (.lst xs) (.int k) Q :=
  Item_lst h0 (List.getElem?_eq_getElem (by omega)) (h _ (List.getElem?_eq_getElem (by omega))) hs
theorem Item_anyb {value slice : Expr} {xs : List PV} {a : Addr} {k : Int} (hb : (a, PO.lst xs) ∈ g.all) (h0 : 0 ≤ k) (h1 : k < xs.length) (h : ∀ p, xs[k.toNat]? = some p → Q p g) (hs : notSlice slice = true := by rfl) :
    Item c E g value slice (.box a) (.int k) Q :=
  Item_box hb h0 (List.getElem?_eq_getElem (by omega)) (h _ (List.getElem?_eq_getElem (by omega))) hs
theorem Item_anyt {value slice : Expr} {xs : List PV} {k : Int} (h0 : 0 ≤ k) (h1 : k < xs.length) (h : ∀ p, xs[k.toNat]? = some p → Q p g) (hs : notSlice slice = true := by rfl) :
    Item c E g value slice (.tup xs) (.int k) Q := by
  refine Item_tup ⟨k.toNat, ?_, List.getElem?_eq_getElem (by omega)⟩ (h _ (List.getElem?_eq_getElem (by omega))) hs
  unfold seqIndex?
  rw [if_neg (by omega : ¬ k < 0)]
  simp [h0, h1]
end
theorem pick2 {A B p : PV} {n : Nat} (h : [A, B][n]? = some p) : (n = 0 ∧ p = A) ∨ (n = 1 ∧ p = B) := by
  match n, h with
  | 0, h => exact .inl ⟨rfl, by simpa using h.symm⟩
  | 1, h => exact .inr ⟨rfl, by simpa using h.symm⟩
  | n + 2, h => simp at h
theorem pick3 {A B C p : PV} {n : Nat} (h : [A, B, C][n]? = some p) : (n = 0 ∧ p = A) ∨ (n = 1 ∧ p = B) ∨ (n = 2 ∧ p = C) := by
  match n, h with
  | 0, h => exact .inl ⟨rfl, by simpa using h.symm⟩
  | 1, h => exact .inr (.inl ⟨rfl, by simpa using h.symm⟩)
  | 2, h => exact .inr (.inr ⟨rfl, by simpa using h.symm⟩)
  | n + 3, h => simp at h

/-! ## what the law's drawing reckons -/
def cellAt (ns : List Int) (k : Nat) : Int := ns.getD k 0 % 1000000000000000003
theorem cellAt_nonneg (ns : List Int) (k : Nat) : 0 ≤ cellAt ns k := Int.emod_nonneg _ (by decide)
def mix (cell k : Int) : Int :=
  (((cell * 48271 + k * 69621 + 11) % 2147483647) * ((cell * 48271 + k * 69621 + 11) % 2147483647) + 7 * ((cell * 48271 + k * 69621 + 11) % 2147483647) + k) % 2147483629
theorem mix_nonneg (a k : Int) : 0 ≤ mix a k := Int.emod_nonneg _ (by decide)
def pairPV (p : Int × Int) : PV := .tup [.int p.1, .int p.2]
def jobPV (j : Int × List Int) : PV := .tup [.int j.1, .tup (pints j.2)]
theorem size_lit {n : Nat} (h : Nat.ble n 1000 = true) : n ≤ sizeLine := Nat.le_trans (Nat.le_of_ble_eq_true h) (by rw [sizeLine_eq]; decide)
end Mine

set_option maxRecDepth 100000
namespace Mine
open PySem PyProof.Rows PySem.W

/-! ## from the top of the text to what the walk asks for -/
section
variable {p : Program} {loose : List Str} {mean : ExcName → Option Value} {mg mb : Str → Option Value} {h : Heap}

theorem builtIs_of (T : Top p loose mean mg mb h) {x : Str} {v : Value} (hv : bootBuiltins x = some v) (h1 : x ∉ startupNames) (h2 : x ∉ loose) (h3 : x ∉ (recsOf p).map (·.name)) (h4 : x ∉ (litsOf p).map (·.1)) (h5 : x ∉ (clssOf p loose).map (·.name)) (hn : x ≠ "__name__") :
    BuiltIs h x v := ⟨mg, mb, T.g, T.free x h1 h2 h3 h4 h5, T.b, (T.builtins x hn).trans hv⟩

/-- the names of the builtins that a law uses -/
def blNames : List Str := ["len", "range", "min", "max", "isinstance", "int", "bool", "list", "tuple", "sorted", "zip"]
def blFree (p : Program) (loose : List Str) : Bool := blNames.all fun x => !startupNames.contains x && !loose.contains x && !((recsOf p).map (·.name)).contains x && !((litsOf p).map (·.1)).contains x && !((clssOf p loose).map (·.name)).contains x && x != "__name__"
theorem Bl.of (T : Top p loose mean mg mb h) (hf : blFree p loose = true) : Bl h := by
  have key : ∀ {x v}, x ∈ blNames → bootBuiltins x = some v → BuiltIs h x v := fun {x v} hx hv => by
    have := List.all_eq_true.mp hf x hx
    simp only [Bool.and_eq_true, Bool.not_eq_true', bne_iff_ne] at this
    obtain ⟨⟨⟨⟨⟨a1, a2⟩, a3⟩, a4⟩, a5⟩, a6⟩ := this
    refine builtIs_of T hv (fun q => ?_) (fun q => ?_) (fun q => ?_) (fun q => ?_) (fun q => ?_) a6
    · rw [List.contains_iff_mem.mpr q] at a1; cases a1
    · rw [List.contains_iff_mem.mpr q] at a2; cases a2
    · rw [List.contains_iff_mem.mpr q] at a3; cases a3
    · rw [List.contains_iff_mem.mpr q] at a4; cases a4
    · rw [List.contains_iff_mem.mpr q] at a5; cases a5
  refine ⟨T.nolimit, key (by decide) ?_, key (by decide) ?_, key (by decide) ?_, key (by decide) ?_, key (by decide) ?_, key (by decide) ?_, key (by decide) ?_, key (by decide) ?_, key (by decide) ?_, key (by decide) ?_, key (by decide) ?_⟩ <;> decide +kernel

theorem fnAt_of (T : Top p loose mean mg mb h) {nm : Str} {ps : List Str} {body : List Stmt} {sc : Scope}
    (hd : ∃ d, d ∈ recsOf p ∧ d.name = nm ∧ d.body = body ∧ d.scope = sc ∧ ∀ pm code doc (vs : List Value), vs.length = ps.length → bindArgs (Calls.docDef d.name d.params d.body d.scope pm code doc) ⟨vs, []⟩ = pure (ps.zip vs)) :
    FnAt h nm ps body sc := by
  obtain ⟨d, hm, rfl, rfl, rfl, hb⟩ := hd
  obtain ⟨a, o, pm, code, doc, h1, h2, h3, h4⟩ := T.fn d hm
  exact ⟨a, o, _, ⟨mg, T.g, h1⟩, h2, h3, rfl, rfl, rfl, rfl, rfl, h4, fun vs hv => hb pm code doc vs hv⟩
theorem fnAt_ofJ (T : Top p loose mean mg mb h) (j : Nat) {nm : Str} {ps : List Str} {body : List Stmt} {sc : Scope} (hj : j < (recsOf p).length) (h1 : ((recsOf p)[j]'hj).name = nm) (h2 : ((recsOf p)[j]'hj).body = body) (h3 : ((recsOf p)[j]'hj).scope = sc)
    (h4 : ∀ pm code doc (vs : List Value), vs.length = ps.length → bindArgs (Calls.docDef ((recsOf p)[j]'hj).name ((recsOf p)[j]'hj).params ((recsOf p)[j]'hj).body ((recsOf p)[j]'hj).scope pm code doc) ⟨vs, []⟩ = pure (ps.zip vs)) : FnAt h nm ps body sc :=
  fnAt_of T ⟨_, List.getElem_mem hj, h1, h2, h3, h4⟩
end

/-- a law's call -/
theorem law_glue {l : OpenLaw} {w : World} {s₀ s₁ : Shared} {fa a : Addr} {vs : List Value} {ns : List Int} {D : Nat}
    (spec : FnSpec l.prog w s₁.heap "law" D [.lst (pints ns)] [] [] fun p _ => p = .bool true) (hroom : Room callerA D) (hglob : GlobIs s₁.heap "law" (.ref fa))
    (hw : Well w.params s₁.heap (.ref a) (ofPy (.list (ns.map PyData.int)))) (hl : s₁.heap.IsList a vs.toArray) (hI : IntsAre vs ns) (hn : ¬ ((63 : Nat) : Int) < (ns.length : Int)) (hg : s₁.gens = #[]) :
    wpAny (model l.row.prog w) callerA ((fun f vs => call f vs) (Value.ref fa) [Value.ref a])
      (fun v s' => GoodWG l.row.claim (classAt s₀.heap) (ExcName.means s₀.heap) [ofPy (.list (ns.map PyData.int))] s₁ (Except.ok (Flow.ret v)) s')
      (fun e s' => GoodWG l.row.claim (classAt s₀.heap) (ExcName.means s₀.heap) [ofPy (.list (ns.map PyData.int))] s₁ (Except.error e) s') s₁ := by
  have hLa : LstAt s₁.heap a vs := by
    obtain ⟨o, ho, hc, n, hd⟩ := hl
    have hofs : ofPy (.list (ns.map PyData.int)) = .list (ofPys (ns.map PyData.int)) := by rw [ofPy]
    rw [hofs] at hw
    cases hw with
    | list hget _ =>
      rw [ho] at hget
      have e := Option.some.inj hget
      rw [e] at hd
      have e2 := (Data.seq.inj hd).1
      exact ⟨0, by rw [ho, e, ← e2]⟩
  have hvr : VRs (dom ([] ++ []) ++ []) s₁.heap [.lst (pints ns)] [.ref a] := by
    refine VRs.one ⟨a, vs, rfl, hLa, (by intro q; cases q), by rw [pints_length, sizeLine_eq]; omega, ?_⟩
    clear hLa hl hw spec hn
    induction hI with
    | nil => exact rfl
    | cons n t _ ih => exact ⟨_, _, rfl, ⟨t, rfl⟩, ih⟩
  show wpAny (model l.prog w) callerA (call (Value.ref fa) [Value.ref a]) _ _ s₁
  refine wpAny_call ?_
  refine codeAny_mono (spec callerA s₁ [.ref a] (.ref fa) [] hglob hroom rfl (fun _ _ e => e) (Nat.le_refl _) (fun a q => by cases q) List.nodup_nil (fun a q => by cases q) (fun a q => by cases q) (fun a o q => by cases q) hvr) fun r s' ⟨v, p, bx', er, hq, _, rv, _, ev, hr⟩ => ?_
  subst er; subst hq
  obtain rfl : v = .bool true := rv
  refine ⟨.inl ⟨.bool true, .bool true, [], rfl, fun cls => rfl, .bool true, ?_, fun _ => ⟨List.nodup_nil, fun a q => by cases q⟩⟩, .of_keep fun b o e => ev.ext b o e (by intro q; cases q) id, hr.1, .of_eq (hr.2.trans hg)⟩
  show (WShape.has [] (WData.bool true) .bool && WTm.holds [] (.eq .res (.lit (.bool true))) { args := [ofPy (.list (ns.map PyData.int))], res := some (.bool true), after := [ofPy (.list (ns.map PyData.int))] }) = true
  have e1 : WShape.has [] (WData.bool true) .bool = true := by decide +kernel
  have e2 : PySem.W.same (WData.bool true) (WData.bool true) = true := by decide +kernel
  rw [e1, Bool.true_and]
  unfold WTm.holds
  simp only [WTm.value, e2]
end Mine

set_option maxRecDepth 100000
namespace Mine
open PySem PyProof.Rows

/-! ## while -/
section
variable {c : Cx} {E : Exc} {g : Gh} {Q : PF → Gh → Prop} {rest : List Stmt}
theorem WX_While {test : Expr} {body : List Stmt} {pos : Pos} (I : Nat → Gh → Prop) (n : Nat) (h0 : I n g)
    (h : ∀ n g, I n g → WT c NoExc test g fun b g₁ => (b = true → WS c NoExc body g₁ (Turn Q fun g' => ∃ m, m < n ∧ I m g')) ∧ (b = false → Q .next g₁)) :
    WX c E (.While test body [] pos) g Q := fun s S => by
  refine wpAny_While (codeAny_whileLoop (fun n s' => ∃ g', I n g' ∧ Step c (Own c) g s g' s') ?_ n ⟨g, h0, Step.refl S⟩)
  rintro n s₁ ⟨g₁, hI, x₁⟩
  refine wpAny_mono (h n g₁ hI s₁ x₁.st) (fun b s₂ hz1 => ?_) fun _ _ e => e.elim
  obtain ⟨g₂, h₂, x₂⟩ := hz1
  have x₁₂ := x₁.trans x₂.toOwn
  cases b with
  | true =>
    simp only [if_true]
    refine wpAny_mono (h₂.1 rfl s₂ x₂.st) (fun f s₃ hz2 => ?_) fun _ _ e => e.elim
    obtain ⟨pf, g₃, h₃, r₃, x₃⟩ := hz2
    have y := x₁₂.trans x₃
    cases pf with
    | next => obtain rfl : f = .next := r₃; obtain ⟨m, hm, hI⟩ := h₃; exact ⟨m, hm, g₃, hI, y⟩
    | cont => obtain rfl : f = .cont := r₃; obtain ⟨m, hm, hI⟩ := h₃; exact ⟨m, hm, g₃, hI, y⟩
    | brk => obtain rfl : f = .brk := r₃; exact ⟨.next, g₃, h₃, rfl, y⟩
    | ret p => obtain ⟨v, rfl, rv⟩ := r₃; exact ⟨.ret p, g₃, h₃, ⟨v, rfl, rv⟩, y⟩
  | false =>
    simp only [Bool.false_eq_true, if_false]
    exact wpAny_execs_nil ⟨.next, g₂, h₂.2 rfl, rfl, x₁₂⟩
theorem WS_While {test : Expr} {body : List Stmt} {pos : Pos} (I : Nat → Gh → Prop) (n : Nat) (h0 : I n g)
    (h : ∀ n g, I n g → WT c NoExc test g fun b g₁ => (b = true → WS c NoExc body g₁ (Turn (Then c E rest Q) fun g' => ∃ m, m < n ∧ I m g')) ∧ (b = false → WS c E rest g₁ Q)) :
    WS c E (.While test body [] pos :: rest) g Q := WS_cons (WX_While I n h0 h)
end

theorem datas_mem : ∀ {ps : List PV}, PV.datas ps = true → ∀ p ∈ ps, p.data = true
  | [], _, _, h => by cases h
  | q :: ps, hd, p, h => by
    rw [PV.datas, Bool.and_eq_true] at hd
    rcases List.mem_cons.mp h with rfl | h
    · exact hd.1
    · exact datas_mem hd.2 p h

section
variable {c : Cx} {E : Exc} {g : Gh} {Q : PV → Gh → Prop}
open PySem.SeqAt

/-! ## in, not in -/
/-- the items, asked one by one -/
theorem in_facts {s : Shared} {ps : List PV} {vs : List Value} {x : PV} {v : Value} (f : PV → Bool) (S : St c g s.heap) (rs : VRs (c.B g) s.heap ps vs) (rv : VR (c.B g) s.heap x v) (hps : PV.datas ps = true) (hx : x.data = true)
    (hlay : ∀ p ∈ ps, p.pd.canLay0 = true ∧ p.pd.depth ≤ 60) (hxl : x.pd.canLay0 = true) (hf : ∀ p ∈ ps, PyData.eqv p.pd x.pd = f p) :
    ∃ e : Value → Bool, (∀ y, y ∈ vs.toArray → EqAt c.A.in1 s y v (e y)) ∧ vs.toArray.any e = ps.any f := by
  classical
  refine ⟨fun y => decide (∃ p, p ∈ ps ∧ VR (c.B g) s.heap p y ∧ f p = true), fun y hy => ?_, ?_⟩
  · have hy' : y ∈ vs := by simpa using hy
    obtain ⟨i, hi, e⟩ := List.getElem_of_mem hy'
    obtain ⟨p, hp, rp⟩ := rs.get' (by rw [List.getElem?_eq_getElem hi, e])
    have hpm := List.mem_of_getElem? hp
    have key : decide (∃ p, p ∈ ps ∧ VR (c.B g) s.heap p y ∧ f p = true) = f p := by
      by_cases hfp : f p = true
      · rw [hfp]; exact decide_eq_true ⟨p, hpm, rp, hfp⟩
      · rw [Bool.not_eq_true] at hfp
        rw [hfp]
        refine decide_eq_false ?_
        rintro ⟨q, hq, rq, hfq⟩
        obtain ⟨as, ra⟩ := rq.reads (datas_mem hps q hq)
        obtain ⟨bs, rb⟩ := rp.reads (datas_mem hps p hpm)
        have e : q.pd = p.pd := Reads.unique q.pd p.pd y as bs (hlay q hq).1 ra rb
        rw [← hf q hq, e, hf p hpm, hfp] at hfq
        cases hfq
    show EqAt _ _ _ _ (decide _)
    rw [key, ← hf p hpm]
    obtain ⟨as, ra⟩ := rp.reads (datas_mem hps p hpm)
    obtain ⟨bs, rb⟩ := rv.reads hx
    refine eqAt_reads p.pd x.pd c.A.in1 s y v as bs ra rb (hlay p hpm).1 hxl ?_
    have h1 := (hlay p hpm).2
    have h2 : min p.pd.depth x.pd.depth ≤ p.pd.depth := Nat.min_le_left _ _
    have h3 := S.ok.room.2
    have h4 : c.A.in1.units ≤ c.A.units + 1 := by show _ ≤ _; first | exact Nat.le_refl _ | (unfold Around.in1; simp) | omega
    omega
  · rw [List.any_toArray]
    apply Bool.eq_iff_iff.mpr
    rw [List.any_eq_true, List.any_eq_true]
    constructor
    · rintro ⟨y, _, hy⟩
      obtain ⟨p, hp, _, hfp⟩ := of_decide_eq_true hy
      exact ⟨p, hp, hfp⟩
    · rintro ⟨p, hp, hfp⟩
      obtain ⟨i, hi, e⟩ := List.getElem_of_mem hp
      obtain ⟨y, hy, ry⟩ := rs.get (by rw [List.getElem?_eq_getElem hi, e])
      exact ⟨y, List.mem_of_getElem? hy, decide_eq_true ⟨p, hp, ry, hfp⟩⟩

theorem Cmp_in_tup {x : PV} {ps : List PV} (f : PV → Bool) (hps : PV.datas ps = true) (hx : x.data = true) (hlay : ∀ p ∈ ps, p.pd.canLay0 = true ∧ p.pd.depth ≤ 60) (hxl : x.pd.canLay0 = true) (hf : ∀ p ∈ ps, PyData.eqv p.pd x.pd = f p)
    (h : Q (.bool (ps.any f)) g) : Cmp c E g .In x (.tup ps) Q := fun s v w S rv hz3 => by
  obtain ⟨a, vs, e, ht, nb, hz, rs⟩ := hz3
  subst e
  obtain ⟨e, h1, h2⟩ := in_facts f S rs rv hps hx hlay hxl hf
  exact in_tupleAt e ht.isTuple h1 ⟨_, g, h, (by show Value.bool _ = Value.bool _; rw [h2]), Step.refl S⟩
theorem Cmp_notIn_tup {x : PV} {ps : List PV} (f : PV → Bool) (hps : PV.datas ps = true) (hx : x.data = true) (hlay : ∀ p ∈ ps, p.pd.canLay0 = true ∧ p.pd.depth ≤ 60) (hxl : x.pd.canLay0 = true) (hf : ∀ p ∈ ps, PyData.eqv p.pd x.pd = f p)
    (h : Q (.bool (!ps.any f)) g) : Cmp c E g .NotIn x (.tup ps) Q := fun s v w S rv hz4 => by
  obtain ⟨a, vs, e, ht, nb, hz, rs⟩ := hz4
  subst e
  obtain ⟨e, h1, h2⟩ := in_facts f S rs rv hps hx hlay hxl hf
  exact notIn_tupleAt e ht.isTuple h1 ⟨_, g, h, (by show Value.bool _ = Value.bool _; rw [h2]), Step.refl S⟩
theorem Cmp_notIn_lst {x : PV} {ps : List PV} (f : PV → Bool) (hps : PV.datas ps = true) (hx : x.data = true) (hlay : ∀ p ∈ ps, p.pd.canLay0 = true ∧ p.pd.depth ≤ 60) (hxl : x.pd.canLay0 = true) (hf : ∀ p ∈ ps, PyData.eqv p.pd x.pd = f p)
    (h : Q (.bool (!ps.any f)) g) : Cmp c E g .NotIn x (.lst ps) Q := fun s v w S rv hz6 => by
  obtain ⟨a, vs, e, ht, nb, hz, rs⟩ := hz6
  subst e
  obtain ⟨e, h1, h2⟩ := in_facts f S rs rv hps hx hlay hxl hf
  exact notIn_listAt e ht.isList h1 ⟨_, g, h, (by show Value.bool _ = Value.bool _; rw [h2]), Step.refl S⟩
theorem Cmp_notIn_box {x : PV} {a : Addr} {ps : List PV} (hb : (a, PO.lst ps) ∈ g.all) (f : PV → Bool) (hps : PV.datas ps = true) (hx : x.data = true) (hlay : ∀ p ∈ ps, p.pd.canLay0 = true ∧ p.pd.depth ≤ 60) (hxl : x.pd.canLay0 = true) (hf : ∀ p ∈ ps, PyData.eqv p.pd x.pd = f p)
    (h : Q (.bool (!ps.any f)) g) : Cmp c E g .NotIn x (.box a) Q := fun s v w S rv e => by
  obtain rfl : w = .ref a := e
  obtain ⟨vs, ht, hz, rs⟩ := S.boxes _ _ hb
  obtain ⟨e, h1, h2⟩ := in_facts f S rs rv hps hx hlay hxl hf
  exact notIn_listAt e ht.isList h1 ⟨_, g, h, (by show Value.bool _ = Value.bool _; rw [h2]), Step.refl S⟩

theorem pints_datas : ∀ ns : List Int, PV.datas (pints ns) = true
  | [] => rfl
  | n :: r => by
    have := pints_datas r
    unfold pints at this ⊢
    simp only [List.map_cons, PV.datas, PV.data, Bool.true_and]; exact this
theorem int_shaped (i : Int) : (PV.int i).pd.canLay0 = true ∧ (PV.int i).pd.depth ≤ 60 := by simp [PV.pd, PyData.canLay0, PyData.depth]
theorem pair_shaped (p : Int × Int) : (pairPV p).pd.canLay0 = true ∧ (pairPV p).pd.depth ≤ 60 := by simp [pairPV, PV.pd, PV.pds, PyData.canLay0, PyData.canLayAll0, PyData.depth, PyData.depthAll]
theorem any_ints (k : Int) (ns : List Int) : (pints ns).any (fun p => match p with | .int i => i == k | _ => false) = ns.contains k := by
  unfold pints
  rw [List.any_map]
  induction ns with
  | nil => rfl
  | cons n r ih =>
    rw [List.any_cons, ih, List.contains_cons]
    congr 1
    show (n == k) = (k == n)
    exact Bool.beq_comm
theorem Cmp_notIn_pints {k : Int} {ns : List Int} {p : PV} (hp : p = .lst (pints ns) ∨ p = .tup (pints ns) ∨ ∃ a, p = .box a ∧ (a, PO.lst (pints ns)) ∈ g.all) (h : Q (.bool (!ns.contains k)) g) : Cmp c E g .NotIn (.int k) p Q := by
  have hl : ∀ q ∈ pints ns, q.pd.canLay0 = true ∧ q.pd.depth ≤ 60 := fun q hq => by obtain ⟨i, _, rfl⟩ := List.mem_map.mp hq; exact int_shaped i
  have hf : ∀ q ∈ pints ns, PyData.eqv q.pd (PV.int k).pd = (match q with | .int i => i == k | _ => false) := fun q hq => by obtain ⟨i, _, rfl⟩ := List.mem_map.mp hq; simp [PV.pd, PyData.eqv]
  rw [← any_ints] at h
  rcases hp with rfl | rfl | ⟨a, rfl, hb⟩
  · exact Cmp_notIn_lst _ (pints_datas ns) rfl hl (int_shaped k).1 hf h
  · exact Cmp_notIn_tup _ (pints_datas ns) rfl hl (int_shaped k).1 hf h
  · exact Cmp_notIn_box hb _ (pints_datas ns) rfl hl (int_shaped k).1 hf h
/-- (a, b) in <pairs> -/
theorem pairsD : ∀ fs : List (Int × Int), PV.datas (fs.map pairPV) = true
  | [] => rfl
  | f :: r => by simp [PV.datas, pairPV, PV.data, pairsD r]
theorem Cmp_in_pairs {o : Int × Int} {os : List (Int × Int)} (h : Q (.bool (os.contains o)) g) : Cmp c E g .In (pairPV o) (.tup (os.map pairPV)) Q := by
  refine Cmp_in_tup (fun p => match p with | .tup [.int x, .int y] => x == o.1 && y == o.2 | _ => false) (pairsD os) (by simp [pairPV, PV.data, PV.datas]) (fun q hq => by obtain ⟨i, _, rfl⟩ := List.mem_map.mp hq; exact pair_shaped i) (pair_shaped o).1
    (fun q hq => by obtain ⟨i, _, rfl⟩ := List.mem_map.mp hq; simp [pairPV, PV.pd, PV.pds, PyData.eqv, PyData.eqvAll]) ?_
  have e : (os.map pairPV).any (fun p => match p with | .tup [.int x, .int y] => x == o.1 && y == o.2 | _ => false) = os.contains o := by
    clear h
    rw [List.any_map]
    induction os with
    | nil => rfl
    | cons n r ih =>
      rw [List.any_cons, ih, List.contains_cons]
      congr 1
      show (n.1 == o.1 && n.2 == o.2) = (o == n)
      obtain ⟨a, b⟩ := n; obtain ⟨x, y⟩ := o
      show (a == x && b == y) = ((x, y) == (a, b))
      rw [Bool.beq_comm (a := a), Bool.beq_comm (a := b)]
      rfl
  rw [e]; exact h

/-! ## bools -/
theorem Cmp_ne_bool {a b : Bool} (h : Q (.bool (a != b)) g) : Cmp c E g .NotEq (.bool a) (.bool b) Q := fun s v w S e e' => by
  obtain rfl : v = .bool a := e
  obtain rfl : w = .bool b := e'
  exact ne_bool ⟨_, g, h, rfl, Step.refl S⟩
theorem CallV_isi_bool_bool {b : Bool} (h : Q (.bool true) g) : CallV c E g (.builtin "isinstance") [.bool b, .raw (.type "bool")] Q := fun s vs S r => by
  obtain ⟨v, _, rfl, rfl, ⟨w, _, rfl, rfl, rfl⟩⟩ := r
  exact IsiPair.bool_bool ⟨_, g, h, rfl, Step.refl S⟩

/-! ## min, max of a list of ints -/
theorem ints_items {B : List Addr} {h : Heap} : ∀ {ns : List Int} {vs : List Value}, VRs B h (pints ns) vs → ∃ xs : Array (Int × Tok), vs.toArray = intItems xs ∧ xs.toList.map (·.1) = ns
  | [], _, e => by cases e; exact ⟨#[], by simp [intItems], rfl⟩
  | n :: r, _, ⟨v, ws, e, ⟨t, ev⟩, rs⟩ => by
    subst e; subst ev
    obtain ⟨xs, e1, e2⟩ := ints_items rs
    refine ⟨((n, t) :: xs.toList).toArray, ?_, by simp [e2]⟩
    have : ws = xs.toList.map fun p => Value.int p.1 p.2 := by
      have := congrArg Array.toList e1
      simpa [intItems] using this
    rw [this]; simp [intItems]
theorem numAt_get {xs : Array (Int × Tok)} {ns : List Int} (e : xs.toList.map (·.1) = ns) (i : Nat) : numAt xs i = ns.getD i 0 := by
  subst e
  unfold numAt
  rw [List.getD_eq_getElem?_getD, List.getElem?_map, Array.getElem?_toList]

theorem max_of {s : Shared} {a : Addr} {vs : List Value} {ns : List Int} (S : St c g s.heap) (hl : LstAt s.heap a vs) (rs : VRs (c.B g) s.heap (pints ns) vs) (hne : ns ≠ [])
    (h : ∀ M, M ∈ ns → (∀ x ∈ ns, x ≤ M) → Q (.int M) g) : WVal c E g (call (.builtin "max") [.ref a]) Q s := by
  obtain ⟨xs, e1, e2⟩ := ints_items rs
  have hsz : xs.size = ns.length := by rw [← e2]; simp
  have hpos : 0 < ns.length := List.length_pos_iff.mpr hne
  refine grows (max_intList S.ok.handled (e1 ▸ hl.isList) (by omega) fun v h' tk hv hk hs => ?_)
  obtain ⟨t, rfl⟩ := intItems_at hv
  obtain ⟨h1, h2⟩ := argBest_gt (numAt xs) (xs.size - 1)
  refine ⟨_, g, h _ ?_ fun x hx => ?_, ⟨t, rfl⟩, Step.keeps S hk hs⟩
  · rw [numAt_get e2]; exact getD_mem (by omega)
  · obtain ⟨j, hj, rfl⟩ := mem_getD hx
    rw [← numAt_get e2]; exact h2 j (by omega)
theorem min_of {s : Shared} {a : Addr} {vs : List Value} {ns : List Int} (S : St c g s.heap) (hl : LstAt s.heap a vs) (rs : VRs (c.B g) s.heap (pints ns) vs) (hne : ns ≠ [])
    (h : ∀ M, M ∈ ns → (∀ x ∈ ns, M ≤ x) → Q (.int M) g) : WVal c E g (call (.builtin "min") [.ref a]) Q s := by
  obtain ⟨xs, e1, e2⟩ := ints_items rs
  have hsz : xs.size = ns.length := by rw [← e2]; simp
  have hpos : 0 < ns.length := List.length_pos_iff.mpr hne
  refine grows (min_intList S.ok.handled (e1 ▸ hl.isList) (by omega) fun v h' tk hv hk hs => ?_)
  obtain ⟨t, rfl⟩ := intItems_at hv
  obtain ⟨h1, h2⟩ := argBest_lt (numAt xs) (xs.size - 1)
  refine ⟨_, g, h _ ?_ fun x hx => ?_, ⟨t, rfl⟩, Step.keeps S hk hs⟩
  · rw [numAt_get e2]; exact getD_mem (by omega)
  · obtain ⟨j, hj, rfl⟩ := mem_getD hx
    rw [← numAt_get e2]; exact h2 j (by omega)
theorem CallV_max_lst {ns : List Int} (hne : ns ≠ []) (h : ∀ M, M ∈ ns → (∀ x ∈ ns, x ≤ M) → Q (.int M) g) : CallV c E g (.builtin "max") [.lst (pints ns)] Q := fun s vs S r => by
  obtain ⟨v, _, rfl, ⟨a, us, rfl, hl, nb, hz, rs⟩, rfl⟩ := r
  exact max_of S hl rs hne h
theorem CallV_min_lst {ns : List Int} (hne : ns ≠ []) (h : ∀ M, M ∈ ns → (∀ x ∈ ns, M ≤ x) → Q (.int M) g) : CallV c E g (.builtin "min") [.lst (pints ns)] Q := fun s vs S r => by
  obtain ⟨v, _, rfl, ⟨a, us, rfl, hl, nb, hz, rs⟩, rfl⟩ := r
  exact min_of S hl rs hne h

/-! ## x[-1] -/
theorem Item_box_neg {value slice : Expr} {xs : List PV} {a : Addr} {k : Int} {p : PV} (hb : (a, PO.lst xs) ∈ g.all) (h0 : k < 0) (h1 : -(xs.length : Int) ≤ k) (hj : xs[(k + xs.length).toNat]? = some p) (h : Q p g) (hs : notSlice slice = true := by rfl) :
    Item c E g value slice (.box a) (.int k) Q := fun s v w S e hz7 => by
  obtain ⟨u, e'⟩ := hz7
  subst e'
  obtain rfl : v = .ref a := e
  obtain ⟨vs, ht, hl, r⟩ := S.boxes _ _ hb
  have hlen := r.length
  obtain ⟨y, hy, ry⟩ := r.get hj
  have hz : -(2 ^ 63) ≤ k := by rw [sizeLine_eq] at hl; omega
  refine tail_any ht.isList.typeIs slot_list_getitem.lookup (wpAny_getItem_list_neg ht.isList h0 (by simp; omega) hz (by simp only [List.size_toArray]; rw [hlen]; simpa using hy) ⟨p, g, h, ry, Step.refl S⟩) (subscripted_plain hs _ _)

/-! ## x[k] = e -/
theorem setItem_plain {prog : Program} {w : World} {A : Around} {E : Value → Shared → Prop} {s : Shared} {l : Addr} {vs : List Value} {k : Int} {t : Tok} {v : Value} {Q : Unit → Shared → Prop} (hl : LstAt s.heap l vs)
    (h0 : 0 ≤ k) (hfit : k < 2 ^ 63) (hn : k < vs.length)
    (hQ : ∀ h', LstAt h' l (vs.set k.toNat v) → Heap.SameBut l s.heap h' → Q () { s with heap := h' }) :
    wpAny (model prog w) A (setItem (.ref l) (.int k t) v) Q E s := by
  obtain ⟨n, ho⟩ := id hl
  have hL := hl.isList
  unfold setItem
  try with_reducible refine wpAny_holding ?_
  first | refine wpAny_bind (wpAny_pure ?_) | skip
  refine wpAny_bind (wpAny_sequenceKey hL.typeIs (by decide) ?_)
  refine wpAny_bind (wpAny_callSpecial?_slot (name := Str.ofString "__setitem__") hL.typeIs slot_list_setitem
    (wpAny_call_entry slot_list_setitem hL.typeIs entry_list_setitem ?_ (args_list_setitem _ _ _)))
  show wpAny _ _ (Builtin.List.listSubscript? (.int k t) >>= _) _ _ s
  refine wpAny_bind (wpAny_listSubscript_int (fitsIndex_of h0 hfit) ?_)
  clear hfit
  obtain ⟨j, rfl⟩ := Int.eq_ofNat_of_zero_le h0
  have hj : j < vs.length := by omega
  have hx' : vs.toArray[j]? = some vs[j] := by simp [hj]
  show wpAny _ _ ((seqItemAt l j >>= fun r => pure (r.map (j, ·))) >>= _) _ _ s
  refine wpAny_bind (wpAny_bind (wpAny_seqItemAt ho rfl (wpAny_pure ?_)))
  rw [hx']
  show wpAny _ _ (setSeqItemAt l j v >>= _) _ _ s
  have hm : Obj.mapSeq (·.setIfInBounds j v) { cls := Value.type "list", data := Data.seq vs.toArray n } = { cls := Value.type "list", data := Data.seq (vs.set j v).toArray n } := by
    simp [Obj.mapSeq]
  have hfin : LstAt (s.heap.update l (Obj.mapSeq (·.setIfInBounds j v))) l (vs.set ((j : Nat) : Int).toNat v) := by
    refine ⟨n, ?_⟩
    rw [Heap.get?_update_self _ ho (by rw [hm]; rfl), hm]
    rfl
  refine wpAny_bind (wpAny_setSeqItemAt ho rfl ?_)
  first
    | exact wpAny_bind (wpAny_pure (wpAny_pure ⟨.none, rfl, wpAny_pure (hQ _ hfin (Heap.SameBut.update ..))⟩))
    | exact wpAny_pure ⟨.none, rfl, wpAny_pure (hQ _ hfin (Heap.SameBut.update ..))⟩
theorem WAsg_box {x : Str} {px pos : Pos} {slice : Expr} {a : Addr} {xs₀ : List PV} {p : PV} {Q : Gh → Prop} (hx : g.vars.lookup x = some (.box a))
    (h : WE c E slice g fun q g₁ => ∃ k : Int, q = .int k ∧ ∃ xs bx', 0 ≤ k ∧ k < xs.length ∧ At g₁.bx a (.lst xs) (.lst (xs.set k.toNat p)) bx' ∧ g₁ = g ∧ Q ⟨g₁.vars, bx', g₁.ro⟩)
    (hd : (x == ("__debug__" : Str)) = false := by decide +kernel) : WAsg c E (.Subscript (.Name x px) slice pos) p g Q := fun s v S r => by
  have hn : WE c E (.Name x px) g fun q g' => q = .box a ∧ g' = g := WE_Name hx ⟨rfl, rfl⟩ hd
  show wpAny c.M c.A (assign (.Subscript (.Name x px) slice pos) c.env v) _ E s
  intro Γ pp hΓ
  simp only [assign_Subscript, Sem.wp_bind', Sem.wp_holding, Sem.wp_cmd_standAt, Sem.wp_release]
  refine Sem.wp_mono _ Γ _ (fun ov p₂ s₁ h₁ => ?_) (fun _ _ _ h' => h') _ _ (wpAny_mono (hn s S) (fun ov s₁ ⟨q, g₁, ⟨e1, e2⟩, r₁, x₁⟩ => (show wpAny c.M c.A (eval slice c.env) (fun iv s₂ => wpAny c.M c.A (setItem ov iv v) (fun _ s' => ∃ g', Q g' ∧ Step c (Own c) g s g' s') E s₂) E s₁ from ?_)) (fun _ _ e => e) Γ _ hΓ)
  · exact Sem.wp_mono _ Γ _ (fun iv _ s₃ h₃ => h₃ Γ _ hΓ) (fun _ _ _ h' => h') _ _ (h₁ Γ p₂ hΓ)
  · subst e1; subst e2
    obtain rfl : ov = .ref a := r₁
    refine wpAny_mono (h s₁ x₁.st) (fun iv s₂ hz9 => ?_) fun _ _ e => e
    obtain ⟨q, g₂, ⟨k, e, xs, bx', k0, k1, hat, eg, hq⟩, r₂, x₂⟩ := hz9
    subst e; subst eg
    obtain ⟨t, rfl⟩ := r₂
    have S₂ := x₂.st
    obtain ⟨vs, hl, hz, rs⟩ := S₂.boxes _ _ (List.mem_append_left _ hat.mem)
    have hlen := rs.length
    have rv : VR (c.B g₂) s₂.heap p v := (x₁.trans x₂).vr r
    refine setItem_plain hl k0 (by rw [sizeLine_eq] at hz; omega) (by omega) fun h' hl'' hs => ?_
    have hb : BoxIs c.prog c.w (c.B g₂) h' a (.lst (xs.set k.toNat p)) := by
      refine LstAt.sameBut_box S₂ (List.mem_map_of_mem hat.mem) hs hl'' (by simp; exact hz) ?_
      refine VRs.of_pointwise (by simp [hlen]) fun i q u hq hu => ?_
      rw [List.getElem?_set] at hq hu
      by_cases hi : k.toNat = i
      · rw [if_pos hi] at hq hu
        split at hq
        · rw [if_pos (by omega)] at hu
          rw [← Option.some.inj hq, ← Option.some.inj hu]; exact rv
        · cases hq
      · rw [if_neg hi] at hq hu
        obtain ⟨u', hu', ru⟩ := rs.get hq
        rw [hu] at hu'; cases hu'; exact ru
    exact ⟨_, hq, (x₁.trans x₂).toOwn.trans (S₂.setBox hat hs hb).up.toOwn⟩
end

end Mine

set_option maxRecDepth 100000
namespace Mine
open PySem PyProof.Rows

section
variable {c : Cx} {E : Exc} {g : Gh} {Q : PV → Gh → Prop}

/-! ## list + list -/
theorem Bin_add_lst {xs ys : List PV} (hz : xs.length + ys.length ≤ sizeLine) (h : Q (.lst (xs ++ ys)) g) : Bin c E g .Add (.lst xs) (.lst ys) Q := fun s v w S hz1 hz2 => by
  obtain ⟨a, vs, e, ⟨n, ho⟩, nb, hl, rs⟩ := hz1
  obtain ⟨b, ws, e', ⟨n2, ho2⟩, nb', hl', rs'⟩ := hz2
  subst e; subst e'
  have e : vs.toArray ++ ws.toArray = (vs ++ ws).toArray := by simp
  have hlen := rs.length
  have hlen' := rs'.length
  refine concat_meets ⟨_, ho, rfl⟩ ⟨_, ho2, rfl⟩ noFill_list_add seq_list_add PySem.F.slot_list_add PySem.F.entry_list_add (PySem.F.args_list_add_2 _ _) (list_addW a b vs.toArray ws.toArray n n2 none none #[] #[] (by simp; omega)) ⟨ho, ho2, ?_⟩
  rw [e]
  have y := pushLst (c := c) (g := g) S (rs.append rs') (by rw [List.length_append]; exact hz)
  exact ⟨_, g, h, y.1, y.2⟩

/-! ## enumerate(..) -/
theorem meets_enum_newK (b : Bool) (l : Addr) (vs : List Value) :
    Meets (Builtin.«enumerate.__new__» ⟨[.type "enumerate", .ref l], []⟩) (fun _ R s => SeqK b s.heap l vs ∧
      R (.ok (.ret (.ref (s.heap.push (itObj b l)).objs.size)))
        { s with heap := (s.heap.push (itObj b l)).push { cls := .type "enumerate", data := .fields #[.none, .bool false, .ref s.heap.objs.size, rawInt 0, .none, .none] } }) :=
  .of_wp fun prog w A R s h => by
    obtain ⟨hp, g, d, tk, os⟩ := s; obtain ⟨hl, h⟩ := h
    have hsub := sub_enumerate
    have hL : SeqK b (Shared.heap ⟨hp, g, d, tk, os⟩) l vs := hl
    wp_walk
    refine wpAny_stack_any fun st => wpAny_pure ?_
    split
    · rename_i c _ _ _ _ _
      cases (c == Value.type "enumerate")
      · wp_walk using pyIter_seqK hL
        exact ⟨_, rfl, h⟩
      · wp_walk using pyIter_seqK hL
        exact ⟨_, rfl, h⟩
    · wp_walk using pyIter_seqK hL
      exact ⟨_, rfl, h⟩

/-- what enumerate draws -/
def enumPV : Int → List PV → List PV
  | _, [] => []
  | i, p :: ps => .tup [.int i, p] :: enumPV (i + 1) ps
theorem enumPV_get {p : PV} : ∀ {ps : List PV} {i : Int} {k : Nat}, (enumPV i ps)[k]? = some p → ∃ q, ps[k]? = some q ∧ p = .tup [.int (i + k), q]
  | [], _, _, h => by simp [enumPV] at h
  | q :: ps, i, 0, h => ⟨q, rfl, by simp [enumPV] at h; simp [← h]⟩
  | q :: ps, i, k + 1, h => by
    simp only [enumPV, List.getElem?_cons_succ] at h
    obtain ⟨q', h1, h2⟩ := enumPV_get h
    exact ⟨q', by simpa using h1, by rw [h2]; congr 3; omega⟩
theorem enumPV_length : ∀ (ps : List PV) (i : Int), (enumPV i ps).length = ps.length
  | [], _ => rfl
  | _ :: ps, i => by simp [enumPV, enumPV_length ps]

theorem PIter_enum {prog : Program} {w : World} {A : Around} {e it : Addr} {fp : List Addr} {ps : List PV} {vs : List Value} {S1 : Nat → Heap → Prop} {elts : List Expr} {k : Nat} {pos : Pos}
    (D : Draws prog w A.in1 it fp vs.length (fun i v => vs[i]? = some v) S1) (hei : e ≠ it) (hef : e ∉ fp) (hif : it ∈ fp) (e1 : vs.length = ps.length) :
    PIter prog w A (.Tuple elts k pos) e (e :: fp) [e, it] (enumPV 0 ps) (ps.zip vs) (fun i h => (∃ old, IsEnum h e it i old) ∧ S1 i h) where
  sub := fun b hb => by
    rcases List.mem_cons.mp hb with rfl | hb
    · exact List.mem_cons_self ..
    · rw [List.mem_singleton.mp hb]; exact List.mem_cons_of_mem _ hif
  frame := fun i h h' ⟨⟨old, he⟩, hs⟩ hk => ⟨⟨old, hk e (by simp) _ he⟩, D.frame _ _ _ hs fun b hb o x => hk b (List.mem_cons_of_mem _ hb) o x⟩
  item := fun i p s K E hp hz3 hK => by
    obtain ⟨⟨old, he⟩, hs⟩ := hz3
    obtain ⟨q, hq, rfl⟩ := enumPV_get hp
    have hi : i < vs.length := by rw [e1]; exact (List.getElem?_eq_some_iff.mp hq).1
    refine wpAny_pyNext_enum_itemD D he hs hi hei hef fun x h' tk hP ho hs' hT hsz hk => ⟨_, rfl, ?_⟩
    refine wpAny_letOwnedTupleGo_enum ho fun h'' he' hs'' => ?_
    replace hs'' : Heap.SameBut e h' h'' := hs''
    have helt : e < s.heap.objs.size := Heap.lt_size he
    have hpair : TupAt h'' s.heap.objs.size [.int i tk, x] := ⟨0, hs''.extBut _ _ (Nat.ne_of_gt helt) hT⟩
    refine hK _ h'' (tk + 1) (fun B hB hsrc => ⟨s.heap.objs.size, [.int i tk, x], rfl, hpair, fun q => absurd (hB _ q) (Nat.lt_irrefl _), by rw [sizeLine_eq]; simp, ?_⟩)
      ⟨⟨x, by simpa using he'⟩, Draws.but D hs' hs'' hef⟩
      (fun b o hb y => (hs''.2 b fun e' => hb (by simp [e'])).trans (hk b o (fun e' => hb (by simp [e'])) (fun e' => hb (by simp [e'])) y))
    exact VRs.cons ⟨tk, by simp⟩ (VRs.one (hsrc (q, x) (zip_get hq hP)))
  done := fun s K E hz4 hK => by
    obtain ⟨⟨old, he⟩, hs⟩ := hz4
    rw [enumPV_length, ← e1] at hs he
    exact wpAny_pyNext_enum_endD D he hs fun h' hx => ⟨rfl, hK h' s.toks fun b o hb y => hx b o (fun e' => hb (by simp [e'])) y⟩
  self := fun i s Q E ⟨⟨old, he⟩, _⟩ hQ => wpAny_pyIter_enum he hQ

theorem CallI_enum {elts : List Expr} {k : Nat} {pos : Pos} {p : PV} {ps : List PV} {K : List PV → Prop} (hp : p = .lst ps ∨ p = .tup ps) (h : K (enumPV 0 ps)) : CallI c E g (.Tuple elts k pos) (.type "enumerate") [p] K := fun s us S r => by
  obtain ⟨v, _, rfl, rv, rfl⟩ := r
  obtain ⟨b1, l1, vs, rfl, s1, n1, r1, x1⟩ := seqK_of S rv hp
  refine callType_new F.called_enumerate (by decide) (F.typeCall_enumerate_1 _) (F.newCall_enumerate_1 _) (fun obj => F.args_object_init_2 obj _) F.entry_enumerate_new
    (meets_enum_newK b1 l1 vs) ⟨s1, ?_⟩
  have z1 : (s.heap.push (itObj b1 l1)).objs.size = s.heap.objs.size + 1 := Heap.size_push ..
  show _ ∧ _
  rw [z1]
  have g2 : ((s.heap.push (itObj b1 l1)).push { cls := .type "enumerate", data := .fields #[.none, .bool false, .ref s.heap.objs.size, rawInt 0, .none, .none] }).get? (s.heap.objs.size + 1) = some { cls := .type "enumerate", data := .fields #[.none, .bool false, .ref s.heap.objs.size, rawInt 0, .none, .none] } := by
    rw [← z1]; exact Heap.get?_push_size _ rfl
  have g1 : ((s.heap.push (itObj b1 l1)).push { cls := .type "enumerate", data := .fields #[.none, .bool false, .ref s.heap.objs.size, rawInt 0, .none, .none] }).get? s.heap.objs.size = some (itObj b1 l1) := Heap.get?_push_of_some _ (Heap.get?_push_size _ rfl)
  have z2 : ((s.heap.push (itObj b1 l1)).push { cls := .type "enumerate", data := .fields #[.none, .bool false, .ref s.heap.objs.size, rawInt 0, .none, .none] }).objs.size = s.heap.objs.size + 2 := by rw [Heap.size_push, z1]
  have hk : ∀ b o, s.heap.get? b = some o → ((s.heap.push (itObj b1 l1)).push { cls := .type "enumerate", data := .fields #[.none, .bool false, .ref s.heap.objs.size, rawInt 0, .none, .none] }).get? b = some o := fun b o x => Heap.get?_push_of_some _ (Heap.get?_push_of_some _ x)
  have hs : s.heap.objs.size ≤ ((s.heap.push (itObj b1 l1)).push { cls := .type "enumerate", data := .fields #[.none, .bool false, .ref s.heap.objs.size, rawInt 0, .none, .none] }).objs.size := by rw [z2]; exact Nat.le_add_right _ _
  have a1 : l1 < s.heap.objs.size := s1.lt
  generalize (s.heap.push (itObj b1 l1)).push { cls := .type "enumerate", data := .fields #[.none, .bool false, .ref s.heap.objs.size, rawInt 0, .none, .none] } = H at *
  refine ⟨⟨_, g2, rfl⟩, ?_⟩
  refine wpAny_pyIter_enum g2 ⟨_, h, Step.keeps S hk hs, ?_⟩
  have hw : ∀ b ∈ [s.heap.objs.size + 1, s.heap.objs.size], s.heap.objs.size ≤ b ∧ b < H.objs.size := fun b hb => by
    rw [z2]
    simp only [List.mem_cons, List.not_mem_nil, or_false] at hb
    generalize s.heap.objs.size = N at *
    rcases hb with rfl | rfl <;> constructor <;> omega
  have ne1 : l1 ≠ s.heap.objs.size := Nat.ne_of_lt a1
  have hnf : ¬ Frm c l1 := fun q => s1.notSeq (S.notSeqF l1 q)
  refine ⟨s.heap.objs.size + 1, _, _, _, _, rfl, PIter_enum (elts := elts) (k := k) (pos := pos) (Draws_seq (A := c.A.in1) S.ok.handled b1 s.heap.objs.size l1 ne1 vs) (Nat.ne_of_gt (Nat.lt_succ_self _)) ?_ (by simp) n1,
    ⟨⟨_, g2⟩, ⟨?_, s1.at fun o e => hk _ o e⟩⟩, S.withEx hk hs hw, fun e he => ?_, fun b hb => ?_, fun b hb => ?_⟩
  · simp only [List.mem_cons, List.not_mem_nil, or_false, not_or]
    exact ⟨Nat.ne_of_gt (Nat.lt_succ_self _), Nat.ne_of_gt (Nat.lt_succ_of_lt a1)⟩
  · cases b1 <;> exact ⟨_, g1, rfl, rfl⟩
  · refine VR.ext (Ev.of_keeps (B := c.B g) (W := NoW) hk hs) (fun _ q => q.elim) (fun a q => ?_) (mem_zip_vr r1 e he)
    rcases List.mem_append.mp q with q | q
    · exact .inl (List.mem_append_left _ q)
    · rcases List.mem_append.mp q with q | q
      · exact .inr (hw a q).1
      · exact .inl (List.mem_append_right _ q)
  · have new : ∀ d : Nat, d < 2 → (s.heap.objs.size + d < H.objs.size ∧ ¬ Frm c (s.heap.objs.size + d) ∧ s.heap.objs.size + d ∉ g.wr) := fun d hd =>
      ⟨by rw [z2]; exact Nat.add_lt_add_left hd _, fun q => absurd (S.ownLt _ q) (Nat.not_lt.mpr (Nat.le_add_right _ _)), fun q => absurd (S.ltB _ (Cx.wr_B q)) (Nat.not_lt.mpr (Nat.le_add_right _ _))⟩
    simp only [List.mem_cons, List.not_mem_nil, or_false] at hb
    rcases hb with rfl | rfl | rfl
    · exact new 1 (by decide)
    · exact new 0 (by decide)
    · exact ⟨Nat.lt_of_lt_of_le a1 hs, hnf, fun q => x1 (Cx.wr_B q)⟩
  · exact ⟨(hw b hb).1, Nat.le_trans S.size (hw b hb).1⟩
end

end Mine

set_option maxRecDepth 100000
namespace Mine
open PySem PyProof.Rows

section
variable {c : Cx} {E : Exc} {g : Gh}

/-! ## a box that is only read for a while -/
theorem St.shuffle {g g' : Gh} {h : Heap} (S : St c g h) (hv : g'.vars = g.vars) (hm : ∀ e, e ∈ g'.bx ++ g'.ro ↔ e ∈ g.bx ++ g.ro) (nd : g'.dom.Nodup) (hl : ∀ a ∈ g'.wr, a ∈ c.lent ∨ c.hb.objs.size ≤ a) : St c g' h := by
  have hd : ∀ a, a ∈ g'.dom ↔ a ∈ g.dom := fun a => by
    constructor
    · intro q; obtain ⟨e, he, rfl⟩ := List.mem_map.mp q; exact List.mem_map_of_mem ((hm e).mp he)
    · intro q; obtain ⟨e, he, rfl⟩ := List.mem_map.mp q; exact List.mem_map_of_mem ((hm e).mpr he)
  have hB : ∀ a ∈ c.B g', a ∈ c.B g := fun a q => by
    rcases List.mem_append.mp q with q | q
    · exact List.mem_append_left _ ((hd a).mp q)
    · exact List.mem_append_right _ q
  refine ⟨S.ok, S.ns, S.cells, fun y p e => ?_, fun b o hb => ?_, nd, fun b q => S.own b ((hd b).mp q), hl, fun b q => S.boxAbove b ((hd b).mp q), fun b q => (hd b).mpr (S.lentIn b q), S.keep, S.size, S.exLt, fun b q => S.exApart b ((hd b).mp q)⟩
  · rw [hv] at e
    rcases S.vars y p e with ⟨k, m, v, hn, hm, r⟩ | ⟨k, cc, v, hc, hm, r⟩
    · exact .inl ⟨k, m, v, hn, hm, VR.fewer hB r⟩
    · exact .inr ⟨k, cc, v, hc, hm, VR.fewer hB r⟩
  · exact BoxIs.ext (Ev.refl (W := NoW)) (fun _ q => q.elim) (fun b q => .inl (hB b q)) (S.boxes b o ((hm _).mp hb)) fun _ e => e

theorem Out.iff {bx a o bx'} (h : Out bx a o bx') : ∀ e, e ∈ bx ↔ e = (a, o) ∨ e ∈ bx' := by
  induction h with
  | head => intro e; exact List.mem_cons
  | tail _ ih => intro e; rw [List.mem_cons, List.mem_cons, ih e]; constructor <;> rintro (h | h | h) <;> simp [h]

theorem WX_borrow {st : Stmt} {a : Addr} {o : PO} {bx' : List (Addr × PO)} {Q : PF → Gh → Prop} (ho : Out g.bx a o bx')
    (h : WX c E st ⟨g.vars, bx', (a, o) :: g.ro⟩ fun pf g' => g'.ro = (a, o) :: g.ro ∧ Q pf ⟨g'.vars, (a, o) :: g'.bx, g.ro⟩) : WX c E st g Q := fun s S => by
  have hm : ∀ e, e ∈ bx' ++ (a, o) :: g.ro ↔ e ∈ g.bx ++ g.ro := fun e => by
    rw [List.mem_append, List.mem_append, List.mem_cons, ho.iff e]
    constructor
    · rintro (q | q | q)
      · exact .inl (.inr q)
      · exact .inl (.inl q)
      · exact .inr q
    · rintro ((q | q) | q)
      · exact .inr (.inl q)
      · exact .inl q
      · exact .inr (.inr q)
  obtain ⟨na, nd⟩ := ho.nodup (r := g.ro) S.nodup
  have nd' : (dom (bx' ++ (a, o) :: g.ro)).Nodup := by
    have e1 : dom (bx' ++ g.ro) = dom bx' ++ dom g.ro := List.map_append ..
    have e2 : dom (bx' ++ (a, o) :: g.ro) = dom bx' ++ a :: dom g.ro := List.map_append ..
    rw [e1] at na nd
    rw [e2, List.nodup_append] at *
    obtain ⟨n1, n2, n3⟩ := nd
    refine ⟨n1, List.nodup_cons.mpr ⟨fun q => na (List.mem_append_right _ q), n2⟩, fun x hx y hy => ?_⟩
    rcases List.mem_cons.mp hy with rfl | hy
    · intro e; exact na (List.mem_append_left _ (e ▸ hx))
    · exact n3 x hx y hy
  have S' : St c ⟨g.vars, bx', (a, o) :: g.ro⟩ s.heap := S.shuffle rfl hm nd' fun b q => by
    obtain ⟨e, he, rfl⟩ := List.mem_map.mp q
    exact S.lent _ (List.mem_map_of_mem (ho.sub _ he))
  have hwr : ∀ b ∈ dom bx', b ∈ g.wr := fun b q => by
    obtain ⟨e, he, rfl⟩ := List.mem_map.mp q
    exact List.mem_map_of_mem (ho.sub _ he)
  have hdm : ∀ b, b ∈ dom (bx' ++ (a, o) :: g.ro) → b ∈ g.dom := fun b q => by
    obtain ⟨e, he, rfl⟩ := List.mem_map.mp q
    exact List.mem_map_of_mem ((hm e).mp he)
  have haw : a ∈ g.wr := List.mem_map.mpr ⟨_, ho.mem, rfl⟩
  refine wpAny_mono (h s S') (fun f s' hz1 => ?_) fun _ _ e => e
  obtain ⟨pf, g', ⟨er, hq⟩, r, x⟩ := hz1
  obtain ⟨vars', bx2, ro2⟩ := g'
  obtain rfl : ro2 = (a, o) :: g.ro := er
  have T := x.st
  have hm2 : ∀ e, e ∈ ((a, o) :: bx2) ++ g.ro ↔ e ∈ bx2 ++ (a, o) :: g.ro := fun e => by
    simp only [List.cons_append, List.mem_cons, List.mem_append]
    constructor <;> rintro (h | h | h) <;> simp [h]
  have nd2 : (dom (((a, o) :: bx2) ++ g.ro)).Nodup := by
    have T2 : (dom (bx2 ++ (a, o) :: g.ro)).Nodup := T.nodup
    have e2 : dom (bx2 ++ (a, o) :: g.ro) = dom bx2 ++ a :: dom g.ro := List.map_append ..
    have e3 : dom (((a, o) :: bx2) ++ g.ro) = a :: (dom bx2 ++ dom g.ro) := by show a :: dom (bx2 ++ g.ro) = _; rw [show dom (bx2 ++ g.ro) = dom bx2 ++ dom g.ro from List.map_append ..]
    rw [e2, List.nodup_append] at T2
    rw [e3]
    obtain ⟨n1, n2, n3⟩ := T2
    obtain ⟨n4, n5⟩ := List.nodup_cons.mp n2
    refine List.nodup_cons.mpr ⟨fun q => ?_, List.nodup_append.mpr ⟨n1, n5, fun x hx y hy => n3 x hx y (.tail _ hy)⟩⟩
    rcases List.mem_append.mp q with q | q
    · exact n3 a q a (.head _) rfl
    · exact n4 q
  have T' : St c ⟨vars', (a, o) :: bx2, g.ro⟩ s'.heap := T.shuffle rfl hm2 nd2 fun b q => by
    have q' : b ∈ a :: dom bx2 := q
    rcases List.mem_cons.mp q' with rfl | q'
    · exact S.lent _ haw
    · exact T.lent b q'
  have hB : ∀ b ∈ c.B ⟨vars', (a, o) :: bx2, g.ro⟩, b ∈ c.B ⟨vars', bx2, (a, o) :: g.ro⟩ := fun b q => by
    rcases List.mem_append.mp q with q | q
    · obtain ⟨e, he, rfl⟩ := List.mem_map.mp q
      exact List.mem_append_left _ (List.mem_map_of_mem ((hm2 e).mp he))
    · exact List.mem_append_right _ q
  refine ⟨pf, _, hq, ?_, T', x.ev.mono (fun b _ q => hwr b q) (fun _ _ q => q), fun b q => ?_, fun b q => ?_, x.rest⟩
  · cases pf with
    | ret p => obtain ⟨v, e, rv⟩ := r; exact ⟨v, e, VR.fewer hB rv⟩
    | next => exact r
    | brk => exact r
    | cont => exact r
  · have q' : b ∈ dom (((a, o) :: bx2) ++ g.ro) := q
    obtain ⟨e, he, rfl⟩ := List.mem_map.mp q'
    rcases x.dom e.1 (List.mem_map_of_mem ((hm2 e).mp he)) with q | q
    · exact .inl (hdm _ q)
    · exact .inr q
  · have q' : b ∈ a :: dom bx2 := q
    rcases List.mem_cons.mp q' with rfl | q'
    · exact .inl haw
    · exact (x.wr b q').imp (hwr b) id

theorem WS_borrow {st : Stmt} {rest : List Stmt} {a : Addr} {o : PO} {bx' : List (Addr × PO)} {Q : PF → Gh → Prop} (ho : Out g.bx a o bx')
    (h : WX c E st ⟨g.vars, bx', (a, o) :: g.ro⟩ fun pf g' => g'.ro = (a, o) :: g.ro ∧ Then c E rest Q pf ⟨g'.vars, (a, o) :: g'.bx, g.ro⟩) : WS c E (st :: rest) g Q := WS_cons (WX_borrow ho h)

/-! ## x[:-1] -/
theorem WE_butLast {x : Str} {px pm p1 p pos : Pos} {k1 : Nat} {xs : List PV} {q : PV} {Q : PV → Gh → Prop} (hx : g.vars.lookup x = some q) (hq : q = .lst xs ∨ ∃ a, q = .box a ∧ (a, PO.lst xs) ∈ g.all) (hne : xs ≠ []) (h : Q (.lst (xs.take (xs.length - 1))) g)
    (hd : (x == ("__debug__" : Str)) = false := by decide +kernel) :
    WE c E (.Subscript (.Name x px) (.Slice none (some (.UnaryOp .USub (.Constant (.int 1) k1 p1) pm)) none p) pos) g Q := fun s S => by
  have hn : WE c E (.Name x px) g fun q' g' => q' = q ∧ g' = g := WE_Name hx ⟨rfl, rfl⟩ hd
  have hneg : WE c E (.UnaryOp .USub (.Constant (.int 1) k1 p1) pm) g fun q' g' => q' = .int (-1) ∧ g' = g := WE_neg (WE_int ⟨1, rfl, rfl, rfl⟩)
  refine wpAny_Subscript_list_slice (wpAny_mono (hn s S) (fun v s₁ hz2 => ?_) fun _ _ e => e)
  obtain ⟨q', g₁, ⟨e1, e2⟩, r₁, x₁⟩ := hz2
  subst e1; subst e2
  rw [evalPart_none, evalPart_some]
  refine wpAny_pure (wpAny_mono (hneg s₁ x₁.st) (fun u s₂ hz3 => ?_) fun _ _ e => e)
  obtain ⟨q₂, g₂, ⟨e3, e4⟩, r₂, x₂⟩ := hz3
  subst e3; subst e4
  obtain ⟨t, rfl⟩ := r₂
  have S₂ := x₂.st
  obtain ⟨a, vs, rfl, hl, hz, rs⟩ : ∃ a vs, v = .ref a ∧ LstAt s₂.heap a vs ∧ xs.length ≤ sizeLine ∧ VRs (c.B g₂) s₂.heap xs vs := by
    rcases hq with rfl | ⟨a, rfl, hb⟩
    · obtain ⟨a, vs, rfl, hl, _, hz, rs⟩ := x₂.vr r₁; exact ⟨a, vs, rfl, hl, hz, rs⟩
    · obtain ⟨vs, hl, hz, rs⟩ := S₂.boxes _ _ hb; exact ⟨a, vs, r₁, hl, hz, rs⟩
  have hlen := rs.length
  have hpos : 0 < xs.length := List.length_pos_iff.mpr hne
  refine ⟨a, vs.toArray, none, some (-1), rfl, hl.isList, by simp; omega, .none, .int _ _, ?_⟩
  have e : slicePick vs.toArray none (some (-1)) none = (vs.take (xs.length - 1)).toArray := by
    have e1 : slicePick vs.toArray none (some (-1)) none = slicePick vs.toArray none (some ((xs.length - 1 : Nat) : Int)) none := by
      unfold slicePick sliceBounds
      simp only [List.size_toArray, hlen]
      congr 3
      simp
      omega
    rw [e1, slicePick_upto _ _ (by simp; omega)]
  rw [e]
  have k1 : ∀ b o, s₂.heap.get? b = some o → (s₂.heap.push { cls := .type "slice", data := .fields #[.none, .int (-1) t, .none] }).get? b = some o := fun b o e => Heap.get?_push_of_some _ e
  have x₃ : Step c NoW g₂ s₂ g₂ { s₂ with heap := s₂.heap.push { cls := .type "slice", data := .fields #[.none, .int (-1) t, .none] } } := Step.keeps S₂ k1 (by simp)
  have y := pushLst (c := c) (g := g₂) (s := { s₂ with heap := s₂.heap.push { cls := .type "slice", data := .fields #[.none, .int (-1) t, .none] } }) x₃.st ((x₃.vrs rs).take (xs.length - 1)) (by rw [List.length_take]; omega)
  have hsz : (s₂.heap.push { cls := .type "slice", data := .fields #[.none, .int (-1) t, .none] }).objs.size = s₂.heap.objs.size + 1 := Heap.size_push ..
  refine ⟨_, g₂, h, ?_, ((x₁.trans x₂).trans x₃).trans y.2⟩
  have := y.1
  simp only [hsz] at this
  exact this
end

end Mine

set_option maxHeartbeats 400000
namespace Mine
open PySem PyProof.Rows

section
variable {c : Cx} {E : Exc} {g : Gh} {Q : PV → Gh → Prop} {value slice : Expr}

theorem map_get {α : Type} {pv : α → PV} {zs : List α} {k : Nat} {p : PV} (h : (zs.map pv)[k]? = some p) : ∃ z, zs[k]? = some z ∧ p = pv z := by
  rw [List.getElem?_map] at h
  cases e : zs[k]? with
  | none => rw [e] at h; cases h
  | some z => rw [e] at h; exact ⟨z, rfl, (Option.some.inj h).symm⟩

theorem Item_ints {ss : List Int} {k : Int} (h0 : 0 ≤ k) (h1 : k < ss.length) (h : ∀ i, ss[k.toNat]? = some i → Q (.int i) g) (hs : notSlice slice = true := by rfl) : Item c E g value slice (.lst (pints ss)) (.int k) Q :=
  Item_any h0 (by rw [pints_length]; exact h1) (fun p hp => by obtain ⟨i, hi, rfl⟩ := pints_get hp; exact h i hi) hs
theorem Item_intst {ss : List Int} {k : Int} (h0 : 0 ≤ k) (h1 : k < ss.length) (h : ∀ i, ss[k.toNat]? = some i → Q (.int i) g) (hs : notSlice slice = true := by rfl) : Item c E g value slice (.tup (pints ss)) (.int k) Q :=
  Item_anyt h0 (by rw [pints_length]; exact h1) (fun p hp => by obtain ⟨i, hi, rfl⟩ := pints_get hp; exact h i hi) hs
theorem Item_intsb {a : Addr} {ss : List Int} {k : Int} (hb : (a, PO.lst (pints ss)) ∈ g.all) (h0 : 0 ≤ k) (h1 : k < ss.length) (h : ∀ i, ss[k.toNat]? = some i → Q (.int i) g) (hs : notSlice slice = true := by rfl) : Item c E g value slice (.box a) (.int k) Q :=
  Item_anyb hb h0 (by rw [pints_length]; exact h1) (fun p hp => by obtain ⟨i, hi, rfl⟩ := pints_get hp; exact h i hi) hs
theorem Item_ofT {α : Type} {pv : α → PV} {ss : List α} {k : Int} (h0 : 0 ≤ k) (h1 : k < ss.length) (h : ∀ i, ss[k.toNat]? = some i → Q (pv i) g) (hs : notSlice slice = true := by rfl) : Item c E g value slice (.tup (ss.map pv)) (.int k) Q :=
  Item_anyt h0 (by rw [List.length_map]; exact h1) (fun p hp => by obtain ⟨i, hi, rfl⟩ := map_get hp; exact h i hi) hs
end

def floorPV (crews : List Int) (jobs : List (Int × List Int)) (ord : PV) : PV := .tup [.tup (pints crews), .tup (jobs.map jobPV), ord]

section
variable {c : Cx} {g : Gh}
theorem zip_pv {α β : Type} (f : α → PV) (k : β → PV) : ∀ (xs : List α) (ys : List β), List.zipWith (fun p q => PV.tup [p, q]) (xs.map f) (ys.map k) = (xs.zip ys).map fun z => PV.tup [f z.1, k z.2]
  | [], _ => by simp
  | _ :: _, [] => by simp
  | x :: xs, y :: ys => by simp only [List.map_cons, List.zipWith_cons_cons, List.zip_cons_cons]; rw [zip_pv f k xs ys]

def unpair : PV → Int × Int
  | .tup [.int x, .int y] => (x, y)
  | _ => (0, 0)
theorem perm_pairs {qs : List PV} {bs : List (Int × Int)} (h : qs.Perm (bs.map pairPV)) : ∃ bs' : List (Int × Int), qs = bs'.map pairPV ∧ bs'.Perm bs := by
  refine ⟨qs.map unpair, ?_, ?_⟩
  · rw [List.map_map]
    have : qs.map (pairPV ∘ unpair) = qs.map id := List.map_congr_left fun q hq => by
      obtain ⟨b, _, rfl⟩ := List.mem_map.mp (h.mem_iff.mp hq)
      rfl
    rw [this, List.map_id]
  · have h1 := h.map unpair
    rw [List.map_map] at h1
    have : bs.map (unpair ∘ pairPV) = bs.map id := List.map_congr_left fun q hq => rfl
    rw [this, List.map_id] at h1
    exact h1
end

section
open PySem.SeqAt
theorem pints_canLay : ∀ fs : List Int, PyData.canLayAll0 (PV.pds (pints fs)) = true
  | [] => by simp [pints, PV.pds, PyData.canLayAll0]
  | f :: r => by have := pints_canLay r; simp only [pints] at this; simp [pints, PV.pds, PV.pd, PyData.canLayAll0, PyData.canLay0]; exact this
theorem pints_depth : ∀ fs : List Int, PyData.depthAll (PV.pds (pints fs)) ≤ 3
  | [] => by simp [pints, PV.pds, PyData.depthAll]
  | f :: r => by
    have := pints_depth r
    simp only [pints, List.map_cons, PV.pds, PV.pd, PyData.depthAll, PyData.depth] at this ⊢
    omega
theorem pints_shaped (fs : List Int) : shaped (PV.lst (pints fs)).pd = true := by
  have h1 := pints_depth fs
  rw [PV.pd]
  unfold shaped
  rw [Bool.and_eq_true]
  refine ⟨by simp only [PyData.canLay0]; exact pints_canLay fs, decide_eq_true ?_⟩
  simp only [PyData.depth]; omega
theorem pints_noMix : ∀ fs gs : List Int, noMixAll (PV.pds (pints fs)) (PV.pds (pints gs)) = true
  | [], [] => by simp [pints, PV.pds, noMixAll]
  | [], _ :: _ => by simp [pints, PV.pds, noMixAll]
  | _ :: _, [] => by simp [pints, PV.pds, noMixAll]
  | f :: r, k :: t => by have := pints_noMix r t; simp only [pints] at this; simp [pints, PV.pds, PV.pd, noMixAll, noMix]; exact this
theorem pints_same : ∀ fs gs : List Int, PySem.Spec.sameAll (PV.pds (pints fs)) (PV.pds (pints gs)) = decide (fs = gs)
  | [], [] => by simp [pints, PV.pds, PySem.Spec.sameAll]
  | [], _ :: _ => by simp [pints, PV.pds, PySem.Spec.sameAll]
  | _ :: _, [] => by simp [pints, PV.pds, PySem.Spec.sameAll]
  | f :: r, k :: t => by
    have := pints_same r t
    simp only [pints] at this
    simp only [pints, List.map_cons, PV.pds, PV.pd, PySem.Spec.sameAll, PySem.Spec.same]
    rw [this]
    by_cases h1 : f = k <;> by_cases h2 : r = t <;> simp [h1, h2]
variable {c : Cx} {E : Exc} {g : Gh} {Q : PV → Gh → Prop}
theorem Cmp_eq_ints {xs ys : List Int} (h : Q (.bool (decide (xs = ys))) g) : Cmp c E g .Eq (.lst (pints xs)) (.lst (pints ys)) Q := by
  refine Cmp_eq_data (by rw [PV.data]; exact pints_datas xs) (by rw [PV.data]; exact pints_datas ys) (pints_shaped xs) (pints_shaped ys) (by rw [PV.pd, PV.pd, noMix]; exact pints_noMix xs ys) ?_
  rw [PV.pd, PV.pd, PySem.Spec.same, pints_same]; exact h
theorem Cmp_ne_ints {xs ys : List Int} (h : Q (.bool (decide (xs ≠ ys))) g) : Cmp c E g .NotEq (.lst (pints xs)) (.lst (pints ys)) Q := by
  refine Cmp_ne_data (by rw [PV.data]; exact pints_datas xs) (by rw [PV.data]; exact pints_datas ys) (pints_shaped xs) (pints_shaped ys) (by rw [PV.pd, PV.pd, noMix]; exact pints_noMix xs ys) ?_
  rw [PV.pd, PV.pd, PySem.Spec.same, pints_same, ← decide_not]; exact h
end
section
variable {c : Cx} {E : Exc} {g : Gh} {rest : List Stmt} {Q : PF → Gh → Prop}
theorem filterMap_if {α : Type} (P : α → Bool) (pv : α → PV) (l : List α) : l.filterMap (fun o => if P o = true then some (pv o) else none) = (l.filter P).map pv := by
  induction l with
  | nil => rfl
  | cons s r ih =>
    rw [List.filterMap_cons, List.filter_cons]
    by_cases h : P s = true
    · rw [if_pos h, if_pos h, List.map_cons]; simp only; rw [ih]
    · rw [if_neg h, if_neg h]; simp only; rw [ih]
end
section
variable {c : Cx} {g : Gh}
end
end Mine

set_option maxRecDepth 100000
set_option maxHeartbeats 400000
namespace Mine
open PySem PyProof.Rows

abbrev P03 : Program := PySem.Challenge.pw_uf020011_03

local macro_rules | `(tactic| walk_at "w1") => `(tactic| first
  | ((with_reducible show WE _ _ (Expr.Name _ _) _ _); refine WE_Name rfl ?_)
  | ((with_reducible show WE _ _ (Expr.Call (Expr.Name _ _) _ _ _) _ _); first
    | ((with_reducible show WE _ _ (Expr.Call (Expr.Name "len" _) _ _ _) _ _); refine WE_CallV (Bl.len ‹_›) (.inr ⟨_, rfl⟩) ?_)
    | ((with_reducible show WE _ _ (Expr.Call (Expr.Name "min" _) _ _ _) _ _); refine WE_CallV (Bl.min ‹_›) (.inr ⟨_, rfl⟩) ?_)
    | ((with_reducible show WE _ _ (Expr.Call (Expr.Name "max" _) _ _ _) _ _); refine WE_CallV (Bl.max ‹_›) (.inr ⟨_, rfl⟩) ?_)
    | ((with_reducible show WE _ _ (Expr.Call (Expr.Name "int" _) _ _ _) _ _); refine WE_CallV (Bl.int ‹_›) (.inl ⟨_, rfl⟩) ?_)
    | ((with_reducible show WE _ _ (Expr.Call (Expr.Name "tuple" _) _ _ _) _ _); refine WE_CallV (Bl.tuple ‹_›) (.inl ⟨_, rfl⟩) ?_)
    | ((with_reducible show WE _ _ (Expr.Call (Expr.Name "sorted" _) _ _ _) _ _); refine WE_CallV (Bl.sorted ‹_›) (.inr ⟨_, rfl⟩) ?_))
  | ((with_reducible show WE _ _ (Expr.Compare _ [_] [_] _) _ _); refine WE_Compare1 ?_)
  | ((with_reducible show WE _ _ _ _ _); with_reducible first | refine WE_int ?_ | refine WE_BinOp ?_ | refine WE_Subscript ?_ | refine WE_List ?_ | refine WE_Tuple ?_ | refine WE_bool ?_ | refine WE_neg ?_)
  | ((with_reducible show WEs _ _ (_ :: _) _ _); refine WEs_cons ?_)
  | ((with_reducible show WEs _ _ _ _ _); with_reducible refine WEs_nil ?_)
  | ((with_reducible show Bin _ _ _ Operator.Mod _ _ _); refine Bin_mod ?_)
  | ((with_reducible show Bin _ _ _ Operator.FloorDiv _ _ _); refine Bin_div ?_)
  | ((with_reducible show Bin _ _ _ Operator.Mult (PV.int _) _ _); refine Bin_mul ?_)
  | ((with_reducible show Bin _ _ _ _ _ _ _); with_reducible first | refine Bin_add ?_ | refine Bin_sub ?_)
  | ((with_reducible show Cmp _ _ _ _ _ _ _); with_reducible first | refine Cmp_lt ?_ | refine Cmp_le ?_ | refine Cmp_gt ?_ | refine Cmp_eq ?_ | refine Cmp_ne ?_)
  | ((with_reducible show Item _ _ _ _ _ (PV.tup (_ :: _)) _ _); refine Item_tup ⟨_, rfl, rfl⟩ ?_)
  | ((with_reducible show Item _ _ _ _ _ (floorPV _ _ _) _ _); refine Item_tup ⟨_, rfl, rfl⟩ ?_)
  | ((with_reducible show Item _ _ _ _ _ (jobPV _) _ _); refine Item_tup ⟨_, rfl, rfl⟩ ?_)
  | ((with_reducible show Item _ _ _ _ _ (pairPV _) _ _); refine Item_tup ⟨_, rfl, rfl⟩ ?_)
  | ((with_reducible show WT _ _ (Expr.Compare _ [_] [_] _) _ _); refine WT_Compare1 ?_)
  | ((with_reducible show CallV _ _ _ _ _ _); with_reducible first | refine CallV_len_lst ?_ | refine CallV_len_tup ?_ | refine CallV_min ?_ | refine CallV_max ?_ | refine CallV_int_bool ?_ | refine CallV_tuple_lst ?_)
  | ((with_reducible show (_ : Nat) ≤ sizeLine ∧ _); refine ⟨size_lit rfl, ?_⟩)
  | ((with_reducible show ∃ a, PV.int _ = PV.int a ∧ _); refine ⟨_, rfl, ?_⟩))
local macro_rules | `(tactic| walk_at "w") => `(tactic| repeat walk_at "w1")


section
variable {w : World} {h0 : Heap} {d : Nat} {ro : List (Addr × PO)} {Q : PV → List (Addr × PO) → Prop}

theorem cell_at_spec (B : Bl h0) (F : FnK P03 h0 5 "_law_cell_at" ["_law_script", "_law_k"]) {ns : List Int} {k : Int}
    (hn : ns.length ≤ 63) (hk : 0 ≤ k) (h : Q (.int (cellAt ns k.toNat)) []) :
    FnSpec P03 w h0 "_law_cell_at" (d + 1) [.lst (pints ns), .int k] [] ro Q := by
  refine FnSpec.pure_body F B.lim rfl (by rfl) (by decide) rfl rfl rfl fun A L a q cd hb ex => ?_
  refine WS_If (WT_Compare1 (WE_Name rfl (WE_CallV B.len (.inr ⟨_, rfl⟩) (WEs_cons (WE_Name rfl (WEs_nil (CallV_len_lst (Cmp_lt ⟨_, rfl, fun hlt => ?_, fun hge => ?_⟩))))))))
  · have hlt : k < ns.length := by have := of_decide_eq_true hlt; rwa [pints_length] at this
    refine WS_Return (WE_BinOp (WE_Subscript (WE_Name rfl (WE_Name rfl (Item_any hk (by rw [pints_length]; exact hlt) fun p hp => ?_)))))
    obtain ⟨i, hi, rfl⟩ := pints_get hp
    refine WE_int (Bin_mod ⟨rfl, .inl ⟨_, rfl, ?_⟩⟩)
    have : cellAt ns k.toNat = i % 1000000000000000003 := by unfold cellAt; rw [List.getD_eq_getElem?_getD, hi]; rfl
    rw [← this]; exact h
  · have hge : ¬ k < ns.length := by have := of_decide_eq_false hge; rwa [pints_length] at this
    refine WS_end (WS_Return (WE_int ⟨rfl, .inl ⟨_, rfl, ?_⟩⟩))
    have : cellAt ns k.toNat = 0 := by unfold cellAt; rw [List.getD_eq_getElem?_getD, List.getElem?_eq_none (by omega)]; rfl
    rw [← this]; exact h

theorem mix_spec (B : Bl h0) (F : FnK P03 h0 6 "_law_mix" ["_law_cell", "_law_k"]) {a k : Int} (h : Q (.int (mix a k)) []) :
    FnSpec P03 w h0 "_law_mix" (d + 1) [.int a, .int k] [] ro Q := by
  refine FnSpec.pure_body F B.lim rfl (by rfl) (by decide) rfl rfl rfl fun A L a' q cd hb ex => ?_
  have h1 : 0 ≤ (a * 48271 + k * 69621 + 11) % 2147483647 := Int.emod_nonneg _ (by decide)
  have h2 : (a * 48271 + k * 69621 + 11) % 2147483647 < 2147483647 := Int.emod_lt_of_pos _ (by decide)
  refine WS_Assign ?_ (.inl rfl)
  walk_at "w"
  refine WS_Return ?_
  walk_at "w"
  exact ⟨rfl, .inl ⟨_, rfl, h⟩⟩

theorem whole_spec (B : Bl h0) (F : FnK P03 h0 7 "_law_whole" ["_law_found"]) {i : Int} (h : Q (.bool true) []) :
    FnSpec P03 w h0 "_law_whole" (d + 1) [.int i] [] ro Q := by
  refine FnSpec.pure_body F B.lim rfl (by rfl) (by decide) rfl rfl rfl fun A L a' q cd hb ex => ?_
  refine WS_Return (WE_BoolOp (WBo_and (WE_CallV B.isinstance (.inr ⟨_, rfl⟩) (WEs_cons (WE_Name rfl (WEs_cons (WE_Builtin B.int (WEs_nil (CallV_isi_int (Truth_bool ⟨rfl, fun _ => WBo_one ?_, fun e => by cases e⟩))))))))))
  exact WE_not (WE_CallV B.isinstance (.inr ⟨_, rfl⟩) (WEs_cons (WE_Name rfl (WEs_cons (WE_Builtin B.bool (WEs_nil (CallV_isi_bool (Truth_bool ⟨rfl, .inl ⟨_, rfl, h⟩⟩))))))))

theorem sum_take_succ {α : Type} (f : α → Int) (l : List α) (k : Nat) (x : α) (h : l[k]? = some x) : ((l.take (k + 1)).map f).sum = ((l.take k).map f).sum + f x := by
  rw [List.take_add_one, h]
  simp

theorem mem_range {a z : Int} {n : Nat} (h : z ∈ rangeInts a 1 n) : a ≤ z ∧ z < a + n := by
  obtain ⟨i, hi, e⟩ := List.getElem_of_mem h
  rw [rangeInts_length] at hi
  have := rangeInts_get (a := a) (c := 1) hi
  rw [List.getElem?_eq_getElem (by rw [rangeInts_length]; exact hi), e] at this
  have := Option.some.inj this
  omega

theorem crews_spec (B : Bl h0) (F1 : FnK P03 h0 6 "_law_mix" ["_law_cell", "_law_k"]) (F : FnK P03 h0 9 "_law_crews" ["_law_cell"]) {cell : Int} (hc : 0 ≤ cell)
    (hq : ∀ cs : List Int, 1 ≤ cs.length → cs.length ≤ 4 → (∀ c ∈ cs, 1 ≤ c ∧ c ≤ 50) → Q (.tup (pints cs)) []) :
    FnSpec P03 w h0 "_law_crews" (d + 2) [.int cell] [] ro Q := by
  refine FnSpec.pure_body F B.lim rfl (by rfl) (by decide) rfl rfl rfl fun A L a' q' cd hb ex => ?_
  refine WS_Assign ?_ (.inl rfl)
  walk_at "w"
  refine Item_any (by omega) (by simp only [List.length_cons, List.length_nil]; omega) fun p hp => ?_
  obtain ⟨m, rfl, hm⟩ : ∃ m : Int, p = .int m ∧ 0 ≤ m ∧ m < 4 := by
    rcases pick2 hp with ⟨_, rfl⟩ | ⟨_, rfl⟩
    · exact ⟨_, rfl, by omega, by omega⟩
    · exact ⟨_, rfl, by omega, by omega⟩
  walk_at "w"
  refine WS_Assign ?_ (.inr ⟨rfl, rfl⟩)
  walk_at "w"
  refine Item_any (by omega) (by simp only [List.length_cons, List.length_nil]; omega) fun p hp => ?_
  obtain ⟨g, rfl, hg⟩ : ∃ g : Int, p = .int g ∧ 1 ≤ g ∧ g ≤ 50 := by
    rcases pick3 hp with ⟨_, rfl⟩ | ⟨_, rfl⟩ | ⟨_, rfl⟩ <;> exact ⟨_, rfl, by omega, by omega⟩
  refine WS_Return ?_
  walk_at "w"
  refine WE_ListComp ?_
  refine WIter_CallI B.range (.inl ⟨_, rfl⟩) ?_
  walk_at "w"
  refine CallI_range1 ?_ (by omega)
  refine CompAt.ofInts (fun k => .int (1 + mix cell k % g)) [("_law_cell", .int cell), ("_law_greatest", .int g)] (.cons _ rfl rfl (.cons _ rfl rfl .nil)) (fun z hz cl C ex => ?_) ?_ (by rw [rangeInts_length, sizeLine_eq]; omega)
  · walk_at "w"
    refine WE_Call F1.isFn ?_
    walk_at "w"
    refine mix_spec B F1 ?_
    walk_at "w"
    exact ⟨rfl, rfl⟩
  · walk_at "w"
    refine ⟨rfl, .inl ⟨_, rfl, ?_⟩⟩
    have e : (rangeInts 0 1 (1 + m).toNat).map (fun k => PV.int (1 + mix cell k % g)) = pints ((rangeInts 0 1 (1 + m).toNat).map fun k => 1 + mix cell k % g) := by
      unfold pints; rw [List.map_map]; rfl
    rw [e]
    refine hq _ (by rw [List.length_map, rangeInts_length]; omega) (by rw [List.length_map, rangeInts_length]; omega) fun c hc => ?_
    obtain ⟨k, _, rfl⟩ := List.mem_map.mp hc
    have := Int.emod_nonneg (mix cell k) (show g ≠ 0 by omega)
    have := Int.emod_lt_of_pos (mix cell k) (show 0 < g by omega)
    omega

/-- each need within its crew -/
def NeedsOk (ns crews : List Int) : Prop := ns.length = crews.length ∧ ∀ (i : Nat) (n c : Int), ns[i]? = some n → crews[i]? = some c → 0 ≤ n ∧ n ≤ c

theorem job_spec (B : Bl h0) (F1 : FnK P03 h0 6 "_law_mix" ["_law_cell", "_law_k"]) (F : FnK P03 h0 10 "_law_job" ["_law_cell", "_law_crews_here", "_law_most"]) {cell most : Int} {crews : List Int} (hc : 0 ≤ cell)
    (hl : crews.length ≤ 4) (hcs : ∀ c ∈ crews, 1 ≤ c ∧ c ≤ 50) (hm : 1 ≤ most ∧ most ≤ 50)
    (hq : ∀ h ns, 1 ≤ h → h ≤ most → NeedsOk ns crews → Q (jobPV (h, ns)) []) :
    FnSpec P03 w h0 "_law_job" (d + 2) [.int cell, .tup (pints crews), .int most] [] ro Q := by
  refine FnSpec.pure_body F B.lim rfl (by rfl) (by decide) rfl rfl rfl fun A L a' q' cd hb ex => ?_
  refine WS_AssignBox (WEF_List (WEs_nil ⟨rfl, by rw [sizeLine_eq]; simp, fun a => ?_⟩)) (.inl rfl)
  refine WS_to [("_law_needs", .box a), ("_law_cell", .int cell), ("_law_crews_here", .tup (pints crews)), ("_law_most", .int most)] ⟨rfl, rfl, rfl, rfl, trivial⟩ ?_
  refine WS_ForR 0 crews.length (fun k g => ∃ ns : List Int, ns.length = k ∧ (∀ (i : Nat) (n c : Int), ns[i]? = some n → crews[i]? = some c → 0 ≤ n ∧ n ≤ c) ∧
    g = ⟨[("_law_needs", .box a), ("_law_cell", .int cell), ("_law_crews_here", .tup (pints crews)), ("_law_most", .int most)], [(a, .lst (pints ns))], ro⟩) ?_ ?_ ?_
  · refine WIter_CallI B.range (.inl ⟨_, rfl⟩) ?_
    walk_at "w"
    refine CallI_range1 ⟨?_, [], rfl, ?_, rfl⟩ (by rw [pints_length]; omega)
    · rw [pints_length]; rfl
    · intro i n c h; simp at h
  · rintro ex k g hk ⟨ns, hns, hok, rfl⟩
    have hck : crews[k]? = some crews[k] := List.getElem?_eq_getElem hk
    generalize crews[k] = ck at hck
    have hcb := hcs ck (List.mem_of_getElem? hck)
    have hk0 : ((0 : Int) + (k : Int)).toNat = k := by omega
    have item : ∀ {p : PV}, (pints crews)[((0 : Int) + (k : Int)).toNat]? = some p → p = .int ck := fun {p} hp => by
      obtain ⟨i, hi, rfl⟩ := pints_get hp
      rw [hk0, hck] at hi
      rw [Option.some.inj hi]
    refine WS_Assign ?_ (.inl rfl)
    refine WE_Call F1.isFn ?_
    walk_at "w"
    refine mix_spec B F1 ?_
    have m0 := mix_nonneg cell (0 + (k : Int) + 3)
    generalize mix cell (0 + (k : Int) + 3) = more at m0
    refine WS_Assign ?_ (.inl rfl)
    walk_at "w"
    refine Item_anyt (by omega) (by rw [pints_length]; omega) fun p hp => ?_
    obtain rfl := item hp
    walk_at "w"
    have e1 := Int.emod_nonneg more (show ck + 1 ≠ 0 by omega)
    have e2 := Int.emod_lt_of_pos more (show 0 < ck + 1 by omega)
    refine WS_IfJ (fun g => ∃ n, 0 ≤ n ∧ n ≤ ck ∧ g = ⟨[("_law_need", .int n), ("_law_needs", .box a), ("_law_cell", .int cell), ("_law_crews_here", .tup (pints crews)), ("_law_most", .int most)], [(a, .lst (pints ns))], ro⟩) ?_ ?_
    · walk_at "w"
      refine ⟨_, rfl, fun _ => ?_, fun _ => ?_⟩
      · refine WS_Assign ?_ (.inl rfl)
        walk_at "w"
        refine Item_anyt (by omega) (by rw [pints_length]; omega) fun p hp => ?_
        obtain rfl := item hp
        walk_at "w"
        refine Item_any (by omega) (by simp only [List.length_cons, List.length_nil]; omega) fun p hp => ?_
        obtain ⟨n, rfl, hn⟩ : ∃ n : Int, p = .int n ∧ 0 ≤ n ∧ n ≤ ck := by
          rcases pick2 hp with ⟨_, rfl⟩ | ⟨_, rfl⟩ <;> exact ⟨_, rfl, by omega, by omega⟩
        exact WS_join [("_law_need", .int n), ("_law_needs", .box a), ("_law_cell", .int cell), ("_law_crews_here", .tup (pints crews)), ("_law_most", .int most)] ⟨rfl, rfl, rfl, rfl, rfl, trivial⟩ ⟨n, hn.1, hn.2, by rfl⟩
      · exact WS_join [("_law_need", .int (more % (ck + 1))), ("_law_needs", .box a), ("_law_cell", .int cell), ("_law_crews_here", .tup (pints crews)), ("_law_most", .int most)] ⟨rfl, rfl, rfl, rfl, rfl, trivial⟩ ⟨_, e1, by omega, by rfl⟩
    · rintro g ⟨n, n1, n2, rfl⟩
      refine WS_Expr (WE_append rfl (.head _) ?_)
      walk_at "w"
      refine ⟨_, _, .head, by rw [pints_length, sizeLine_eq]; omega, ?_⟩
      refine WS_turnTo [("_law_needs", .box a), ("_law_cell", .int cell), ("_law_crews_here", .tup (pints crews)), ("_law_most", .int most)] ⟨rfl, rfl, rfl, rfl, trivial⟩ ⟨ns ++ [n], by simp [hns], ?_, ?_⟩
      · intro i n' c' h1 h2
        rcases Nat.lt_trichotomy i ns.length with q | q | q
        · rw [List.getElem?_append_left q] at h1; exact hok i n' c' h1 h2
        · subst q
          rw [List.getElem?_append_right (Nat.le_refl _)] at h1
          simp at h1
          rw [hns, hck] at h2
          have := Option.some.inj h2
          omega
        · rw [List.getElem?_append_right (Nat.le_of_lt q)] at h1
          have : i - ns.length = (i - ns.length - 1) + 1 := by omega
          rw [this] at h1; simp at h1
      · unfold pints; simp
  · rintro g ⟨ns, hns, hok, rfl⟩
    refine WS_Return ?_
    have e1 := Int.emod_nonneg cell (show most ≠ 0 by omega)
    have e2 := Int.emod_lt_of_pos cell (show 0 < most by omega)
    walk_at "w"
    refine CallV_tuple_box (.head _) ?_
    walk_at "w"
    exact ⟨rfl, .inl ⟨_, rfl, hq _ ns (by omega) (by omega) ⟨hns, hok⟩⟩⟩

def sndPV : PV → Int
  | .tup [_, .int y] => y
  | _ => 0

/-- orders that lead on along a line -/
def OrdersOk (line : List Int) (os : List (Int × Int)) : Prop := ∀ o ∈ os, ∃ i j : Nat, i < j ∧ line[i]? = some o.1 ∧ line[j]? = some o.2

theorem orders_spec (B : Bl h0) (F1 : FnK P03 h0 6 "_law_mix" ["_law_cell", "_law_k"]) (F : FnK P03 h0 11 "_law_orders" ["_law_cell", "_law_many", "_law_most"]) {cell many most : Int} (hc : 0 ≤ cell) (hm : 1 ≤ many ∧ many < 64) (hk : 0 ≤ most ∧ most ≤ 1000)
    (hq : ∀ line os, line.Perm (rangeInts 0 1 many.toNat) → OrdersOk line os → os.length ≤ most.toNat → Q (.tup (os.map pairPV)) []) :
    FnSpec P03 w h0 "_law_orders" (d + 2) [.int cell, .int many, .int most] [] ro Q := by
  refine FnSpec.pure_body F B.lim rfl (by rfl) (by decide) rfl rfl rfl fun A L a' q' cd hb ex => ?_
  refine WS_Assign ?_ (.inl rfl)
  walk_at "w"
  refine WE_ListComp ?_
  refine WIter_CallI B.range (.inl ⟨_, rfl⟩) ?_
  walk_at "w"
  refine CallI_range1 ?_ (by omega)
  refine CompAt.ofInts (fun k => pairPV (mix cell k % 997, k)) [("_law_cell", .int cell)] (.cons _ rfl rfl .nil) (fun z hz cl C ex => ?_) ?_ (by rw [rangeInts_length, sizeLine_eq]; omega)
  · walk_at "w"
    refine WE_Call F1.isFn ?_
    walk_at "w"
    refine mix_spec B F1 ?_
    walk_at "w"
    exact ⟨rfl, rfl⟩
  walk_at "w"
  refine CallV_sorted_pairs (fun p hp => ?_) (by rw [List.length_map, rangeInts_length]; omega) fun qs hperm => ?_
  · obtain ⟨k, _, rfl⟩ := List.mem_map.mp hp
    exact ⟨_, _, rfl⟩
  have hpair : ∀ q ∈ qs, ∃ x : Int, q = pairPV (x, sndPV q) := fun q hqm => by
    obtain ⟨k, _, rfl⟩ := List.mem_map.mp (hperm.mem_iff.mp hqm)
    exact ⟨_, rfl⟩
  have hline : (qs.map sndPV).Perm (rangeInts 0 1 many.toNat) := by
    have h1 := hperm.map sndPV
    rw [List.map_map] at h1
    have h2 : (rangeInts 0 1 many.toNat).map (sndPV ∘ fun k => pairPV (mix cell k % 997, k)) = rangeInts 0 1 many.toNat := by
      conv => rhs; rw [← List.map_id (rangeInts 0 1 many.toNat)]
      exact List.map_congr_left fun k _ => rfl
    rw [h2] at h1; exact h1
  have hlen : (qs.length : Int) = many := by
    have := hperm.length_eq
    rw [List.length_map, rangeInts_length] at this; omega
  refine WS_AssignBox (WEF_List (WEs_nil ⟨rfl, by rw [sizeLine_eq]; simp, fun a => ?_⟩)) (.inl rfl)
  have q1 := Int.emod_nonneg cell (show most + 1 ≠ 0 by omega)
  have q2 := Int.emod_lt_of_pos cell (show 0 < most + 1 by omega)
  refine WS_to [("_law_orders_here", .box a), ("_law_line", .lst qs), ("_law_cell", .int cell), ("_law_many", .int many), ("_law_most", .int most)] ⟨rfl, rfl, rfl, rfl, rfl, trivial⟩ ?_
  refine WS_ForR 0 (cell % (most + 1)).toNat (fun k g => ∃ os : List (Int × Int), OrdersOk (qs.map sndPV) os ∧ os.length ≤ k ∧
    g = ⟨[("_law_orders_here", .box a), ("_law_line", .lst qs), ("_law_cell", .int cell), ("_law_many", .int many), ("_law_most", .int most)], [(a, .lst (os.map pairPV))], ro⟩) ?_ ?_ ?_
  · refine WIter_CallI B.range (.inl ⟨_, rfl⟩) ?_
    walk_at "w"
    exact CallI_range1 ⟨rfl, [], (fun o ho => by cases ho), Nat.le_refl _, rfl⟩ (by omega)
  · rintro ex k g hk ⟨os, hok, hol, rfl⟩
    refine WS_Assign ?_ (.inl rfl)
    walk_at "w"
    refine WE_Call F1.isFn ?_
    walk_at "w"
    refine mix_spec B F1 ?_
    walk_at "w"
    have a1 := Int.emod_nonneg (mix cell (50 + (0 + (k : Int)))) (show many ≠ 0 by omega)
    have a2 := Int.emod_lt_of_pos (mix cell (50 + (0 + (k : Int)))) (show 0 < many by omega)
    generalize mix cell (50 + (0 + (k : Int))) % many = one at a1 a2
    refine WS_Assign ?_ (.inl rfl)
    walk_at "w"
    refine WE_Call F1.isFn ?_
    walk_at "w"
    refine mix_spec B F1 ?_
    walk_at "w"
    have b1 := Int.emod_nonneg (mix cell (150 + (0 + (k : Int)))) (show many ≠ 0 by omega)
    have b2 := Int.emod_lt_of_pos (mix cell (150 + (0 + (k : Int)))) (show 0 < many by omega)
    generalize mix cell (150 + (0 + (k : Int))) % many = other at b1 b2
    refine WS_If ?_
    walk_at "w"
    refine ⟨_, rfl, fun hne => ?_, fun _ => ?_⟩
    · have hne : one ≠ other := of_decide_eq_true hne
      refine WS_Expr (WE_append rfl (.head _) ?_)
      walk_at "w"
      refine Item_any (by omega) (by omega) fun p hp => ?_
      obtain ⟨x, hx⟩ := hpair p (List.mem_of_getElem? hp)
      generalize hy : sndPV p = y at hx
      subst hx
      try unfold pairPV
      walk_at "w"
      refine Item_any (by omega) (by omega) fun p' hp' => ?_
      obtain ⟨x', hx'⟩ := hpair p' (List.mem_of_getElem? hp')
      generalize hy' : sndPV p' = y' at hx'
      subst hx'
      try unfold pairPV
      walk_at "w"
      refine ⟨_, _, .head, by rw [List.length_map, sizeLine_eq]; omega, ?_⟩
      refine WS_end (WS_turnTo [("_law_orders_here", .box a), ("_law_line", .lst qs), ("_law_cell", .int cell), ("_law_many", .int many), ("_law_most", .int most)] ⟨rfl, rfl, rfl, rfl, rfl, trivial⟩ ⟨os ++ [(y, y')], ?_, by simp; omega, ?_⟩)
      · intro o ho
        rcases List.mem_append.mp ho with ho | ho
        · exact hok o ho
        · rw [List.mem_singleton.mp ho]
          refine ⟨(min one other).toNat, (max one other).toNat, by omega, ?_, ?_⟩
          · rw [List.getElem?_map, hp]; rfl
          · rw [List.getElem?_map, hp']; rfl
      · rw [List.map_append]; rfl
    · exact WS_end (WS_turnTo [("_law_orders_here", .box a), ("_law_line", .lst qs), ("_law_cell", .int cell), ("_law_many", .int many), ("_law_most", .int most)] ⟨rfl, rfl, rfl, rfl, rfl, trivial⟩ ⟨os, hok, by omega, by rfl⟩)
  · rintro g ⟨os, hok, hol, rfl⟩
    refine WS_Return ?_
    walk_at "w"
    refine CallV_tuple_box (.head _) ?_
    exact ⟨rfl, .inl ⟨_, rfl, hq _ os hline hok (by omega)⟩⟩

/-- the defs of the drawing -/
structure Dr (P : Program) (h0 : Heap) (kc km kr kj ko kf : Nat) : Prop where
  cell_at : FnK P h0 kc "_law_cell_at" ["_law_script", "_law_k"]
  mix : FnK P h0 km "_law_mix" ["_law_cell", "_law_k"]
  crews : FnK P h0 kr "_law_crews" ["_law_cell"]
  job : FnK P h0 kj "_law_job" ["_law_cell", "_law_crews_here", "_law_most"]
  orders : FnK P h0 ko "_law_orders" ["_law_cell", "_law_many", "_law_most"]
  floor : FnK P h0 kf "_law_floor" ["_law_script", "_law_at", "_law_many", "_law_most", "_law_orders_here"]

structure FloorOk (many : Nat) (most : Int) (orders : Nat) (crews : List Int) (jobs : List (Int × List Int)) (line : List Int) (os : List (Int × Int)) : Prop where
  c1 : 1 ≤ crews.length
  c4 : crews.length ≤ 4
  cb : ∀ c ∈ crews, 1 ≤ c ∧ c ≤ 50
  jl : jobs.length = many
  jb : ∀ j ∈ jobs, 1 ≤ j.1 ∧ j.1 ≤ most ∧ NeedsOk j.2 crews
  perm : line.Perm (rangeInts 0 1 many)
  ord : OrdersOk line os
  ol : os.length ≤ orders

theorem floor_spec (B : Bl h0) (D : Dr P03 h0 5 6 9 10 11 12) {ns : List Int} {at' many most orders : Int} (hn : ns.length ≤ 63) (ha : 0 ≤ at') (hm : 1 ≤ many ∧ many < 64) (hmo : 1 ≤ most ∧ most ≤ 50) (ho : 0 ≤ orders ∧ orders ≤ 1000)
    (hq : ∀ crews jobs line os, FloorOk many.toNat most orders.toNat crews jobs line os → Q (floorPV crews jobs (.tup (os.map pairPV))) []) :
    FnSpec P03 w h0 "_law_floor" (d + 3) [.lst (pints ns), .int at', .int many, .int most, .int orders] [] ro Q := by
  refine FnSpec.pure_body D.floor B.lim rfl (by rfl) (by decide) rfl rfl rfl fun A L a' q' cd hb ex => ?_
  refine WS_Assign ?_ (.inl rfl)
  refine WE_Call D.crews.isFn ?_
  refine WEs_cons ?_
  refine WE_Call D.cell_at.isFn ?_
  walk_at "w"
  refine cell_at_spec B D.cell_at hn ha ?_
  walk_at "w"
  refine crews_spec B D.mix D.crews (cellAt_nonneg _ _) fun crews c1 c4 cb => ?_
  refine WS_AssignBox (WEF_List (WEs_nil ⟨rfl, by rw [sizeLine_eq]; simp, fun a => ?_⟩)) (.inl rfl)
  refine WS_to [("_law_jobs", .box a), ("_law_crews_here", .tup (pints crews)), ("_law_script", .lst (pints ns)), ("_law_at", .int at'), ("_law_many", .int many), ("_law_most", .int most), ("_law_orders_here", .int orders)] ⟨rfl, rfl, rfl, rfl, rfl, rfl, rfl, trivial⟩ ?_
  refine WS_ForR 0 many.toNat (fun k g => ∃ jobs : List (Int × List Int), jobs.length = k ∧ (∀ j ∈ jobs, 1 ≤ j.1 ∧ j.1 ≤ most ∧ NeedsOk j.2 crews) ∧
    g = ⟨[("_law_jobs", .box a), ("_law_crews_here", .tup (pints crews)), ("_law_script", .lst (pints ns)), ("_law_at", .int at'), ("_law_many", .int many), ("_law_most", .int most), ("_law_orders_here", .int orders)], [(a, .lst (jobs.map jobPV))], ro⟩) ?_ ?_ ?_
  · refine WIter_CallI B.range (.inl ⟨_, rfl⟩) ?_
    walk_at "w"
    exact CallI_range1 ⟨rfl, [], rfl, (fun o ho => by cases ho), rfl⟩ (by omega)
  · rintro ex k g hk ⟨jobs, hjl, hjb, rfl⟩
    refine WS_Expr (WE_append rfl (.head _) ?_)
    refine WE_Call D.job.isFn ?_
    refine WEs_cons ?_
    refine WE_Call D.mix.isFn ?_
    refine WEs_cons ?_
    refine WE_Call D.cell_at.isFn ?_
    walk_at "w"
    refine cell_at_spec B D.cell_at hn (by omega) ?_
    walk_at "w"
    refine mix_spec B D.mix ?_
    walk_at "w"
    refine job_spec B D.mix D.job (mix_nonneg _ _) c4 cb hmo fun h nds h1 h2 h3 => ?_
    refine ⟨_, _, .head, by rw [List.length_map, sizeLine_eq]; omega, ?_⟩
    refine WS_turnTo [("_law_jobs", .box a), ("_law_crews_here", .tup (pints crews)), ("_law_script", .lst (pints ns)), ("_law_at", .int at'), ("_law_many", .int many), ("_law_most", .int most), ("_law_orders_here", .int orders)] ⟨rfl, rfl, rfl, rfl, rfl, rfl, rfl, trivial⟩ ⟨jobs ++ [(h, nds)], by simp [hjl], ?_, ?_⟩
    · intro j hj
      rcases List.mem_append.mp hj with hj | hj
      · exact hjb j hj
      · rw [List.mem_singleton.mp hj]; exact ⟨h1, h2, h3⟩
    · rw [List.map_append]; rfl
  · rintro g ⟨jobs, hjl, hjb, rfl⟩
    refine WS_Return ?_
    walk_at "w"
    refine CallV_tuple_box (.head _) ?_
    walk_at "w"
    refine WE_Call D.orders.isFn ?_
    refine WEs_cons ?_
    refine WE_Call D.cell_at.isFn ?_
    walk_at "w"
    refine cell_at_spec B D.cell_at hn (by omega) ?_
    walk_at "w"
    refine orders_spec B D.mix D.orders (cellAt_nonneg _ _) hm ho fun line os p1 p2 p3 => ?_
    walk_at "w"
    exact ⟨rfl, .inl ⟨_, rfl, hq crews jobs line os ⟨c1, c4, cb, hjl, hjb, p1, p2, p3⟩⟩⟩
end

set_option maxRecDepth 100000
set_option maxHeartbeats 400000


section
variable {w : World} {h0 : Heap} {d : Nat} {ro : List (Addr × PO)} {Q : PV → List (Addr × PO) → Prop}

/-! ## who is at work -/
def workAt (crew : Nat) (hour : Int) (p : Int × (Int × List Int)) : Int := if p.1 ≤ hour ∧ hour < p.1 + p.2.1 then p.2.2.getD crew 0 else 0
def workZ (ss : List Int) (jobs : List (Int × List Int)) (crew : Nat) (hour : Int) : Int := ((ss.zip jobs).map (workAt crew hour)).sum

theorem at_work_spec (B : Bl h0) (F : FnK P03 h0 1 "at_work" ["floor", "starts", "crew", "hour"]) {crews : List Int} {jobs : List (Int × List Int)} {ord : PV} {ss : List Int} {crew hour : Int} (hc : 0 ≤ crew) (hj : ∀ j ∈ jobs, crew < j.2.length)
    (hq : Q (.int (workZ ss jobs crew.toNat hour)) []) :
    FnSpec P03 w h0 "at_work" (d + 1) [floorPV crews jobs ord, .lst (pints ss), .int crew, .int hour] [] ro Q := by
  refine FnSpec.pure_body F B.lim rfl (by rfl) (by decide) rfl rfl rfl fun A L a' q' cd hb ex => ?_
  try unfold floorPV
  refine WS_Assign ?_ (.inl rfl)
  walk_at "w"
  refine WS_ForI (List.zipWith (fun p q => PV.tup [p, q]) (pints ss) (jobs.map jobPV))
    (fun k g => g = ⟨[("total", .int (((ss.zip jobs).take k).map (workAt crew.toNat hour)).sum), ("floor", floorPV crews jobs ord), ("starts", .lst (pints ss)), ("crew", .int crew), ("hour", .int hour)], [], ro⟩) ?_ ?_ ?_
  · refine WIter_CallI B.zip (.inl ⟨_, rfl⟩) ?_
    walk_at "w"
    exact CallI_zip (.inl rfl) (.inr rfl) ⟨rfl, rfl⟩
  · rintro ex k x g hx rfl
    rw [List.getElem?_zipWith, pints, List.getElem?_map, List.getElem?_map] at hx
    cases hf : ss[k]? with
    | none => rw [hf] at hx; simp at hx
    | some f =>
      cases hjk : jobs[k]? with
      | none => rw [hf, hjk] at hx; simp at hx
      | some j =>
        rw [hf, hjk] at hx
        simp only [Option.map_some, Option.some.injEq] at hx
        subst hx
        have j3 := hj j (List.mem_of_getElem? hjk)
        have hz : (ss.zip jobs)[k]? = some (f, j) := by rw [List.getElem?_zip_eq_some]; exact ⟨hf, hjk⟩
        have hsum := sum_take_succ (workAt crew.toNat hour) _ k _ hz
        refine WAsg_Tuple (WAsgs_cons (WAsg_Name (WAsgs_cons (WAsg_Name (WAsgs_nil ?_) (.inl rfl))) (.inl rfl)))
        try unfold jobPV
        refine WS_IfJ (fun g => g = ⟨[("total", .int (((ss.zip jobs).take (k + 1)).map (workAt crew.toNat hour)).sum), ("floor", floorPV crews jobs ord), ("starts", .lst (pints ss)), ("crew", .int crew), ("hour", .int hour)], [], ro⟩) ?_ ?_
        · refine WT_Compare2 ?_
          walk_at "w"
          refine ⟨_, rfl, fun h1 => ?_, fun h1 => ⟨fun e => (by cases e), fun _ => ?_⟩⟩
          · walk_at "w"
            refine ⟨_, rfl, fun h2 => ?_, fun h2 => ?_⟩
            · have h1 := of_decide_eq_true h1
              have h2 := of_decide_eq_true h2
              refine WS_Assign ?_ (.inl rfl)
              walk_at "w"
              refine Item_anyt hc (by rw [pints_length]; exact j3) fun p hp => ?_
              obtain ⟨i, hi, rfl⟩ := pints_get hp
              walk_at "w"
              refine WS_join [("total", .int (((ss.zip jobs).take (k + 1)).map (workAt crew.toNat hour)).sum), ("floor", floorPV crews jobs ord), ("starts", .lst (pints ss)), ("crew", .int crew), ("hour", .int hour)] ⟨?_, rfl, rfl, rfl, rfl, trivial⟩ (by rfl)
              have e : workAt crew.toNat hour (f, j) = i := by unfold workAt; rw [if_pos ⟨h1, h2⟩, List.getD_eq_getElem?_getD, hi]; rfl
              rw [hsum, e]; rfl
            · have h2 := of_decide_eq_false h2
              refine WS_join [("total", .int (((ss.zip jobs).take (k + 1)).map (workAt crew.toNat hour)).sum), ("floor", floorPV crews jobs ord), ("starts", .lst (pints ss)), ("crew", .int crew), ("hour", .int hour)] ⟨?_, rfl, rfl, rfl, rfl, trivial⟩ (by rfl)
              have e : workAt crew.toNat hour (f, j) = 0 := by unfold workAt; rw [if_neg fun q => h2 q.2]
              rw [hsum, e, Int.add_zero]; rfl
          · have h1 := of_decide_eq_false h1
            refine WS_join [("total", .int (((ss.zip jobs).take (k + 1)).map (workAt crew.toNat hour)).sum), ("floor", floorPV crews jobs ord), ("starts", .lst (pints ss)), ("crew", .int crew), ("hour", .int hour)] ⟨?_, rfl, rfl, rfl, rfl, trivial⟩ (by rfl)
            have e : workAt crew.toNat hour (f, j) = 0 := by unfold workAt; rw [if_neg fun q => h1 q.1]
            rw [hsum, e, Int.add_zero]; rfl
        · rintro g rfl
          exact WS_turn (by rfl)
  · rintro g rfl
    refine WS_Return ?_
    walk_at "w"
    refine ⟨rfl, .inl ⟨_, rfl, ?_⟩⟩
    have : (ss.zip jobs).take (List.zipWith (fun p q => PV.tup [p, q]) (pints ss) (jobs.map jobPV)).length = ss.zip jobs := by
      rw [List.take_of_length_le]; simp [pints]
    rw [this]; exact hq
end

set_option maxRecDepth 100000
set_option maxHeartbeats 1000000



section
variable {w : World} {h0 : Heap} {d : Nat} {ro : List (Addr × PO)} {Q : PV → List (Addr × PO) → Prop}

abbrev vLW (crews : List Int) (jobs : List (Int × List Int)) (ord : PV) (ss : List Int) (crew hour t : Int) : List (Str × PV) :=
  [("_law_total", .int t), ("_law_floor_here", floorPV crews jobs ord), ("_law_starts", .lst (pints ss)), ("_law_crew", .int crew), ("_law_hour", .int hour)]

theorem law_at_work_spec (B : Bl h0) (F : FnK P03 h0 14 "_law_at_work" ["_law_floor_here", "_law_starts", "_law_crew", "_law_hour"]) {crews : List Int} {jobs : List (Int × List Int)} {ord : PV} {ss : List Int} {crew hour : Int} (hc : 0 ≤ crew) (hj : ∀ j ∈ jobs, crew < j.2.length)
    (hl : ss.length = jobs.length) (hz : ss.length ≤ 100) (hq : Q (.int (workZ ss jobs crew.toNat hour)) []) :
    FnSpec P03 w h0 "_law_at_work" (d + 1) [floorPV crews jobs ord, .lst (pints ss), .int crew, .int hour] [] ro Q := by
  refine FnSpec.pure_body F B.lim rfl (by rfl) (by decide) rfl rfl rfl fun A L a' q' cd hb ex => ?_
  refine WS_Assign ?_ (.inl rfl)
  walk_at "w"
  refine WS_ForR 0 ss.length (fun k g => g = ⟨vLW crews jobs ord ss crew hour (((ss.zip jobs).take k).map (workAt crew.toNat hour)).sum, [], ro⟩) ?_ ?_ ?_
  · refine WIter_CallI B.range (.inl ⟨_, rfl⟩) ?_
    walk_at "w"
    refine CallI_range1 ⟨by rw [pints_length]; rfl, rfl⟩ (by rw [pints_length]; omega)
  · rintro ex k g hk rfl
    have hf : ss[k]? = some (ss[k]'hk) := List.getElem?_eq_getElem hk
    have hjk : jobs[k]? = some (jobs[k]'(by omega)) := List.getElem?_eq_getElem (by omega)
    generalize ss[k]'_ = f at hf
    generalize jobs[k]'_ = j at hjk
    have j3 := hj j (List.mem_of_getElem? hjk)
    have hz : (ss.zip jobs)[k]? = some (f, j) := by rw [List.getElem?_zip_eq_some]; exact ⟨hf, hjk⟩
    have hsum := sum_take_succ (workAt crew.toNat hour) _ k _ hz
    have hk0 : ((0 : Int) + (k : Int)).toNat = k := by omega
    have its : ∀ {i : Int}, ss[((0 : Int) + (k : Int)).toNat]? = some i → f = i := fun {i} hi => by rw [hk0, hf] at hi; exact Option.some.inj hi
    have itj : ∀ {i : Int × List Int}, jobs[((0 : Int) + (k : Int)).toNat]? = some i → j = i := fun {i} hi => by rw [hk0, hjk] at hi; exact Option.some.inj hi
    refine WS_IfJ (fun g => g = ⟨vLW crews jobs ord ss crew hour (((ss.zip jobs).take (k + 1)).map (workAt crew.toNat hour)).sum, [], ro⟩) ?_ ?_
    · refine WT_BoolOp (WAll_and ?_)
      walk_at "w"
      refine Item_ints (by omega) (by omega) fun i hi => ?_
      obtain rfl := its hi
      walk_at "w"
      refine ⟨_, rfl, fun h1 => ?_, fun h1 => ⟨fun e => (by cases e), fun _ => ?_⟩⟩
      · refine WAll_and ?_
        walk_at "w"
        refine Item_ints (by omega) (by omega) fun i' hi => ?_
        obtain rfl := its hi
        walk_at "w"
        refine Item_ofT (by omega) (by omega) fun i' hi => ?_
        obtain rfl := itj hi
        walk_at "w"
        refine ⟨_, rfl, fun h2 => WAll_and_nil ⟨fun _ => ?_, fun e => (by cases e)⟩, fun h2 => ⟨fun e => (by cases e), fun _ => ?_⟩⟩
        · have h1 := of_decide_eq_true h1
          have h2 := of_decide_eq_true h2
          refine WS_Assign ?_ (.inl rfl)
          walk_at "w"
          refine Item_ofT (by omega) (by omega) fun i' hi => ?_
          obtain rfl := itj hi
          walk_at "w"
          refine Item_intst hc j3 fun i hi => ?_
          walk_at "w"
          refine WS_join (vLW crews jobs ord ss crew hour (((ss.zip jobs).take (k + 1)).map (workAt crew.toNat hour)).sum) ⟨?_, rfl, rfl, rfl, rfl, trivial⟩ (by rfl)
          have e : workAt crew.toNat hour (f, j) = i := by unfold workAt; rw [if_pos ⟨h1, h2⟩, List.getD_eq_getElem?_getD, hi]; rfl
          rw [hsum, e]; rfl
        · have h2 := of_decide_eq_false h2
          refine WS_join (vLW crews jobs ord ss crew hour (((ss.zip jobs).take (k + 1)).map (workAt crew.toNat hour)).sum) ⟨?_, rfl, rfl, rfl, rfl, trivial⟩ (by rfl)
          have e : workAt crew.toNat hour (f, j) = 0 := by unfold workAt; rw [if_neg fun q => h2 q.2]
          rw [hsum, e, Int.add_zero]; rfl
      · have h1 := of_decide_eq_false h1
        refine WS_join (vLW crews jobs ord ss crew hour (((ss.zip jobs).take (k + 1)).map (workAt crew.toNat hour)).sum) ⟨?_, rfl, rfl, rfl, rfl, trivial⟩ (by rfl)
        have e : workAt crew.toNat hour (f, j) = 0 := by unfold workAt; rw [if_neg fun q => h1 q.1]
        rw [hsum, e, Int.add_zero]; rfl
    · rintro g rfl
      exact WS_turn (by rfl)
  · rintro g rfl
    refine WS_Return ?_
    walk_at "w"
    refine ⟨rfl, .inl ⟨_, rfl, ?_⟩⟩
    have : (ss.zip jobs).take ss.length = ss.zip jobs := by
      rw [List.take_of_length_le]; simp; omega
    rw [this]; exact hq

/-! ## the length -/
def endsZ (ss : List Int) (jobs : List (Int × List Int)) : List Int := (ss.zip jobs).map fun p => p.1 + p.2.1

theorem length_spec (B : Bl h0) (F : FnK P03 h0 2 "length" ["floor", "starts"]) {crews : List Int} {jobs : List (Int × List Int)} {ord : PV} {ss : List Int} (hz : ss.length ≤ 100) (hne : endsZ ss jobs ≠ [])
    (hq : ∀ M, M ∈ endsZ ss jobs → (∀ x ∈ endsZ ss jobs, x ≤ M) → Q (.int M) []) :
    FnSpec P03 w h0 "length" (d + 1) [floorPV crews jobs ord, .lst (pints ss)] [] ro Q := by
  refine FnSpec.pure_body F B.lim rfl (by rfl) (by decide) rfl rfl rfl fun A L a' q' cd hb ex => ?_
  refine WS_Return ?_
  walk_at "w"
  refine WE_ListComp ?_
  refine WIter_CallI B.zip (.inl ⟨_, rfl⟩) ?_
  walk_at "w"
  refine CallI_zip (.inl rfl) (.inr rfl) ?_
  rw [pints, zip_pv]
  refine CompAt.ofG (fun z : Int × (Int × List Int) => PV.tup [.int z.1, jobPV z.2]) (fun z => some (.int (z.1 + z.2.1))) [] .nil (fun z hz cl C ex => ?_) ?_ (by rw [List.length_zip, sizeLine_eq]; omega)
  · refine WAsg_Tuple (WAsgs_cons (WAsg_Name (WAsgs_cons (WAsg_Name (WAsgs_nil ?_) (.inl rfl))) (.inl rfl)))
    refine WIfs_nil ⟨fun e => (by cases e), fun _ => ?_⟩
    walk_at "w"
    exact ⟨rfl, rfl, rfl⟩
  have e : (ss.zip jobs).filterMap (fun z => some (PV.int (z.1 + z.2.1))) = pints (endsZ ss jobs) := by
    rw [endsZ, pints, List.map_map, List.filterMap_eq_map']; rfl
  rw [e]
  walk_at "w"
  refine CallV_max_lst hne fun M h1 h2 => ?_
  exact ⟨rfl, .inl ⟨_, rfl, hq M h1 h2⟩⟩

theorem law_length_spec (B : Bl h0) (F : FnK P03 h0 15 "_law_length" ["_law_floor_here", "_law_starts"]) {crews : List Int} {jobs : List (Int × List Int)} {ord : PV} {ss : List Int} (hz : ss.length ≤ 100) (hl : ss.length = jobs.length) (hne : endsZ ss jobs ≠ [])
    (hq : ∀ M, M ∈ endsZ ss jobs → (∀ x ∈ endsZ ss jobs, x ≤ M) → Q (.int M) []) :
    FnSpec P03 w h0 "_law_length" (d + 1) [floorPV crews jobs ord, .lst (pints ss)] [] ro Q := by
  refine FnSpec.pure_body F B.lim rfl (by rfl) (by decide) rfl rfl rfl fun A L a' q' cd hb ex => ?_
  refine WS_Return ?_
  walk_at "w"
  refine WE_ListComp ?_
  refine WIter_CallI B.range (.inl ⟨_, rfl⟩) ?_
  walk_at "w"
  refine CallI_range1 ?_ (by rw [pints_length]; omega)
  rw [pints_length]
  have hel : (endsZ ss jobs).length = ss.length := by rw [endsZ, List.length_map, List.length_zip]; omega
  refine CompAt.ofInts (fun k => .int ((endsZ ss jobs).getD k.toNat 0)) [("_law_floor_here", floorPV crews jobs ord), ("_law_starts", .lst (pints ss))] (.cons _ rfl rfl (.cons _ rfl rfl .nil)) (fun z hz cl C ex => ?_) ?_ (by rw [rangeInts_length, sizeLine_eq]; omega)
  · have := mem_range hz
    walk_at "w"
    refine Item_ints (by omega) (by omega) fun i hi => ?_
    walk_at "w"
    refine Item_ofT (by omega) (by omega) fun j hj => ?_
    walk_at "w"
    refine ⟨rfl, ?_⟩
    have hz : (ss.zip jobs)[z.toNat]? = some (i, j) := by rw [List.getElem?_zip_eq_some]; exact ⟨hi, hj⟩
    rw [endsZ, List.getD_eq_getElem?_getD, List.getElem?_map, hz]; rfl
  have e : (rangeInts 0 1 ((ss.length : Int)).toNat).map (fun k => PV.int ((endsZ ss jobs).getD k.toNat 0)) = pints (endsZ ss jobs) := by
    refine List.ext_getElem? fun i => ?_
    rw [List.getElem?_map, pints, List.getElem?_map, Int.toNat_natCast]
    by_cases hi : i < ss.length
    · rw [rangeInts_get hi]
      have : (endsZ ss jobs)[i]? = some ((endsZ ss jobs)[i]'(by omega)) := List.getElem?_eq_getElem (by omega)
      have e0 : (0 + 1 * (i : Int)).toNat = i := by omega
      simp only [Option.map_some]
      first
        | rw [e0, List.getD_eq_getElem?_getD, this]; rfl
        | (have e1 : (0 + (i : Int) * 1).toNat = i := by omega
           rw [e1, List.getD_eq_getElem?_getD, this]; rfl)
    · rw [List.getElem?_eq_none (by rw [rangeInts_length]; omega), List.getElem?_eq_none (by omega)]; rfl
  rw [e]
  walk_at "w"
  refine CallV_max_lst hne fun M h1 h2 => ?_
  exact ⟨rfl, .inl ⟨_, rfl, hq M h1 h2⟩⟩
end

set_option maxRecDepth 100000
set_option maxHeartbeats 1000000


section
variable {w : World} {h0 : Heap} {d : Nat} {ro : List (Addr × PO)} {Q : PV → List (Addr × PO) → Prop}

def OrdP (jobs : List (Int × List Int)) (ss : List Int) (o : Int × Int) : Prop := ss.getD o.1.toNat 0 + (jobs.getD o.1.toNat (0, [])).1 ≤ ss.getD o.2.toNat 0
structure PlanP (crews : List Int) (jobs : List (Int × List Int)) (os : List (Int × Int)) (ss : List Int) : Prop where
  len : ss.length = jobs.length
  pos : ∀ s ∈ ss, 0 ≤ s
  ord : ∀ o ∈ os, OrdP jobs ss o
  crew : ∀ k : Nat, k < crews.length → ∀ h ∈ ss, workZ ss jobs k h ≤ crews.getD k 0

theorem take_succ_mem {α : Type} {l : List α} {k : Nat} {x y : α} (h : l[k]? = some x) (hy : y ∈ l.take (k + 1)) : y ∈ l.take k ∨ y = x := by
  rw [List.take_add_one, h] at hy
  simpa using hy
theorem getD_some {α : Type} {l : List α} {k : Nat} {x y : α} (h : l[k]? = some x) : l.getD k y = x := by rw [List.getD_eq_getElem?_getD, h]; rfl

abbrev vP (crews : List Int) (jobs : List (Int × List Int)) (os : List (Int × Int)) (ss : List Int) : List (Str × PV) :=
  [("floor", floorPV crews jobs (.tup (os.map pairPV))), ("starts", .lst (pints ss))]

theorem is_plan_spec (B : Bl h0) (hen : BuiltIs h0 "enumerate" (.type "enumerate")) (F1 : FnK P03 h0 1 "at_work" ["floor", "starts", "crew", "hour"]) (F : FnK P03 h0 3 "is_plan" ["floor", "starts"])
    {crews : List Int} {jobs : List (Int × List Int)} {os : List (Int × Int)} {ss : List Int} (hne : 1 ≤ jobs.length) (hos : ∀ o ∈ os, 0 ≤ o.1 ∧ o.1 < jobs.length ∧ 0 ≤ o.2 ∧ o.2 < jobs.length) (hjn : ∀ j ∈ jobs, j.2.length = crews.length)
    (hz : ss.length ≤ 100) (hq : ∀ b : Bool, (b = true ↔ PlanP crews jobs os ss) → Q (.bool b) []) :
    FnSpec P03 w h0 "is_plan" (d + 2) [floorPV crews jobs (.tup (os.map pairPV)), .lst (pints ss)] [] ro Q := by
  refine FnSpec.pure_body F B.lim rfl (by rfl) (by decide) rfl rfl rfl fun A L a' q' cd hb ex => ?_
  have no : ¬ PlanP crews jobs os ss → Q (.bool false) [] := fun h => hq false ⟨fun e => (by cases e), fun p => absurd p h⟩
  refine WS_If (WT_BoolOp (WAll_or ?_))
  walk_at "w"
  refine ⟨_, rfl, fun h1 => ?_, fun h1 => ⟨fun _ => ?_, fun e => (by cases e)⟩⟩
  rotate_left
  · have h1 := of_decide_eq_true h1
    rw [pints_length, List.length_map] at h1
    refine WS_Return (WE_bool ⟨rfl, .inl ⟨_, rfl, no fun p => ?_⟩⟩)
    have := p.len
    omega
  have hl : ss.length = jobs.length := by
    have h1 := of_decide_eq_false h1
    rw [pints_length, List.length_map] at h1
    omega
  refine WAll_or ?_
  walk_at "w"
  refine CallV_min_lst (by intro e; rw [e] at hl; simp at hl; omega) fun M m1 m2 => ?_
  walk_at "w"
  refine ⟨_, rfl, fun h2 => WAll_or_nil ⟨fun e => (by cases e), fun _ => ?_⟩, fun h2 => ⟨fun _ => ?_, fun e => (by cases e)⟩⟩
  rotate_left
  · have h2 := of_decide_eq_true h2
    refine WS_Return (WE_bool ⟨rfl, .inl ⟨_, rfl, no fun p => ?_⟩⟩)
    have := p.pos M m1
    omega
  have hp : ∀ s ∈ ss, 0 ≤ s := fun s hs => by
    have h2 := of_decide_eq_false h2
    have := m2 s hs
    omega
  refine WS_end ?_
  refine WS_ForI (os.map pairPV) (fun k g => g = ⟨vP crews jobs os ss, [], ro⟩ ∧ ∀ o ∈ os.take k, OrdP jobs ss o) ?_ ?_ ?_
  · refine WIter_val ?_
    walk_at "w"
    exact Src_tup ⟨rfl, rfl, fun o ho => by simp at ho⟩
  · rintro ex k x g hx ⟨rfl, hok⟩
    obtain ⟨o, ho, rfl⟩ := map_get hx
    obtain ⟨o1, o2, o3, o4⟩ := hos o (List.mem_of_getElem? ho)
    show WAsg _ _ _ (PV.tup [.int o.1, .int o.2]) _ _
    refine WAsg_Tuple (WAsgs_cons (WAsg_Name (WAsgs_cons (WAsg_Name (WAsgs_nil ?_) (.inl rfl))) (.inl rfl)))
    refine WS_If ?_
    walk_at "w"
    refine Item_ints o3 (by omega) fun sb hsb => ?_
    walk_at "w"
    refine Item_ints o1 (by omega) fun sa hsa => ?_
    walk_at "w"
    refine Item_ofT o1 (by omega) fun ja hja => ?_
    walk_at "w"
    have key : OrdP jobs ss o ↔ sa + ja.1 ≤ sb := by unfold OrdP; rw [getD_some hsb, getD_some hsa, getD_some hja]
    refine ⟨_, rfl, fun h => ?_, fun h => ?_⟩
    · have h := of_decide_eq_true h
      refine WS_Return (WE_bool ⟨rfl, .inl ⟨_, rfl, no fun p => ?_⟩⟩)
      have := key.mp (p.ord o (List.mem_of_getElem? ho))
      omega
    · have h := of_decide_eq_false h
      refine WS_end (WS_turnTo (vP crews jobs os ss) ⟨rfl, rfl, trivial⟩ ⟨rfl, fun o' ho' => ?_⟩)
      rcases take_succ_mem ho ho' with q | rfl
      · exact hok o' q
      · exact key.mpr (by omega)
  · rintro g ⟨rfl, hok⟩
    rw [List.length_map, List.take_length] at hok
    refine WS_ForI (enumPV 0 (pints crews)) (fun k g => g = ⟨vP crews jobs os ss, [], ro⟩ ∧ ∀ k' < k, ∀ h ∈ ss, workZ ss jobs k' h ≤ crews.getD k' 0) ?_ ?_ ?_
    · refine WIter_CallI hen (.inl ⟨_, rfl⟩) ?_
      walk_at "w"
      exact CallI_enum (.inr rfl) ⟨rfl, rfl, fun k' hk' => absurd hk' (Nat.not_lt_zero _)⟩
    · rintro ex k x g hx ⟨rfl, hcr⟩
      obtain ⟨q, hq', rfl⟩ := enumPV_get hx
      obtain ⟨size, hs, rfl⟩ := pints_get hq'
      have hkl : k < crews.length := (List.getElem?_eq_some_iff.mp hs).1
      simp only [Int.zero_add]
      refine WAsg_Tuple (WAsgs_cons (WAsg_Name (WAsgs_cons (WAsg_Name (WAsgs_nil ?_) (.inl rfl))) (.inl rfl)))
      refine WS_to (("crew", .int (k : Int)) :: ("size", .int size) :: vP crews jobs os ss) ⟨rfl, rfl, rfl, rfl, trivial⟩ ?_
      refine WS_ForI (pints ss) (fun j g => g = ⟨("crew", .int (k : Int)) :: ("size", .int size) :: vP crews jobs os ss, [], ro⟩ ∧ ∀ h ∈ ss.take j, workZ ss jobs k h ≤ size) ?_ ?_ ?_
      · refine WIter_val ?_
        walk_at "w"
        exact Src_lst ⟨rfl, rfl, fun h hh => by simp at hh⟩
      · rintro ex2 j x g hx ⟨rfl, hh⟩
        obtain ⟨hr, hhr, rfl⟩ := pints_get hx
        refine WAsg_Name ?_ (.inl rfl)
        refine WS_If ?_
        walk_at "w"
        refine WE_Call F1.isFn ?_
        walk_at "w"
        refine at_work_spec B F1 (by omega) (fun j hj => by rw [hjn j hj]; omega) ?_
        walk_at "w"
        refine ⟨_, rfl, fun h => ?_, fun h => ?_⟩
        · have h : size < workZ ss jobs k hr := of_decide_eq_true h
          refine WS_Return (WE_bool ⟨rfl, .inl ⟨_, rfl, no fun p => ?_⟩⟩)
          have := p.crew k hkl hr (List.mem_of_getElem? hhr)
          rw [getD_some hs] at this
          omega
        · have h : ¬ size < workZ ss jobs k hr := of_decide_eq_false h
          refine WS_end (WS_turnTo (("crew", .int (k : Int)) :: ("size", .int size) :: vP crews jobs os ss) ⟨rfl, rfl, rfl, rfl, trivial⟩ ⟨rfl, fun h' hh' => ?_⟩)
          rcases take_succ_mem hhr hh' with q | rfl
          · exact hh h' q
          · omega
      · rintro g ⟨rfl, hh⟩
        rw [pints_length, List.take_length] at hh
        refine WS_turnTo (vP crews jobs os ss) ⟨rfl, rfl, trivial⟩ ⟨rfl, fun k' hk' h hm => ?_⟩
        rcases Nat.lt_or_eq_of_le (Nat.lt_succ_iff.mp hk') with q | rfl
        · exact hcr k' q h hm
        · rw [getD_some hs]; exact hh h hm
    · rintro g ⟨rfl, hcr⟩
      rw [enumPV_length, pints_length] at hcr
      exact WS_Return (WE_bool ⟨rfl, .inl ⟨_, rfl, hq true ⟨fun _ => ⟨hl, hp, hok, hcr⟩, fun _ => rfl⟩⟩⟩)

abbrev vLP (crews : List Int) (jobs : List (Int × List Int)) (os : List (Int × Int)) (ss : List Int) : List (Str × PV) :=
  [("_law_floor_here", floorPV crews jobs (.tup (os.map pairPV))), ("_law_starts", .lst (pints ss))]

theorem neg_filter (ss : List Int) : ss.filterMap (fun s => if s < 0 then some (PV.int s) else none) = pints (ss.filter (· < 0)) := by
  induction ss with
  | nil => rfl
  | cons s r ih =>
    rw [List.filterMap_cons, List.filter_cons]
    by_cases h : s < 0
    · simp only [h, if_true, decide_true]; rw [ih]; rfl
    · simp only [h, if_false, decide_false]; rw [ih]; rfl

theorem law_is_plan_spec (B : Bl h0) (F1 : FnK P03 h0 14 "_law_at_work" ["_law_floor_here", "_law_starts", "_law_crew", "_law_hour"]) (F : FnK P03 h0 16 "_law_is_plan" ["_law_floor_here", "_law_starts"])
    {crews : List Int} {jobs : List (Int × List Int)} {os : List (Int × Int)} {ss : List Int} (hos : ∀ o ∈ os, 0 ≤ o.1 ∧ o.1 < jobs.length ∧ 0 ≤ o.2 ∧ o.2 < jobs.length) (hjn : ∀ j ∈ jobs, j.2.length = crews.length)
    (hz : ss.length ≤ 100) (hcl : crews.length ≤ 100) (hq : ∀ b : Bool, (b = true ↔ PlanP crews jobs os ss) → Q (.bool b) []) :
    FnSpec P03 w h0 "_law_is_plan" (d + 2) [floorPV crews jobs (.tup (os.map pairPV)), .lst (pints ss)] [] ro Q := by
  refine FnSpec.pure_body F B.lim rfl (by rfl) (by decide) rfl rfl rfl fun A L a' q' cd hb ex => ?_
  have no : ¬ PlanP crews jobs os ss → Q (.bool false) [] := fun h => hq false ⟨fun e => (by cases e), fun p => absurd p h⟩
  refine WS_If (WT_BoolOp (WAll_or ?_))
  walk_at "w"
  refine ⟨_, rfl, fun h1 => ?_, fun h1 => ⟨fun _ => ?_, fun e => (by cases e)⟩⟩
  rotate_left
  · have h1 := of_decide_eq_true h1
    rw [pints_length, List.length_map] at h1
    refine WS_Return (WE_bool ⟨rfl, .inl ⟨_, rfl, no fun p => ?_⟩⟩)
    have := p.len
    omega
  have hl : ss.length = jobs.length := by
    have h1 := of_decide_eq_false h1
    rw [pints_length, List.length_map] at h1
    omega
  refine WAll_or ?_
  walk_at "w"
  refine WE_ListComp (WIter_val ?_)
  walk_at "w"
  refine Src_lst (CompAt.ofG (zs := ss) PV.int (fun s => if s < 0 then some (.int s) else none) [] .nil (fun z hz cl C ex => ?_) ?_ (by rw [sizeLine_eq]; omega))
  · refine WAsg_Name ?_ (.inl rfl)
    refine WIfs_one ?_
    walk_at "w"
    refine ⟨_, rfl, fun h => ⟨rfl, rfl, if_neg (of_decide_eq_false h)⟩, fun h => ?_⟩
    walk_at "w"
    exact ⟨rfl, rfl, if_pos (of_decide_eq_true h)⟩
  rw [neg_filter]
  walk_at "w"
  refine Cmp_ne_ints (ys := []) ?_
  refine ⟨_, rfl, fun h2 => WAll_or_nil ⟨fun e => (by cases e), fun _ => ?_⟩, fun h2 => ⟨fun _ => ?_, fun e => (by cases e)⟩⟩
  rotate_left
  · have h2 := of_decide_eq_true h2
    refine WS_Return (WE_bool ⟨rfl, .inl ⟨_, rfl, no fun p => h2 ?_⟩⟩)
    rw [List.filter_eq_nil_iff]
    intro s hs
    have := p.pos s hs
    simp only [decide_eq_true_eq]
    omega
  have hp : ∀ s ∈ ss, 0 ≤ s := fun s hs => by
    have h2 : ss.filter (· < 0) = [] := by
      have := of_decide_eq_false h2
      exact Classical.byContradiction this
    rw [List.filter_eq_nil_iff] at h2
    have := h2 s hs
    simp only [decide_eq_true_eq] at this
    omega
  refine WS_end ?_
  refine WS_ForI (os.map pairPV) (fun k g => g = ⟨vLP crews jobs os ss, [], ro⟩ ∧ ∀ o ∈ os.take k, OrdP jobs ss o) ?_ ?_ ?_
  · refine WIter_val ?_
    walk_at "w"
    exact Src_tup ⟨rfl, rfl, fun o ho => by simp at ho⟩
  · rintro ex k x g hx ⟨rfl, hok⟩
    obtain ⟨o, ho, rfl⟩ := map_get hx
    obtain ⟨o1, o2, o3, o4⟩ := hos o (List.mem_of_getElem? ho)
    show WAsg _ _ _ (PV.tup [.int o.1, .int o.2]) _ _
    refine WAsg_Tuple (WAsgs_cons (WAsg_Name (WAsgs_cons (WAsg_Name (WAsgs_nil ?_) (.inl rfl))) (.inl rfl)))
    refine WS_If ?_
    walk_at "w"
    refine Item_ints o3 (by omega) fun sb hsb => ?_
    walk_at "w"
    refine Item_ints o1 (by omega) fun sa hsa => ?_
    walk_at "w"
    refine Item_ofT o1 (by omega) fun ja hja => ?_
    walk_at "w"
    have key : OrdP jobs ss o ↔ sa + ja.1 ≤ sb := by unfold OrdP; rw [getD_some hsb, getD_some hsa, getD_some hja]
    refine ⟨_, rfl, fun h => ?_, fun h => ?_⟩
    · have h := of_decide_eq_true h
      refine WS_Return (WE_bool ⟨rfl, .inl ⟨_, rfl, no fun p => ?_⟩⟩)
      have := key.mp (p.ord o (List.mem_of_getElem? ho))
      omega
    · have h := of_decide_eq_false h
      refine WS_end (WS_turnTo (vLP crews jobs os ss) ⟨rfl, rfl, trivial⟩ ⟨rfl, fun o' ho' => ?_⟩)
      rcases take_succ_mem ho ho' with q | rfl
      · exact hok o' q
      · exact key.mpr (by omega)
  · rintro g ⟨rfl, hok⟩
    rw [List.length_map, List.take_length] at hok
    refine WS_ForR 0 crews.length (fun k g => g = ⟨vLP crews jobs os ss, [], ro⟩ ∧ ∀ k' < k, ∀ h ∈ ss, workZ ss jobs k' h ≤ crews.getD k' 0) ?_ ?_ ?_
    · refine WIter_CallI B.range (.inl ⟨_, rfl⟩) ?_
      walk_at "w"
      exact CallI_range1 ⟨by rw [pints_length]; rfl, rfl, fun k' hk' => absurd hk' (Nat.not_lt_zero _)⟩ (by rw [pints_length]; omega)
    · rintro ex k g hkl ⟨rfl, hcr⟩
      simp only [Int.zero_add]
      refine WS_to (("_law_crew", .int (k : Int)) :: vLP crews jobs os ss) ⟨rfl, rfl, rfl, trivial⟩ ?_
      refine WS_ForI (pints ss) (fun j g => g = ⟨("_law_crew", .int (k : Int)) :: vLP crews jobs os ss, [], ro⟩ ∧ ∀ h ∈ ss.take j, workZ ss jobs k h ≤ crews.getD k 0) ?_ ?_ ?_
      · refine WIter_val ?_
        walk_at "w"
        exact Src_lst ⟨rfl, rfl, fun h hh => by simp at hh⟩
      · rintro ex2 j x g hx ⟨rfl, hh⟩
        obtain ⟨hr, hhr, rfl⟩ := pints_get hx
        refine WAsg_Name ?_ (.inl rfl)
        refine WS_If ?_
        walk_at "w"
        refine WE_Call F1.isFn ?_
        walk_at "w"
        refine law_at_work_spec B F1 (by omega) (fun j hj => by rw [hjn j hj]; omega) hl hz ?_
        walk_at "w"
        refine Item_intst (by omega) (by omega) fun size hs => ?_
        have hs : crews[k]? = some size := hs
        walk_at "w"
        refine ⟨_, rfl, fun h => ?_, fun h => ?_⟩
        · have h : size < workZ ss jobs k hr := of_decide_eq_true h
          refine WS_Return (WE_bool ⟨rfl, .inl ⟨_, rfl, no fun p => ?_⟩⟩)
          have := p.crew k hkl hr (List.mem_of_getElem? hhr)
          rw [getD_some hs] at this
          omega
        · have h : ¬ size < workZ ss jobs k hr := of_decide_eq_false h
          refine WS_end (WS_turnTo (("_law_crew", .int (k : Int)) :: vLP crews jobs os ss) ⟨rfl, rfl, rfl, trivial⟩ ⟨rfl, fun h' hh' => ?_⟩)
          rcases take_succ_mem hhr hh' with q | rfl
          · exact hh h' q
          · rw [getD_some hs]; omega
      · rintro g ⟨rfl, hh⟩
        rw [pints_length, List.take_length] at hh
        refine WS_turnTo (vLP crews jobs os ss) ⟨rfl, rfl, trivial⟩ ⟨rfl, fun k' hk' h hm => ?_⟩
        rcases Nat.lt_or_eq_of_le (Nat.lt_succ_iff.mp hk') with q | rfl
        · exact hcr k' q h hm
        · exact hh h hm
    · rintro g ⟨rfl, hcr⟩
      exact WS_Return (WE_bool ⟨rfl, .inl ⟨_, rfl, hq true ⟨fun _ => ⟨hl, hp, hok, hcr⟩, fun _ => rfl⟩⟩⟩)
end


set_option maxRecDepth 100000
set_option maxHeartbeats 1000000


section
variable {w : World} {h0 : Heap} {d : Nat} {ro : List (Addr × PO)} {Q : PV → List (Addr × PO) → Prop}

def EndOk (bs : List (Int × Int)) (jobs : List (Int × List Int)) (hour : Int) : Prop := ∀ p ∈ bs, ∀ j, jobs[p.1.toNat]? = some j → p.2 + j.1 ≤ hour

abbrev vR (crews : List Int) (jobs : List (Int × List Int)) (ord : PV) (a : Addr) (job hour : Int) : List (Str × PV) :=
  [("_law_floor_here", floorPV crews jobs ord), ("_law_begun", .box a), ("_law_job_here", .int job), ("_law_hour", .int hour)]

theorem room_spec (B : Bl h0) (F : FnK P03 h0 17 "_law_room" ["_law_floor_here", "_law_begun", "_law_job_here", "_law_hour"])
    {crews : List Int} {jobs : List (Int × List Int)} {ord : PV} {bs : List (Int × Int)} {a : Addr} {job hour : Int} (hb : (a, PO.lst (bs.map pairPV)) ∈ ro) (hjob : 0 ≤ job ∧ job < jobs.length) (hhour : 0 ≤ hour ∧ hour ≤ 1000000)
    (hj : ∀ j ∈ jobs, 1 ≤ j.1 ∧ j.1 ≤ 50 ∧ NeedsOk j.2 crews) (hbs : ∀ p ∈ bs, 0 ≤ p.1 ∧ p.1 < jobs.length) (hcl : crews.length ≤ 4)
    (hq : ∀ b : Bool, (EndOk bs jobs hour → b = true) → Q (.bool b) []) :
    FnSpec P03 w h0 "_law_room" (d + 1) [floorPV crews jobs ord, .box a, .int job, .int hour] [] ro Q := by
  refine FnSpec.pure_body F B.lim rfl (by rfl) (by decide) rfl rfl rfl fun A L a' q' cd hb' ex => ?_
  have hJ : jobs[job.toNat]? = some (jobs[job.toNat]'(by omega)) := List.getElem?_eq_getElem (by omega)
  generalize jobs[job.toNat]'_ = J at hJ
  obtain ⟨J1, J2, J3, J4⟩ := hj J (List.mem_of_getElem? hJ)
  refine WS_ForR 0 crews.length (fun k g => g = ⟨vR crews jobs ord a job hour, [], ro⟩) ?_ ?_ ?_
  · refine WIter_CallI B.range (.inl ⟨_, rfl⟩) ?_
    walk_at "w"
    exact CallI_range1 ⟨by rw [pints_length]; rfl, rfl⟩ (by rw [pints_length]; omega)
  · rintro ex k g hkl rfl
    simp only [Int.zero_add]
    refine WS_to (("_law_crew", .int (k : Int)) :: vR crews jobs ord a job hour) ⟨rfl, rfl, rfl, rfl, rfl, trivial⟩ ?_
    refine WS_ForR hour (hour + J.1 - hour).toNat (fun k' g => g = ⟨("_law_crew", .int (k : Int)) :: vR crews jobs ord a job hour, [], ro⟩) ?_ ?_ ?_
    · refine WIter_CallI B.range (.inl ⟨_, rfl⟩) ?_
      walk_at "w"
      refine Item_ofT hjob.1 hjob.2 fun J' hJ' => ?_
      rw [hJ] at hJ'
      obtain rfl := Option.some.inj hJ'
      walk_at "w"
      exact CallI_range2 ⟨rfl, rfl⟩ (by omega) (by omega)
    · rintro ex2 k2 g hk2 rfl
      have hlate : hour ≤ hour + (k2 : Int) := by omega
      generalize hour + (k2 : Int) = late at hlate
      refine WS_Assign ?_ (.inl rfl)
      walk_at "w"
      refine Item_ofT hjob.1 hjob.2 fun J' hJ' => ?_
      rw [hJ] at hJ'
      obtain rfl := Option.some.inj hJ'
      walk_at "w"
      refine Item_intst (by omega) (by rw [J3]; omega) fun need hneed => ?_
      have hneed : J.2[k]? = some need := hneed
      refine WS_to (("_law_total", .int need) :: ("_law_late", .int late) :: ("_law_crew", .int (k : Int)) :: vR crews jobs ord a job hour) ⟨rfl, rfl, rfl, rfl, rfl, rfl, rfl, trivial⟩ ?_
      refine WS_ForI (bs.map pairPV) (fun i g => ∃ t : Int, (EndOk bs jobs hour → t = need) ∧ g = ⟨("_law_total", .int t) :: ("_law_late", .int late) :: ("_law_crew", .int (k : Int)) :: vR crews jobs ord a job hour, [], ro⟩) ?_ ?_ ?_
      · refine WIter_val ?_
        walk_at "w"
        exact Src_box hb ⟨rfl, need, fun _ => rfl, rfl⟩
      · rintro ex3 i x g hx ⟨t, ht, rfl⟩
        obtain ⟨o, ho, rfl⟩ := map_get hx
        have hom := List.mem_of_getElem? ho
        obtain ⟨o1, o2⟩ := hbs o hom
        have hO : jobs[o.1.toNat]? = some (jobs[o.1.toNat]'(by omega)) := List.getElem?_eq_getElem (by omega)
        generalize jobs[o.1.toNat]'_ = jo at hO
        obtain ⟨_, _, jo3, _⟩ := hj jo (List.mem_of_getElem? hO)
        show WAsg _ _ _ (PV.tup [.int o.1, .int o.2]) _ _
        refine WAsg_Tuple (WAsgs_cons (WAsg_Name (WAsgs_cons (WAsg_Name (WAsgs_nil ?_) (.inl rfl))) (.inl rfl)))
        refine WS_If (WT_BoolOp (WAll_and ?_))
        walk_at "w"
        refine ⟨_, rfl, fun h1 => ?_, fun h1 => ⟨fun e => (by cases e), fun _ => ?_⟩⟩
        · refine WAll_and ?_
          walk_at "w"
          refine Item_ofT o1 o2 fun j' hj' => ?_
          rw [hO] at hj'
          obtain rfl := Option.some.inj hj'
          walk_at "w"
          refine ⟨_, rfl, fun h2 => WAll_and_nil ⟨fun _ => ?_, fun e => (by cases e)⟩, fun h2 => ⟨fun e => (by cases e), fun _ => ?_⟩⟩
          · have h1 := of_decide_eq_true h1
            have h2 := of_decide_eq_true h2
            refine WS_Assign ?_ (.inl rfl)
            walk_at "w"
            refine Item_ofT o1 o2 fun j' hj' => ?_
            rw [hO] at hj'
            obtain rfl := Option.some.inj hj'
            walk_at "w"
            refine Item_intst (by omega) (by rw [jo3]; omega) fun n2 hn2 => ?_
            walk_at "w"
            refine WS_end (WS_turnTo (("_law_total", .int (t + n2)) :: ("_law_late", .int late) :: ("_law_crew", .int (k : Int)) :: vR crews jobs ord a job hour) ⟨rfl, rfl, rfl, rfl, rfl, rfl, rfl, trivial⟩ ⟨_, fun he => ?_, rfl⟩)
            have := he o hom jo hO
            omega
          · refine WS_end (WS_turnTo (("_law_total", .int t) :: ("_law_late", .int late) :: ("_law_crew", .int (k : Int)) :: vR crews jobs ord a job hour) ⟨rfl, rfl, rfl, rfl, rfl, rfl, rfl, trivial⟩ ⟨t, ht, rfl⟩)
        · refine WS_end (WS_turnTo (("_law_total", .int t) :: ("_law_late", .int late) :: ("_law_crew", .int (k : Int)) :: vR crews jobs ord a job hour) ⟨rfl, rfl, rfl, rfl, rfl, rfl, rfl, trivial⟩ ⟨t, ht, rfl⟩)
      · rintro g ⟨t, ht, rfl⟩
        refine WS_If ?_
        walk_at "w"
        refine Item_intst (by omega) (by omega) fun size hs => ?_
        have hs : crews[k]? = some size := hs
        walk_at "w"
        refine ⟨_, rfl, fun h => ?_, fun h => ?_⟩
        · have h := of_decide_eq_true h
          refine WS_Return (WE_bool ⟨rfl, .inl ⟨_, rfl, hq false fun he => ?_⟩⟩)
          have h1 := ht he
          have h2 := (J4 k need size hneed hs).2
          omega
        · exact WS_end (WS_turnTo (("_law_crew", .int (k : Int)) :: vR crews jobs ord a job hour) ⟨rfl, rfl, rfl, rfl, rfl, trivial⟩ (by rfl))
    · rintro g rfl
      exact WS_turnTo (vR crews jobs ord a job hour) ⟨rfl, rfl, rfl, rfl, trivial⟩ (by rfl)
  · rintro g rfl
    exact WS_Return (WE_bool ⟨rfl, .inl ⟨_, rfl, hq true fun _ => rfl⟩⟩)
end


set_option maxRecDepth 100000
set_option maxHeartbeats 1000000


section
theorem range_nodup (n : Nat) : (rangeInts 0 1 n).Nodup := by
  unfold rangeInts
  rw [List.Nodup, List.pairwise_map]
  exact (List.nodup_range (n := n)).imp fun {a b} h e => h (by omega)
theorem row_step {line : List Int} {os : List (Int × Int)} {row : List Int} {left : List (Int × Int)} {many : Nat} (perm : line.Perm (rangeInts 0 1 many)) (ord : OrdersOk line os) (hperm : (row ++ left.map (·.2)).Perm (rangeInts 0 1 many))
    (hne : left ≠ []) (hall : ∀ p ∈ left, ∃ o ∈ os, o.2 = p.2 ∧ o.1 ∉ row) : False := by
  have nd : line.Nodup := perm.nodup_iff.mpr (range_nodup many)
  have claim : ∀ n i : Nat, i < n → ∀ x, line[i]? = some x → x ∉ left.map (·.2) := by
    intro n
    induction n with
    | zero => intro i hi; omega
    | succ n ih =>
      intro i hi x hx hm
      obtain ⟨p, hp, rfl⟩ := List.mem_map.mp hm
      obtain ⟨o, ho, e, nr⟩ := hall p hp
      obtain ⟨i', j', lt, e1, e2⟩ := ord o ho
      rw [e, ← hx] at e2
      have hj : j' < line.length := by rw [hx] at e2; exact (List.getElem?_eq_some_iff.mp e2).1
      have : j' = i := (List.getElem?_inj hj nd).mp e2
      subst this
      have h1 := ih i' (by omega) o.1 e1
      have h2 : o.1 ∈ row ++ left.map (·.2) := hperm.mem_iff.mpr (perm.mem_iff.mp (List.mem_of_getElem? e1))
      rcases List.mem_append.mp h2 with q | q
      · exact nr q
      · exact h1 q
  obtain ⟨p, hp⟩ := List.exists_mem_of_ne_nil left hne
  have h1 : p.2 ∈ left.map (·.2) := List.mem_map_of_mem hp
  have h2 : p.2 ∈ line := perm.mem_iff.mpr (hperm.mem_iff.mp (List.mem_append_right _ h1))
  obtain ⟨i, hi⟩ := List.mem_iff_getElem?.mp h2
  exact claim (i + 1) i (by omega) p.2 hi h1

theorem row_next {row : List Int} {left : List (Int × Int)} {many : Nat} {p : Int × Int} (hperm : (row ++ left.map (·.2)).Perm (rangeInts 0 1 many)) (hp : p ∈ left) :
    ((row ++ [p.2]) ++ (left.filter fun q => decide (q.2 ≠ p.2)).map (·.2)).Perm (rangeInts 0 1 many) ∧ (left.filter fun q => decide (q.2 ≠ p.2)).length < left.length := by
  have nd : (left.map (·.2)).Nodup := by
    have := hperm.nodup_iff.mpr (range_nodup many)
    exact (List.nodup_append.mp this).2.1
  have e : (left.filter fun q => decide (q.2 ≠ p.2)).map (·.2) = (left.map (·.2)).erase p.2 := by
    rw [nd.erase_eq_filter, List.filter_map]
    congr 1
    refine List.filter_congr fun q _ => ?_
    simp only [Function.comp, bne]
    by_cases h : q.2 = p.2 <;> simp [h]
  have hm : p.2 ∈ left.map (·.2) := List.mem_map_of_mem hp
  refine ⟨?_, ?_⟩
  · refine List.Perm.trans ?_ hperm
    rw [List.append_assoc]
    refine List.Perm.append_left row ?_
    rw [e]
    exact (List.perm_cons_erase hm).symm
  · have h1 : ((left.filter fun q => decide (q.2 ≠ p.2)).map (·.2)).length = ((left.map (·.2)).erase p.2).length := by rw [e]
    rw [List.length_map, List.length_erase_of_mem hm, List.length_map] at h1
    have : 0 < left.length := List.length_pos_of_mem hp
    omega

variable {w : World} {h0 : Heap} {d : Nat} {ro : List (Addr × PO)} {Q : PV → List (Addr × PO) → Prop}

abbrev vRow (crews : List Int) (jobs : List (Int × List Int)) (os : List (Int × Int)) (cell : Int) (left : List (Int × Int)) (a : Addr) : List (Str × PV) :=
  [("_law_left", .lst (left.map pairPV)), ("_law_row_here", .box a), ("_law_floor_here", floorPV crews jobs (.tup (os.map pairPV))), ("_law_cell", .int cell)]

theorem row_spec (B : Bl h0) (F1 : FnK P03 h0 6 "_law_mix" ["_law_cell", "_law_k"]) (F : FnK P03 h0 13 "_law_row" ["_law_floor_here", "_law_cell"])
    {crews : List Int} {jobs : List (Int × List Int)} {os : List (Int × Int)} {line : List Int} {cell : Int} (hm : jobs.length < 64) (hol : os.length ≤ 1000) (perm : line.Perm (rangeInts 0 1 jobs.length)) (ord : OrdersOk line os)
    (hq : ∀ row : List Int, row.Perm (rangeInts 0 1 jobs.length) → Q (.lst (pints row)) []) :
    FnSpec P03 w h0 "_law_row" (d + 2) [floorPV crews jobs (.tup (os.map pairPV)), .int cell] [] ro Q := by
  refine FnSpec.pure_body F B.lim rfl (by rfl) (by decide) rfl rfl rfl fun A L a' q' cd hb ex => ?_
  refine WS_Assign ?_ (.inl rfl)
  walk_at "w"
  refine WE_ListComp ?_
  refine WIter_CallI B.range (.inl ⟨_, rfl⟩) ?_
  walk_at "w"
  refine CallI_range1 ?_ (by rw [List.length_map]; omega)
  rw [List.length_map, Int.toNat_natCast]
  refine CompAt.ofInts (fun k => pairPV (mix cell k % 997, k)) [("_law_cell", .int cell)] (.cons _ rfl rfl .nil) (fun z hz cl C ex => ?_) ?_ (by rw [rangeInts_length, sizeLine_eq]; omega)
  · walk_at "w"
    refine WE_Call F1.isFn ?_
    walk_at "w"
    refine mix_spec B F1 ?_
    walk_at "w"
    exact ⟨rfl, rfl⟩
  walk_at "w"
  refine CallV_sorted_pairs (fun p hp => ?_) (by rw [List.length_map, rangeInts_length]; omega) fun qs hpq => ?_
  · obtain ⟨k, _, rfl⟩ := List.mem_map.mp hp
    exact ⟨_, _, rfl⟩
  have e0 : (rangeInts 0 1 jobs.length).map (fun k => pairPV (mix cell k % 997, k)) = ((rangeInts 0 1 jobs.length).map fun k => (mix cell k % 997, k)).map pairPV := by rw [List.map_map]; rfl
  rw [e0] at hpq
  obtain ⟨left0, rfl, hl0⟩ := perm_pairs hpq
  have hp0 : (left0.map (·.2)).Perm (rangeInts 0 1 jobs.length) := by
    have h1 := hl0.map (·.2)
    rw [List.map_map] at h1
    have h2 : (rangeInts 0 1 jobs.length).map ((fun x : Int × Int => x.2) ∘ fun k => (mix cell k % 997, k)) = rangeInts 0 1 jobs.length := by
      conv => rhs; rw [← List.map_id (rangeInts 0 1 jobs.length)]
      exact List.map_congr_left fun k _ => rfl
    rw [h2] at h1; exact h1
  refine WS_AssignBox (WEF_List (WEs_nil ⟨rfl, by rw [sizeLine_eq]; simp, fun a => ?_⟩)) (.inr ⟨rfl, rfl⟩)
  refine WS_to (vRow crews jobs os cell left0 a) ⟨rfl, rfl, rfl, rfl, trivial⟩ ?_
  refine WS_While (fun n g => ∃ left row, n = left.length ∧ (row ++ left.map (·.2)).Perm (rangeInts 0 1 jobs.length) ∧ g = ⟨vRow crews jobs os cell left a, [(a, .lst (pints row))], ro⟩) left0.length ⟨left0, [], rfl, hp0, rfl⟩ ?_
  rintro n g ⟨left, row, rfl, hp, rfl⟩
  walk_at "w"
  have hlen : row.length + left.length = jobs.length := by
    have := hp.length_eq
    rw [List.length_append, List.length_map, rangeInts_length] at this
    exact this
  refine ⟨_, rfl, fun h => ?_, fun h => ?_⟩
  · have hne : left ≠ [] := by
      have h := of_decide_eq_true h
      rw [List.length_map] at h
      intro e; rw [e] at h; simp at h
    refine WS_ForI (left.map pairPV) (fun i g => g = ⟨vRow crews jobs os cell left a, [(a, .lst (pints row))], ro⟩ ∧ ∀ p ∈ left.take i, ∃ o ∈ os, o.2 = p.2 ∧ o.1 ∉ row) ?_ ?_ ?_
    · refine WIter_val ?_
      walk_at "w"
      exact Src_lst ⟨rfl, rfl, fun h hh => by simp at hh⟩
    · rintro ex i x g hx ⟨rfl, hblk⟩
      obtain ⟨p, hpi, rfl⟩ := map_get hx
      have hpm := List.mem_of_getElem? hpi
      refine WAsg_Name ?_ (.inr ⟨rfl, rfl⟩)
      refine WS_If ?_
      walk_at "w"
      refine WE_ListComp (WIter_val ?_)
      walk_at "w"
      refine Src_tup (CompAt.ofG pairPV (fun o => if (decide (o.2 = p.2) && !row.contains o.1) = true then some (.int o.1) else none) [("_law_pair", pairPV p), ("_law_row_here", .box a)] (.cons _ rfl rfl (.cons _ rfl rfl .nil)) (fun o ho cl C ex => ?_) ?_ (by rw [sizeLine_eq]; omega))
      · show WAsg _ _ _ (PV.tup [.int o.1, .int o.2]) _ _
        refine WAsg_Tuple (WAsgs_cons (WAsg_Name (WAsgs_cons (WAsg_Name (WAsgs_nil ?_) (.inl rfl))) (.inl rfl)))
        refine WIfs_one (WT_BoolOp (WAll_and ?_))
        walk_at "w"
        refine ⟨_, rfl, fun h1 => ?_, fun h1 => ⟨fun _ => ⟨rfl, rfl, by rw [h1]; rfl⟩, fun e => (by cases e)⟩⟩
        refine WAll_and ?_
        walk_at "w"
        refine Cmp_notIn_pints (.inr (.inr ⟨a, rfl, .head _⟩)) ?_
        refine ⟨_, rfl, fun h2 => WAll_and_nil ⟨fun e => (by cases e), fun _ => ?_⟩, fun h2 => ⟨fun _ => ⟨rfl, rfl, by rw [h2, Bool.and_false]; rfl⟩, fun e => (by cases e)⟩⟩
        walk_at "w"
        exact ⟨rfl, rfl, by rw [h1, h2]; rfl⟩
      rw [filterMap_if (fun o : Int × Int => decide (o.2 = p.2) && !row.contains o.1) (fun o => PV.int o.1)]
      have e1 : ((os.filter fun o : Int × Int => decide (o.2 = p.2) && !row.contains o.1).map fun o => PV.int o.1) = pints ((os.filter fun o : Int × Int => decide (o.2 = p.2) && !row.contains o.1).map (·.1)) := by rw [pints, List.map_map]; rfl
      rw [e1]
      walk_at "w"
      refine Cmp_eq_ints (ys := []) ?_
      refine ⟨_, rfl, fun h => ?_, fun h => ?_⟩
      · refine WS_Expr (WE_append rfl (.head _) ?_)
        walk_at "w"
        refine ⟨_, _, .head, by rw [pints_length, sizeLine_eq]; omega, ?_⟩
        have e2 : pints row ++ [PV.int p.2] = pints (row ++ [p.2]) := by simp [pints]
        rw [e2]
        refine WS_Break ?_
        obtain ⟨hp', hlt⟩ := row_next hp hpm
        show WS _ _ _ _ _
        refine WS_AssignComp (WIter_val ?_)
        walk_at "w"
        refine Src_lst (CompAt.ofG pairPV (fun q => if decide (q.2 ≠ p.2) = true then some (pairPV q) else none) [("_law_row_here", .box a)] (.cons _ rfl rfl .nil) (fun q hq cl C ex => ?_) ?_ (by rw [sizeLine_eq]; omega))
        · refine WAsg_Name ?_ (.inl rfl)
          refine WIfs_one ?_
          walk_at "w"
          refine Item_box_neg (xs := pints (row ++ [p.2])) (p := .int p.2) (.head _) (by omega) (by rw [pints_length]; simp; omega) ?_ ?_
          · have : ((-1 : Int) + ((pints (row ++ [p.2])).length : Int)).toNat = row.length := by rw [pints_length]; simp; omega
            rw [this]; simp [pints]
          walk_at "w"
          refine ⟨_, rfl, fun h => ⟨rfl, rfl, by rw [h]; rfl⟩, fun h => ?_⟩
          walk_at "w"
          exact ⟨rfl, rfl, by rw [h]; rfl⟩
        rw [filterMap_if (fun q : Int × Int => decide (q.2 ≠ p.2)) pairPV]
        exact WS_turnTo (vRow crews jobs os cell (left.filter fun q => decide (q.2 ≠ p.2)) a) ⟨rfl, rfl, rfl, rfl, trivial⟩ ⟨_, hlt, _, _, rfl, hp', rfl⟩
      · have h := of_decide_eq_false h
        refine WS_end (WS_turnTo (vRow crews jobs os cell left a) ⟨rfl, rfl, rfl, rfl, trivial⟩ ⟨rfl, fun q hq => ?_⟩)
        rcases take_succ_mem hpi hq with hq | rfl
        · exact hblk q hq
        · have hne2 : (os.filter fun o : Int × Int => decide (o.2 = q.2) && !row.contains o.1) ≠ [] := fun e => h (by rw [e]; rfl)
          obtain ⟨o, ho⟩ := List.exists_mem_of_ne_nil _ hne2
          rw [List.mem_filter, Bool.and_eq_true] at ho
          refine ⟨o, ho.1, of_decide_eq_true ho.2.1, fun hr => ?_⟩
          have := ho.2.2
          rw [List.contains_iff_mem.mpr hr] at this
          cases this
    · rintro g ⟨rfl, hblk⟩
      rw [List.length_map, List.take_length] at hblk
      exact (row_step perm ord hp hne hblk).elim
  · have hnil : left = [] := by
      have h := of_decide_eq_false h
      rw [List.length_map] at h
      exact List.eq_nil_of_length_eq_zero (by omega)
    subst hnil
    rw [List.map_nil, List.append_nil] at hp
    refine WS_freeze (x := "_law_row_here") rfl .head (by intro h; cases h) ?_
    refine WS_Return ?_
    walk_at "w"
    exact ⟨rfl, .inl ⟨_, rfl, hq row hp⟩⟩
end


set_option maxRecDepth 100000
set_option maxHeartbeats 1000000


section
variable {w : World} {h0 : Heap} {d : Nat} {ro : List (Addr × PO)} {Q : PV → List (Addr × PO) → Prop}

abbrev vL (crews : List Int) (jobs : List (Int × List Int)) (os : List (Int × Int)) (row : List Int) (a : Addr) : List (Str × PV) :=
  [("_law_begun", .box a), ("_law_floor_here", floorPV crews jobs (.tup (os.map pairPV))), ("_law_row_here", .lst (pints row))]

theorem laid_spec (B : Bl h0) (F1 : FnK P03 h0 17 "_law_room" ["_law_floor_here", "_law_begun", "_law_job_here", "_law_hour"]) (F : FnK P03 h0 18 "_law_laid" ["_law_floor_here", "_law_row_here"])
    {crews : List Int} {jobs : List (Int × List Int)} {os : List (Int × Int)} {row : List Int} (hj : ∀ j ∈ jobs, 1 ≤ j.1 ∧ j.1 ≤ 50 ∧ NeedsOk j.2 crews) (hcl : crews.length ≤ 4) (hrow : ∀ x ∈ row, 0 ≤ x ∧ x < jobs.length) (hrl : row.length < 64)
    (hq : ∀ ss : List Int, ss.length = row.length → Q (.lst (pints ss)) []) :
    FnSpec P03 w h0 "_law_laid" (d + 2) [floorPV crews jobs (.tup (os.map pairPV)), .lst (pints row)] [] ro Q := by
  refine FnSpec.pure_body F B.lim rfl (by rfl) (by decide) rfl rfl rfl fun A L a' q' cd hb ex => ?_
  refine WS_AssignBox (WEF_List (WEs_nil ⟨rfl, by rw [sizeLine_eq]; simp, fun a => ?_⟩)) (.inl rfl)
  refine WS_to (vL crews jobs os row a) ⟨rfl, rfl, rfl, trivial⟩ ?_
  refine WS_ForI (pints row) (fun k g => ∃ bs : List (Int × Int), bs.length = k ∧ (∀ p ∈ bs, 0 ≤ p.1 ∧ p.1 < jobs.length) ∧ (∀ p ∈ bs, 0 ≤ p.2 ∧ p.2 ≤ 50 * (k : Int)) ∧ g = ⟨vL crews jobs os row a, [(a, .lst (bs.map pairPV))], ro⟩) ?_ ?_ ?_
  · refine WIter_val ?_
    walk_at "w"
    exact Src_lst ⟨rfl, [], rfl, (fun p hp => by cases hp), (fun p hp => by cases hp), rfl⟩
  · rintro ex k x g hx ⟨bs, hbl, hb1, hb2, rfl⟩
    obtain ⟨job, hjob, rfl⟩ := pints_get hx
    have hk : k < row.length := (List.getElem?_eq_some_iff.mp hjob).1
    obtain ⟨j1, j2⟩ := hrow job (List.mem_of_getElem? hjob)
    refine WAsg_Name ?_ (.inl rfl)
    refine WS_Assign ?_ (.inl rfl)
    walk_at "w"
    refine WS_to (("_law_hour", .int 0) :: ("_law_job_here", .int job) :: vL crews jobs os row a) ⟨rfl, rfl, rfl, rfl, rfl, trivial⟩ ?_
    have hT : ∀ p ∈ bs, ∀ j, jobs[p.1.toNat]? = some j → p.2 + j.1 ≤ 50 * (k : Int) + 50 := fun p hp j hjj => by
      have h1 := (hb2 p hp).2
      have h2 := (hj j (List.mem_of_getElem? hjj)).2.1
      omega
    refine WS_borrow .head ?_
    refine WX_ForI (bs.map pairPV) (fun i g => ∃ hr : Int, 0 ≤ hr ∧ hr ≤ 50 * (k : Int) + 50 ∧ g = ⟨("_law_hour", .int hr) :: ("_law_job_here", .int job) :: vL crews jobs os row a, [], (a, .lst (bs.map pairPV)) :: ro⟩) ?_ ?_ ?_
    · refine WIter_val ?_
      walk_at "w"
      exact Src_box (.head _) ⟨rfl, 0, by omega, by omega, rfl⟩
    · rintro ex2 i x g hx ⟨hr, r1, r2, rfl⟩
      obtain ⟨o, ho, rfl⟩ := map_get hx
      have hom := List.mem_of_getElem? ho
      obtain ⟨o1, o2⟩ := hb1 o hom
      show WAsg _ _ _ (PV.tup [.int o.1, .int o.2]) _ _
      refine WAsg_Tuple (WAsgs_cons (WAsg_Name (WAsgs_cons (WAsg_Name (WAsgs_nil ?_) (.inl rfl))) (.inl rfl)))
      refine WS_If ?_
      walk_at "w"
      show Cmp _ _ _ _ (pairPV (o.1, job)) _ _
      refine Cmp_in_pairs ?_
      refine ⟨_, rfl, fun _ => ?_, fun _ => ?_⟩
      · refine WS_Assign ?_ (.inl rfl)
        walk_at "w"
        refine Item_ofT o1 o2 fun j hjj => ?_
        walk_at "w"
        have h1 := hT o hom j hjj
        exact WS_end (WS_turnTo (("_law_hour", .int (max hr (o.2 + j.1))) :: ("_law_job_here", .int job) :: vL crews jobs os row a) ⟨rfl, rfl, rfl, rfl, rfl, trivial⟩ ⟨_, by omega, by omega, rfl⟩)
      · exact WS_end (WS_turnTo (("_law_hour", .int hr) :: ("_law_job_here", .int job) :: vL crews jobs os row a) ⟨rfl, rfl, rfl, rfl, rfl, trivial⟩ ⟨_, r1, r2, rfl⟩)
    · rintro g ⟨hr0, r1, r2, rfl⟩
      refine ⟨rfl, ?_⟩
      show WS _ _ _ _ _
      refine WS_While (fun n g => ∃ hr : Int, 0 ≤ hr ∧ hr ≤ 50 * (k : Int) + 50 ∧ n = (50 * (k : Int) + 50 - hr).toNat ∧ g = ⟨("_law_hour", .int hr) :: ("_law_job_here", .int job) :: vL crews jobs os row a, [(a, .lst (bs.map pairPV))], ro⟩) _ ⟨hr0, r1, r2, rfl, rfl⟩ ?_
      rintro n g ⟨hr, r1, r2, rfl, rfl⟩
      refine WT_not (WT_value (WE_Call F1.isFn ?_))
      walk_at "w"
      refine room_spec B F1 (.head _) ⟨j1, j2⟩ ⟨r1, by omega⟩ hj hb1 hcl fun b hbt => ?_
      refine Truth_bool ⟨fun hb => ?_, fun hb => ?_⟩
      · have hlt : hr < 50 * (k : Int) + 50 := by
          rcases Int.lt_or_le hr (50 * (k : Int) + 50) with q | q
          · exact q
          · have := hbt fun p hp j hjj => by have := hT p hp j hjj; omega
            rw [this] at hb; cases hb
        refine WS_Assign ?_ (.inl rfl)
        walk_at "w"
        exact WS_turnTo (("_law_hour", .int (hr + 1)) :: ("_law_job_here", .int job) :: vL crews jobs os row a) ⟨rfl, rfl, rfl, rfl, rfl, trivial⟩ ⟨(50 * (k : Int) + 50 - (hr + 1)).toNat, by omega, hr + 1, by omega, by omega, rfl, rfl⟩
      · refine WS_Expr (WE_append rfl (.head _) ?_)
        walk_at "w"
        refine ⟨_, _, .head, by rw [List.length_map, sizeLine_eq]; omega, ?_⟩
        refine WS_turnTo (vL crews jobs os row a) ⟨rfl, rfl, rfl, trivial⟩ ⟨bs ++ [(job, hr)], by simp [hbl], ?_, ?_, ?_⟩
        · intro p hp
          rcases List.mem_append.mp hp with hp | hp
          · exact hb1 p hp
          · rw [List.mem_singleton.mp hp]; exact ⟨j1, j2⟩
        · intro p hp
          rcases List.mem_append.mp hp with hp | hp
          · have := hb2 p hp; omega
          · rw [List.mem_singleton.mp hp]; simp only; omega
        · rw [List.map_append]; rfl
  · rintro g ⟨bs, hbl, hb1, hb2, rfl⟩
    rw [pints_length] at hbl
    refine WS_freeze (x := "_law_begun") rfl .head (by intro h; cases h) ?_
    refine WS_Return ?_
    refine WE_ListComp (WIter_val ?_)
    walk_at "w"
    refine CallV_sorted_pairs (fun p hp => ?_) (by rw [List.length_map]; omega) fun qs hpq => ?_
    · obtain ⟨k, _, rfl⟩ := List.mem_map.mp hp
      exact ⟨_, _, rfl⟩
    obtain ⟨bs', rfl, hbs'⟩ := perm_pairs hpq
    have hl' : bs'.length = row.length := by rw [hbs'.length_eq]; exact hbl
    refine Src_lst (CompAt.ofList pairPV (fun p => .int p.2) [] .nil (fun z hz cl C ex => ?_) ?_ (by rw [sizeLine_eq]; omega))
    · walk_at "w"
      exact ⟨rfl, rfl⟩
    have e1 : (bs'.map fun p => PV.int p.2) = pints (bs'.map (·.2)) := by rw [pints, List.map_map]; rfl
    rw [e1]
    exact ⟨rfl, .inl ⟨_, rfl, hq _ (by rw [List.length_map]; exact hl')⟩⟩

structure Fs03 (h0 : Heap) : Prop where
  en : BuiltIs h0 "enumerate" (.type "enumerate")
  at_work : FnK P03 h0 1 "at_work" ["floor", "starts", "crew", "hour"]
  length : FnK P03 h0 2 "length" ["floor", "starts"]
  is_plan : FnK P03 h0 3 "is_plan" ["floor", "starts"]
  dr : Dr P03 h0 5 6 9 10 11 12
  whole : FnK P03 h0 7 "_law_whole" ["_law_found"]
  row : FnK P03 h0 13 "_law_row" ["_law_floor_here", "_law_cell"]
  lwork : FnK P03 h0 14 "_law_at_work" ["_law_floor_here", "_law_starts", "_law_crew", "_law_hour"]
  llength : FnK P03 h0 15 "_law_length" ["_law_floor_here", "_law_starts"]
  lplan : FnK P03 h0 16 "_law_is_plan" ["_law_floor_here", "_law_starts"]
  room : FnK P03 h0 17 "_law_room" ["_law_floor_here", "_law_begun", "_law_job_here", "_law_hour"]
  laid : FnK P03 h0 18 "_law_laid" ["_law_floor_here", "_law_row_here"]
  right : FnK P03 h0 19 "_law_right" ["_law_floor_here", "_law_starts", "_law_cell"]
  law : FnK P03 h0 20 "law" ["_law_script"]

abbrev vRi (crews : List Int) (jobs : List (Int × List Int)) (os : List (Int × Int)) (ss : List Int) (cell : Int) : List (Str × PV) :=
  [("_law_handed", .lst (pints ss)), ("_law_floor_here", floorPV crews jobs (.tup (os.map pairPV))), ("_law_starts", .lst (pints ss)), ("_law_cell", .int cell)]

theorem right_spec (B : Bl h0) (F : Fs03 h0) {crews : List Int} {jobs : List (Int × List Int)} {os : List (Int × Int)} {ss : List Int} {cell : Int} (hc1 : 1 ≤ crews.length) (hc4 : crews.length ≤ 4) (hne : 1 ≤ jobs.length)
    (hj : ∀ j ∈ jobs, 1 ≤ j.1 ∧ j.1 ≤ 50 ∧ NeedsOk j.2 crews) (hos : ∀ o ∈ os, 0 ≤ o.1 ∧ o.1 < jobs.length ∧ 0 ≤ o.2 ∧ o.2 < jobs.length) (hz : ss.length ≤ 100) (hq : Q (.bool true) []) :
    FnSpec P03 w h0 "_law_right" (d + 3) [floorPV crews jobs (.tup (os.map pairPV)), .lst (pints ss), .int cell] [] ro Q := by
  have hjn : ∀ j ∈ jobs, j.2.length = crews.length := fun j h => (hj j h).2.2.1
  refine FnSpec.pure_body F.right B.lim rfl (by rfl) (by decide) rfl rfl rfl fun A L a' q' cd hb ex => ?_
  refine WS_Assign (WE_of_WEF (WEF_list_lst B.list (WE_Name rfl ⟨rfl, pints ss, .inl rfl, ?_⟩))) (.inl rfl)
  refine WS_Assign ?_ (.inl rfl)
  refine WE_Call F.is_plan.isFn ?_
  walk_at "w"
  refine is_plan_spec B F.en F.at_work F.is_plan hne hos hjn hz fun b hbi => ?_
  refine WS_If (WT_BoolOp (WAll_or (WT_not (WT_value (WE_CallV B.isinstance (.inr ⟨_, rfl⟩) ?_)))))
  refine WEs_cons (WE_Name rfl (WEs_cons (WE_Builtin B.bool (WEs_nil ?_))))
  refine CallV_isi_bool_bool (Truth_bool ⟨fun _ => ?_, fun e => (by cases e)⟩)
  refine WAll_or ?_
  walk_at "w"
  refine WE_Call F.lplan.isFn ?_
  walk_at "w"
  refine law_is_plan_spec B F.lwork F.lplan hos hjn hz (by omega) fun b' hbi' => ?_
  have hbb : b = b' := by
    cases b <;> cases b' <;> first | rfl | (have := hbi.mpr (hbi'.mp rfl); cases this) | (have := hbi'.mpr (hbi.mp rfl); cases this)
  subst hbb
  refine Cmp_ne_bool ?_
  refine ⟨_, rfl, fun _ => ?_, fun e => ?_⟩
  rotate_left
  · cases b <;> cases e
  refine WAll_or ?_
  walk_at "w"
  refine Cmp_ne_ints ?_
  refine ⟨_, rfl, fun _ => WAll_or_nil ⟨fun e => (by cases e), fun _ => ?_⟩, fun e => absurd rfl (of_decide_eq_true e)⟩
  refine WS_end ?_
  refine WS_to (vRi crews jobs os ss cell) ⟨rfl, rfl, rfl, rfl, trivial⟩ ?_
  refine WS_If (WT_BoolOp (WAll_or ?_))
  walk_at "w"
  refine ⟨_, rfl, fun h1 => ?_, fun h1 => ⟨fun _ => ?_, fun e => (by cases e)⟩⟩
  rotate_left
  · exact WS_Return (WE_bool ⟨rfl, .inl ⟨_, rfl, hq⟩⟩)
  have hl : ss.length = jobs.length := by
    have h1 := of_decide_eq_false h1
    rw [pints_length, List.length_map] at h1
    omega
  refine WAll_or ?_
  walk_at "w"
  refine CallV_min_lst (by intro e; rw [e] at hl; simp at hl; omega) fun M m1 m2 => ?_
  walk_at "w"
  refine ⟨_, rfl, fun h2 => WAll_or_nil ⟨fun e => (by cases e), fun _ => ?_⟩, fun h2 => ⟨fun _ => ?_, fun e => (by cases e)⟩⟩
  rotate_left
  · exact WS_Return (WE_bool ⟨rfl, .inl ⟨_, rfl, hq⟩⟩)
  have hp : ∀ s ∈ ss, 0 ≤ s := fun s hs => by
    have h2 := of_decide_eq_false h2
    have := m2 s hs
    omega
  have hee : endsZ ss jobs ≠ [] := by
    intro e
    have : (endsZ ss jobs).length = 0 := by rw [e]; rfl
    rw [endsZ, List.length_map, List.length_zip] at this
    omega
  refine WS_end ?_
  refine WS_Assign ?_ (.inl rfl)
  refine WE_Call F.length.isFn ?_
  walk_at "w"
  refine length_spec B F.length hz hee fun M1 u1 u2 => ?_
  have hM : 1 ≤ M1 := by
    rw [endsZ] at u1
    obtain ⟨z, hz1, rfl⟩ := List.mem_map.mp u1
    have h3 := hp z.1 (List.of_mem_zip hz1).1
    have h4 := hj z.2 (List.of_mem_zip hz1).2
    omega
  refine WS_If (WT_BoolOp (WAll_or (WT_not (WT_value (WE_Call F.whole.isFn ?_)))))
  walk_at "w"
  refine whole_spec B F.whole (Truth_bool ⟨fun _ => ?_, fun e => (by cases e)⟩)
  refine WAll_or ?_
  walk_at "w"
  refine WE_Call F.llength.isFn ?_
  walk_at "w"
  refine law_length_spec B F.llength hz hl hee fun M2 v1 v2 => ?_
  have hMM : M1 = M2 := Int.le_antisymm (v2 M1 u1) (u2 M2 v1)
  subst hMM
  walk_at "w"
  refine ⟨_, rfl, fun _ => WAll_or_nil ⟨fun e => (by cases e), fun _ => ?_⟩, fun e => absurd rfl (of_decide_eq_true e)⟩
  refine WS_end ?_
  refine WS_Assign ?_ (.inl rfl)
  walk_at "w"
  refine Bin_mod ?_ (by rw [pints_length]; omega)
  rw [pints_length]
  have d1 := Int.emod_nonneg cell (show (crews.length : Int) ≠ 0 by omega)
  have d2 := Int.emod_lt_of_pos cell (show (0 : Int) < crews.length by omega)
  generalize cell % (crews.length : Int) = crew at d1 d2
  refine WS_Assign ?_ (.inl rfl)
  walk_at "w"
  generalize cell / 4 % (M1 + 3) - 1 = hour
  refine WS_Assign ?_ (.inl rfl)
  refine WE_Call F.at_work.isFn ?_
  walk_at "w"
  refine at_work_spec B F.at_work d1 (fun j h => by rw [hjn j h]; exact d2) ?_
  refine WS_Return (WE_BoolOp (WBo_and (WE_Call F.whole.isFn ?_)))
  walk_at "w"
  refine whole_spec B F.whole (Truth_bool ⟨rfl, fun _ => WBo_and ?_, fun e => (by cases e)⟩)
  walk_at "w"
  refine WE_Call F.lwork.isFn ?_
  walk_at "w"
  refine law_at_work_spec B F.lwork d1 (fun j h => by rw [hjn j h]; exact d2) hl hz ?_
  walk_at "w"
  refine Truth_bool ⟨rfl, fun _ => WBo_one ?_, fun e => absurd rfl (of_decide_eq_false e)⟩
  walk_at "w"
  refine Cmp_eq_ints ?_
  rw [decide_eq_true rfl]
  exact ⟨rfl, .inl ⟨_, rfl, hq⟩⟩
end


set_option maxRecDepth 100000
set_option maxHeartbeats 1000000


section
variable {w : World} {h0 : Heap} {d : Nat} {ro : List (Addr × PO)} {Q : PV → List (Addr × PO) → Prop}

theorem orders_in {many : Nat} {line : List Int} {os : List (Int × Int)} (perm : line.Perm (rangeInts 0 1 many)) (ord : OrdersOk line os) : ∀ o ∈ os, 0 ≤ o.1 ∧ o.1 < many ∧ 0 ≤ o.2 ∧ o.2 < many := fun o ho => by
  obtain ⟨i, j, _, h1, h2⟩ := ord o ho
  have q1 := mem_range (perm.mem_iff.mp (List.mem_of_getElem? h1))
  have q2 := mem_range (perm.mem_iff.mp (List.mem_of_getElem? h2))
  omega

abbrev vLaw (crews : List Int) (jobs : List (Int × List Int)) (os : List (Int × Int)) (ns good : List Int) (many : Int) : List (Str × PV) :=
  [("_law_floor_here", floorPV crews jobs (.tup (os.map pairPV))), ("_law_good", .lst (pints good)), ("_law_many", .int many), ("_law_script", .lst (pints ns))]

theorem law_spec (B : Bl h0) (F : Fs03 h0) {ns : List Int} (hn : ns.length ≤ 63) (hq : Q (.bool true) []) :
    FnSpec P03 w h0 "law" (d + 4) [.lst (pints ns)] [] ro Q := by
  refine FnSpec.pure_body F.law B.lim rfl (by rfl) (by decide) rfl rfl rfl fun A L a' q' cd hb ex => ?_
  have cn := cellAt_nonneg ns 3
  refine WS_Assign ?_ (.inl rfl)
  walk_at "w"
  refine WE_Call F.dr.cell_at.isFn ?_
  walk_at "w"
  refine cell_at_spec B F.dr.cell_at hn (by omega) ?_
  walk_at "w"
  show WS _ _ _ (Gh.set _ _ (.int (1 + cellAt ns 3 % 12))) _
  obtain ⟨many, em, m1, m2⟩ : ∃ many : Int, many = 1 + cellAt ns 3 % 12 ∧ 1 ≤ many ∧ many ≤ 12 := ⟨_, rfl, by omega, by omega⟩
  rw [← em]
  refine WS_Assign ?_ (.inl rfl)
  walk_at "w"
  refine WE_Call F.dr.cell_at.isFn ?_
  walk_at "w"
  refine cell_at_spec B F.dr.cell_at hn (by omega) ?_
  walk_at "w"
  refine Item_any (Int.emod_nonneg _ (by decide)) (Int.emod_lt_of_pos _ (by decide)) fun p hp => ?_
  obtain ⟨most, rfl, hmo⟩ : ∃ g : Int, p = .int g ∧ 1 ≤ g ∧ g ≤ 50 := by
    rcases pick3 hp with ⟨_, rfl⟩ | ⟨_, rfl⟩ | ⟨_, rfl⟩ <;> exact ⟨_, rfl, by omega, by omega⟩
  clear hp
  refine WS_Assign ?_ (.inl rfl)
  refine WE_Call F.dr.floor.isFn ?_
  walk_at "w"
  refine WE_Call F.dr.cell_at.isFn ?_
  walk_at "w"
  refine cell_at_spec B F.dr.cell_at hn (by omega) ?_
  walk_at "w"
  refine Item_any (Int.emod_nonneg _ (by decide)) (Int.emod_lt_of_pos _ (by decide)) fun p hp => ?_
  obtain ⟨mo, rfl, hmo2⟩ : ∃ g : Int, p = .int g ∧ 0 ≤ g ∧ g ≤ 1000 := by
    rcases pick2 hp with ⟨_, rfl⟩ | ⟨_, rfl⟩ <;> exact ⟨_, rfl, by omega, by omega⟩
  clear hp
  walk_at "w"
  refine floor_spec B F.dr hn (by omega) (by omega) hmo (by omega) fun crews jobs line os fo => ?_
  have hjl : (jobs.length : Int) = many := by rw [fo.jl]; omega
  have perm : line.Perm (rangeInts 0 1 jobs.length) := by have := fo.perm; rw [← fo.jl] at this; exact this
  have hos := orders_in perm fo.ord
  have hj : ∀ j ∈ jobs, 1 ≤ j.1 ∧ j.1 ≤ 50 ∧ NeedsOk j.2 crews := fun j h => by
    obtain ⟨h1, h2, h3⟩ := fo.jb j h
    exact ⟨h1, by omega, h3⟩
  refine WS_Assign ?_ (.inl rfl)
  refine WE_Call F.laid.isFn ?_
  walk_at "w"
  refine WE_Call F.row.isFn ?_
  walk_at "w"
  refine WE_Call F.dr.cell_at.isFn ?_
  walk_at "w"
  refine cell_at_spec B F.dr.cell_at hn (by omega) ?_
  walk_at "w"
  have hol := fo.ol
  refine row_spec B F.dr.mix F.row (by omega) (by omega) perm fo.ord fun row hrow => ?_
  have hrl : row.length = jobs.length := by rw [hrow.length_eq, rangeInts_length]
  walk_at "w"
  refine laid_spec B F.room F.laid hj fo.c4 (fun x hx => by have := mem_range (hrow.mem_iff.mp hx); omega) (by omega) fun good hgl => ?_
  have hgl : good.length = jobs.length := by rw [hgl, hrl]
  refine WS_If (WT_not (WT_value (WE_Call F.right.isFn ?_)))
  walk_at "w"
  refine WE_Call F.dr.cell_at.isFn ?_
  walk_at "w"
  refine cell_at_spec B F.dr.cell_at hn (by omega) ?_
  walk_at "w"
  refine right_spec B F fo.c1 fo.c4 (by omega) hj hos (by omega) ?_
  refine Truth_bool ⟨fun e => (by cases e), fun _ => ?_⟩
  refine WS_end ?_
  refine WS_to (vLaw crews jobs os ns good many) ⟨rfl, rfl, rfl, rfl, trivial⟩ ?_
  refine WS_ForR 6 (min 63 (ns.length : Int) - 6).toNat (fun k g => g = ⟨vLaw crews jobs os ns good many, [], ro⟩) ?_ ?_ ?_
  · refine WIter_CallI B.range (.inl ⟨_, rfl⟩) ?_
    walk_at "w"
    refine CallI_range2 ⟨by rw [pints_length], rfl⟩ (by omega) (by rw [pints_length]; omega)
  · rintro ex1 kk g hkk rfl
    refine WS_Assign ?_ (.inl rfl)
    refine WE_Call F.dr.cell_at.isFn ?_
    walk_at "w"
    refine cell_at_spec B F.dr.cell_at hn (by omega) ?_
    have c0 := cellAt_nonneg ns (6 + (kk : Int)).toNat
    generalize cellAt ns (6 + (kk : Int)).toNat = cell at c0
    refine WS_Assign ?_ (.inr ⟨rfl, rfl⟩)
    refine WE_Call F.dr.mix.isFn ?_
    walk_at "w"
    refine mix_spec B F.dr.mix ?_
    have m0 := mix_nonneg cell (6 + (kk : Int))
    generalize mix cell (6 + (kk : Int)) = more at m0
    refine WS_AssignBox (WEF_list_lst B.list (WE_Name rfl ⟨rfl, pints good, .inl rfl, fun a => ?_⟩)) (.inl rfl)
    refine WS_Assign ?_ (.inl rfl)
    walk_at "w"
    have d1 := Int.emod_nonneg more (show many ≠ 0 by omega)
    have d2 := Int.emod_lt_of_pos more (show 0 < many by omega)
    generalize more % many = job at d1 d2
    refine WS_to (("_law_starts", .box a) :: ("_law_job_here", .int job) :: ("_law_cell", .int cell) :: ("_law_more", .int more) :: vLaw crews jobs os ns good many) ⟨rfl, rfl, rfl, rfl, rfl, rfl, rfl, rfl, trivial⟩ ?_
    refine WS_IfJ (fun g => ∃ ss : List Int, ss.length ≤ 100 ∧ g = ⟨("_law_starts", .lst (pints ss)) :: ("_law_more", .int more) :: vLaw crews jobs os ns good many, [], ro⟩) ?_ ?_
    · walk_at "w"
      refine ⟨_, rfl, fun _ => ?_, fun _ => ?_⟩
      · refine WS_AssignT ?_
        walk_at "w"
        refine Item_intsb (.head _) d1 (by omega) fun i hi => ?_
        walk_at "w"
        refine Item_any (Int.emod_nonneg _ (by decide)) (Int.emod_lt_of_pos _ (by decide)) fun p hp => ?_
        obtain ⟨u, rfl⟩ : ∃ u : Int, p = .int u := by
          have hm := List.mem_of_getElem? hp
          simp only [List.mem_cons, List.not_mem_nil, or_false] at hm
          rcases hm with rfl | rfl | rfl | rfl <;> exact ⟨_, rfl⟩
        walk_at "w"
        refine WAsg_box (xs₀ := []) rfl ?_
        walk_at "w"
        refine ⟨_, _, d1, by rw [pints_length]; omega, .head, rfl, ?_⟩
        have e1 : (pints good).set job.toNat (.int (i + u)) = pints (good.set job.toNat (i + u)) := by rw [pints, pints, List.map_set]
        rw [e1]
        refine WS_freeze (x := "_law_starts") rfl .head (by intro h; cases h) ?_
        exact WS_join (("_law_starts", .lst (pints (good.set job.toNat (i + u)))) :: ("_law_more", .int more) :: vLaw crews jobs os ns good many) ⟨rfl, rfl, rfl, rfl, rfl, rfl, trivial⟩ ⟨_, by rw [List.length_set]; omega, rfl⟩
      · refine WS_IfJ (fun g => ∃ ss : List Int, ss.length ≤ 100 ∧ g = ⟨("_law_starts", .lst (pints ss)) :: ("_law_more", .int more) :: vLaw crews jobs os ns good many, [], ro⟩) ?_ (fun g' hg => WS_nil ⟨rfl, hg⟩)
        walk_at "w"
        refine ⟨_, rfl, fun _ => ?_, fun _ => ?_⟩
        · refine WS_AssignT ?_
          walk_at "w"
          refine WAsg_box (xs₀ := []) rfl ?_
          walk_at "w"
          refine ⟨_, _, d1, by rw [pints_length]; omega, .head, rfl, ?_⟩
          have e1 : (pints good).set job.toNat (.int (more / 16 % 60 - 2)) = pints (good.set job.toNat (more / 16 % 60 - 2)) := by rw [pints, pints, List.map_set]
          rw [e1]
          refine WS_freeze (x := "_law_starts") rfl .head (by intro h; cases h) ?_
          exact WS_join (("_law_starts", .lst (pints (good.set job.toNat (more / 16 % 60 - 2)))) :: ("_law_more", .int more) :: vLaw crews jobs os ns good many) ⟨rfl, rfl, rfl, rfl, rfl, rfl, trivial⟩ ⟨_, by rw [List.length_set]; omega, rfl⟩
        · refine WS_freeze (x := "_law_starts") rfl .head (by intro h; cases h) ?_
          refine WS_IfJ (fun g => ∃ ss : List Int, ss.length ≤ 100 ∧ g = ⟨("_law_starts", .lst (pints ss)) :: ("_law_more", .int more) :: vLaw crews jobs os ns good many, [], ro⟩) ?_ (fun g' hg => WS_nil ⟨rfl, hg⟩)
          walk_at "w"
          refine ⟨_, rfl, fun _ => ?_, fun _ => ?_⟩
          · refine WS_Assign ?_ (.inl rfl)
            walk_at "w"
            refine WE_ListComp (WIter_val ?_)
            walk_at "w"
            refine Src_lst (CompAt.ofInts (fun s => .int (s + more / 16 % 3)) [("_law_more", .int more)] (.cons _ rfl rfl .nil) (fun z hz cl C ex => ?_) ?_ (by rw [sizeLine_eq]; omega))
            · walk_at "w"
              exact ⟨rfl, rfl⟩
            have e1 : good.map (fun s => PV.int (s + more / 16 % 3)) = pints (good.map fun s => s + more / 16 % 3) := by rw [pints, List.map_map]; rfl
            rw [e1]
            refine WEs_cons (WE_butLast (xs := pints good) rfl (.inl rfl) (by intro e; have := congrArg List.length e; rw [pints_length, List.length_nil] at this; omega) ?_)
            have e2 : (pints good).take ((pints good).length - 1) = pints (good.take ((pints good).length - 1)) := by rw [pints, pints, List.map_take]
            rw [e2]
            walk_at "w"
            refine Bin_add_lst (by rw [pints_length, sizeLine_eq]; simp; omega) ?_
            have e3 : pints good ++ [PV.int 0] = pints (good ++ [0]) := by simp [pints]
            rw [e3]
            walk_at "w"
            refine Item_any (Int.emod_nonneg _ (by decide)) (Int.emod_lt_of_pos _ (by decide)) fun p hp => ?_
            obtain ⟨ss, rfl, hss⟩ : ∃ ss : List Int, p = .lst (pints ss) ∧ ss.length ≤ 100 := by
              rcases pick3 hp with ⟨_, rfl⟩ | ⟨_, rfl⟩ | ⟨_, rfl⟩
              · exact ⟨_, rfl, by rw [List.length_map]; omega⟩
              · exact ⟨_, rfl, by rw [List.length_take]; omega⟩
              · exact ⟨_, rfl, by rw [List.length_append]; simp; omega⟩
            exact WS_join (("_law_starts", .lst (pints ss)) :: ("_law_more", .int more) :: vLaw crews jobs os ns good many) ⟨rfl, rfl, rfl, rfl, rfl, rfl, trivial⟩ ⟨_, hss, rfl⟩
          · refine WS_AssignComp ?_
            refine WIter_CallI B.range (.inl ⟨_, rfl⟩) ?_
            walk_at "w"
            refine CallI_range1 ?_ (by omega)
            refine CompAt.ofInts (fun j => .int (mix more j % 9)) [("_law_more", .int more)] (.cons _ rfl rfl .nil) (fun z hz cl C ex => ?_) ?_ (by rw [rangeInts_length, sizeLine_eq]; omega)
            · walk_at "w"
              refine WE_Call F.dr.mix.isFn ?_
              walk_at "w"
              refine mix_spec B F.dr.mix ?_
              walk_at "w"
              exact ⟨rfl, rfl⟩
            have e1 : (rangeInts 0 1 many.toNat).map (fun j => PV.int (mix more j % 9)) = pints ((rangeInts 0 1 many.toNat).map fun j => mix more j % 9) := by rw [pints, List.map_map]; rfl
            rw [e1]
            exact WS_join (("_law_starts", .lst (pints ((rangeInts 0 1 many.toNat).map fun j => mix more j % 9))) :: ("_law_more", .int more) :: vLaw crews jobs os ns good many) ⟨rfl, rfl, rfl, rfl, rfl, rfl, trivial⟩ ⟨_, by rw [List.length_map, rangeInts_length]; omega, rfl⟩
    · rintro g ⟨ss, hss, rfl⟩
      refine WS_If (WT_not (WT_value (WE_Call F.right.isFn ?_)))
      walk_at "w"
      refine right_spec B F fo.c1 fo.c4 (by omega) hj hos hss ?_
      refine Truth_bool ⟨fun e => (by cases e), fun _ => ?_⟩
      exact WS_end (WS_turnTo (vLaw crews jobs os ns good many) ⟨rfl, rfl, rfl, rfl, trivial⟩ (by rfl))
  · rintro g rfl
    exact WS_Return (WE_bool ⟨rfl, .inl ⟨_, rfl, hq⟩⟩)
end


end Mine
open PySem PySem.W PyProof.Rows
set_option maxRecDepth 100000 in
set_option maxHeartbeats 8000000 in
theorem PySem.Challenge.cw_uf020011_03_holds : PySem.Challenge.rw_uf020011_03.Holds := by
  w_on; o_law; o_head Hook.none; (case hw => w_witness2)
  intro w s₀ s₁ mg mb G Y fa o pm cd doc dV kV ho hd hcd hD hmg hg args vals as hpre hlay hrd hwl hlo
  have T := Ground.T G
  have hmg' : mg (Str.ofString "law") = some (.ref fa) := hmg
  clear hmg hd hcd hD G Y
  have B : Mine.Bl s₁.heap := Mine.Bl.of T (by decide +kernel)
  have f_at_work : Mine.FnK Mine.P03 s₁.heap 1 "at_work" ["floor", "starts", "crew", "hour"] := Mine.fnAt_ofJ T 0 (by decide +kernel) rfl rfl rfl (by
    intro pm code doc vs hv
    match vs, hv with
    | [v0, v1, v2, v3], _ => rfl)
  have f_length : Mine.FnK Mine.P03 s₁.heap 2 "length" ["floor", "starts"] := Mine.fnAt_ofJ T 1 (by decide +kernel) rfl rfl rfl (by
    intro pm code doc vs hv
    match vs, hv with
    | [v0, v1], _ => rfl)
  have f_is_plan : Mine.FnK Mine.P03 s₁.heap 3 "is_plan" ["floor", "starts"] := Mine.fnAt_ofJ T 2 (by decide +kernel) rfl rfl rfl (by
    intro pm code doc vs hv
    match vs, hv with
    | [v0, v1], _ => rfl)
  have f_law_cell_at : Mine.FnK Mine.P03 s₁.heap 5 "_law_cell_at" ["_law_script", "_law_k"] := Mine.fnAt_ofJ T 3 (by decide +kernel) rfl rfl rfl (by
    intro pm code doc vs hv
    match vs, hv with
    | [v0, v1], _ => rfl)
  have f_law_mix : Mine.FnK Mine.P03 s₁.heap 6 "_law_mix" ["_law_cell", "_law_k"] := Mine.fnAt_ofJ T 4 (by decide +kernel) rfl rfl rfl (by
    intro pm code doc vs hv
    match vs, hv with
    | [v0, v1], _ => rfl)
  have f_law_crews : Mine.FnK Mine.P03 s₁.heap 9 "_law_crews" ["_law_cell"] := Mine.fnAt_ofJ T 7 (by decide +kernel) rfl rfl rfl (by
    intro pm code doc vs hv
    match vs, hv with
    | [v0], _ => rfl)
  have f_law_job : Mine.FnK Mine.P03 s₁.heap 10 "_law_job" ["_law_cell", "_law_crews_here", "_law_most"] := Mine.fnAt_ofJ T 8 (by decide +kernel) rfl rfl rfl (by
    intro pm code doc vs hv
    match vs, hv with
    | [v0, v1, v2], _ => rfl)
  have f_law_orders : Mine.FnK Mine.P03 s₁.heap 11 "_law_orders" ["_law_cell", "_law_many", "_law_most"] := Mine.fnAt_ofJ T 9 (by decide +kernel) rfl rfl rfl (by
    intro pm code doc vs hv
    match vs, hv with
    | [v0, v1, v2], _ => rfl)
  have f_law_floor : Mine.FnK Mine.P03 s₁.heap 12 "_law_floor" ["_law_script", "_law_at", "_law_many", "_law_most", "_law_orders_here"] := Mine.fnAt_ofJ T 10 (by decide +kernel) rfl rfl rfl (by
    intro pm code doc vs hv
    match vs, hv with
    | [v0, v1, v2, v3, v4], _ => rfl)
  have f_law_whole : Mine.FnK Mine.P03 s₁.heap 7 "_law_whole" ["_law_found"] := Mine.fnAt_ofJ T 5 (by decide +kernel) rfl rfl rfl (by
    intro pm code doc vs hv
    match vs, hv with
    | [v0], _ => rfl)
  have f_law_row : Mine.FnK Mine.P03 s₁.heap 13 "_law_row" ["_law_floor_here", "_law_cell"] := Mine.fnAt_ofJ T 11 (by decide +kernel) rfl rfl rfl (by
    intro pm code doc vs hv
    match vs, hv with
    | [v0, v1], _ => rfl)
  have f_law_at_work : Mine.FnK Mine.P03 s₁.heap 14 "_law_at_work" ["_law_floor_here", "_law_starts", "_law_crew", "_law_hour"] := Mine.fnAt_ofJ T 12 (by decide +kernel) rfl rfl rfl (by
    intro pm code doc vs hv
    match vs, hv with
    | [v0, v1, v2, v3], _ => rfl)
  have f_law_length : Mine.FnK Mine.P03 s₁.heap 15 "_law_length" ["_law_floor_here", "_law_starts"] := Mine.fnAt_ofJ T 13 (by decide +kernel) rfl rfl rfl (by
    intro pm code doc vs hv
    match vs, hv with
    | [v0, v1], _ => rfl)
  have f_law_is_plan : Mine.FnK Mine.P03 s₁.heap 16 "_law_is_plan" ["_law_floor_here", "_law_starts"] := Mine.fnAt_ofJ T 14 (by decide +kernel) rfl rfl rfl (by
    intro pm code doc vs hv
    match vs, hv with
    | [v0, v1], _ => rfl)
  have f_law_room : Mine.FnK Mine.P03 s₁.heap 17 "_law_room" ["_law_floor_here", "_law_begun", "_law_job_here", "_law_hour"] := Mine.fnAt_ofJ T 15 (by decide +kernel) rfl rfl rfl (by
    intro pm code doc vs hv
    match vs, hv with
    | [v0, v1, v2, v3], _ => rfl)
  have f_law_laid : Mine.FnK Mine.P03 s₁.heap 18 "_law_laid" ["_law_floor_here", "_law_row_here"] := Mine.fnAt_ofJ T 16 (by decide +kernel) rfl rfl rfl (by
    intro pm code doc vs hv
    match vs, hv with
    | [v0, v1], _ => rfl)
  have f_law_right : Mine.FnK Mine.P03 s₁.heap 19 "_law_right" ["_law_floor_here", "_law_starts", "_law_cell"] := Mine.fnAt_ofJ T 17 (by decide +kernel) rfl rfl rfl (by
    intro pm code doc vs hv
    match vs, hv with
    | [v0, v1, v2], _ => rfl)
  have f_law : Mine.FnK Mine.P03 s₁.heap 20 "law" ["_law_script"] := Mine.fnAt_ofJ T 18 (by decide +kernel) rfl rfl rfl (by
    intro pm code doc vs hv
    match vs, hv with
    | [v0], _ => rfl)
  have en : Mine.BuiltIs s₁.heap "enumerate" (.type "enumerate") := Mine.builtIs_of T rfl (by decide +kernel) (by decide +kernel) (by decide +kernel) (by decide +kernel) (by decide +kernel) (by decide +kernel)
  wrow_args hpre hlay hrd hwl hlo
  exact Mine.law_glue (l := PySem.Challenge.rw_uf020011_03) (D := 4) (Mine.law_spec (d := 0) B ⟨en, f_at_work, f_length, f_is_plan, ⟨f_law_cell_at, f_law_mix, f_law_crews, f_law_job, f_law_orders, f_law_floor⟩, f_law_whole, f_law_row, f_law_at_work, f_law_length, f_law_is_plan, f_law_room, f_law_laid, f_law_right, f_law⟩ (by omega) rfl) ⟨by decide, by decide⟩ ⟨mg, T.g, hmg'⟩ (by assumption) (by assumption) (by assumption) (by assumption) hg


