/- B IS RIGHT, first part: values and memory against data and store; single operations. Conditions: none. -/
import Derived.Test.YtjofohhnkdbfbaaGreatDoorBi0
import Derived.WalkKit
import Derived.Laws.StructEq
import Derived.Laws.Slices
import Derived.Laws.Tables
import Derived.Great.BuildSlice
import Derived.Deep.AppendSrc
/- SOUNDNESS OF 'B', first part: how the machine's values and memory stand to the interpreter's data and store. -/
set_option linter.unusedVariables false
set_option linter.unusedSimpArgs false
namespace Go.BI
open Go Go.RowKit

/-- What a machine's value must be to be read as a datum; the cells that it hangs on lie in S. -/
inductive RelV (w : World) (S : Addr → Prop) : Value → V → Prop
  | undef (v : Value) : (∀ cs, v ≠ .agg cs) → RelV w S v .undef
  | bool (b : Bool) : RelV w S (.bool b) (.bool b)
  | int (k : IntKind) (n : Int) : RelV w S (.int k n) (.int k n)
  | str (b : ByteArray) : RelV w S (.string b) (.str b.data.toList)
  | nilp : RelV w S (.pointer none) .nilp
  | nilfn : RelV w S .nilFunc .nilfn
  | nilif : RelV w S .nilIface .nilif
  | iface (t : TypeId) (v : Value) (x : V) : RelV w S v x → RelV w S (.iface t v) (.iface t x)
  | ifany (t : TypeId) (v : Value) : RelV w S (.iface t v) .ifany
  | agg (vs : Array Value) (cs : List V) : vs.size = cs.length → (∀ (i : Nat) v, vs[i]? = some v → v.oneCell' = true) → (∀ (i : Nat) v x, vs[i]? = some v → cs[i]? = some x → RelV w S v x) → RelV w S (.agg vs) (.agg cs)
  | tup (vs : Array Value) (cs : List V) : vs.size = cs.length → (∀ (i : Nat) v x, vs[i]? = some v → cs[i]? = some x → RelV w S v x) → RelV w S (.tuple vs) (.tup cs)
  | nils (sz : Nat) : RelV w S (.slice none 0 0) (.slice true sz [])
  | slice (a : Addr) (len cap sz : Nat) (xs : List V) (val : Nat → Value) : xs.length = len → len ≤ cap → a.spot = none → (∀ x ∈ xs, x.cells.length = sz) → 1 ≤ sz →
      (∀ (i : Nat) x, (xs.flatMap V.cells)[i]? = some x → w.cell? (a.add i) = some (val i) ∧ S (a.add i) ∧ (val i).oneCell' = true) →
      (∀ (i : Nat) x, (xs.flatMap V.cells)[i]? = some x → RelV w S (val i) x) → RelV w S (.slice (some a) len cap) (.slice false sz xs)

structure Gh where
  blk : Nat → Nat → Option (Nat × Nat)
  S : Addr → Prop
  N : Addr → Prop

inductive RelD (w : World) (g : Gh) : Value → D → Prop
  | v (v : Value) (x : V) : RelV w g.S v x → RelD w g v (.v x)
  | ptr (s ver off b δ : Nat) : g.blk s ver = some (b, δ) → RelD w g (.pointer (some ⟨b, δ + off, none⟩)) (.ptr s ver off)
  | anyp (a : Addr) : RelD w g (.pointer (some a)) .anyp
  | pin (k : Bool) (a : Addr) (cs : List V) (val : Nat → Value) : a.spot = none → (∀ (i : Nat) x, cs[i]? = some x → w.cell? (a.add i) = some (val i) ∧ (if k then g.S (a.add i) else g.S (a.add i) ∨ g.N (a.add i)) ∧ RelV w g.S (val i) x ∧ (val i).oneCell' = true) →
      RelD w g (.pointer (some a)) (.pin k cs)
  | arr (s ver sz off len b δ p cap : Nat) : g.blk s ver = some (b, δ) → len ≤ cap → 1 ≤ sz → (cap ≠ 0 → p = δ + off) → (∃ cs el fr, w.heap[b]? = some (.cells cs el fr) ∧ p + cap * sz ≤ cs.size) →
      RelD w g (.slice (some ⟨b, p, none⟩) len cap) (.arr s ver sz off len)
  | full (v : Value) (nl : Bool) (sz : Nat) (xs : List V) : RelV w g.S v (.slice nl sz xs) → (∃ a, v = .slice a xs.length xs.length) → RelD w g v (.full nl sz xs)
  | fn (f : FuncId) (first caps : List D) (vf vc : Array Value) : vf.size = first.length → vc.size = caps.length →
      (∀ (i : Nat) v d, vf[i]? = some v → first[i]? = some d → RelD w g v d) → (∀ (i : Nat) v d, vc[i]? = some v → caps[i]? = some d → RelD w g v d) → RelD w g (.func (.func f) vf vc) (.fn f first caps)
  | yld (s ver b δ : Nat) : g.blk s ver = some (b, δ) → RelD w g (.func (.yield b) #[] #[]) (.yld s ver)
  | itr (s ver b δ : Nat) : g.blk s ver = some (b, δ) → RelD w g (.pointer (some ⟨b, 0, none⟩)) (.itr s ver)
  | agg (vs : Array Value) (cs : List D) : vs.size = cs.length → (∀ (i : Nat) v, vs[i]? = some v → v.oneCell' = true) → (∀ (i : Nat) v x, vs[i]? = some v → cs[i]? = some x → RelD w g v x) → RelD w g (.agg vs) (.agg cs)
  | tup (vs : Array Value) (cs : List D) : vs.size = cs.length → (∀ (i : Nat) v x, vs[i]? = some v → cs[i]? = some x → RelD w g v x) → RelD w g (.tuple vs) (.tup cs)

theorem RelD.toV {w : World} {g : Gh} {v : Value} {x : V} (h : RelD w g v (.v x)) : RelV w g.S v x := by cases h; assumption
theorem RelV.nilp_eq {w : World} {S : Addr → Prop} {v : Value} (h : RelV w S v .nilp) : v = .pointer none := by cases h; rfl
theorem RelV.nilfn_eq {w : World} {S : Addr → Prop} {v : Value} (h : RelV w S v .nilfn) : v = .nilFunc := by cases h; rfl
theorem RelV.nilif_eq {w : World} {S : Addr → Prop} {v : Value} (h : RelV w S v .nilif) : v = .nilIface := by cases h; rfl
theorem RelV.iface_eq {w : World} {S : Addr → Prop} {v : Value} {t : TypeId} {x : V} (h : RelV w S v (.iface t x)) : ∃ u, v = .iface t u ∧ RelV w S u x := by cases h; exact ⟨_, rfl, by assumption⟩
theorem RelV.ifany_eq {w : World} {S : Addr → Prop} {v : Value} (h : RelV w S v .ifany) : ∃ t u, v = .iface t u := by cases h; exact ⟨_, _, rfl⟩
theorem RelV.int_eq {w : World} {S : Addr → Prop} {v : Value} {k : IntKind} {n : Int} (h : RelV w S v (.int k n)) : v = .int k n := by cases h; rfl
theorem RelV.bool_eq {w : World} {S : Addr → Prop} {v : Value} {b : Bool} (h : RelV w S v (.bool b)) : v = .bool b := by cases h; rfl
theorem RelV.str_eq {w : World} {S : Addr → Prop} {v : Value} {s : List UInt8} (h : RelV w S v (.str s)) : ∃ b : ByteArray, v = .string b ∧ s = b.data.toList := by cases h; exact ⟨_, rfl, rfl⟩
theorem RelV.agg_eq {w : World} {S : Addr → Prop} {v : Value} {cs : List V} (h : RelV w S v (.agg cs)) : ∃ vs : Array Value, v = .agg vs ∧ vs.size = cs.length ∧ ∀ (i : Nat) v x, vs[i]? = some v → cs[i]? = some x → RelV w S v x := by
  cases h; exact ⟨_, rfl, by assumption, by assumption⟩
theorem RelV.agg_one {w : World} {S : Addr → Prop} {vs : Array Value} {cs : List V} (h : RelV w S (.agg vs) (.agg cs)) : ∀ (i : Nat) v, vs[i]? = some v → v.oneCell' = true := by
  cases h; assumption
theorem RelV.tup_eq {w : World} {S : Addr → Prop} {v : Value} {cs : List V} (h : RelV w S v (.tup cs)) : ∃ vs : Array Value, v = .tuple vs ∧ vs.size = cs.length ∧ ∀ (i : Nat) v x, vs[i]? = some v → cs[i]? = some x → RelV w S v x := by
  cases h; exact ⟨_, rfl, by assumption, by assumption⟩
theorem RelD.ptr_eq {w : World} {g : Gh} {v : Value} {s ver off : Nat} (h : RelD w g v (.ptr s ver off)) : ∃ b δ, g.blk s ver = some (b, δ) ∧ v = .pointer (some ⟨b, δ + off, none⟩) := by cases h; exact ⟨_, _, by assumption, rfl⟩

/-- What a step of the world leaves as it is. -/
structure Ext (g : Gh) (w : World) (g' : Gh) (w' : World) : Prop where
  blk : ∀ s v x, g.blk s v = some x → g'.blk s v = some x
  S : ∀ a, g.S a → g'.S a
  N : ∀ a, g.N a → g'.N a
  cell : ∀ a, g.S a ∨ g.N a → w'.cell? a = w.cell? a
  shape : ∀ (b : Nat) cs el fr, w.heap[b]? = some (.cells cs el fr) → ∃ cs' fr', w'.heap[b]? = some (.cells cs' el fr') ∧ cs'.size = cs.size
  loops : ∀ (b : Nat) L, w.heap[b]? = some (.loop L) → ∃ L', w'.heap[b]? = some (.loop L')
  size : w.heap.size ≤ w'.heap.size
  defs : ∀ b : Nat, w.heap[b]? = some (.deferred (some [])) → w'.heap[b]? = some (.deferred (some []))

theorem Ext.refl (g : Gh) (w : World) : Ext g w g w := ⟨fun _ _ _ h => h, fun _ h => h, fun _ h => h, fun _ _ => rfl, fun b cs el fr h => ⟨cs, fr, h, rfl⟩, fun b L h => ⟨L, h⟩, Nat.le_refl _, fun _ h => h⟩
theorem Ext.trans {g g1 g2 : Gh} {w w1 w2 : World} (h : Ext g w g1 w1) (k : Ext g1 w1 g2 w2) : Ext g w g2 w2 :=
  ⟨fun s v x e => k.blk s v x (h.blk s v x e), fun a e => k.S a (h.S a e), fun a e => k.N a (h.N a e),
   fun a e => (k.cell a (e.imp (h.S a) (h.N a))).trans (h.cell a e),
   fun b cs el fr e => by
     obtain ⟨cs1, fr1, e1, s1⟩ := h.shape b cs el fr e
     obtain ⟨cs2, fr2, e2, s2⟩ := k.shape b cs1 el fr1 e1
     exact ⟨cs2, fr2, e2, s2.trans s1⟩,
   fun b L e => by
     obtain ⟨L1, e1⟩ := h.loops b L e
     exact k.loops b L1 e1,
   Nat.le_trans h.size k.size, fun b e => k.defs b (h.defs b e)⟩

theorem RelV.mono {w w' : World} {S S' : Addr → Prop} (hS : ∀ a, S a → S' a) (hc : ∀ a, S a → w'.cell? a = w.cell? a) {v : Value} {x : V} (h : RelV w S v x) : RelV w' S' v x := by
  induction h with
  | undef v h => exact .undef v h
  | bool b => exact .bool b
  | int k n => exact .int k n
  | str b => exact .str b
  | nilp => exact .nilp
  | nilfn => exact .nilfn
  | nilif => exact .nilif
  | iface t v x _ ih => exact .iface t v x ih
  | ifany t v => exact .ifany t v
  | agg vs cs hl h1 _ ih => exact .agg vs cs hl h1 ih
  | tup vs cs hl _ ih => exact .tup vs cs hl ih
  | nils sz => exact .nils sz
  | slice a len cap sz xs val h1 h2 h3 h4 h5 h6 _ ih =>
    exact .slice a len cap sz xs val h1 h2 h3 h4 h5 (fun i x hx => ⟨(hc _ (h6 i x hx).2.1).trans (h6 i x hx).1, hS _ (h6 i x hx).2.1, (h6 i x hx).2.2⟩) ih

theorem RelV.ext {g g' : Gh} {w w' : World} (h : Ext g w g' w') {v : Value} {x : V} (r : RelV w g.S v x) : RelV w' g'.S v x := r.mono h.S fun a ha => h.cell a (.inl ha)

theorem RelD.turn {g g' : Gh} {w w' : World} (hblk : ∀ s v x, g.blk s v = some x → g'.blk s v = some x) (hS : ∀ a, g.S a → g'.S a) (hN : ∀ a, g.N a → g'.N a) (hcell : ∀ a, g.S a ∨ g.N a → w'.cell? a = w.cell? a)
    (hshape : ∀ (b : Nat) cs el fr, w.heap[b]? = some (.cells cs el fr) → ∃ cs' fr', w'.heap[b]? = some (.cells cs' el fr') ∧ cs'.size = cs.size) {v : Value} {d : D} (r : RelD w g v d) : RelD w' g' v d := by
  have hV : ∀ {v : Value} {x : V}, RelV w g.S v x → RelV w' g'.S v x := fun r => r.mono hS fun a ha => hcell a (.inl ha)
  induction r with
  | v v x hx => exact .v v x (hV hx)
  | ptr s ver off b δ e => exact .ptr s ver off b δ (hblk _ _ _ e)
  | anyp a => exact .anyp a
  | pin k a cs val ha hc =>
    refine .pin k a cs val ha fun i x hx => ?_
    obtain ⟨h1, h2, h3, h4⟩ := hc i x hx
    cases k with
    | true => exact ⟨(hcell _ (.inl h2)).trans h1, hS _ h2, hV h3, h4⟩
    | false => exact ⟨(hcell _ h2).trans h1, Or.imp (hS _) (hN _) h2, hV h3, h4⟩
  | arr s ver sz off len b δ p cap e h1 h2 hp h3 =>
    obtain ⟨cs, el, fr, e1, e2⟩ := h3
    obtain ⟨cs', fr', e3, e4⟩ := hshape _ _ _ _ e1
    exact .arr s ver sz off len b δ p cap (hblk _ _ _ e) h1 h2 hp ⟨cs', el, fr', e3, by omega⟩
  | full v nl sz xs hx hc => exact .full v nl sz xs (hV hx) hc
  | fn f a b va vb h1 h2 _ _ i1 i2 => exact .fn f a b va vb h1 h2 i1 i2
  | yld s ver b δ e => exact .yld s ver b δ (hblk _ _ _ e)
  | itr s ver b δ e => exact .itr s ver b δ (hblk _ _ _ e)
  | agg vs cs hl h1 _ ih => exact .agg vs cs hl h1 ih
  | tup vs cs hl _ ih => exact .tup vs cs hl ih

theorem RelD.ext {g g' : Gh} {w w' : World} (h : Ext g w g' w') {v : Value} {d : D} (r : RelD w g v d) : RelD w' g' v d := r.turn h.blk h.S h.N h.cell h.shape

/-- A frame's temporaries. -/
def RelE (w : World) (g : Gh) (tmps : Array Value) (env : E) : Prop := ∀ t, ∃ d, getO env t = some d ∧ RelD w g (tmps.getD t undef) d

theorem RelE.ext {g g' : Gh} {w w' : World} (h : Ext g w g' w') {tmps : Array Value} {env : E} (r : RelE w g tmps env) : RelE w' g' tmps env := fun t => by
  obtain ⟨d, e, hd⟩ := r t
  exact ⟨d, e, hd.ext h⟩

theorem getO_putE (env : E) (t t' : Nat) (d : D) (ht : t < 4000) : getO (putE env t d) t' = if t' = t then some d else getO env t' :=
  getK_putK _ 12 env t t' d (by simp; omega)

theorem RelE.put {w : World} {g : Gh} {tmps : Array Value} {env : E} (r : RelE w g tmps env) {t : Nat} (ht : t < tmps.size) (h4 : t < 4000) {v : Value} {d : D} (h : RelD w g v d) :
    RelE w g (tmps.setIfInBounds t v) (putE env t d) := fun t' => by
  rw [getO_putE _ _ _ _ h4]
  by_cases e : t' = t
  · subst e
    refine ⟨d, by simp, ?_⟩
    simpa [Array.getD_eq_getD_getElem?, ht] using h
  · obtain ⟨d', h1, h2⟩ := r t'
    refine ⟨d', by simp [e, h1], ?_⟩
    have : (tmps.setIfInBounds t v)[t']? = tmps[t']? := Array.getElem?_setIfInBounds_ne (Ne.symm e)
    simpa [Array.getD_eq_getD_getElem?, this] using h2

end Go.BI
/- SOUNDNESS OF 'B', second part: the store. -/
set_option linter.unusedVariables false
set_option linter.unusedSimpArgs false
namespace Go.BI
open Go Go.RowKit

theorem getR_setS (st : Sites) (s t : Nat) (r : Rec) (hs : s < maxSite) : getR (setS st s r) t = if t = s then some r else getR st t :=
  getK_putK _ 24 st s t r (by simp [maxSite] at hs; simp; omega)

/-! ### May code run in a frame of so many temporaries? -/
def operOk (n : Nat) (o : Oper) : Bool :=
  (match o.dst with | some d => decide (d < n) | none => true)

def codeOk (n : Nat) : Code → Bool
  | .region _ ops draw => ops.toList.all (operOk n) && (!draw || drawStat ops)
  | .seq a b => codeOk n a && codeOk n b
  | .cond _ a b => codeOk n a && codeOk n b
  | .block _ c => codeOk n c
  | .loop c => codeOk n c
  | .scope c => codeOk n c
  | .rangeFunc _ ps a b => ps.toList.all (fun p => decide (p < n)) && codeOk n a && codeOk n b
  | _ => true

/-! ### Objects -/
def RelB (w : World) (g : Gh) (b δ : Nat) : BObj → Prop
  | .box ty cells fz => ∃ cs el fr, w.heap[b]? = some (.cells cs el fr) ∧ (ty ≠ noTy → el = ty ∧ δ = 0) ∧ δ + cells.length ≤ cs.size ∧
      (∀ (i : Nat) v d, cs[δ + i]? = some v → cells[i]? = some d → RelD w g v d) ∧
      (∀ i, fz ≤ i → ¬ g.S ⟨b, δ + i, none⟩ ∧ ¬ g.N ⟨b, δ + i, none⟩ ∧ fr.2 ≤ δ + i) ∧
      (∀ i, i < fz → i < cells.length → g.S ⟨b, δ + i, none⟩) ∧ fz ≤ cells.length ∧ (∀ (i : Nat) v, i < cells.length → cs[δ + i]? = some v → v.oneCell' = true)
  | .iter s pos => ∃ ba : ByteArray, w.heap[b]? = some (.stringIter ba pos) ∧ ba.data.toList = s
  | .loop l => ∃ L : Loop, w.heap[b]? = some (.loop L) ∧ L.state = l.state ∧ L.pending = l.pending ∧ RelE w g L.tmps l.env ∧ L.params.toList = l.params ∧ L.assign = l.assign ∧ L.body = l.body ∧
      (L.params.toList.all (fun p => decide (p < L.tmps.size)) && codeOk L.tmps.size l.assign && codeOk L.tmps.size l.body) = true ∧ L.tmps.size ≤ 4000

theorem RelB.ext {g g' : Gh} {w w' : World} (h : Ext g w g' w') {b δ : Nat} (hb : w'.heap[b]? = w.heap[b]?)
    (hS : ∀ a, a.block = b → g'.S a → g.S a) (hN : ∀ a, a.block = b → g'.N a → g.N a) {o : BObj} (r : RelB w g b δ o) : RelB w' g' b δ o := by
  cases o with
  | box ty cells fz =>
    obtain ⟨cs, el, fr, h1, h2, h3, h4, h5, h6, h7⟩ := r
    refine ⟨cs, el, fr, hb.trans h1, h2, h3, fun i v d e1 e2 => (h4 i v d e1 e2).ext h, fun i hi => ?_, fun i hi hl => h.S _ (h6 i hi hl), h7⟩
    obtain ⟨a1, a2, a3⟩ := h5 i hi
    exact ⟨fun e => a1 (hS _ rfl e), fun e => a2 (hN _ rfl e), a3⟩
  | iter s pos =>
    obtain ⟨ba, h1, h2⟩ := r
    exact ⟨ba, hb.trans h1, h2⟩
  | loop l =>
    obtain ⟨L, h1, h2, h3, h4, h5, h6, h7, h8, h9⟩ := r
    exact ⟨L, hb.trans h1, h2, h3, h4.ext h, h5, h6, h7, h8, h9⟩

/-- Where a run began: the world, the blocks of which it may write (beside new ones), the cells that stayed. -/
structure Base where
  w0 : World
  B0 : Nat → Prop
  S0 : Addr → Prop
  N0 : Addr → Prop

def Base.own (z : Base) (b : Nat) : Prop := z.B0 b ∨ z.w0.heap.size ≤ b

structure Inv (z : Base) (g : Gh) (w : World) (st : Sites) : Prop where
  site : ∀ s r o, getR st s = some r → r.obj = some o → ∃ b δ, g.blk s r.ver = some (b, δ) ∧ RelB w g b δ o ∧ z.own b
  apart : ∀ s s' r r' o o' x x', getR st s = some r → getR st s' = some r' → r.obj = some o → r'.obj = some o' → g.blk s r.ver = some x → g.blk s' r'.ver = some x' → s ≠ s' → x.1 ≠ x'.1
  ver : ∀ s v x, g.blk s v = some x → ∃ r, getR st s = some r ∧ v ≤ r.ver
  old : ∀ a, g.S a ∨ g.N a → a.spot = none ∧ ∃ v, w.cell? a = some v
  keep : ∀ b, b < z.w0.heap.size → ¬ z.B0 b → w.heap[b]? = z.w0.heap[b]?
  os : w.os = z.w0.os
  tape : w.tape = z.w0.tape
  output : w.output = z.w0.output
  size : z.w0.heap.size ≤ w.heap.size
  S : ∀ a, g.S a → z.S0 a ∨ z.own a.block
  N : ∀ a, g.N a → z.N0 a
  has : ∀ s v x, g.blk s v = some x → x.1 < w.heap.size

theorem Inv.lt {z : Base} {g : Gh} {w : World} {st : Sites} (h : Inv z g w st) {a : Addr} (ha : g.S a ∨ g.N a) : a.block < w.heap.size := by
  obtain ⟨_, v, hv⟩ := h.old a ha
  exact World.block_lt_of_cell? w a hv

/-- A step that turns one site (or none: 's' none), one old block at most, and lays new blocks. -/
structure Step (z : Base) (g : Gh) (w : World) (st : Sites) (s : Option (Nat × Rec)) (bs : Option Nat) (g' : Gh) (w' : World) : Prop where
  ext : Ext g w g' w'
  blocks : ∀ k, k < w.heap.size → bs ≠ some k → w'.heap[k]? = w.heap[k]?
  size : w.heap.size ≤ w'.heap.size
  own : ∀ b, bs = some b → z.own b ∧ b < w.heap.size
  others : ∀ t r o x, (∀ p, s = some p → t ≠ p.1) → getR st t = some r → r.obj = some o → g.blk t r.ver = some x → bs ≠ some x.1
  S : ∀ a, g'.S a → g.S a ∨ w.heap.size ≤ a.block ∨ bs = some a.block
  N : ∀ a, g'.N a → g.N a
  blk : ∀ t v x, g'.blk t v = some x → g.blk t v = some x ∨ (∃ p, s = some p ∧ t = p.1 ∧ v = p.2.ver)
  site : ∀ p, s = some p → p.1 < maxSite ∧ (∀ r, getR st p.1 = some r → r.ver ≤ p.2.ver) ∧
    ∀ o, p.2.obj = some o → ∃ b δ, g'.blk p.1 p.2.ver = some (b, δ) ∧ RelB w' g' b δ o ∧ (bs = some b ∨ w.heap.size ≤ b)
  old : ∀ a, g'.S a → a.spot = none ∧ ∃ v, w'.cell? a = some v
  os : w'.os = w.os
  tape : w'.tape = w.tape
  output : w'.output = w.output
  has : ∀ p x, s = some p → g'.blk p.1 p.2.ver = some x → x.1 < w'.heap.size

def setO (st : Sites) (s : Option (Nat × Rec)) : Sites := match s with | some p => setS st p.1 p.2 | none => st

theorem getR_setO (st : Sites) (s : Option (Nat × Rec)) (t : Nat) (hs : ∀ p, s = some p → p.1 < maxSite) :
    (∃ p, s = some p ∧ t = p.1 ∧ getR (setO st s) t = some p.2) ∨ ((∀ p, s = some p → t ≠ p.1) ∧ getR (setO st s) t = getR st t) := by
  cases s with
  | none => exact .inr ⟨fun p h => (by cases h), rfl⟩
  | some p =>
    by_cases e : t = p.1
    · exact .inl ⟨p, rfl, e, by simp [setO, getR_setS _ _ _ _ (hs p rfl), e]⟩
    · refine .inr ⟨fun q h => ?_, by simp [setO, getR_setS _ _ _ _ (hs p rfl), e]⟩
      cases h
      exact e

theorem Inv.step {z : Base} {g g' : Gh} {w w' : World} {st : Sites} {s : Option (Nat × Rec)} {bs : Option Nat} (h : Inv z g w st) (k : Step z g w st s bs g' w') : Inv z g' w' (setO st s) := by
  have hmax : ∀ p, s = some p → p.1 < maxSite := fun p e => (k.site p e).1
  -- what stands at another site stays
  have keepB : ∀ t r o b δ, (∀ p, s = some p → t ≠ p.1) → getR st t = some r → r.obj = some o → g.blk t r.ver = some (b, δ) → RelB w g b δ o → RelB w' g' b δ o := by
    intro t r o b δ ht hr ho hb hB
    have hlt : b < w.heap.size := h.has _ _ _ hb
    have hne := k.others t r o (b, δ) ht hr ho hb
    refine hB.ext k.ext (k.blocks b hlt hne) (fun a ha hS => ?_) (fun a ha hN => k.N a hN)
    rcases k.S a hS with h1 | h1 | h1
    · exact h1
    · omega
    · exact absurd (ha ▸ h1) hne
  refine ⟨?_, ?_, ?_, ?_, ?_, k.os.trans h.os, k.tape.trans h.tape, k.output.trans h.output, Nat.le_trans h.size k.size, ?_, fun a ha => h.N a (k.N a ha), ?_⟩
  · intro t r o hr ho
    rcases getR_setO st s t hmax with ⟨p, hp, ht, hg⟩ | ⟨hne, hg⟩
    · rw [hg] at hr
      cases hr
      obtain ⟨b, δ, h1, h2, h3⟩ := (k.site p hp).2.2 o ho
      refine ⟨b, δ, ht ▸ h1, h2, ?_⟩
      rcases h3 with h3 | h3
      · exact (k.own b h3).1
      · exact .inr (Nat.le_trans h.size h3)
    · rw [hg] at hr
      obtain ⟨b, δ, h1, h2, h3⟩ := h.site t r o hr ho
      exact ⟨b, δ, k.ext.blk _ _ _ h1, keepB t r o b δ hne hr ho h1 h2, h3⟩
  · intro t t' r r' o o' x x' hr hr' ho ho' hx hx' hne
    rcases getR_setO st s t hmax with ⟨p, hp, ht, hg⟩ | ⟨hn, hg⟩ <;> rcases getR_setO st s t' hmax with ⟨p', hp', ht', hg'⟩ | ⟨hn', hg'⟩
    · rw [hp] at hp'
      cases hp'
      exact absurd (ht.trans ht'.symm) hne
    · rw [hg] at hr
      cases hr
      rw [hg'] at hr'
      obtain ⟨b, δ, h1, h2, h3⟩ := (k.site p hp).2.2 o ho
      rw [ht, h1] at hx
      cases hx
      obtain ⟨b', δ', a1, a2, a3⟩ := h.site t' r' o' hr' ho'
      rw [k.ext.blk _ _ _ a1] at hx'
      cases hx'
      rcases h3 with h3 | h3
      · exact fun e => k.others t' r' o' (b', δ') hn' hr' ho' a1 (by rw [h3]; exact congrArg some e)
      · have := h.has _ _ _ a1
        exact fun e => by simp at e; simp at this; omega
    · rw [hg'] at hr'
      cases hr'
      rw [hg] at hr
      obtain ⟨b, δ, h1, h2, h3⟩ := (k.site p' hp').2.2 o' ho'
      rw [ht', h1] at hx'
      cases hx'
      obtain ⟨b', δ', a1, a2, a3⟩ := h.site t r o hr ho
      rw [k.ext.blk _ _ _ a1] at hx
      cases hx
      rcases h3 with h3 | h3
      · exact fun e => k.others t r o (b', δ') hn hr ho a1 (by rw [h3]; exact congrArg some e.symm)
      · have := h.has _ _ _ a1
        exact fun e => by simp at e; simp at this; omega
    · rw [hg] at hr
      rw [hg'] at hr'
      obtain ⟨b, δ, a1, a2, a3⟩ := h.site t r o hr ho
      obtain ⟨b', δ', c1, c2, c3⟩ := h.site t' r' o' hr' ho'
      rw [k.ext.blk _ _ _ a1] at hx
      rw [k.ext.blk _ _ _ c1] at hx'
      cases hx
      cases hx'
      exact h.apart t t' r r' o o' _ _ hr hr' ho ho' a1 c1 hne
  · intro t v x hx
    rcases getR_setO st s t hmax with ⟨p, hp, ht, hg⟩ | ⟨hn, hg⟩
    · refine ⟨p.2, hg, ?_⟩
      rcases k.blk t v x hx with h1 | ⟨q, hq, h1, h2⟩
      · obtain ⟨r, hr, hv⟩ := h.ver t v x h1
        exact Nat.le_trans hv ((k.site p hp).2.1 r (ht ▸ hr))
      · rw [hp] at hq
        cases hq
        omega
    · rcases k.blk t v x hx with h1 | ⟨q, hq, h1, h2⟩
      · obtain ⟨r, hr, hv⟩ := h.ver t v x h1
        exact ⟨r, hg.trans hr, hv⟩
      · exact absurd h1 (hn q hq)
  · intro a ha
    rcases ha with ha | ha
    · exact k.old a ha
    · obtain ⟨h1, v, h2⟩ := h.old a (.inr (k.N a ha))
      exact ⟨h1, v, (k.ext.cell a (.inr (k.N a ha))).trans h2⟩
  · intro b hb hB
    have hlt : b < w.heap.size := Nat.lt_of_lt_of_le hb h.size
    refine (k.blocks b hlt (fun e => ?_)).trans (h.keep b hb hB)
    rcases (k.own b e).1 with h1 | h1
    · exact hB h1
    · omega
  · intro a ha
    rcases k.S a ha with h1 | h1 | h1
    · exact h.S a h1
    · exact .inr (.inr (Nat.le_trans h.size h1))
    · exact .inr (k.own _ h1).1
  · intro t v x hx
    rcases k.blk t v x hx with h1 | ⟨q, hq, h1, h2⟩
    · exact Nat.lt_of_lt_of_le (h.has _ _ _ h1) k.size
    · subst h1 h2
      exact k.has q x hq hx

end Go.BI
/- SOUNDNESS OF 'B', third part: operands, and the operations that leave memory as it is. -/
set_option linter.unusedVariables false
set_option linter.unusedSimpArgs false
namespace Go.BI
open Go Go.RowKit

/-! ### Constants and operands -/
theorem constCell_one {c : Value} {x : V} (h : constCell c = some x) : c.oneCell' = true := by
  unfold constCell at h
  split at h <;> first | rfl | cases h

theorem constCell_rel {w : World} {S : Addr → Prop} {c : Value} {x : V} (h : constCell c = some x) : RelV w S c x := by
  unfold constCell at h
  split at h <;> cases h
  · exact .bool _
  · exact .int _ _
  · exact .str _
  · exact .nilp
  · exact .nils 0
  · exact .nilfn
  · exact .nilif

theorem mapM_getElem {α β : Type} {f : α → Option β} {l : List α} {r : List β} (h : l.mapM f = some r) : l.length = r.length ∧ ∀ (i : Nat) a b, l[i]? = some a → r[i]? = some b → f a = some b := by
  induction l generalizing r with
  | nil => simp at h; subst h; simp
  | cons a l ih =>
    simp only [List.mapM_cons, Option.bind_eq_bind, Option.bind_eq_some_iff] at h
    obtain ⟨b, hb, r', hr, e⟩ := h
    simp at e
    subst e
    obtain ⟨h1, h2⟩ := ih hr
    refine ⟨by simp [h1], fun i x y hx hy => ?_⟩
    cases i with
    | zero => simp at hx hy; subst hx hy; exact hb
    | succ i => exact h2 i x y (by simpa using hx) (by simpa using hy)

theorem constV_rel {w : World} {S : Addr → Prop} {c : Value} {x : V} (h : constV c = some x) : RelV w S c x := by
  unfold constV at h
  split at h
  · rename_i cs
    split at h
    · rename_i xs hm
      cases h
      obtain ⟨h1, h2⟩ := mapM_getElem hm
      refine .agg cs xs (by simpa using h1) (fun i v hv => ?_) fun i v x hv hx => constCell_rel (h2 i v x (by simpa using hv) hx)
      have hlt : i < xs.length := by
        have := (Array.getElem?_eq_some_iff.1 hv).1
        rw [← h1]
        simpa using this
      exact constCell_one (h2 i v xs[i] (by simpa using hv) (by simp [hlt]))
    · cases h
  · split at h <;> cases h
    exact .undef _ (by simp)
  · exact constCell_rel h

/-- What the package-level variables hold. -/
def GlobOk (par : Par) (w : World) (g : Gh) : Prop := ∀ i, RelD w g (.pointer (some ⟨i, 0, none⟩)) (.pin true (par.G i))

theorem GlobOk.ext {par : Par} {w w' : World} {g g' : Gh} (h : Ext g w g' w') (k : GlobOk par w g) : GlobOk par w' g' := fun i => (k i).ext h

theorem ev_rel {par : Par} {w : World} {g : Gh} {a : Act} {env : E} (hE : RelE w g a.tmps env) (hG : GlobOk par w g) {x : Operand} {d : D} (h : ev par.G env x = some d) : RelD w g (a.eval x) d := by
  cases x with
  | tmp t =>
    obtain ⟨d', h1, h2⟩ := hE t
    simp only [ev] at h
    rw [h1] at h
    cases h
    exact h2
  | const c =>
    simp only [ev] at h
    split at h <;> cases h
    rename_i x hx
    exact .v _ _ (constV_rel hx)
  | global i => simp only [ev] at h; cases h; exact hG i
  | func f => simp only [ev] at h; cases h; exact .fn f [] [] #[] #[] rfl rfl (by simp) (by simp)

theorem mapEv_rel {par : Par} {w : World} {g : Gh} {a : Act} {env : E} (hE : RelE w g a.tmps env) (hG : GlobOk par w g) {l : List Operand} {ds : List D} (h : mapEv par.G env l = some ds) :
    l.length = ds.length ∧ ∀ (i : Nat) x d, l[i]? = some x → ds[i]? = some d → RelD w g (a.eval x) d := by
  induction l generalizing ds with
  | nil => simp only [mapEv] at h; cases h; simp
  | cons x l ih =>
    simp only [mapEv] at h
    split at h
    · rename_i d hd
      split at h <;> cases h
      rename_i ds' hds
      obtain ⟨h1, h2⟩ := ih hds
      refine ⟨by simp [h1], fun i y e hy he => ?_⟩
      cases i with
      | zero => simp at hy he; subst hy he; exact ev_rel hE hG hd
      | succ i => exact h2 i y e (by simpa using hy) (by simpa using he)
    · cases h

def ekOk (P : Program) (t : TypeId) : EK → Bool
  | .b => match P.underlying t with | some .bool => true | _ => false
  | .i => match P.underlying t with | some (.int _) => true | _ => false
  | .s => match P.underlying t with | some .string => true | _ => false

def fieldsOk (P : Program) : Nat → List Field → List EK → Bool
  | _, [], [] => true
  | k, f :: fs, e :: es => f.name != "_" && f.offset == k && ekOk P f.type e && fieldsOk P (k + 1) fs es
  | _, _, _ => false

/-- May the values of a struct type be compared field by field, its fields being of these kinds? -/
def flatEqP (P : Program) (t : TypeId) (es : List EK) : Bool :=
  match P.underlying t with
  | some (.struct fs) => !P.stoodInHeld t && !P.eqGuardType P.depth t && fieldsOk P 0 fs.toList es
  | _ => false

/-- What is known of the tables. -/
structure TOk (P : Program) (T : Tys) : Prop where
  info : ∀ t i, T t = some i → ∃ inf, P.info? t = some inf ∧ P.underlying t = some i.desc ∧ inf.size = i.size ∧ inf.bytes = i.bytes ∧ ∀ z, i.zero = some z → ∃ v, inf.zero = some v ∧ constV v = some z
  feq : ∀ t i es, T t = some i → i.feq = some es → flatEqP P t es = true
  sub : ∀ t i, T t = some i → (∀ fs, i.desc = .struct fs → ∀ f ∈ fs.toList, (T f.type).isSome = true) ∧ (∀ n e, i.desc = .array n e → (T e).isSome = true)

theorem TOk.und {P : Program} {T : Tys} (h : TOk P T) {t : TypeId} {d : TypeDesc} (e : und T t = some d) : P.underlying t = some d := by
  unfold BI.und at e
  split at e <;> cases e
  rename_i i hi
  obtain ⟨inf, _, h2, _⟩ := h.info t i hi
  exact h2

theorem TOk.cel {P : Program} {T : Tys} (h : TOk P T) {t : TypeId} (e : cel T t ≠ 0) : P.cellsOf t = cel T t := by
  unfold BI.cel at e ⊢
  split
  · rename_i i hi
    obtain ⟨inf, h1, _, h3, _⟩ := h.info t i hi
    simp [Program.cellsOf, h1, h3]
  · rename_i hi
    simp [hi] at e

/-- What an operation is found to do. -/
def Does (P : Program) (x : Sem Next) (z : Base) (g : Gh) (w : World) (d : D) (st' : Sites) : Prop :=
  ∃ v g' w', (x.run P w = .ok (.value v) w' ∨ (x.run P w = .ok .skip w' ∧ v = undef)) ∧ RelD w' g' v d ∧ Ext g w g' w' ∧ Inv z g' w' st'

theorem Does.same {P : Program} {x : Sem Next} {z : Base} {g : Gh} {w : World} {d : D} {st : Sites} (hI : Inv z g w st) {v : Value} (hr : x.run P w = .ok (.value v) w) (hd : RelD w g v d) : Does P x z g w d st :=
  ⟨v, g, w, .inl hr, hd, .refl _ _, hI⟩

section ops
variable {par : Par} {P : Program} {z : Base} {g : Gh} {w : World} {st : Sites} {a : Act} {env : E}

theorem copy_does (hI : Inv z g w st) (hE : RelE w g a.tmps env) (hG : GlobOk par w g) {x : Operand} {d : D} (h : ev par.G env x = some d) :
    Does P (pure (.value (a.eval x))) z g w d st := .same hI rfl (ev_rel hE hG h)

theorem run_v {s : Sem Value} {v : Value} {w w' : World} (h : s.run P w = .ok v w') : (do pure (Next.value (← s)) : Sem Next).run P w = .ok (.value v) w' := by
  simp [Sem.run_bind, h, Result.andThen, go_sem]

theorem pick_does (hI : Inv z g w st) (hE : RelE w g a.tmps env) (hG : GlobOk par w g) {c x y : Operand} {e : Eff} (h : opPick par env c x y = some e) :
    Does P (do pure (.value (if ← asBool (a.eval c) then a.eval x else a.eval y))) z g w e.d st ∧ e.wr = none := by
  unfold opPick at h
  split at h
  · rename_i hc
    have r := ev_rel hE hG hc
    unfold opCopy at h
    split at h <;> cases h
    rename_i d hd
    generalize hv : a.eval c = vc at r ⊢
    cases r with | v _ _ r => cases r with | bool => exact ⟨.same hI (by simp [asBool, go_sem]) (ev_rel hE hG hd), rfl⟩
  · rename_i hc
    have r := ev_rel hE hG hc
    unfold opCopy at h
    split at h <;> cases h
    rename_i d hd
    generalize hv : a.eval c = vc at r ⊢
    cases r with | v _ _ r => cases r with | bool => exact ⟨.same hI (by simp [asBool, go_sem]) (ev_rel hE hG hd), rfl⟩
  · cases h

end ops
end Go.BI
/- SOUNDNESS OF 'B', fourth part: operators, conversions. -/
set_option linter.unusedVariables false
set_option linter.unusedSimpArgs false
namespace Go.BI
open Go Go.RowKit

theorem wrapB_eq (k : IntKind) (n : Int) : wrapB k n = k.wrap n := by
  cases n with
  | ofNat m =>
    cases hb : Nat.blt m (limB k) with
    | false => simp only [wrapB, hb]
    | true =>
      have hlt : m < limB k := by simpa [Nat.blt_eq] using hb
      simp only [wrapB, hb]
      cases k <;> simp [IntKind.wrap, limB, IntKind.bits, IntKind.signed] at hlt ⊢ <;> omega
  | negSucc m => rfl

section
variable {P : Program} {w : World} {S : Addr → Prop} {g : Gh}

theorem shOp_run {op : BinOp} {t : TypeId} {k k' : IntKind} {a b : Int} {x : V} (ho : op = .shl ∨ op = .shr) (h : shOp op k a b = some x) :
    ∃ v, (binOp op t (.int k a) (.int k' b)).run P w = .ok v w ∧ RelV w S v x := by
  unfold shOp at h
  split at h
  · cases h
  · rename_i hb
    rcases ho with rfl | rfl <;> simp only [Option.some.injEq] at h <;> subst h
    · exact ⟨_, by simp [binOp, Op.shift, hb, go_sem, wrapB_eq], .int k _⟩
    · exact ⟨_, by simp [binOp, Op.shift, hb, go_sem], .int k _⟩

theorem intOp_run {op : BinOp} {t : TypeId} {k : IntKind} {a b : Int} {x : V} (h : intOp op k a b = some x) :
    ∃ v, (binOp op t (.int k a) (.int k b)).run P w = .ok v w ∧ RelV w S v x := by
  cases op
  case add => simp only [intOp, Option.some.injEq] at h; subst h; exact ⟨_, by simp [binOp, Op.intArith, go_sem, wrapB_eq], .int k _⟩
  case sub => simp only [intOp, Option.some.injEq] at h; subst h; exact ⟨_, by simp [binOp, Op.intArith, go_sem, wrapB_eq], .int k _⟩
  case mul => simp only [intOp, Option.some.injEq] at h; subst h; exact ⟨_, by simp [binOp, Op.intArith, go_sem, wrapB_eq], .int k _⟩
  case quo =>
    simp only [intOp] at h
    split at h <;> cases h
    rename_i hb
    exact ⟨_, by simp [binOp, Op.intDiv, hb, go_sem, wrapB_eq], .int k _⟩
  case rem =>
    simp only [intOp] at h
    split at h <;> cases h
    rename_i hb
    exact ⟨_, by simp [binOp, Op.intDiv, hb, go_sem, wrapB_eq], .int k _⟩
  case and => simp only [intOp, Option.some.injEq] at h; subst h; exact ⟨_, by simp [binOp, Op.intBits, go_sem, wrapB_eq], .int k _⟩
  case or => simp only [intOp, Option.some.injEq] at h; subst h; exact ⟨_, by simp [binOp, Op.intBits, go_sem, wrapB_eq], .int k _⟩
  case xor => simp only [intOp, Option.some.injEq] at h; subst h; exact ⟨_, by simp [binOp, Op.intBits, go_sem, wrapB_eq], .int k _⟩
  case andNot => simp only [intOp, Option.some.injEq] at h; subst h; exact ⟨_, by simp [binOp, Op.intBits, go_sem, wrapB_eq], .int k _⟩
  case eql => simp only [intOp, Option.some.injEq] at h; subst h; exact ⟨_, by simp [binOp, Op.intCmp, go_sem], .bool _⟩
  case neq => simp only [intOp, Option.some.injEq] at h; subst h; exact ⟨_, by simp [binOp, Op.intCmp, go_sem], .bool _⟩
  case lss => simp only [intOp, Option.some.injEq] at h; subst h; exact ⟨_, by simp [binOp, Op.intCmp, go_sem], .bool _⟩
  case leq => simp only [intOp, Option.some.injEq] at h; subst h; exact ⟨_, by simp [binOp, Op.intCmp, go_sem], .bool _⟩
  case gtr => simp only [intOp, Option.some.injEq] at h; subst h; exact ⟨_, by simp [binOp, Op.intCmp, go_sem], .bool _⟩
  case geq => simp only [intOp, Option.some.injEq] at h; subst h; exact ⟨_, by simp [binOp, Op.intCmp, go_sem], .bool _⟩
  all_goals (simp [intOp] at h)

theorem intD_run {op : BinOp} {t : TypeId} {k k' : IntKind} {a b : Int} {x : V} (h : intD op k k' a b = some x) :
    ∃ v, (binOp op t (.int k a) (.int k' b)).run P w = .ok v w ∧ RelV w S v x := by
  unfold intD at h
  split at h
  · exact shOp_run (.inl rfl) h
  · exact shOp_run (.inr rfl) h
  · split at h
    · rename_i e
      subst e
      exact intOp_run h
    · cases h

theorem strOp_run {op : BinOp} {t : TypeId} {a b : ByteArray} {x : V} (h : strOp op a.data.toList b.data.toList = some x) :
    ∃ v, (binOp op t (.string a) (.string b)).run P w = .ok v w ∧ RelV w S v x := by
  have e1 : a.toList = a.data.toList := ByteArray.toList_eq _
  have e2 : b.toList = b.data.toList := ByteArray.toList_eq _
  cases op
  case add =>
    simp only [strOp] at h
    split at h <;> cases h
    rename_i hb
    refine ⟨.string (a ++ b), ?_, ?_⟩
    · have : ¬ ((a.size + b.size : Nat) : Int) > IntKind.i64.max := by
        simp only [big40] at hb
        have e1 : a.data.toList.length = a.size := by rw [Array.length_toList]; rfl
        have e2 : b.data.toList.length = b.size := by rw [Array.length_toList]; rfl
        simp [IntKind.max, IntKind.bits, IntKind.signed]
        omega
      simp only [binOp, Op.stringOp, if_neg this]
      rfl
    · have := RelV.str (w := w) (S := S) (a ++ b)
      simpa using this
  case eql => simp only [strOp, Option.some.injEq] at h; subst h; exact ⟨_, by simp only [binOp, Op.stringOp, e1, e2]; rfl, .bool _⟩
  case neq => simp only [strOp, Option.some.injEq] at h; subst h; exact ⟨_, by simp only [binOp, Op.stringOp, e1, e2]; rfl, .bool _⟩
  case lss => simp only [strOp, Option.some.injEq] at h; subst h; exact ⟨_, by simp only [binOp, Op.stringOp, e1, e2]; rfl, .bool _⟩
  case leq => simp only [strOp, Option.some.injEq] at h; subst h; exact ⟨_, by simp only [binOp, Op.stringOp, e1, e2]; rfl, .bool _⟩
  case gtr => simp only [strOp, Option.some.injEq] at h; subst h; exact ⟨_, by simp only [binOp, Op.stringOp, e1, e2]; rfl, .bool _⟩
  case geq => simp only [strOp, Option.some.injEq] at h; subst h; exact ⟨_, by simp only [binOp, Op.stringOp, e1, e2]; rfl, .bool _⟩
  all_goals (simp [strOp] at h)

end
end Go.BI
/- SOUNDNESS OF 'B', fifth part: comparisons. -/
set_option linter.unusedVariables false
set_option linter.unusedSimpArgs false
namespace Go.BI
open Go Go.RowKit

section
variable {P : Program} {T : Tys} {w : World} {g : Gh}

theorem eqPtr_run {d : Nat} {t e : TypeId} {vx vy : Value} {x y : D} {b : Bool} (hT : TOk P T) (hu : P.underlying t = some (.pointer e)) (hx : RelD w g vx x) (hy : RelD w g vy y) (h : eqPtr T e x y = some b) :
    (Op.equalIn (d + 1) t vx vy).run P w = .ok b w := by
  unfold eqPtr at h
  split at h
  · obtain rfl := hx.toV.nilp_eq
    split at h <;> cases h
    · obtain rfl := hy.toV.nilp_eq
      simp [Op.equalIn, run_underlying hu]
    · cases hy
      simp [Op.equalIn, run_underlying hu]
    · cases hy
      simp [Op.equalIn, run_underlying hu]
  · obtain ⟨bk, δ, hb, rfl⟩ := hx.ptr_eq
    split at h
    · cases h
      obtain rfl := hy.toV.nilp_eq
      simp [Op.equalIn, run_underlying hu]
    · split at h <;> cases h
      rename_i hc
      obtain ⟨rfl, rfl, rfl, hs⟩ := hc
      obtain ⟨bk', δ', hb', rfl⟩ := hy.ptr_eq
      rw [hb] at hb'
      cases hb'
      cases hi : T e with
      | none => simp [hi] at hs
      | some i =>
        obtain ⟨inf, h1, _⟩ := hT.info e i hi
        by_cases hz : inf.size = 0
        · simp [Op.equalIn, run_underlying hu, sizeOf, typeInfo, h1, hz, go_sem]
        · simp [Op.equalIn, run_underlying hu, sizeOf, typeInfo, h1, hz, go_sem, sameAddr]
    · cases h
  · cases hx
    split at h <;> cases h
    obtain rfl := hy.toV.nilp_eq
    simp [Op.equalIn, run_underlying hu]
  · cases h

theorem eqPtr_shape {e : TypeId} {vx : Value} {x y : D} {b : Bool} (hx : RelD w g vx x) (h : eqPtr T e x y = some b) : vx ≠ .nilIface ∧ ∀ cs, vx ≠ .agg cs := by
  unfold eqPtr at h
  split at h
  · obtain rfl := hx.toV.nilp_eq
    simp
  · obtain ⟨bk, δ, hb, rfl⟩ := hx.ptr_eq
    simp
  · cases hx
    simp
  · cases h

theorem relV_slice {S : Addr → Prop} {v : Value} {nl : Bool} {sz : Nat} {xs : List V} (h : RelV w S v (.slice nl sz xs)) :
    (nl = true ∧ v = .slice none 0 0 ∧ xs = []) ∨ (nl = false ∧ ∃ a len cap, v = .slice (some a) len cap ∧ xs.length = len ∧ len ≤ cap) := by
  cases h with
  | nils sz => exact .inl ⟨rfl, rfl, rfl⟩
  | slice a len cap sz xs val h1 h2 h3 h4 h5 h6 h7 => exact .inr ⟨rfl, a, len, cap, rfl, h1, h2⟩

theorem relD_full {v : Value} {nl : Bool} {sz : Nat} {xs : List V} (h : RelD w g v (.full nl sz xs)) : RelV w g.S v (.slice nl sz xs) ∧ ∃ a, v = .slice a xs.length xs.length := by
  cases h; exact ⟨by assumption, by assumption⟩

theorem eqSl_run {d : Nat} {t e : TypeId} {vx vy : Value} {x y : D} {b : Bool} (hu : P.underlying t = some (.slice e)) (hx : RelD w g vx x) (hy : RelD w g vy y) (h : eqSl x y = some b) :
    (Op.equalIn (d + 1) t vx vy).run P w = .ok b w := by
  unfold eqSl at h
  split at h
  · rcases relV_slice hx.toV with ⟨_, rfl, _⟩ | ⟨h0, _⟩
    · split at h <;> cases h
      · rcases relV_slice hy.toV with ⟨rfl, rfl, _⟩ | ⟨rfl, a, len, cap, rfl, _⟩ <;> simp [Op.equalIn, run_underlying hu]
      · cases hy
        simp [Op.equalIn, run_underlying hu]
      · rcases relV_slice (relD_full hy).1 with ⟨rfl, rfl, _⟩ | ⟨rfl, a, len, cap, rfl, _⟩ <;> simp [Op.equalIn, run_underlying hu]
    · cases h0
  · rcases relV_slice hx.toV with ⟨h0, _⟩ | ⟨_, a, len, cap, rfl, _⟩
    · cases h0
    · split at h <;> cases h
      rcases relV_slice hy.toV with ⟨_, rfl, _⟩ | ⟨h0, _⟩
      · simp [Op.equalIn, run_underlying hu]
      · cases h0
  · cases hx
    split at h <;> cases h
    rcases relV_slice hy.toV with ⟨_, rfl, _⟩ | ⟨h0, _⟩
    · simp [Op.equalIn, run_underlying hu]
    · cases h0
  · have hx' := (relD_full hx).1
    split at h <;> cases h
    rcases relV_slice hy.toV with ⟨_, rfl, _⟩ | ⟨h0, _⟩
    · rcases relV_slice hx' with ⟨rfl, rfl, _⟩ | ⟨rfl, a, len, cap, rfl, _⟩ <;> simp [Op.equalIn, run_underlying hu]
    · cases h0
  · cases h

theorem eqSl_shape {vx : Value} {x y : D} {b : Bool} (hx : RelD w g vx x) (h : eqSl x y = some b) : vx ≠ .nilIface ∧ ∀ cs, vx ≠ .agg cs := by
  unfold eqSl at h
  split at h
  · rcases relV_slice hx.toV with ⟨_, rfl, _⟩ | ⟨h0, _⟩
    · simp
    · cases h0
  · rcases relV_slice hx.toV with ⟨h0, _⟩ | ⟨_, a, len, cap, rfl, _⟩
    · cases h0
    · simp
  · cases hx
    simp
  · obtain ⟨_, a, rfl⟩ := relD_full hx
    simp
  · cases h

theorem eqIf_run {d : Nat} {t : TypeId} {ms : Array (String × TypeId)} {vx vy : Value} {x y : D} {b cst : Bool} (hu : P.underlying t = some (.interface ms)) (hx : RelD w g vx x) (hy : RelD w g vy y) (h : eqIf cst x y = some b) :
    (Op.equalIn (d + 1) t vx vy).run P w = .ok b w ∧ (vx = .nilIface → vy = .nilIface → cst = true) ∧ (∀ cs, vx ≠ .agg cs) := by
  unfold eqIf at h
  split at h
  · obtain rfl := hx.toV.nilif_eq
    split at h
    · split at h <;> cases h
      rename_i hc
      obtain rfl := hy.toV.nilif_eq
      simp [Op.equalIn, run_underlying hu, hc]
    · cases h
      obtain ⟨u, rfl, _⟩ := hy.toV.iface_eq
      simp [Op.equalIn, run_underlying hu]
    · cases h
      obtain ⟨_, u, rfl⟩ := hy.toV.ifany_eq
      simp [Op.equalIn, run_underlying hu]
    · cases h
  · obtain ⟨u, rfl, _⟩ := hx.toV.iface_eq
    split at h <;> cases h
    obtain rfl := hy.toV.nilif_eq
    simp [Op.equalIn, run_underlying hu]
  · obtain ⟨_, u, rfl⟩ := hx.toV.ifany_eq
    split at h <;> cases h
    obtain rfl := hy.toV.nilif_eq
    simp [Op.equalIn, run_underlying hu]
  · cases h

theorem eqFn_run {d : Nat} {t : TypeId} {p r : Array TypeId} {q : Bool} {vx vy : Value} {x y : D} {b : Bool} (hu : P.underlying t = some (.func p r q)) (hx : RelD w g vx x) (hy : RelD w g vy y) (h : eqFn x y = some b) :
    (Op.equalIn (d + 1) t vx vy).run P w = .ok b w ∧ (vx ≠ .nilIface) ∧ (∀ cs, vx ≠ .agg cs) := by
  unfold eqFn at h
  split at h
  · obtain rfl := hx.toV.nilfn_eq
    split at h <;> cases h
    · obtain rfl := hy.toV.nilfn_eq
      simp [Op.equalIn, run_underlying hu]
    · cases hy
      simp [Op.equalIn, run_underlying hu]
    · cases hy
      simp [Op.equalIn, run_underlying hu]
  · cases hx
    split at h <;> cases h
    obtain rfl := hy.toV.nilfn_eq
    simp [Op.equalIn, run_underlying hu]
  · cases hx
    split at h <;> cases h
    obtain rfl := hy.toV.nilfn_eq
    simp [Op.equalIn, run_underlying hu]
  · cases h

/-- Struct values, cell by cell. -/
theorem eqCell_run {S : Addr → Prop} (d : Nat) {t : TypeId} {e : EK} {vx vy : Value} {x y : V} {q : Bool} (hk : ekOk P t e = true) (hx : RelV w S vx x) (hy : RelV w S vy y) (h : eqCell e x y = some q) :
    (Op.equalIn (d + 1) t vx vy).run P w = .ok q w ∧ (isAgg t).run P w = .ok false w := by
  unfold eqCell at h
  split at h
  · cases h
    obtain rfl := hx.bool_eq
    obtain rfl := hy.bool_eq
    simp only [ekOk] at hk
    split at hk
    · rename_i hu
      exact ⟨run_equalIn_bool' w d _ _ _ hu, by simp [isAgg, Sem.run_bind, run_underlying hu, Result.andThen, go_sem]⟩
    · cases hk
  · split at h <;> cases h
    rename_i hkk
    subst hkk
    obtain rfl := hx.int_eq
    obtain rfl := hy.int_eq
    simp only [ekOk] at hk
    split at hk
    · rename_i hu
      exact ⟨run_equalIn_int w d _ _ _ _ _ hu, by simp [isAgg, Sem.run_bind, run_underlying hu, Result.andThen, go_sem]⟩
    · cases hk
  · cases h
    obtain ⟨bx, rfl, rfl⟩ := hx.str_eq
    obtain ⟨by', rfl, rfl⟩ := hy.str_eq
    simp only [ekOk] at hk
    split at hk
    · rename_i hu
      refine ⟨?_, by simp [isAgg, Sem.run_bind, run_underlying hu, Result.andThen, go_sem]⟩
      have := run_equalIn_string (P := P) w d t bx by' hu
      rwa [ByteArray.toList_eq, ByteArray.toList_eq] at this
    · cases hk
  · cases h

theorem eqFields_run {S : Addr → Prop} (d : Nat) (xs ys : Array Value) : ∀ (fs : List Field) (es : List EK) (k : Nat) (a b : List V) (r : Bool), fieldsOk P k fs es = true →
    (∀ (i : Nat) x, a[i]? = some x → ∃ v, xs[k + i]? = some v ∧ RelV w S v x) → (∀ (i : Nat) x, b[i]? = some x → ∃ v, ys[k + i]? = some v ∧ RelV w S v x) →
    eqCells es a b = some r → (Op.eqFields (d + 1) xs ys fs).run P w = .ok r w := by
  intro fs
  induction fs with
  | nil =>
    intro es k a b r hf _ _ h
    cases es with
    | cons _ _ => simp [fieldsOk] at hf
    | nil =>
      cases a <;> cases b <;> simp only [eqCells] at h <;> cases h
      simp [Op.eqFields]
  | cons f fs ih =>
    intro es k a b r hf hxa hyb h
    cases es with
    | nil => simp [fieldsOk] at hf
    | cons e es =>
      cases a with
      | nil => simp [eqCells] at h
      | cons x a =>
        cases b with
        | nil => simp [eqCells] at h
        | cons y b =>
          simp only [fieldsOk, Bool.and_eq_true, bne_iff_ne, ne_eq, beq_iff_eq] at hf
          obtain ⟨⟨⟨hn, ho⟩, hk⟩, hall⟩ := hf
          obtain ⟨vx, h1, h2⟩ := hxa 0 x rfl
          obtain ⟨vy, h3, h4⟩ := hyb 0 y rfl
          simp only [Nat.add_zero] at h1 h3
          have hxa' : ∀ (i : Nat) x, a[i]? = some x → ∃ v, xs[k + 1 + i]? = some v ∧ RelV w S v x := fun i x hx => by
            have := hxa (i + 1) x (by simpa using hx)
            rwa [show k + (i + 1) = k + 1 + i from by omega] at this
          have hyb' : ∀ (i : Nat) x, b[i]? = some x → ∃ v, ys[k + 1 + i]? = some v ∧ RelV w S v x := fun i x hx => by
            have := hyb (i + 1) x (by simpa using hx)
            rwa [show k + (i + 1) = k + 1 + i from by omega] at this
          simp only [eqCells] at h
          cases hq : eqCell e x y with
          | none => simp [hq] at h
          | some q =>
            obtain ⟨hone, hagg⟩ := eqCell_run (P := P) (w := w) d hk h2 h4 hq
            have hpx : (part f.type xs f.offset).run P w = .ok vx w := by
              unfold part
              simp [Sem.run_bind, hagg, Result.andThen, ho, h1, go_sem]
            have hpy : (part f.type ys f.offset).run P w = .ok vy w := by
              unfold part
              simp [Sem.run_bind, hagg, Result.andThen, ho, h3, go_sem]
            simp only [Op.eqFields, ne_eq, hn, not_false_eq_true, if_true, Sem.run_bind, hpx, hpy, hone, Result.andThen_ok]
            rw [hq] at h
            cases q with
            | false => cases h; simp
            | true =>
              simp only at h
              simpa using ih es (k + 1) a b r hall hxa' hyb' h

/-- '==' of whatever the interpreter compares; and the guard ahead of it. -/
theorem eqD_run {t : TypeId} {vx vy : Value} {x y : D} {b cst : Bool} (hT : TOk P T) (hx : RelD w g vx x) (hy : RelD w g vy y) (h : eqD T t cst x y = some b) :
    (Op.equal t vx vy).run P w = .ok b w ∧ (vx = .nilIface → vy = .nilIface → cst = true) ∧ (∀ cs cs', vx = .agg cs → vy = .agg cs' → P.eqGuardType P.depth t = false) := by
  unfold Op.equal
  unfold eqD at h
  split at h
  · rename_i hu
    have hu := hT.und hu
    split at h <;> cases h
    obtain rfl := hx.toV.bool_eq
    obtain rfl := hy.toV.bool_eq
    exact ⟨run_equalIn_bool' w 9999 _ _ _ hu, by simp, by simp⟩
  · rename_i hu
    have hu := hT.und hu
    obtain ⟨h2, h3⟩ := eqPtr_shape hx h
    exact ⟨eqPtr_run (d := 9999) hT hu hx hy h, fun e => absurd e h2, fun cs _ e => absurd e (h3 cs)⟩
  · rename_i hu
    have hu := hT.und hu
    obtain ⟨h2, h3⟩ := eqSl_shape hx h
    exact ⟨eqSl_run (d := 9999) hu hx hy h, fun e => absurd e h2, fun cs _ e => absurd e (h3 cs)⟩
  · rename_i hu
    have hu := hT.und hu
    obtain ⟨h1, h2, h3⟩ := eqIf_run (d := 9999) hu hx hy h
    exact ⟨h1, h2, fun cs _ e => absurd e (h3 cs)⟩
  · rename_i hu
    have hu := hT.und hu
    obtain ⟨h1, h2, h3⟩ := eqFn_run (d := 9999) hu hx hy h
    exact ⟨h1, fun e => absurd e h2, fun cs _ e => absurd e (h3 cs)⟩
  · rename_i fs hu
    have hu := hT.und hu
    split at h
    · split at h
      · rename_i es he
        obtain ⟨xs, rfl, hxl, hxs⟩ := hx.toV.agg_eq
        obtain ⟨ys, rfl, hyl, hys⟩ := hy.toV.agg_eq
        unfold flatEq at he
        split at he
        · rename_i i hi
          have hf := hT.feq t i es hi he
          unfold flatEqP at hf
          rw [hu] at hf
          simp only [Bool.and_eq_true, Bool.not_eq_true'] at hf
          obtain ⟨⟨h1, h2⟩, h3⟩ := hf
          have hfo : P.fieldsOf t = fs := by simp [Program.fieldsOf, hu]
          refine ⟨?_, by simp, fun _ _ _ _ => h2⟩
          rw [show Op.maxDepth = 9998 + 1 + 1 from rfl, run_equalIn_struct w _ t xs ys (by rw [hfo]; exact hu) h1, hfo]
          refine eqFields_run (S := g.S) 9998 xs ys fs.toList es 0 _ _ b h3 (fun i x hx => ?_) (fun i x hx => ?_) h
          · have hlt : i < xs.size := by rw [hxl]; exact (List.getElem?_eq_some_iff.1 hx).1
            exact ⟨xs[i], by simp [hlt], hxs i _ _ (by simp [hlt]) hx⟩
          · have hlt : i < ys.size := by rw [hyl]; exact (List.getElem?_eq_some_iff.1 hx).1
            exact ⟨ys[i], by simp [hlt], hys i _ _ (by simp [hlt]) hx⟩
        · cases he
      · cases h
    · cases h
  · cases h
end
end Go.BI
/- SOUNDNESS OF 'B', sixth part: cells and parts; the operations that only read. -/
set_option linter.unusedVariables false
set_option linter.unusedSimpArgs false
namespace Go.BI
open Go Go.RowKit

theorem cells_of_not_agg {v : Value} (h : ∀ cs, v ≠ .agg cs) : v.cells = #[v] := by
  cases v <;> first | rfl | (exact absurd rfl (h _))

theorem RelV.cells {w : World} {S : Addr → Prop} {v : Value} {x : V} (h : RelV w S v x) :
    v.cells.size = x.cells.length ∧ ∀ (i : Nat) u y, v.cells[i]? = some u → x.cells[i]? = some y → RelV w S u y := by
  have one : v.cells = #[v] → x.cells = [x] → v.cells.size = x.cells.length ∧ ∀ (i : Nat) u y, v.cells[i]? = some u → x.cells[i]? = some y → RelV w S u y := by
    intro e1 e2
    rw [e1, e2]
    refine ⟨rfl, fun i u y hu hy => ?_⟩
    cases i with
    | zero => simp at hu hy; subst hu hy; exact h
    | succ i => simp at hu
  cases h with
  | undef v h => exact one (cells_of_not_agg h) rfl
  | agg vs cs hl h1 h2 => exact ⟨hl, h2⟩
  | _ => exact one rfl rfl

theorem RelD.cells {w : World} {g : Gh} {v : Value} {d : D} (h : RelD w g v d) :
    v.cells.size = d.cells.length ∧ ∀ (i : Nat) u y, v.cells[i]? = some u → d.cells[i]? = some y → RelD w g u y := by
  have one : v.cells = #[v] → d.cells = [d] → v.cells.size = d.cells.length ∧ ∀ (i : Nat) u y, v.cells[i]? = some u → d.cells[i]? = some y → RelD w g u y := by
    intro e1 e2
    rw [e1, e2]
    refine ⟨rfl, fun i u y hu hy => ?_⟩
    cases i with
    | zero => simp at hu hy; subst hu hy; exact h
    | succ i => simp at hu
  cases h with
  | v v x hx =>
    obtain ⟨h1, h2⟩ := hx.cells
    refine ⟨by simp [D.cells, h1], fun i u y hu hy => ?_⟩
    simp only [D.cells, List.getElem?_map, Option.map_eq_some_iff] at hy
    obtain ⟨z, hz, rfl⟩ := hy
    exact .v _ _ (h2 i u z hu hz)
  | agg vs cs hl h1 h2 => exact ⟨hl, h2⟩
  | full v nl sz xs hv hf => obtain ⟨a, rfl⟩ := hf; exact one rfl rfl
  | _ => exact one rfl rfl

theorem RelV.one {w : World} {S : Addr → Prop} {v : Value} {x : V} (h : RelV w S v x) (ho : oneD (.v x) = true) : ∀ (i : Nat) u, v.cells[i]? = some u → u.oneCell' = true := by
  have one : v.cells = #[v] → v.oneCell' = true → ∀ (i : Nat) u, v.cells[i]? = some u → u.oneCell' = true := by
    intro e1 e2 i u hu
    rw [e1] at hu
    cases i with
    | zero => simp at hu; subst hu; exact e2
    | succ i => simp at hu
  cases h with
  | undef v h => simp [oneD] at ho
  | agg vs cs hl h1 h2 => exact h1
  | tup vs cs hl h1 => simp [oneD] at ho
  | _ => exact one rfl rfl

theorem RelD.one {w : World} {g : Gh} {v : Value} {d : D} (h : RelD w g v d) (ho : oneD d = true) : ∀ (i : Nat) u, v.cells[i]? = some u → u.oneCell' = true := by
  have one : v.cells = #[v] → v.oneCell' = true → ∀ (i : Nat) u, v.cells[i]? = some u → u.oneCell' = true := by
    intro e1 e2 i u hu
    rw [e1] at hu
    cases i with
    | zero => simp at hu; subst hu; exact e2
    | succ i => simp at hu
  cases h with
  | v v x hx => exact hx.one ho
  | agg vs cs hl h1 h2 => exact h1
  | tup vs cs hl h1 => simp [oneD] at ho
  | full v nl sz xs hv hf => obtain ⟨a, rfl⟩ := hf; exact one rfl rfl
  | _ => exact one rfl rfl

theorem allV_eq {ds : List D} {xs : List V} (h : allV ds = some xs) : ds = xs.map .v := by
  induction ds generalizing xs with
  | nil => simp only [allV] at h; cases h; rfl
  | cons d r ih =>
    cases d with
    | v x =>
      simp only [allV] at h
      split at h <;> cases h
      rename_i ys hy
      simp [ih hy]
    | _ => simp [allV] at h

theorem allV_map (xs : List V) : allV (xs.map .v) = some xs := by
  induction xs with
  | nil => rfl
  | cons x r ih => simp [allV, ih]

/-- An aggregate's cells, each what it is. -/
structure Cells (w : World) (g : Gh) (vs : Array Value) (ds : List D) : Prop where
  size : vs.size = ds.length
  one : ∀ (i : Nat) v, vs[i]? = some v → v.oneCell' = true
  rel : ∀ (i : Nat) v x, vs[i]? = some v → ds[i]? = some x → RelD w g v x

theorem Cells.of {w : World} {g : Gh} {v : Value} {d : D} (h : RelD w g v d) (ho : oneD d = true) : Cells w g v.cells d.cells := ⟨h.cells.1, h.one ho, h.cells.2⟩

theorem mkAgg_rel {w : World} {g : Gh} {vs : Array Value} {ds : List D} (h : Cells w g vs ds) : RelD w g (.agg vs) (mkAgg ds) := by
  unfold mkAgg
  split
  · rename_i xs hx
    obtain rfl := allV_eq hx
    refine .v _ _ (.agg vs xs (by simpa using h.size) h.one fun i v x hv hx => ?_)
    exact (h.rel i v (.v x) hv (by simp [hx])).toV
  · exact .agg vs ds h.size h.one h.rel

theorem Cells.ext {w w' : World} {g g' : Gh} (e : Ext g w g' w') {vs : Array Value} {ds : List D} (h : Cells w g vs ds) : Cells w' g' vs ds := ⟨h.size, h.one, fun i v x a b => (h.rel i v x a b).ext e⟩

theorem aggD_rel {w : World} {g : Gh} {v : Value} {cs : List D} (h : RelD w g v (.agg cs)) : ∃ vs, v = .agg vs ∧ Cells w g vs cs := by
  cases h with | agg vs cs hl h1 h2 => exact ⟨vs, rfl, hl, h1, h2⟩

theorem aggV_rel {w : World} {g : Gh} {v : Value} {cs : List V} (h : RelD w g v (.v (.agg cs))) : ∃ vs, v = .agg vs ∧ Cells w g vs (cs.map .v) := by
  obtain ⟨vs, rfl, hl, h2⟩ := h.toV.agg_eq
  refine ⟨vs, rfl, by simpa using hl, h.toV.agg_one, fun i v x hv hx => ?_⟩
  simp only [List.getElem?_map, Option.map_eq_some_iff] at hx
  obtain ⟨z, hz, rfl⟩ := hx
  exact .v _ _ (h2 i v z hv hz)

section
variable {P : Program} {T : Tys} {w : World} {g : Gh}

theorem TOk.size (hT : TOk P T) {t : TypeId} {d : TypeDesc} (h : BI.und T t = some d) (w : World) : (sizeOf t).run P w = .ok (BI.cel T t) w := by
  unfold BI.und at h
  split at h <;> cases h
  rename_i i hi
  obtain ⟨inf, h1, h2, h3, _⟩ := hT.info t i hi
  simp [sizeOf, typeInfo, h1, h3, BI.cel, hi, go_sem]

theorem TOk.size' (hT : TOk P T) {t : TypeId} (h : BI.cel T t ≠ 0) (w : World) : (sizeOf t).run P w = .ok (BI.cel T t) w := by
  unfold BI.cel at h
  split at h
  · rename_i i hi
    have := hT.size (t := t) (d := i.desc) (by simp [BI.und, hi]) w
    simpa [BI.cel, hi] using this
  · exact absurd rfl h

def aggDesc : TypeDesc → Bool
  | .struct _ => true
  | .array _ _ => true
  | _ => false

theorem isAgg_run {t : TypeId} {d : TypeDesc} (h : P.underlying t = some d) (w : World) : (isAgg t).run P w = .ok (aggDesc d) w := by
  cases d <;> simp [isAgg, run_underlying h, aggDesc, go_sem]

theorem extract_get (vs : Array Value) (off n i : Nat) (h : off + n ≤ vs.size) : (vs.extract off (off + n))[i]? = if i < n then vs[off + i]? else none := by
  rw [Array.getElem?_extract]
  split <;> rename_i h1
  · rw [if_pos (by omega)]
  · rw [if_neg (by omega)]

theorem Cells.sub {vs : Array Value} {ds : List D} (h : Cells w g vs ds) {off n : Nat} (hl : off + n ≤ ds.length) : Cells w g (vs.extract off (off + n)) ((ds.drop off).take n) := by
  have hs := h.size
  refine ⟨by simp; omega, fun i v hv => ?_, fun i v x hv hx => ?_⟩
  · rw [extract_get _ _ _ _ (by omega)] at hv
    split at hv
    · exact h.one _ _ hv
    · cases hv
  · rw [extract_get _ _ _ _ (by omega)] at hv
    split at hv
    · rename_i hi
      rw [List.getElem?_take, if_pos hi, List.getElem?_drop] at hx
      exact h.rel _ _ _ hv hx
    · cases hv

theorem partD_run (hT : TOk P T) {t : TypeId} {vs : Array Value} {ds : List D} {off : Nat} {d : D} (h : Cells w g vs ds) (hp : partD T t ds off = some d) :
    ∃ v, (part t vs off).run P w = .ok v w ∧ RelD w g v d := by
  unfold partD at hp
  have agg : ∀ {k : TypeDesc}, und T t = some k → aggDesc k = true → (if off + BI.cel T t ≤ ds.length then some (mkAgg ((ds.drop off).take (BI.cel T t))) else none) = some d → ∃ v, (part t vs off).run P w = .ok v w ∧ RelD w g v d := by
    intro k hu hk hp
    split at hp <;> cases hp
    rename_i hl
    refine ⟨.agg (vs.extract off (off + BI.cel T t)), ?_, mkAgg_rel (h.sub hl)⟩
    simp [part, isAgg_run (hT.und hu), hk, hT.size hu, go_sem]
  split at hp
  · rename_i hu; exact agg hu rfl hp
  · rename_i hu; exact agg hu rfl hp
  · rename_i k h1 h2 hu
    have hlt : off < vs.size := by rw [h.size]; exact (List.getElem?_eq_some_iff.1 hp).1
    refine ⟨vs[off], ?_, h.rel off _ _ (by simp [hlt]) hp⟩
    have hk : aggDesc k = false := by
      cases k <;> first | rfl | (exact absurd rfl (h1 _)) | (exact absurd rfl (h2 _ _))
    simp [part, isAgg_run (hT.und hu), hk, hlt, go_sem]
  · cases hp

theorem partV_D {t : TypeId} {cs : List V} {off : Nat} {x : V} (h : partV T t cs off = some x) : partD T t (cs.map .v) off = some (.v x) := by
  unfold partV at h
  unfold partD
  split at h
  · split at h <;> cases h
    rename_i hl
    simp only [List.length_map, hl, if_true, Option.some.injEq, mkAgg, ← List.map_drop, ← List.map_take, allV_map]
  · split at h <;> cases h
    rename_i hl
    simp only [List.length_map, hl, if_true, Option.some.injEq, mkAgg, ← List.map_drop, ← List.map_take, allV_map]
  · simp only [List.getElem?_map, h, Option.map_some]
  · cases h

theorem add_add (a : Addr) (h : a.spot = none) (i j : Nat) : (a.add i).add j = a.add (i + j) := by
  obtain ⟨b, o, s⟩ := a
  simp only at h
  subst h
  unfold Addr.add
  by_cases h1 : i = 0 <;> by_cases h2 : j = 0 <;> simp [h1, h2, Nat.add_assoc]

theorem add_at (b o i : Nat) : (⟨b, o, none⟩ : Addr).add i = ⟨b, o + i, none⟩ := by unfold Addr.add; split <;> simp_all

theorem add_spot (a : Addr) (h : a.spot = none) (i : Nat) : (a.add i).spot = none := by unfold Addr.add; split <;> simp_all
theorem add_block (a : Addr) (i : Nat) : (a.add i).block = a.block := by unfold Addr.add; split <;> simp_all

/-- Load a variable of what stands in memory from an address on. -/
theorem loadVar_run (hT : TOk P T) {t : TypeId} {a : Addr} (ha : a.spot = none) {ds : List D} {off : Nat} {d : D} (val : Nat → Value)
    (h : ∀ (i : Nat) x, ds[i]? = some x → w.cell? (a.add i) = some (val i) ∧ RelD w g (val i) x ∧ (val i).oneCell' = true) (hp : partD T t ds off = some d) :
    ∃ v, (loadVar t (a.add off)).run P w = .ok v w ∧ RelD w g v d := by
  unfold partD at hp
  have agg : ∀ {k : TypeDesc}, und T t = some k → aggDesc k = true → (if off + BI.cel T t ≤ ds.length then some (mkAgg ((ds.drop off).take (BI.cel T t))) else none) = some d → ∃ v, (loadVar t (a.add off)).run P w = .ok v w ∧ RelD w g v d := by
    intro k hu hk hp
    split at hp <;> cases hp
    rename_i hl
    have hget : ∀ j, j < BI.cel T t → ∃ x, ds[off + j]? = some x := fun j hj => ⟨ds[off + j]'(by omega), by simp⟩
    have hload := run_loadCells (P := P) w (a.add off) (BI.cel T t) (fun j => val (off + j)) (fun j hj => by
      obtain ⟨x, hx⟩ := hget j hj
      rw [add_add a ha]
      exact (h _ x hx).1)
    refine ⟨.agg ((List.range (BI.cel T t)).map fun j => val (off + j)).toArray, ?_, mkAgg_rel ⟨by simp; omega, fun i v hv => ?_, fun i v x hv hx => ?_⟩⟩
    · unfold loadCells at hload
      simp [loadVar, isAgg_run (hT.und hu), hk, hT.size hu, loadCells, hload, go_sem]
    · simp only [List.getElem?_toArray, List.getElem?_map, Option.map_eq_some_iff] at hv
      obtain ⟨j, hj, rfl⟩ := hv
      have hj' := List.getElem?_eq_some_iff.1 hj
      obtain ⟨hj1, hj2⟩ := hj'
      simp at hj1 hj2
      subst hj2
      obtain ⟨x, hx⟩ := hget i hj1
      exact (h _ x hx).2.2
    · simp only [List.getElem?_toArray, List.getElem?_map, Option.map_eq_some_iff] at hv
      obtain ⟨j, hj, rfl⟩ := hv
      have hj' := List.getElem?_eq_some_iff.1 hj
      obtain ⟨hj1, hj2⟩ := hj'
      simp at hj1 hj2
      subst hj2
      rw [List.getElem?_take, if_pos hj1, List.getElem?_drop] at hx
      exact (h _ x hx).2.1
  split at hp
  · rename_i hu; exact agg hu rfl hp
  · rename_i hu; exact agg hu rfl hp
  · rename_i k h1 h2 hu
    obtain ⟨e1, e2, _⟩ := h off d hp
    refine ⟨val off, ?_, e2⟩
    have hk : aggDesc k = false := by
      cases k <;> first | rfl | (exact absurd rfl (h1 _)) | (exact absurd rfl (h2 _ _))
    simp [loadVar, isAgg_run (hT.und hu), hk, e1, go_sem]
  · cases hp

end
end Go.BI
/- SOUNDNESS OF 'B', seventh part: the operations that leave memory as it is. -/
set_option linter.unusedVariables false
set_option linter.unusedSimpArgs false
namespace Go.BI
open Go Go.RowKit

/-- What an operation that leaves the world as it is gives. -/
def Gives (P : Program) (s : Sem Value) (w : World) (g : Gh) (d : D) : Prop := ∃ v, s.run P w = .ok v w ∧ RelD w g v d

section
variable {P : Program} {T : Tys} {w : World} {g : Gh}

theorem eqGuard_run {op : BinOp} {t : TypeId} {x y : Operand} {vx vy : Value} (h1 : vx = .nilIface → vy = .nilIface → (isConstO x || isConstO y) = true)
    (h2 : ∀ cs cs', vx = .agg cs → vy = .agg cs' → P.eqGuardType P.depth t = false) : (eqGuard op t x y vx vy).run P w = .ok () w := by
  cases vx with
  | nilIface =>
    cases vy with
    | nilIface =>
      have hk := h1 rfl rfl
      clear h1 h2
      unfold eqGuard
      cases x <;> cases y <;> simp [isConstO] at hk <;> split <;> simp [go_sem]
    | _ => simp [eqGuard, go_sem]
  | agg cs =>
    cases vy with
    | agg cs' =>
      have := h2 _ _ rfl rfl
      unfold eqGuard
      split <;> simp [this, go_sem]
    | _ => simp [eqGuard, go_sem]
  | _ => simp [eqGuard, go_sem]

def cmpable : Value → Bool
  | .int _ _ | .float _ _ | .complex _ _ _ | .string _ => false
  | _ => true

theorem eqD_cmpable {t : TypeId} {cst : Bool} {vx : Value} {x y : D} {b : Bool} (hx : RelD w g vx x) (h : eqD T t cst x y = some b) : cmpable vx = true := by
  unfold eqD at h
  split at h
  · split at h <;> cases h
    obtain rfl := hx.toV.bool_eq
    rfl
  · unfold eqPtr at h
    split at h
    · obtain rfl := hx.toV.nilp_eq; rfl
    · obtain ⟨_, _, _, rfl⟩ := hx.ptr_eq; rfl
    · cases hx; rfl
    · cases h
  · unfold eqSl at h
    split at h
    · rcases relV_slice hx.toV with ⟨_, rfl, _⟩ | ⟨_, a, len, cap, rfl, _⟩ <;> rfl
    · rcases relV_slice hx.toV with ⟨_, rfl, _⟩ | ⟨_, a, len, cap, rfl, _⟩ <;> rfl
    · cases hx; rfl
    · obtain ⟨_, a, rfl⟩ := relD_full hx; rfl
    · cases h
  · unfold eqIf at h
    split at h
    · obtain rfl := hx.toV.nilif_eq; rfl
    · obtain ⟨_, rfl, _⟩ := hx.toV.iface_eq; rfl
    · obtain ⟨_, _, rfl⟩ := hx.toV.ifany_eq; rfl
    · cases h
  · unfold eqFn at h
    split at h
    · obtain rfl := hx.toV.nilfn_eq; rfl
    · cases hx; rfl
    · cases hx; rfl
    · cases h
  · split at h
    · obtain ⟨xs, rfl, _⟩ := hx.toV.agg_eq; rfl
    · cases h
  · cases h

theorem bin_gives (hT : TOk P T) {op : BinOp} {t : TypeId} {x y : Operand} {vx vy : Value} {a b d : D} (hx : RelD w g vx a) (hy : RelD w g vy b) (h : binD T op t (isConstO x || isConstO y) a b = some d) :
    Gives P (do eqGuard op t x y vx vy; binOp op t vx vy) w g d := by
  unfold binD at h
  split at h
  · split at h
    · obtain rfl := hx.toV.int_eq
      obtain rfl := hy.toV.int_eq
      unfold optV at h
      split at h <;> cases h
      rename_i r hr
      obtain ⟨v, h1, h2⟩ := intD_run (P := P) (w := w) (S := g.S) (t := t) hr
      refine ⟨v, ?_, .v _ _ h2⟩
      rw [Sem.run_bind, eqGuard_run (by simp) (by simp)]
      exact h1
    · cases h
  · split at h
    · obtain ⟨bx, rfl, rfl⟩ := hx.toV.str_eq
      obtain ⟨by', rfl, rfl⟩ := hy.toV.str_eq
      unfold optV at h
      split at h <;> cases h
      rename_i r hr
      obtain ⟨v, h1, h2⟩ := strOp_run (P := P) (w := w) (S := g.S) (t := t) hr
      refine ⟨v, ?_, .v _ _ h2⟩
      rw [Sem.run_bind, eqGuard_run (by simp) (by simp)]
      exact h1
    · cases h
  · unfold cmpOp at h
    split at h
    · split at h <;> cases h
      rename_i r hr
      obtain ⟨h1, h2, h3⟩ := eqD_run hT hx hy hr
      refine ⟨.bool r, ?_, .v _ _ (.bool r)⟩
      rw [Sem.run_bind, eqGuard_run h2 h3]
      have hc := eqD_cmpable hx hr
      have : binOp .eql t vx vy = (do pure (.bool (← Op.equal t vx vy))) := by
        cases vx <;> simp [cmpable] at hc <;> cases vy <;> rfl
      simp [this, h1, go_sem]
    · split at h <;> cases h
      rename_i r hr
      obtain ⟨h1, h2, h3⟩ := eqD_run hT hx hy hr
      refine ⟨.bool (!r), ?_, .v _ _ (.bool _)⟩
      rw [Sem.run_bind, eqGuard_run h2 h3]
      have hc := eqD_cmpable hx hr
      have : binOp .neq t vx vy = (do pure (.bool (!(← Op.equal t vx vy)))) := by
        cases vx <;> simp [cmpable] at hc <;> cases vy <;> rfl
      simp [this, h1, go_sem]
    · cases h

theorem un_gives {op : UnOp} {vx : Value} {a d : D} (hx : RelD w g vx a) (h : unD op a = some d) : Gives P (Op.unary op vx) w g d := by
  unfold unD at h
  split at h
  · obtain rfl := hx.toV.int_eq
    split at h <;> cases h
    · exact ⟨_, by simp [Op.unary, Op.intArith, wrapB_eq, go_sem], .v _ _ (.int _ _)⟩
    · exact ⟨_, by simp [Op.unary, Op.intBits, wrapB_eq, go_sem], .v _ _ (.int _ _)⟩
  · obtain rfl := hx.toV.bool_eq
    split at h <;> cases h
    exact ⟨_, by simp [Op.unary, go_sem], .v _ _ (.bool _)⟩
  · cases h

theorem mapM_toV {w : World} {g : Gh} {f : D → Option V} (hf : ∀ v d x, RelD w g v d → f d = some x → RelV w g.S v x) {vs : Array Value} {ds : List D} {xs : List V} (hl : vs.size = ds.length)
    (h1 : ∀ (i : Nat) v, vs[i]? = some v → v.oneCell' = true) (hr : ∀ (i : Nat) v d, vs[i]? = some v → ds[i]? = some d → RelD w g v d) (h : ds.mapM f = some xs) : RelV w g.S (.agg vs) (.agg xs) := by
  obtain ⟨e1, e2⟩ := mapM_getElem h
  refine .agg vs xs (by omega) h1 fun i v x hv hx => ?_
  have hi : i < ds.length := by rw [e1]; exact (List.getElem?_eq_some_iff.1 hx).1
  exact hf v ds[i] x (hr i v _ hv (by simp [hi])) (e2 i _ x (by simp [hi]) hx)

theorem toV_rel {v : Value} {d : D} {x : V} (h : RelD w g v d) (e : d.toV = some x) : RelV w g.S v x := by
  unfold D.toV at e
  split at e
  · cases e; exact h.toV
  · cases e; exact (relD_full h).1
  · split at e <;> cases e
    rename_i xs hm
    obtain ⟨vs, rfl, hl, h1, h2⟩ := aggD_rel h
    refine mapM_toV (fun v d x hd he => ?_) hl h1 h2 hm
    split at he <;> cases he
    · exact hd.toV
    · exact (relD_full hd).1
  · cases e

theorem iface_gives (hT : TOk P T) {t : TypeId} {vx : Value} {d : D} {x : V} {k : TypeDesc} (hx : RelD w g vx d) (he : d.toV = some x) (hu : und T t = some k) (hk : ∀ ms, k ≠ .interface ms) :
    Gives P (Instr.makeInterface t vx) w g (.v (.iface t x)) := by
  refine ⟨.iface t vx, ?_, .v _ _ (.iface t vx x (toV_rel hx he))⟩
  cases k <;> first | (simp [Instr.makeInterface, run_underlying (hT.und hu), go_sem]; done) | (exact absurd rfl (hk _))

/-! ### Addresses -/
theorem fieldOf_run (hT : TOk P T) {t : TypeId} {f : Nat} {fl : Field} (h : fieldOf T t f = some fl) : ∃ fs, P.underlying t = some (.struct fs) ∧ fs[f]? = some fl := by
  unfold fieldOf at h
  split at h
  · rename_i fs hu
    exact ⟨fs, hT.und hu, h⟩
  · cases h

theorem pin_drop {v : Value} {q : Bool} {cs : List V} (h : RelD w g v (.pin q cs)) : ∃ a, v = .pointer (some a) ∧ a.spot = none ∧ ∀ k, RelD w g (.pointer (some (a.add k))) (.pin q (cs.drop k)) := by
  cases h with
  | pin q a cs val ha hc =>
    refine ⟨a, rfl, ha, fun k => .pin _ _ _ (fun i => val (k + i)) (add_spot a ha k) fun i x hx => ?_⟩
    rw [List.getElem?_drop] at hx
    rw [add_add a ha]
    exact hc _ x hx

theorem fieldAddr_gives (hT : TOk P T) {t : TypeId} {f : Nat} {fl : Field} {vx : Value} {d e : D} (hf : fieldOf T t f = some fl) (hc : cel T fl.type ≠ 0) (hx : RelD w g vx d)
    (h : (match d with | .ptr s ver off => some (D.ptr s ver (off + fl.offset)) | .pin q cs => some (.pin q (cs.drop fl.offset)) | _ => none) = some e) : Gives P (Instr.fieldAt t vx f) w g e := by
  obtain ⟨fs, hu, hfs⟩ := fieldOf_run hT hf
  have hz := hT.size' hc w
  split at h <;> cases h
  · rename_i hx
    obtain ⟨b, δ, hb, rfl⟩ := hx.ptr_eq
    refine ⟨.pointer (some ⟨b, δ + (_ + fl.offset), none⟩), ?_, .ptr _ _ _ b δ hb⟩
    simp [Instr.fieldAt, run_underlying hu, hfs, Instr.sureAddr, fieldPlace, hz, hc, add_at, Nat.add_assoc, go_sem]
  · rename_i hx
    obtain ⟨a, rfl, ha, hd⟩ := pin_drop hx
    refine ⟨.pointer (some (a.add fl.offset)), ?_, hd _⟩
    simp [Instr.fieldAt, run_underlying hu, hfs, Instr.sureAddr, fieldPlace, hz, hc, go_sem]

theorem field_gives (hT : TOk P T) {t : TypeId} {f : Nat} {fl : Field} {vx : Value} {d e : D} (hf : fieldOf T t f = some fl) (hx : RelD w g vx d)
    (h : (match d with | .v (.agg cs) => (match partV T fl.type cs fl.offset with | some x => some (D.v x) | none => none) | .agg cs => partD T fl.type cs fl.offset | _ => none) = some e) :
    Gives P (Instr.field t vx f) w g e := by
  obtain ⟨fs, hu, hfs⟩ := fieldOf_run hT hf
  split at h
  · rename_i hx
    split at h <;> cases h
    rename_i x hp
    obtain ⟨vs, rfl, hc⟩ := aggV_rel hx
    obtain ⟨v, h1, h2⟩ := partD_run hT hc (partV_D hp)
    exact ⟨v, by simp only [Instr.field, Sem.run_bind, run_underlying hu, Result.andThen_ok, hfs, asAgg, Sem.run_pure, h1], h2⟩
  · rename_i hx
    obtain ⟨vs, rfl, hc⟩ := aggD_rel hx
    obtain ⟨v, h1, h2⟩ := partD_run hT hc h
    exact ⟨v, by simp only [Instr.field, Sem.run_bind, run_underlying hu, Result.andThen_ok, hfs, asAgg, Sem.run_pure, h1], h2⟩
  · cases h

theorem flat_get {xs : List V} {sz : Nat} (hs : ∀ x ∈ xs, x.cells.length = sz) : ∀ (n : Nat) (x : V), xs[n]? = some x → ∀ (i : Nat) (y : V), x.cells[i]? = some y → (xs.flatMap V.cells)[n * sz + i]? = some y := by
  induction xs with
  | nil => intro n x h; simp at h
  | cons z r ih =>
    intro n x h i y hy
    have hz := hs z (by simp)
    cases n with
    | zero =>
      simp at h
      subst h
      have hi : i < z.cells.length := (List.getElem?_eq_some_iff.1 hy).1
      simp [List.flatMap_cons, List.getElem?_append_left hi, hy]
    | succ n =>
      have := ih (fun x hx => hs x (by simp [hx])) n x (by simpa using h) i y hy
      rw [List.flatMap_cons, List.getElem?_append_right (by rw [hz, Nat.succ_mul]; omega), hz, Nat.succ_mul]
      rw [show n * sz + sz + i - sz = n * sz + i from by omega]
      exact this

theorem relV_slice' {S : Addr → Prop} {v : Value} {nl : Bool} {sz : Nat} {xs : List V} (h : RelV w S v (.slice nl sz xs)) :
    (nl = true ∧ v = .slice none 0 0 ∧ xs = []) ∨ (nl = false ∧ 1 ≤ sz ∧ ∃ (a : Addr) (cap : Nat) (val : Nat → Value), v = .slice (some a) xs.length cap ∧ xs.length ≤ cap ∧ a.spot = none ∧ (∀ x ∈ xs, x.cells.length = sz) ∧
      ∀ (i : Nat) x, (xs.flatMap V.cells)[i]? = some x → w.cell? (a.add i) = some (val i) ∧ S (a.add i) ∧ (val i).oneCell' = true ∧ RelV w S (val i) x) := by
  cases h with
  | nils sz => exact .inl ⟨rfl, rfl, rfl⟩
  | slice a len cap sz xs val h1 h2 h3 h4 h5 h6 h7 =>
    subst h1
    exact .inr ⟨rfl, h5, a, cap, val, rfl, h2, h3, h4, fun i x hx => ⟨(h6 i x hx).1, (h6 i x hx).2.1, (h6 i x hx).2.2, h7 i x hx⟩⟩

theorem elem_pin {a : Addr} (ha : a.spot = none) {xs : List V} {sz n : Nat} {x : V} {val : Nat → Value} (hs : ∀ x ∈ xs, x.cells.length = sz) (hx : xs[n]? = some x)
    (h : ∀ (i : Nat) x, (xs.flatMap V.cells)[i]? = some x → w.cell? (a.add i) = some (val i) ∧ g.S (a.add i) ∧ (val i).oneCell' = true ∧ RelV w g.S (val i) x) :
    RelD w g (.pointer (some (a.add (n * sz)))) (.pin true x.cells) := by
  refine .pin _ _ _ (fun i => val (n * sz + i)) (add_spot a ha _) fun i y hy => ?_
  rw [add_add a ha]
  obtain ⟨h1, h2, h3, h4⟩ := h _ y (flat_get hs n x hx i y hy)
  exact ⟨h1, h2, h4, h3⟩

theorem addrArr_gives (hT : TOk P T) {t : TypeId} {m : Nat} {e : TypeId} {vx : Value} {d : D} {k : IntKind} {n : Int} {r : Eff} (hu : P.underlying t = some (.array m e)) (h0 : 0 ≤ n) (hx : RelD w g vx d) (h : addrArr T m e d n = some r) :
    Gives P (Instr.indexAt t vx (.int k n)) w g r.d ∧ r.wr = none := by
  unfold addrArr at h
  split at h
  · cases h
  · rename_i hc
    simp only [not_or, ge_iff_le, Int.not_le] at hc
    have hz := hT.size' hc.2 w
    have hb : (0 ≤ n ∧ n < (m : Int)) := ⟨h0, hc.1⟩
    split at h <;> cases h
    · obtain ⟨b, δ, hb', rfl⟩ := hx.ptr_eq
      refine ⟨⟨_, ?_, .ptr _ _ _ b δ hb'⟩, rfl⟩
      simp [Instr.indexAt, asIntOf, run_underlying hu, Instr.sureAddr, hb, hz, add_at, Nat.add_assoc, go_sem]
    · obtain ⟨a, rfl, ha, hd⟩ := pin_drop hx
      refine ⟨⟨_, ?_, hd _⟩, rfl⟩
      simp [Instr.indexAt, asIntOf, run_underlying hu, Instr.sureAddr, hb, hz, go_sem]

theorem addrSlice_gives (hT : TOk P T) {t : TypeId} {e : TypeId} {vx : Value} {d : D} {k : IntKind} {n : Int} {r : Eff} (hu : P.underlying t = some (.slice e)) (h0 : 0 ≤ n) (hx : RelD w g vx d) (h : addrSlice T e d n = some r) :
    Gives P (Instr.indexAt t vx (.int k n)) w g r.d ∧ r.wr = none := by
  have elem : ∀ {nl : Bool} {sz : Nat} {xs : List V}, RelV w g.S vx (.slice nl sz xs) → addrElem T e sz xs n.toNat = some r → Gives P (Instr.indexAt t vx (.int k n)) w g r.d ∧ r.wr = none := by
    intro nl sz xs hv h
    unfold addrElem at h
    split at h
    · rename_i x hxs
      split at h <;> cases h
      rename_i hsz
      rcases relV_slice' hv with ⟨_, _, rfl⟩ | ⟨_, hs1, a, cap, val, rfl, hle, ha, hs, hc⟩
      · simp at hxs
      · have hlt : n.toNat < xs.length := (List.getElem?_eq_some_iff.1 hxs).1
        have hb : (0 ≤ n ∧ n < (xs.length : Int)) := ⟨h0, by omega⟩
        have hz := hT.size' (t := e) (by omega) w
        refine ⟨⟨_, ?_, elem_pin ha hs hxs hc⟩, rfl⟩
        subst hsz
        simp [Instr.indexAt, asIntOf, run_underlying hu, hb, hz, go_sem]
    · cases h
  unfold addrSlice at h
  split at h
  · exact elem hx.toV h
  · exact elem (relD_full hx).1 h
  · split at h <;> cases h
    rename_i s ver sz off len hc
    obtain ⟨h1, h2, h3⟩ := hc
    cases hx with
    | arr s ver sz off len b δ p cap hb hle hs hp hex =>
      obtain rfl := hp (by omega)
      have hb' : (0 ≤ n ∧ n < (len : Int)) := ⟨h0, h1⟩
      have hz := hT.size' (t := e) (by omega) w
      refine ⟨⟨_, ?_, .ptr _ _ _ b δ hb⟩, rfl⟩
      subst h2
      simp [Instr.indexAt, asIntOf, run_underlying hu, hb', hz, add_at, Nat.add_assoc, go_sem]
  · cases h

theorem index_gives (hT : TOk P T) {par : Par} (hpar : par.T = T) {a : Act} {env : E} {t : TypeId} {x i : Operand} {r : Eff} (hE : RelE w g a.tmps env) (hG : GlobOk par w g) (h : opIndex par env t x i = some r) :
    Gives P (Instr.index t (a.eval x) (a.eval i)) w g r.d ∧ r.wr = none := by
  unfold opIndex at h
  rw [hpar] at h
  split at h
  · rename_i s k n hx hi
    have hx' := ev_rel hE hG hx
    have hi' := ev_rel hE hG hi
    obtain ⟨bs, ex, rfl⟩ := hx'.toV.str_eq
    rw [ex, hi'.toV.int_eq]
    split at h
    · cases h
    · rename_i h0
      split at h <;> cases h
      rename_i b hb hu
      have hu := hT.und hu
      refine ⟨⟨.int .u8 b.toNat, ?_, .v _ _ (.int _ _)⟩, rfl⟩
      have hn : 0 ≤ n := by omega
      have hget : bs[n.toNat]? = some b := by
        have hlt := (List.getElem?_eq_some_iff.1 hb).1
        obtain ⟨hlt, hv⟩ := List.getElem?_eq_some_iff.1 hb
        have : n.toNat < bs.size := by simpa using hlt
        rw [getElem?_pos bs n.toNat this]
        simp only [Option.some.injEq]
        rw [← hv]
        simp [ByteArray.getElem_eq_getElem_data]
      simp [Instr.index, asIntOf, run_underlying hu, hn, hget, go_sem]
  · rename_i cs k n hx hi
    have hx' := ev_rel hE hG hx
    have hi' := ev_rel hE hG hi
    rw [hi'.toV.int_eq]
    split at h
    · cases h
    · rename_i h0
      split at h
      · rename_i m e hu
        split at h
        · rename_i hm
          split at h <;> cases h
          rename_i y hp
          obtain ⟨vs, ev', hc⟩ := aggV_rel hx'
          rw [ev']
          obtain ⟨v, h1, h2⟩ := partD_run hT hc (partV_D hp)
          have hn : 0 ≤ n := by omega
          have hz : (sizeOf e).run P w = .ok (cel T e) w := by
            unfold partV at hp
            split at hp
            · rename_i hu'; exact hT.size hu' w
            · rename_i hu'; exact hT.size hu' w
            · rename_i hu'; exact hT.size hu' w
            · cases hp
          refine ⟨⟨v, ?_, h2⟩, rfl⟩
          simp only [Instr.index, asIntOf, Sem.run_bind, Sem.run_pure, run_underlying (hT.und hu), Result.andThen_ok, if_pos (And.intro hn hm), hz, h1]
        · cases h
      · cases h
  · cases h

theorem extract_gives {par : Par} {a : Act} {env : E} {t : Operand} {i : Nat} {r : Eff} (hE : RelE w g a.tmps env) (hG : GlobOk par w g) (h : opExtract par env t i = some r) :
    Gives P (Instr.extract (a.eval t) i) w g r.d ∧ r.wr = none := by
  unfold opExtract at h
  split at h
  · rename_i l ht
    have ht' := ev_rel hE hG ht
    split at h <;> cases h
    rename_i x hx
    obtain ⟨vs, e, hl, h2⟩ := ht'.toV.tup_eq
    rw [e]
    have hlt : i < vs.size := by rw [hl]; exact (List.getElem?_eq_some_iff.1 hx).1
    exact ⟨⟨vs[i], by simp [Instr.extract, hlt], .v _ _ (h2 i _ _ (by simp [hlt]) hx)⟩, rfl⟩
  · rename_i l ht
    have ht' := ev_rel hE hG ht
    split at h <;> cases h
    rename_i x hx
    generalize hv : a.eval t = v at ht' ⊢
    cases ht' with
    | tup vs cs hl h2 =>
      have hlt : i < vs.size := by rw [hl]; exact (List.getElem?_eq_some_iff.1 hx).1
      exact ⟨⟨vs[i], by simp [Instr.extract, hlt], h2 i _ _ (by simp [hlt]) hx⟩, rfl⟩
  · cases h

end
end Go.BI
/- SOUNDNESS OF 'B', eighth part: slice expressions, loads, and the rest of what leaves memory as it is. -/
set_option linter.unusedVariables false
set_option linter.unusedSimpArgs false
namespace Go.BI
open Go Go.RowKit

section
variable {P : Program} {T : Tys} {w : World} {g : Gh}

def OptR (w : World) (g : Gh) : Option Value → Option D → Prop
  | none, none => True
  | some v, some d => RelD w g v d
  | _, _ => False

theorem optEv_rel {par : Par} {a : Act} {env : E} (hE : RelE w g a.tmps env) (hG : GlobOk par w g) {o : Option Operand} {d : Option D} (h : optEv par.G env o = some d) : OptR w g (o.map a.eval) d := by
  cases o with
  | none => simp only [optEv] at h; cases h; trivial
  | some x =>
    simp only [optEv] at h
    split at h <;> cases h
    rename_i d hd
    exact ev_rel hE hG hd

theorem bnd_run {y : Nat} {v : Value} {d : D} {k : Nat} (code : BoundsCode) (hd : RelD w g v d) (h : bnd y d = some k) : (Instr.sliceBound v y code).run P w = .ok k w ∧ k ≤ y := by
  unfold bnd at h
  split at h
  · split at h <;> cases h
    rename_i hc
    obtain rfl := hd.toV.int_eq
    refine ⟨?_, by omega⟩
    simp only [Instr.sliceBound, asIntOf, Sem.run_bind, Sem.run_pure, Result.andThen_ok, if_pos hc]
  · cases h

theorem bnd_mono {y z k : Nat} {d : D} (h : bnd y d = some k) (hz : y ≤ z) : bnd z d = some k := by
  unfold bnd at h ⊢
  split at h
  · split at h <;> cases h
    rename_i hc
    rw [if_pos ⟨hc.1, by omega⟩]
  · cases h

theorem bounds_run {n len cap : Nat} {lo hi mx : Option D} {vlo vhi vmx : Option Value} {l h : Nat} {m : Option Nat} (q : Bool) (hlen : n = len) (hle : len ≤ cap) (hn : vmx = none ∨ n = cap ∨ True)
    (rlo : OptR w g vlo lo) (rhi : OptR w g vhi hi) (rmx : OptR w g vmx mx) (hb : bounds n lo hi mx = some (l, h, m)) :
    (Instr.sliceBounds q len cap vlo vhi vmx).run P w = .ok (l, h, m.getD cap) w ∧ l ≤ h ∧ h ≤ m.getD n ∧ m.getD n ≤ n := by
  subst hlen
  unfold bounds at hb
  split at hb
  · cases hb
  rename_i m' hm
  split at hb
  · cases hb
  rename_i h' hh
  split at hb <;> cases hb
  rename_i l' hl
  have hmx : (match (generalizing := false) vmx with
    | some v => Instr.sliceBound v cap (if q then .slice3Acap else .slice3Alen)
    | none => pure cap).run P w = .ok (m.getD cap) w ∧ m.getD n ≤ n ∧ (m.isSome = mx.isSome) := by
    cases mx with
    | none =>
      cases vmx with
      | none => simp only [bndM] at hm; cases hm; exact ⟨rfl, Nat.le_refl _, rfl⟩
      | some v => exact rmx.elim
    | some d =>
      cases vmx with
      | none => exact rmx.elim
      | some v =>
        simp only [bndM] at hm
        split at hm <;> cases hm
        rename_i k hk
        obtain ⟨_, h2⟩ := bnd_run (P := P) (w := w) (g := g) .index rmx hk
        have hk' : bnd cap d = some k := bnd_mono hk hle
        obtain ⟨h1, _⟩ := bnd_run (P := P) (w := w) (g := g) (if q then .slice3Acap else .slice3Alen) rmx hk'
        exact ⟨h1, h2, rfl⟩
  have hhi : (match (generalizing := false) vhi, vmx with
    | some v, some _ => Instr.sliceBound v (m.getD cap) .slice3B
    | some v, none => Instr.sliceBound v (m.getD cap) (if q then .sliceAcap else .sliceAlen)
    | none, none => pure n
    | none, some _ => stuck "Slice: max without high").run P w = .ok h w ∧ h ≤ m.getD n := by
    cases hi with
    | none =>
      cases vhi with
      | some v => exact rhi.elim
      | none =>
        simp only [bndH] at hh
        split at hh <;> cases hh
        rename_i hms
        have : m = none := by
          cases m with
          | none => rfl
          | some k => have := hmx.2.2; simp at this; simp [← this] at hms
        subst this
        cases vmx with
        | none => exact ⟨rfl, Nat.le_refl _⟩
        | some v =>
          cases mx with
          | none => exact rmx.elim
          | some d => simp at hms
    | some d =>
      cases vhi with
      | none => exact rhi.elim
      | some v =>
        simp only [bndH] at hh
        obtain ⟨_, h2⟩ := bnd_run (P := P) (w := w) (g := g) .index rhi hh
        have hcap : m.getD n ≤ m.getD cap := by cases m with | none => exact hle | some k => exact Nat.le_refl _
        have hh' : bnd (m.getD cap) d = some h := bnd_mono hh hcap
        refine ⟨?_, h2⟩
        cases vmx with
        | none => exact (bnd_run (P := P) (w := w) (g := g) (if q then .sliceAcap else .sliceAlen) rhi hh').1
        | some v' => exact (bnd_run (P := P) (w := w) (g := g) .slice3B rhi hh').1
  have hlo : (match (generalizing := false) vlo with
    | some v => Instr.sliceBound v h (if vmx.isSome then .slice3C else .sliceB)
    | none => pure 0).run P w = .ok l w ∧ l ≤ h := by
    cases lo with
    | none =>
      cases vlo with
      | some v => exact rlo.elim
      | none => simp only [bndL] at hl; cases hl; exact ⟨rfl, Nat.zero_le _⟩
    | some d =>
      cases vlo with
      | none => exact rlo.elim
      | some v =>
        simp only [bndL] at hl
        exact bnd_run (P := P) (w := w) (g := g) (if vmx.isSome then .slice3C else .sliceB) rlo hl
  refine ⟨?_, hlo.2, hhi.2, hmx.2.1⟩
  have a1 := hmx.1
  have a2 := hhi.1
  have a3 := hlo.1
  unfold Instr.sliceBounds
  clear hmx hhi hlo hm hh hl rlo rhi rmx
  generalize m.getD cap = mc at a1 a2 ⊢
  cases vmx with
  | none =>
    obtain rfl : cap = mc := by have := a1; simp only [Sem.run_pure, Result.ok.injEq, and_true] at this; exact this
    cases vhi with
    | none =>
      obtain rfl : n = h := by have := a2; simp only [Sem.run_pure, Result.ok.injEq, and_true] at this; exact this
      cases vlo with
      | none =>
        obtain rfl : 0 = l := by have := a3; simp only [Sem.run_pure, Result.ok.injEq, and_true] at this; exact this
        rfl
      | some v => simp only [Sem.run_bind, Sem.run_pure, Result.andThen_ok]; rw [a3]; rfl
    | some v' =>
      simp only [Sem.run_bind, Sem.run_pure, Result.andThen_ok]
      rw [a2]
      cases vlo with
      | none =>
        obtain rfl : 0 = l := by have := a3; simp only [Sem.run_pure, Result.ok.injEq, and_true] at this; exact this
        rfl
      | some v => simp only [Sem.run_bind, Sem.run_pure, Result.andThen_ok]; rw [a3]; rfl
  | some vm =>
    simp only [Sem.run_bind, Sem.run_pure, Result.andThen_ok]
    rw [a1]
    cases vhi with
    | none => exact absurd a2 (by simp)
    | some v' =>
      simp only [Sem.run_bind, Sem.run_pure, Result.andThen_ok]
      rw [a2]
      cases vlo with
      | none =>
        obtain rfl : 0 = l := by have := a3; simp only [Sem.run_pure, Result.ok.injEq, and_true] at this; exact this
        rfl
      | some v => simp only [Sem.run_bind, Sem.run_pure, Result.andThen_ok]; rw [a3]; rfl

theorem flat_sub {xs : List V} {sz : Nat} (hs : ∀ x ∈ xs, x.cells.length = sz) : ∀ (l : Nat) (i : Nat) (y : V), ((xs.drop l).flatMap V.cells)[i]? = some y → (xs.flatMap V.cells)[l * sz + i]? = some y := by
  induction xs with
  | nil => intro l i y h; simp at h
  | cons z r ih =>
    intro l i y h
    cases l with
    | zero => simpa using h
    | succ l =>
      have hz := hs z (by simp)
      rw [List.flatMap_cons, List.getElem?_append_right (by rw [hz, Nat.succ_mul]; omega), hz, Nat.succ_mul]
      rw [show l * sz + sz + i - sz = l * sz + i from by omega]
      exact ih (fun x hx => hs x (by simp [hx])) l i y (by simpa using h)

theorem flat_take {xs : List V} : ∀ (h i : Nat) (y : V), ((xs.take h).flatMap V.cells)[i]? = some y → (xs.flatMap V.cells)[i]? = some y := by
  induction xs with
  | nil => intro h i y e; simp at e
  | cons z r ih =>
    intro h i y e
    cases h with
    | zero => simp at e
    | succ h =>
      rw [List.take_succ_cons, List.flatMap_cons] at e
      rw [List.flatMap_cons]
      by_cases hi : i < z.cells.length
      · rw [List.getElem?_append_left hi] at e ⊢; exact e
      · rw [List.getElem?_append_right (by omega)] at e ⊢; exact ih h _ y e

theorem sub_rel {S : Addr → Prop} {a : Addr} {cap sz : Nat} {xs : List V} {val : Nat → Value} (hsz : 1 ≤ sz) (ha : a.spot = none) (hs : ∀ x ∈ xs, x.cells.length = sz)
    (hc : ∀ (i : Nat) x, (xs.flatMap V.cells)[i]? = some x → w.cell? (a.add i) = some (val i) ∧ S (a.add i) ∧ (val i).oneCell' = true ∧ RelV w S (val i) x)
    {l h m size : Nat} (hlh : l ≤ h) (hhm : h ≤ m) (hn : h ≤ xs.length) (hz : xs ≠ [] → size = sz) :
    RelV w S (.slice (some (if m = l then a else a.add (l * size))) (h - l) (m - l)) (.slice false sz ((xs.take h).drop l)) := by
  refine .slice _ _ _ _ _ (fun i => val (l * sz + i)) (by simp; omega) (by omega) (by split <;> simp [ha, add_spot]) (fun x hx => hs x (List.mem_of_mem_take (List.mem_of_mem_drop hx))) hsz ?_ ?_
  · intro i x hx
    by_cases hml : m = l
    · exfalso
      have : (xs.take h).drop l = [] := by apply List.drop_eq_nil_of_le; simp; omega
      rw [this] at hx
      simp at hx
    · have hne : xs ≠ [] := by rintro rfl; simp at hx
      obtain rfl := hz hne
      have := flat_take h _ x (flat_sub (fun x hx => hs x (List.mem_of_mem_take hx)) l i x hx)
      rw [if_neg hml, add_add a ha]
      exact ⟨(hc _ x this).1, (hc _ x this).2.1, (hc _ x this).2.2.1⟩
  · intro i x hx
    have := flat_take h _ x (flat_sub (fun x hx => hs x (List.mem_of_mem_take hx)) l i x hx)
    exact (hc _ x this).2.2.2

theorem sliceAt_slice {t e : TypeId} {x : Value} {lo hi mx : Option Value} (hu : P.underlying t = some (.slice e)) : (Instr.sliceAt t x lo hi mx).run P w = (Instr.slice t x lo hi mx).run P w := by
  simp [Instr.sliceAt, run_underlying hu, go_sem]

theorem sliceD_gives (hT : TOk P T) {t e : TypeId} {vx : Value} {d : D} {lo hi mx : Option D} {vlo vhi vmx : Option Value} {r : Eff} (hu : P.underlying t = some (.slice e)) (hx : RelD w g vx d)
    (rlo : OptR w g vlo lo) (rhi : OptR w g vhi hi) (rmx : OptR w g vmx mx) (h : sliceD T e d lo hi mx = some r) : Gives P (Instr.sliceAt t vx vlo vhi vmx) w g r.d ∧ r.wr = none := by
  have run : ∀ {a : Option Addr} {len cap l h m : Nat}, cel T e ≠ 0 → (Instr.sliceBounds true len cap vlo vhi vmx).run P w = .ok (l, h, m) w →
      (Instr.sliceAt t (.slice a len cap) vlo vhi vmx).run P w = .ok (.slice (if m = l then a else a.map (·.add (l * cel T e))) (h - l) (m - l)) w := by
    intro a len cap l h m hc hb
    rw [sliceAt_slice hu]
    unfold Instr.slice
    simp only [Sem.run_bind, run_underlying hu, Result.andThen_ok, hb, hT.size' hc, Sem.run_pure]
  unfold sliceD at h
  split at h
  · rename_i nl sz xs
    split at h
    · cases h
    · rename_i hc
      simp only [not_or, not_and, ne_eq, Classical.not_not] at hc
      split at h <;> cases h
      rename_i l h m hb
      rcases relV_slice' hx.toV with ⟨rfl, rfl, rfl⟩ | ⟨rfl, hsz, a, cap, val, rfl, hle, ha, hs, hcell⟩
      · obtain ⟨h1, h2, h3, h4⟩ := bounds_run (P := P) (len := 0) (cap := 0) true rfl (Nat.le_refl 0) (.inr (.inr trivial)) rlo rhi rmx hb
        simp only [List.length_nil, Nat.le_zero_eq] at h4
        have hh : h = 0 := by omega
        have hl : l = 0 := by omega
        subst hh hl
        refine ⟨⟨.slice none 0 0, ?_, ?_⟩, rfl⟩
        · rw [run hc.1 h1]
          have : m.getD 0 = 0 := h4
          rw [this]
          simp
        · simp only [List.take_nil, List.drop_nil]
          split
          · exact .full _ _ _ _ (.nils _) ⟨none, rfl⟩
          · exact .v _ _ (.nils _)
      · obtain ⟨h1, h2, h3, h4⟩ := bounds_run (P := P) (len := xs.length) (cap := cap) true rfl hle (.inr (.inr trivial)) rlo rhi rmx hb
        have hmc : m.getD xs.length ≤ m.getD cap := by cases m with | none => exact hle | some k => exact Nat.le_refl _
        have hz : xs ≠ [] → cel T e = sz := fun hne => (hc.2 (by simpa using hne)).symm
        have hR := sub_rel (w := w) (S := g.S) (l := l) (h := h) (m := m.getD cap) (size := cel T e) (cap := cap) hsz ha hs hcell h2 (by omega) (by omega) hz
        have hR' : RelV w g.S (.slice (if m.getD cap = l then some a else (some a).map (·.add (l * cel T e))) (h - l) (m.getD cap - l)) (.slice false sz ((xs.take h).drop l)) := by
          have e1 : (if m.getD cap = l then some a else (some a).map (·.add (l * cel T e))) = some (if m.getD cap = l then a else a.add (l * cel T e)) := by split <;> rfl
          rw [e1]; exact hR
        refine ⟨⟨_, run hc.1 h1, ?_⟩, rfl⟩
        by_cases hm : m = some h
        · rw [if_pos hm]
          refine .full _ _ _ _ hR' ⟨if m.getD cap = l then some a else (some a).map (·.add (l * cel T e)), ?_⟩
          have hl : ((xs.take h).drop l).length = h - l := by simp; omega
          have : m.getD cap = h := by rw [hm]; rfl
          rw [hl, this]
        · rw [if_neg hm]
          exact .v _ _ hR'
  · rename_i nl sz xs
    obtain ⟨hxv, av, hav⟩ := relD_full hx
    split at h
    · cases h
    · rename_i hc
      simp only [not_or, not_and, ne_eq, Classical.not_not] at hc
      split at h <;> cases h
      rename_i l h m hb
      rcases relV_slice' hxv with ⟨rfl, rfl, rfl⟩ | ⟨rfl, hsz, a, cap, val, rfl, hle, ha, hs, hcell⟩
      · obtain ⟨h1, h2, h3, h4⟩ := bounds_run (P := P) (len := 0) (cap := 0) true rfl (Nat.le_refl 0) (.inr (.inr trivial)) rlo rhi rmx hb
        simp only [List.length_nil, Nat.le_zero_eq] at h4
        have hh : h = 0 := by omega
        have hl : l = 0 := by omega
        subst hh hl
        refine ⟨⟨.slice none 0 0, ?_, ?_⟩, rfl⟩
        · rw [run hc.1 h1]
          have : m.getD 0 = 0 := h4
          rw [this]
          simp
        · simp only [List.take_nil, List.drop_nil]
          split
          · exact .full _ _ _ _ (.nils _) ⟨none, rfl⟩
          · exact .v _ _ (.nils _)
      · cases hav
        obtain ⟨h1, h2, h3, h4⟩ := bounds_run (P := P) (len := xs.length) (cap := xs.length) true rfl hle (.inr (.inr trivial)) rlo rhi rmx hb
        have hz : xs ≠ [] → cel T e = sz := fun hne => (hc.2 (by simpa using hne)).symm
        have hR := sub_rel (w := w) (S := g.S) (l := l) (h := h) (m := m.getD xs.length) (size := cel T e) (cap := xs.length) hsz ha hs hcell h2 h3 (by omega) hz
        have hR' : RelV w g.S (.slice (if m.getD xs.length = l then some a else (some a).map (·.add (l * cel T e))) (h - l) (m.getD xs.length - l)) (.slice false sz ((xs.take h).drop l)) := by
          have e1 : (if m.getD xs.length = l then some a else (some a).map (·.add (l * cel T e))) = some (if m.getD xs.length = l then a else a.add (l * cel T e)) := by split <;> rfl
          rw [e1]; exact hR
        refine ⟨⟨_, run hc.1 h1, ?_⟩, rfl⟩
        by_cases hm : m = some h ∨ (m = none ∧ h = xs.length)
        · rw [if_pos hm]
          refine .full _ _ _ _ hR' ⟨if m.getD xs.length = l then some a else (some a).map (·.add (l * cel T e)), ?_⟩
          have hl : ((xs.take h).drop l).length = h - l := by simp; omega
          have : m.getD xs.length = h := by
            rcases hm with rfl | ⟨rfl, rfl⟩ <;> rfl
          rw [hl, this]
        · rw [if_neg hm]
          exact .v _ _ hR'
  · rename_i s ver sz off len
    split at h
    · rename_i b hb
      unfold sliceRow at h
      split at h <;> cases h
      rename_i hc
      simp only [not_or, ne_eq, Classical.not_not] at hc
      obtain ⟨l, h, m⟩ := b
      cases hx with
      | arr s ver sz off len b δ p cap hb' hle hs hp hex =>
        obtain ⟨h1, h2, h3, h4⟩ := bounds_run (P := P) (len := len) (cap := cap) true rfl hle (.inr (.inr trivial)) rlo rhi rmx hb
        have hmc : m.getD len ≤ m.getD cap := by cases m with | none => exact hle | some k => exact Nat.le_refl _
        have hmcap : m.getD cap ≤ cap := by cases m with | none => exact Nat.le_refl _ | some k => simp only [Option.getD_some] at h4 ⊢; omega
        obtain ⟨hc1, hc2⟩ := hc
        refine ⟨⟨_, run (by omega) h1, ?_⟩, rfl⟩
        obtain ⟨cs, el, fr, e1, e2⟩ := hex
        have hsub : (m.getD cap - l) * sz = m.getD cap * sz - l * sz := Nat.sub_mul _ _ _
        have hlm : l * sz ≤ m.getD cap * sz := Nat.mul_le_mul_right _ (by omega)
        have hmm : m.getD cap * sz ≤ cap * sz := Nat.mul_le_mul_right _ hmcap
        subst hc1
        by_cases hml : m.getD cap = l
        · rw [if_pos hml]
          exact .arr _ _ _ _ _ b δ p _ hb' (by omega) hs (fun hne => by omega) ⟨cs, el, fr, e1, by rw [hml]; simp; omega⟩
        · rw [if_neg hml]
          simp only [Option.map_some, add_at]
          have hcap0 : cap ≠ 0 := by omega
          have hpe := hp hcap0
          exact .arr _ _ _ _ _ b δ _ _ hb' (by omega) hs (fun _ => by omega) ⟨cs, el, fr, e1, by omega⟩
    · cases h
  · cases h

end
end Go.BI
/- SOUNDNESS OF 'B', ninth part: what reads the store. -/
set_option linter.unusedVariables false
set_option linter.unusedSimpArgs false
namespace Go.BI
open Go Go.RowKit

section
variable {P : Program} {T : Tys} {z : Base} {w : World} {g : Gh} {st : Sites}

theorem look_of {s ver : Nat} {o : BObj} (h : look st s ver = some o) : ∃ r, getR st s = some r ∧ r.ver = ver ∧ r.obj = some o := by
  unfold look at h
  split at h
  · rename_i r hr
    split at h
    · rename_i hv
      exact ⟨r, hr, Nat.eq_of_beq_eq_true hv, h⟩
    · cases h
  · cases h

theorem Inv.look (hI : Inv z g w st) {s ver : Nat} {o : BObj} (h : look st s ver = some o) : ∃ b δ, g.blk s ver = some (b, δ) ∧ RelB w g b δ o ∧ z.own b := by
  obtain ⟨r, h1, rfl, h3⟩ := look_of h
  exact hI.site s r o h1 h3

theorem lookBox_look {s ver : Nat} {ty : TypeId} {cs : List D} {fz : Nat} (h : lookBox st s ver = some (ty, cs, fz)) : BI.look st s ver = some (.box ty cs fz) := by
  unfold lookBox at h
  split at h <;> cases h
  assumption

theorem Inv.box (hI : Inv z g w st) {s ver : Nat} {ty : TypeId} {cs : List D} {fz : Nat} (h : lookBox st s ver = some (ty, cs, fz)) :
    ∃ b δ, g.blk s ver = some (b, δ) ∧ RelB w g b δ (.box ty cs fz) ∧ z.own b := hI.look (lookBox_look h)

/-- A box's cells, read. -/
theorem RelB.cells {b δ : Nat} {ty : TypeId} {ds : List D} {fz : Nat} (h : RelB w g b δ (.box ty ds fz)) :
    ∃ val : Nat → Value, ∀ (i : Nat) x, ds[i]? = some x → w.cell? ((⟨b, δ, none⟩ : Addr).add i) = some (val i) ∧ RelD w g (val i) x ∧ (val i).oneCell' = true := by
  obtain ⟨cs, el, fr, h1, h2, h3, h4, h5, h6, h7, h8⟩ := h
  refine ⟨fun i => cs.getD (δ + i) undef, fun i x hx => ?_⟩
  have hi : i < ds.length := (List.getElem?_eq_some_iff.1 hx).1
  have hlt : δ + i < cs.size := by omega
  have hv : cs[δ + i]? = some (cs.getD (δ + i) undef) := by simp [Array.getD_eq_getD_getElem?, hlt]
  refine ⟨?_, h4 i _ x hv hx, h8 i _ hi hv⟩
  rw [add_at]
  simp only [World.cell?, h1]
  simpa using hv

theorem load_gives (hT : TOk P T) {par : Par} (hpar : par.T = T) {a : Act} {env : E} {t : TypeId} {x : Operand} {r : Eff} (hI : Inv z g w st) (hE : RelE w g a.tmps env) (hG : GlobOk par w g) (h : opLoad par env st t x = some r) :
    Gives P (Instr.loadAt t (a.eval x)) w g r.d ∧ r.wr = none := by
  unfold opLoad at h
  rw [hpar] at h
  split at h
  · rename_i s ver off hx
    have hx' := ev_rel hE hG hx
    split at h
    · rename_i ty cs fz hl
      split at h <;> cases h
      rename_i d hp
      obtain ⟨b, δ, hb, hB, _⟩ := hI.box hl
      obtain ⟨b', δ', hb', e⟩ := hx'.ptr_eq
      rw [hb] at hb'
      cases hb'
      rw [e]
      obtain ⟨val, hv⟩ := hB.cells
      obtain ⟨v, h1, h2⟩ := loadVar_run hT (a := ⟨b, δ, none⟩) rfl val hv hp
      rw [add_at] at h1
      refine ⟨⟨v, ?_, h2⟩, rfl⟩
      simp only [Instr.loadAt, Instr.sureAddr, Sem.run_bind, Sem.run_pure, Result.andThen_ok, h1]
    · cases h
  · rename_i q cs hx
    have hx' := ev_rel hE hG hx
    split at h <;> cases h
    rename_i y hp
    generalize hv : a.eval x = vx at hx' ⊢
    cases hx' with
    | pin k a' cs val ha hc =>
      have hc' : ∀ (i : Nat) x, (cs.map D.v)[i]? = some x → w.cell? (a'.add i) = some (val i) ∧ RelD w g (val i) x ∧ (val i).oneCell' = true := by
        intro i x hx
        simp only [List.getElem?_map, Option.map_eq_some_iff] at hx
        obtain ⟨u, hu, rfl⟩ := hx
        obtain ⟨h1, h2, h3, h4⟩ := hc i u hu
        exact ⟨h1, .v _ _ h3, h4⟩
      obtain ⟨v, h1, h2⟩ := loadVar_run hT ha val hc' (partV_D hp)
      refine ⟨⟨v, ?_, h2⟩, rfl⟩
      simp only [Addr.add, if_pos] at h1
      simp only [Instr.loadAt, Instr.sureAddr, Sem.run_bind, Sem.run_pure, Result.andThen_ok, h1]
  · cases h

theorem one_cells {S : Addr → Prop} {v : Value} {x : V} (h : RelV w S v x) (ho : v.oneCell' = true) : x.cells = [x] := by
  cases h <;> first | rfl | (simp [Value.oneCell'] at ho)

theorem group_flat {sz : Nat} (hsz : 1 ≤ sz) : ∀ (n : Nat) (cs : List V), (∀ x ∈ cs, x.cells = [x]) → n * sz ≤ cs.length →
    (group sz n cs).length = n ∧ (∀ x ∈ group sz n cs, x.cells.length = sz) ∧ (group sz n cs).flatMap V.cells = cs.take (n * sz) := by
  intro n
  induction n with
  | zero => intro cs _ _; simp [group]
  | succ n ih =>
    intro cs h1 hl
    rw [Nat.succ_mul] at hl
    obtain ⟨i1, i2, i3⟩ := ih (cs.drop sz) (fun x hx => h1 x (List.mem_of_mem_drop hx)) (by simp; omega)
    have hk : (elemV sz (cs.take sz)).cells = cs.take sz := by
      unfold elemV
      split
      · rename_i x hx
        have hs : sz = 1 := by
          have : (cs.take sz).length = 1 := by rw [hx]; rfl
          simp at this
          omega
        rw [if_pos hs, hx]
        exact h1 x (List.mem_of_mem_take (by rw [hx]; simp))
      · rfl
    refine ⟨by simp [group, i1], ?_, ?_⟩
    · intro x hx
      simp only [group, List.mem_cons] at hx
      rcases hx with rfl | hx
      · rw [hk]; simp; omega
      · exact i2 x hx
    · simp only [group, List.flatMap_cons]
      rw [hk, i3, Nat.succ_mul, Nat.add_comm, List.take_add]

/-- What stands in cells that stay, as a slice's elements. -/
theorem group_rel {S : Addr → Prop} {a : Addr} {cap sz n : Nat} {cs : List V} {val : Nat → Value} (hsz : 1 ≤ sz) (ha : a.spot = none) (hn : n ≤ cap) (hl : n * sz ≤ cs.length)
    (hc : ∀ (i : Nat) x, i < n * sz → cs[i]? = some x → w.cell? (a.add i) = some (val i) ∧ S (a.add i) ∧ (val i).oneCell' = true ∧ RelV w S (val i) x) :
    RelV w S (.slice (some a) n cap) (.slice false sz (group sz n cs)) := by
  have hg : ∀ (m : Nat) (cs' : List V), group sz m cs' = group sz m (cs'.take (m * sz)) := by
    intro m
    induction m with
    | zero => intro cs'; rfl
    | succ m ih =>
      intro cs'
      simp only [group]
      rw [List.take_take, Nat.min_eq_left (by rw [Nat.succ_mul]; omega)]
      congr 1
      rw [ih (cs'.drop sz), ih ((cs'.take ((m + 1) * sz)).drop sz)]
      congr 1
      rw [List.drop_take, List.take_take, Nat.succ_mul, Nat.add_sub_cancel, Nat.min_self]
  rw [hg]
  have h1 : ∀ x ∈ cs.take (n * sz), x.cells = [x] := by
    intro x hx
    obtain ⟨i, hi, rfl⟩ := List.mem_iff_getElem.1 hx
    simp at hi
    have := hc i cs[i] (by omega) (by simp)
    simp only [List.getElem_take]
    exact one_cells this.2.2.2 this.2.2.1
  obtain ⟨g1, g2, g3⟩ := group_flat hsz n (cs.take (n * sz)) h1 (by simp; omega)
  have get : ∀ (i : Nat) x, ((group sz n (cs.take (n * sz))).flatMap V.cells)[i]? = some x → i < n * sz ∧ cs[i]? = some x := by
    intro i x hx
    rw [g3, List.take_take, Nat.min_self, List.getElem?_take] at hx
    split at hx
    · exact ⟨by assumption, hx⟩
    · cases hx
  exact .slice a n cap sz _ val g1 hn ha g2 hsz (fun i x hx => ⟨(hc i x (get i x hx).1 (get i x hx).2).1, (hc i x (get i x hx).1 (get i x hx).2).2.1, (hc i x (get i x hx).1 (get i x hx).2).2.2.1⟩)
    (fun i x hx => (hc i x (get i x hx).1 (get i x hx).2).2.2.2)

theorem sliceArr_gives (hT : TOk P T) {n : Nat} {e : TypeId} {vx : Value} {d : D} {lo hi mx : Option D} {vlo vhi vmx : Option Value} {r : Eff} {s : Sem Value} (hI : Inv z g w st) (hx : RelD w g vx d)
    (rlo : OptR w g vlo lo) (rhi : OptR w g vhi hi) (rmx : OptR w g vmx mx)
    (hs : ∀ a l h m, vx = .pointer (some a) → (Instr.sliceBounds false n n vlo vhi vmx).run P w = .ok (l, h, m) w → (sizeOf e).run P w = .ok (cel T e) w →
      s.run P w = .ok (.slice (some (if m = l then a else a.add (l * cel T e))) (h - l) (m - l)) w) (h : sliceArr T st n e d lo hi mx = some r) : Gives P s w g r.d ∧ r.wr = none := by
  unfold sliceArr at h
  split at h
  · cases h
  rename_i hc
  simp only [not_or] at hc
  have hmx : mx = none := by cases mx with | none => rfl | some d => simp at hc
  subst hmx
  split at h
  · rename_i l h' m hb
    obtain ⟨h1, h2, h3, h4⟩ := bounds_run (P := P) (len := n) (cap := n) false rfl (Nat.le_refl n) (.inr (.inr trivial)) rlo rhi rmx hb
    have hm : m = none := by
      unfold bounds at hb
      simp only [bndM] at hb
      split at hb
      · cases hb
      · split at hb <;> cases hb
        rfl
    subst hm
    simp only [Option.getD_none] at h1 h3
    split at h
    · rename_i s' ver off hx
      split at h
      · rename_i ty cs fz hl
        split at h <;> cases h
        rename_i hle
        obtain ⟨b, δ, hb', hB, _⟩ := hI.box hl
        obtain ⟨b', δ', hb'', e'⟩ := hx.ptr_eq
        rw [hb'] at hb''
        cases hb''
        refine ⟨⟨_, hs _ _ _ _ e' h1 (hT.size' hc.2 w), ?_⟩, rfl⟩
        obtain ⟨cs', el, fr, e1, e2, e3, _⟩ := hB
        have hsub : (n - l) * cel T e = n * cel T e - l * cel T e := Nat.sub_mul _ _ _
        have hlm : l * cel T e ≤ n * cel T e := Nat.mul_le_mul_right _ (by omega)
        by_cases hml : n = l
        · rw [if_pos hml]
          exact .arr _ _ _ _ _ b δ _ _ hb' (by omega) (by omega) (fun hne => by omega) ⟨cs', el, fr, e1, by rw [← hml]; simp; omega⟩
        · rw [if_neg hml, add_at]
          exact .arr _ _ _ _ _ b δ _ _ hb' (by omega) (by omega) (fun _ => by omega) ⟨cs', el, fr, e1, by omega⟩
      · cases h
    · rename_i cs hx
      split at h <;> cases h
      rename_i hle
      cases hx with
      | pin k a cs val ha hcell =>
        refine ⟨⟨_, hs _ _ _ _ rfl h1 (hT.size' hc.2 w), .v _ _ ?_⟩, rfl⟩
        have hsub : (n - l) * cel T e = n * cel T e - l * cel T e := Nat.sub_mul _ _ _
        have hsub2 : (h' - l) * cel T e = h' * cel T e - l * cel T e := Nat.sub_mul _ _ _
        have hlm : l * cel T e ≤ h' * cel T e := Nat.mul_le_mul_right _ (by omega)
        have hlm2 : h' * cel T e ≤ n * cel T e := Nat.mul_le_mul_right _ (by omega)
        by_cases hml : n = l
        · rw [if_pos hml]
          have hh : h' - l = 0 := by omega
          rw [hh]
          exact group_rel (val := val) (by omega) ha (by omega) (by simp) (fun i x hi => by simp at hi)
        · rw [if_neg hml]
          refine group_rel (val := fun i => val (l * cel T e + i)) (by omega) (add_spot a ha _) (by omega) (by simp; omega) (fun i x hi hx => ?_)
          rw [List.getElem?_drop] at hx
          rw [add_add a ha]
          obtain ⟨q1, q2, q3, q4⟩ := hcell _ x hx
          exact ⟨q1, by simpa using q2, q4, q3⟩
    · cases h
  · cases h

theorem extract_list (s : ByteArray) (l h : Nat) : (s.extract l h).data.toList = (s.data.toList.take h).drop l := by
  simp only [ByteArray.data_extract, Array.toList_extract]
  rw [List.extract_eq_take_drop, List.drop_take]

theorem slice_gives (hT : TOk P T) {par : Par} (hpar : par.T = T) {a : Act} {env : E} {t : TypeId} {x : Operand} {lo hi mx : Option Operand} {r : Eff} (hI : Inv z g w st) (hE : RelE w g a.tmps env) (hG : GlobOk par w g)
    (h : opSlice par env st t x lo hi mx = some r) : Gives P (Instr.sliceAt t (a.eval x) (lo.map a.eval) (hi.map a.eval) (mx.map a.eval)) w g r.d ∧ r.wr = none := by
  unfold opSlice at h
  rw [hpar] at h
  split at h
  · rename_i d lo' hi' mx' hx hlo hhi hmx
    have hx' := ev_rel hE hG hx
    have rlo := optEv_rel hE hG hlo
    have rhi := optEv_rel hE hG hhi
    have rmx := optEv_rel hE hG hmx
    generalize a.eval x = vx at hx' ⊢
    generalize lo.map a.eval = vlo at rlo ⊢
    generalize hi.map a.eval = vhi at rhi ⊢
    generalize mx.map a.eval = vmx at rmx ⊢
    split at h
    · rename_i hu
      have hu := hT.und hu
      unfold sliceStr at h
      split at h
      · split at h <;> cases h
        rename_i s l h' m hb
        obtain ⟨bs, rfl, rfl⟩ := hx'.toV.str_eq
        have hv : vmx = none := by cases vmx with | none => rfl | some v => exact rmx.elim
        subst hv
        have hsz : bs.data.toList.length = bs.size := by rw [Array.length_toList]; rfl
        obtain ⟨h1, h2, h3, h4⟩ := bounds_run (P := P) (len := bs.size) (cap := bs.size) (vmx := none) (mx := none) false hsz (Nat.le_refl _) (.inr (.inr trivial)) rlo rhi trivial hb
        refine ⟨⟨.string (bs.extract l h'), ?_, .v _ _ ?_⟩, rfl⟩
        · unfold Instr.sliceAt Instr.slice
          simp only [Sem.run_bind, run_underlying hu, Result.andThen_ok, h1, Sem.run_pure]
          simp only [Option.isSome_none, Bool.false_eq_true, if_false, Sem.run_bind, Sem.run_pure, Result.andThen_ok, h1]
        · have := RelV.str (w := w) (S := g.S) (bs.extract l h')
          rwa [extract_list] at this
      · cases h
    · rename_i e hu
      exact sliceD_gives hT (hT.und hu) hx' rlo rhi rmx h
    · rename_i n e hu
      have hu := hT.und hu
      refine sliceArr_gives (e := e) hT hI hx' rlo rhi rmx (fun a l h m hv hb hz => ?_) h
      subst hv
      unfold Instr.sliceAt
      simp only [Sem.run_bind, run_underlying hu, Result.andThen_ok, Instr.sureAddr, Sem.run_pure, hb, hz]
    · rename_i pa hu
      have hu := hT.und hu
      split at h
      · rename_i n e hu2
        have hu2 := hT.und hu2
        refine sliceArr_gives (e := e) hT hI hx' rlo rhi rmx (fun a l h m hv hb hz => ?_) h
        subst hv
        unfold Instr.sliceAt Instr.slice
        simp only [Sem.run_bind, run_underlying hu, run_underlying hu2, Result.andThen_ok, asAddr, Sem.run_pure, hb, hz]
      · cases h
    · cases h
  · cases h

end
end Go.BI
/- SOUNDNESS OF 'B', tenth part: how the store is written. -/
set_option linter.unusedVariables false
set_option linter.unusedSimpArgs false
namespace Go.BI
open Go Go.RowKit

def Gh.put (g : Gh) (s v : Nat) (x : Nat × Nat) : Gh := { g with blk := fun s' v' => if s' = s ∧ v' = v then some x else g.blk s' v' }

def Gh.putS (g : Gh) (s v : Nat) (x : Nat × Nat) (S' : Addr → Prop) : Gh := ⟨(g.put s v x).blk, S', g.N⟩

theorem Gh.put_self (g : Gh) (s v : Nat) (x : Nat × Nat) : (g.put s v x).blk s v = some x := by simp [Gh.put]

section
variable {P : Program} {T : Tys} {z : Base} {w w' : World} {g : Gh} {st : Sites}

theorem verS_fresh (hI : Inv z g w st) {s v : Nat} (hv : verS st s < v) : g.blk s v = none := by
  cases h : g.blk s v with
  | none => rfl
  | some x =>
    obtain ⟨r, hr, hle⟩ := hI.ver s v x h
    simp only [verS, hr] at hv
    omega

theorem Gh.put_blk {s v : Nat} {x : Nat × Nat} (h : g.blk s v = none ∨ g.blk s v = some x) : ∀ t u y, g.blk t u = some y → (g.put s v x).blk t u = some y := by
  intro t u y e
  simp only [Gh.put]
  split
  · rename_i hc
    obtain ⟨rfl, rfl⟩ := hc
    rcases h with h | h
    · rw [h] at e; cases e
    · rw [h] at e; exact e
  · exact e

/-- A new block, at a site. -/
theorem Inv.new (hI : Inv z g w st) {s : Nat} (hs : s < maxSite) {o : Obj} {bo : BObj}
    (hB : Ext g w (g.put s (verS st s + 1) (w.heap.size, 0)) (w.alloc o) → RelB (w.alloc o) (g.put s (verS st s + 1) (w.heap.size, 0)) w.heap.size 0 bo) :
    Ext g w (g.put s (verS st s + 1) (w.heap.size, 0)) (w.alloc o) ∧ Inv z (g.put s (verS st s + 1) (w.heap.size, 0)) (w.alloc o) (setS st s ⟨verS st s + 1, some bo⟩) := by
  have hold : ∀ k, k < w.heap.size → (w.alloc o).heap[k]? = w.heap[k]? := by
    intro k hk
    simp only [World.alloc, Array.getElem?_push]
    rw [if_neg (by omega)]
  have hE : Ext g w (g.put s (verS st s + 1) (w.heap.size, 0)) (w.alloc o) :=
    ⟨Gh.put_blk (.inl (verS_fresh hI (Nat.lt_succ_self _))), fun _ h => h, fun _ h => h, fun a ha => World.cell?_alloc_lt _ _ _ (hI.lt ha), fun b cs el fr hb => by
      have hlt := (Array.getElem?_eq_some_iff.1 hb).1
      exact ⟨cs, fr, (hold b hlt).trans hb, rfl⟩, fun b L hb => ⟨L, (hold b (Array.getElem?_eq_some_iff.1 hb).1).trans hb⟩, by simp, fun b hb => (hold b (Array.getElem?_eq_some_iff.1 hb).1).trans hb⟩
  refine ⟨hE, ?_⟩
  have := hI.step (s := some (s, ⟨verS st s + 1, some bo⟩)) (bs := none) (g' := g.put s (verS st s + 1) (w.heap.size, 0)) (w' := w.alloc o) {
    ext := hE
    blocks := fun k hk _ => hold k hk
    size := by simp
    own := fun b hb => by cases hb
    others := fun t r ob x _ _ _ _ => by simp
    S := fun a ha => .inl ha
    N := fun a ha => ha
    blk := fun t v x hx => by
      simp only [Gh.put] at hx
      split at hx
      · rename_i hc
        exact .inr ⟨_, rfl, hc.1, hc.2⟩
      · exact .inl hx
    site := fun p hp => by
      cases hp
      refine ⟨hs, fun r hr => ?_, fun ob hob => ?_⟩
      · simp only [verS, hr]; omega
      · cases hob
        exact ⟨w.heap.size, 0, Gh.put_self _ _ _ _, hB hE, .inr (Nat.le_refl _)⟩
    old := fun a ha => by
      obtain ⟨h1, v, h2⟩ := hI.old a (.inl ha)
      exact ⟨h1, v, (World.cell?_alloc_lt _ _ _ (hI.lt (.inl ha))).trans h2⟩
    os := rfl
    tape := rfl
    output := rfl
    has := fun p x hp hx => by
      cases hp
      rw [Gh.put_self] at hx
      cases hx
      simp
  }
  exact this

/-- A block that is no site's. -/
theorem Inv.newS (hI : Inv z g w st) {o : Obj} {S' : Addr → Prop} (hS : ∀ a, S' a → g.S a ∨ (a.block = w.heap.size ∧ a.spot = none ∧ ∃ v, (w.alloc o).cell? a = some v)) (hS' : ∀ a, g.S a → S' a) :
    Ext g w { g with S := S' } (w.alloc o) ∧ Inv z { g with S := S' } (w.alloc o) st := by
  have hold : ∀ k, k < w.heap.size → (w.alloc o).heap[k]? = w.heap[k]? := by
    intro k hk
    simp only [World.alloc, Array.getElem?_push]
    rw [if_neg (by omega)]
  have hE : Ext g w { g with S := S' } (w.alloc o) :=
    ⟨fun _ _ _ h => h, hS', fun _ h => h, fun a ha => World.cell?_alloc_lt _ _ _ (hI.lt ha), fun b cs el fr hb => by
      have hlt := (Array.getElem?_eq_some_iff.1 hb).1
      exact ⟨cs, fr, (hold b hlt).trans hb, rfl⟩, fun b L hb => ⟨L, (hold b (Array.getElem?_eq_some_iff.1 hb).1).trans hb⟩, by simp, fun b hb => (hold b (Array.getElem?_eq_some_iff.1 hb).1).trans hb⟩
  refine ⟨hE, ?_⟩
  have := hI.step (s := none) (bs := none) (g' := { g with S := S' }) (w' := w.alloc o) {
    ext := hE
    blocks := fun k hk _ => hold k hk
    size := by simp
    own := fun b hb => by cases hb
    others := fun t r ob x _ _ _ _ => by simp
    S := fun a ha => by
      rcases hS a ha with h | ⟨h, _⟩
      · exact .inl h
      · exact .inr (.inl (by omega))
    N := fun a ha => ha
    blk := fun t v x hx => .inl hx
    site := fun p hp => by cases hp
    old := fun a ha => by
      rcases hS a ha with h | ⟨_, h1, h2⟩
      · obtain ⟨h1, v, h2⟩ := hI.old a (.inl h)
        exact ⟨h1, v, (World.cell?_alloc_lt _ _ _ (hI.lt (.inl h))).trans h2⟩
      · exact ⟨h1, h2⟩
    os := rfl
    tape := rfl
    output := rfl
    has := fun p x hp hx => by cases hp
  }
  exact this

/-- What a write to a range of a block's cells leaves as it is. -/
structure Wrote (w w' : World) (b lo hi : Nat) (cs cs' : Array Value) (el : TypeId) (fr fr' : Nat × Nat) : Prop where
  was : w.heap[b]? = some (.cells cs el fr)
  is : w'.heap[b]? = some (.cells cs' el fr')
  size : cs'.size = cs.size
  out : ∀ k, ¬ (lo ≤ k ∧ k < hi) → cs'[k]? = cs[k]?
  others : ∀ k, k ≠ b → w'.heap[k]? = w.heap[k]?
  heap : w'.heap.size = w.heap.size
  os : w'.os = w.os
  tape : w'.tape = w.tape
  output : w'.output = w.output

theorem Wrote.cell {b lo hi : Nat} {cs cs' : Array Value} {el : TypeId} {fr fr' : Nat × Nat} (h : Wrote w w' b lo hi cs cs' el fr fr') {a : Addr} (ha : a.block ≠ b ∨ ¬ (lo ≤ a.off ∧ a.off < hi)) : w'.cell? a = w.cell? a := by
  by_cases hb : a.block = b
  · have ho := ha.resolve_left (fun h => h hb)
    simp only [World.cell?, hb, h.was, h.is, h.out _ ho]
  · simp only [World.cell?, h.others _ hb]

/-- A block of a site is written, in a range that is not frozen; cells may come to stay. -/
theorem Inv.write (hI : Inv z g w st) {s ver : Nat} {ob : BObj} {b δ : Nat} (hs : s < maxSite) (hl : BI.look st s ver = some ob) (hb : g.blk s ver = some (b, δ)) {lo hi : Nat} {cs cs' : Array Value} {el : TypeId} {fr fr' : Nat × Nat}
    (hw : Wrote w w' b lo hi cs cs' el fr fr') (hfree : ∀ k, lo ≤ k → k < hi → ¬ g.S ⟨b, k, none⟩ ∧ ¬ g.N ⟨b, k, none⟩) {ver' δ' : Nat} {bo : BObj} (hv : (ver' = ver ∧ δ' = δ) ∨ ver' = ver + 1)
    {S' : Addr → Prop} (hS : ∀ a, S' a → g.S a ∨ (a.block = b ∧ a.spot = none ∧ a.off < cs.size)) (hS' : ∀ a, g.S a → S' a)
    (hB : Ext g w (g.putS s ver' (b, δ') S') w' → RelB w' (g.putS s ver' (b, δ') S') b δ' bo) :
    Ext g w (g.putS s ver' (b, δ') S') w' ∧ Inv z (g.putS s ver' (b, δ') S') w' (setS st s ⟨ver', some bo⟩) := by
  obtain ⟨r, hr, rfl, hro⟩ := look_of hl
  obtain ⟨b0, δ0, hb0, hB0, hown⟩ := hI.site s r ob hr hro
  rw [hb] at hb0
  cases hb0
  have hver : verS st s = r.ver := by simp [verS, hr]
  have hblk : g.blk s ver' = none ∨ g.blk s ver' = some (b, δ') := by
    rcases hv with ⟨rfl, rfl⟩ | rfl
    · exact .inr hb
    · exact .inl (verS_fresh hI (by omega))
  have hcell : ∀ a, g.S a ∨ g.N a → w'.cell? a = w.cell? a := by
    intro a ha
    refine hw.cell ?_
    by_cases hab : a.block = b
    · right
      rintro ⟨h1, h2⟩
      obtain ⟨hsp, _⟩ := hI.old a ha
      have e : a = ⟨b, a.off, none⟩ := by
        obtain ⟨x, y, q⟩ := a
        simp only at hab hsp
        subst hab hsp
        rfl
      obtain ⟨n1, n2⟩ := hfree a.off h1 h2
      rw [e] at ha
      exact ha.elim n1 n2
    · exact .inl hab
  have hE : Ext g w (g.putS s ver' (b, δ') S') w' :=
    ⟨Gh.put_blk hblk, hS', fun _ h => h, hcell, fun k c e f hk => by
      by_cases hkb : k = b
      · subst hkb
        rw [hw.was] at hk
        cases hk
        exact ⟨cs', fr', hw.is, hw.size⟩
      · exact ⟨c, f, (hw.others k hkb).trans hk, rfl⟩, fun k L hk => by
      by_cases hkb : k = b
      · subst hkb
        rw [hw.was] at hk
        cases hk
      · exact ⟨L, (hw.others k hkb).trans hk⟩, by rw [hw.heap]; exact Nat.le_refl _, fun k hk => by
      by_cases hkb : k = b
      · subst hkb
        rw [hw.was] at hk
        cases hk
      · exact (hw.others k hkb).trans hk⟩
  refine ⟨hE, ?_⟩
  have hlt : b < w.heap.size := (Array.getElem?_eq_some_iff.1 hw.was).1
  have := hI.step (s := some (s, ⟨ver', some bo⟩)) (bs := some b) (g' := (g.putS s ver' (b, δ') S')) (w' := w') {
    ext := hE
    blocks := fun k hk hne => hw.others k (fun e => hne (by rw [e]))
    size := by rw [hw.heap]; exact Nat.le_refl _
    own := fun k hk => by
      cases hk
      exact ⟨hown, hlt⟩
    others := fun t r' o' x hne hr' ho' hx => by
      have hts : t ≠ s := hne _ rfl
      have := hI.apart t s r' r o' ob x (b, δ) hr' hr ho' hro hx hb hts
      intro e
      cases e
      exact this rfl
    S := fun a ha => by
      rcases hS a ha with h | ⟨h, _⟩
      · exact .inl h
      · exact .inr (.inr (by rw [h]))
    N := fun a ha => ha
    blk := fun t v x hx => by
      simp only [Gh.putS, Gh.put] at hx
      split at hx
      · rename_i hc
        exact .inr ⟨_, rfl, hc.1, hc.2⟩
      · exact .inl hx
    site := fun p hp => by
      cases hp
      refine ⟨hs, fun r' hr' => ?_, fun o' ho' => ?_⟩
      · rw [hr] at hr'
        cases hr'
        show r.ver ≤ ver'
        rcases hv with ⟨h, _⟩ | h <;> omega
      · cases ho'
        exact ⟨b, δ', Gh.put_self _ _ _ _, hB hE, .inl rfl⟩
    old := fun a ha => by
      rcases hS a ha with h | ⟨h1, h2, h3⟩
      · obtain ⟨h1, v, h2⟩ := hI.old a (.inl h)
        exact ⟨h1, v, (hcell a (.inl h)).trans h2⟩
      · refine ⟨h2, ?_⟩
        have h3' : a.off < cs'.size := by rw [hw.size]; exact h3
        refine ⟨cs'[a.off], ?_⟩
        simp [World.cell?, h1, hw.is, h2, h3']
    os := hw.os
    tape := hw.tape
    output := hw.output
    has := fun p x hp hx => by
      cases hp
      have : (g.put s ver' (b, δ')).blk s ver' = some x := hx
      rw [Gh.put_self] at this
      cases this
      rw [hw.heap]
      exact hlt
  }
  exact this

/-- Storing cells, one behind the other. -/
theorem storeCells_run (P : Program) (b o : Nat) (el : TypeId) (fr : Nat × Nat) : ∀ (vs : List Value) (i : Nat) (cs : Array Value) (w : World), w.heap[b]? = some (.cells cs el fr) → o + i + vs.length ≤ cs.size →
    (∀ k, o + i ≤ k → k < o + i + vs.length → ¬ (fr.1 ≤ k ∧ k < fr.2)) → (∀ v ∈ vs, v.oneCell' = true) →
    ∃ w' cs', (storeCells ⟨b, o, none⟩ vs i).run P w = .ok () w' ∧ Wrote w w' b (o + i) (o + i + vs.length) cs cs' el fr fr ∧ ∀ j, j < vs.length → cs'[o + i + j]? = vs[j]? := by
  intro vs
  induction vs with
  | nil =>
    intro i cs w hw hl hf h1
    exact ⟨w, cs, rfl, ⟨hw, hw, rfl, fun _ _ => rfl, fun _ _ => rfl, rfl, rfl, rfl, rfl⟩, fun j hj => by simp at hj⟩
  | cons v r ih =>
    intro i cs w hw hl hf h1
    simp only [List.length_cons] at hl hf
    have hi : o + i < cs.size := by omega
    have hcell : w.cell? ⟨b, o + i, none⟩ = some cs[o + i] := by simp [World.cell?, hw, hi]
    have hfro : w.frozen? ⟨b, o + i, none⟩ = false := by
      have := hf (o + i) (Nat.le_refl _) (by omega)
      simp only [World.frozen?, hw]
      rw [Bool.and_eq_false_iff, decide_eq_false_iff_not, decide_eq_false_iff_not]
      exact Classical.not_and_iff_not_or_not.1 this
    have hst : (store ((⟨b, o, none⟩ : Addr).add i) v).run P w = .ok () (w.setCell ⟨b, o + i, none⟩ v) := by
      rw [add_at, run_store P w _ v _ (h1 v (by simp)), hcell]
      simp [hfro]
    have hblt : b < w.heap.size := (Array.getElem?_eq_some_iff.1 hw).1
    have hw1 : (w.setCell ⟨b, o + i, none⟩ v).heap[b]? = some (.cells (cs.setIfInBounds (o + i) v) el fr) := by
      simp only [World.setCell, Array.getElem?_modify, hw, if_true, Option.map_some]
      rfl
    have hwo : ∀ k, k ≠ b → (w.setCell ⟨b, o + i, none⟩ v).heap[k]? = w.heap[k]? := by
      intro k hk
      simp only [World.setCell, Array.getElem?_modify]
      rw [if_neg (Ne.symm hk)]
    obtain ⟨w', cs', e1, e2, e3⟩ := ih (i + 1) (cs.setIfInBounds (o + i) v) (w.setCell ⟨b, o + i, none⟩ v) hw1 (by simp; omega) (fun k h2 h3 => hf k (by omega) (by omega)) (fun x hx => h1 x (by simp [hx]))
    refine ⟨w', cs', ?_, ⟨hw, e2.is, ?_, fun k hk => ?_, fun k hk => (e2.others k hk).trans (hwo k hk), ?_, e2.os.trans rfl, e2.tape.trans rfl, e2.output.trans rfl⟩, fun j hj => ?_⟩
    · simp only [storeCells, Sem.run_bind, hst, Result.andThen_ok, e1]
    · rw [e2.size]; simp
    · simp only [List.length_cons] at hk
      rw [e2.out k (by omega)]
      exact Array.getElem?_setIfInBounds_ne (by omega)
    · rw [e2.heap]; simp
    · cases j with
      | zero =>
        have := e2.out (o + i) (by omega)
        rw [Nat.add_zero, this]
        simp [hi]
      | succ j =>
        simp only [List.length_cons] at hj
        have := e3 j (by omega)
        rw [show o + i + (j + 1) = o + (i + 1) + j from by omega, this]
        simp

end
end Go.BI
/- SOUNDNESS OF 'B', eleventh part: new variables and rows, iterators, stores. -/
set_option linter.unusedVariables false
set_option linter.unusedSimpArgs false
namespace Go.BI
open Go Go.RowKit

section
variable {P : Program} {T : Tys} {z : Base} {w w' : World} {g : Gh} {st : Sites}

theorem alloc_new (w : World) (o : Obj) : (w.alloc o).heap[w.heap.size]? = some o := by
  show (w.heap.push o)[w.heap.size]? = some o
  simp

theorem zeroValue_run (hT : TOk P T) {t : TypeId} {x : V} (h : zeroV T t = some x) (w : World) (S : Addr → Prop) : ∃ v, (zeroValue t).run P w = .ok v w ∧ RelV w S v x := by
  unfold zeroV at h
  split at h
  · rename_i i hi
    obtain ⟨inf, h1, h2, h3, h4, h5⟩ := hT.info t i hi
    obtain ⟨v, hv, hc⟩ := h5 x h
    exact ⟨v, by simp [zeroValue, typeInfo, h1, hv, go_sem], constV_rel hc⟩
  · cases h

/-- A new row of cells, at a site. -/
theorem Inv.newRow (hI : Inv z g w st) {s : Nat} (hs : s < maxSite) (e : TypeId) {cells : Array Value} {ds : List D} (hlen : ds.length ≤ cells.size)
    (hrel : ∀ (i : Nat) v d, cells[i]? = some v → ds[i]? = some d → RelD w g v d) (hone : ∀ (i : Nat) v, i < ds.length → cells[i]? = some v → v.oneCell' = true) :
    Ext g w (g.put s (verS st s + 1) (w.heap.size, 0)) (w.alloc (.cells cells e)) ∧ Inv z (g.put s (verS st s + 1) (w.heap.size, 0)) (w.alloc (.cells cells e)) (setS st s ⟨verS st s + 1, some (.box e ds 0)⟩) := by
  refine hI.new hs fun hE => ⟨cells, e, (0, 0), ?_, fun _ => ⟨rfl, rfl⟩, by omega, fun i v d hv hd => ?_, fun i _ => ⟨fun hS => ?_, fun hN => ?_, ?_⟩, fun i hi => by omega, Nat.zero_le _, fun i v hi hv => ?_⟩
  · exact alloc_new _ _
  · rw [Nat.zero_add] at hv
    exact (hrel i v d hv hd).ext hE
  · exact absurd (hI.lt (a := ⟨w.heap.size, 0 + i, none⟩) (.inl hS)) (by simp)
  · exact absurd (hI.lt (a := ⟨w.heap.size, 0 + i, none⟩) (.inr hN)) (by simp)
  · exact Nat.zero_le _
  · rw [Nat.zero_add] at hv
    exact hone i v hi hv

/-- A new variable at a site. -/
theorem newVar_does (hI : Inv z g w st) {s : Nat} (hs : s < maxSite) {e : TypeId} {v : Value} {d : D} (hd : RelD w g v d) (ho : oneD d = true) {x : Sem Next}
    (hx : x.run P w = .ok (.value (.pointer (some ⟨w.heap.size, 0, none⟩))) (w.alloc (.cells v.cells e))) :
    Does P x z g w (.ptr s (verS st s + 1) 0) (setS st s ⟨verS st s + 1, some (.box e d.cells 0)⟩) := by
  have hc := Cells.of hd ho
  obtain ⟨h1, h2⟩ := hI.newRow hs e (cells := v.cells) (ds := d.cells) (by rw [hc.size]; exact Nat.le_refl _) hc.rel (fun i u _ hu => hc.one i u hu)
  exact ⟨_, _, _, .inl hx, .ptr s (verS st s + 1) 0 w.heap.size 0 (Gh.put_self _ _ _ _), h1, h2⟩

theorem alloc_does (hT : TOk P T) {par : Par} (hpar : par.T = T) {fb : Nat} {dst : Option Tmp} {e : TypeId} {r : Eff} (hI : Inv z g w st) (h : opAlloc par fb dst st e = some r) :
    ∃ s rc, r.wr = some (s, rc) ∧ (s < maxSite → Does P (do pure (Next.value (← Instr.alloc e true (.tuple #[])))) z g w r.d (setS st s rc)) := by
  unfold opAlloc at h
  rw [hpar] at h
  split at h
  · rename_i x t hz
    split at h <;> cases h
    rename_i hc
    refine ⟨_, _, rfl, fun hs => ?_⟩
    obtain ⟨v, h1, h2⟩ := zeroValue_run hT hz w g.S
    have := newVar_does (P := P) (e := e) hI hs (d := .v x) (.v _ _ h2) hc.1 (x := do pure (Next.value (← Instr.alloc e true (.tuple #[])))) (by
      simp [Instr.alloc, h1, newVar, newRow, go_sem])
    exact this
  · cases h

theorem box_does (hT : TOk P T) {par : Par} (hpar : par.T = T) {a : Act} {env : E} {fb : Nat} {dst : Option Tmp} {e : TypeId} {x : Operand} {r : Eff} (hI : Inv z g w st) (hE : RelE w g a.tmps env) (hG : GlobOk par w g)
    (h : opBox par fb dst env st e x = some r) :
    ∃ s rc, r.wr = some (s, rc) ∧ (s < maxSite → Does P (do pure (Next.value (← Instr.box e (a.eval x)))) z g w r.d (setS st s rc)) := by
  unfold opBox at h
  rw [hpar] at h
  split at h
  · rename_i d t hd
    split at h <;> cases h
    rename_i hc
    refine ⟨_, _, rfl, fun hs => ?_⟩
    exact newVar_does (P := P) (e := e) hI hs (ev_rel hE hG hd) hc.1 (by simp [Instr.box, newVar, newRow, go_sem])
  · cases h

theorem flatten_get {α : Type} (l : List α) : ∀ (n i : Nat), (List.replicate n l).flatten[i]? = if i < n * l.length then l[i % l.length]? else none := by
  intro n
  induction n with
  | zero => intro i; simp
  | succ n ih =>
    intro i
    rw [List.replicate_succ, List.flatten_cons, Nat.succ_mul]
    by_cases hi : i < l.length
    · rw [List.getElem?_append_left hi, if_pos (by omega), Nat.mod_eq_of_lt hi]
    · rw [List.getElem?_append_right (by omega), ih]
      by_cases h2 : i - l.length < n * l.length
      · rw [if_pos h2, if_pos (by omega)]
        congr 1
        rw [Nat.mod_eq_sub_mod (by omega : l.length ≤ i)]
      · rw [if_neg h2, if_neg (by omega)]

theorem wrap_small {n : Int} (h0 : 0 ≤ n) (h1 : n ≤ (big40 : Nat)) : IntKind.i64.wrap n = n := by
  simp only [big40] at h1
  simp [IntKind.wrap, IntKind.bits, IntKind.signed]
  omega

theorem make_does (hT : TOk P T) {par : Par} (hpar : par.T = T) {a : Act} {env : E} {fb : Nat} {dst : Option Tmp} {t : TypeId} {l c : Operand} {r : Eff} (hI : Inv z g w st) (hE : RelE w g a.tmps env) (hG : GlobOk par w g)
    (h : opMake par fb dst env st t l c = some r) :
    ∃ s rc, r.wr = some (s, rc) ∧ (s < maxSite → Does P (do pure (Next.value (← Instr.makeSlice t (a.eval l) (a.eval c)))) z g w r.d (setS st s rc)) := by
  unfold opMake at h
  rw [hpar] at h
  split at h
  · rename_i e k n k' m t' hu hl hc
    split at h
    · rename_i x hz
      split at h <;> cases h
      rename_i hcond
      obtain ⟨h0, hnm, hm40, hb40, hone, hlen, hne⟩ := hcond
      refine ⟨_, _, rfl, fun hs => ?_⟩
      have hl' := (ev_rel hE hG hl).toV.int_eq
      have hc' := (ev_rel hE hG hc).toV.int_eq
      rw [hl', hc']
      obtain ⟨v, h1, h2⟩ := zeroValue_run hT hz w g.S
      have hu' := hT.und hu
      have hsz := hT.size' hne w
      have hwn : IntKind.i64.wrap n = n := wrap_small h0 (by omega)
      have hwm : IntKind.i64.wrap m = m := wrap_small (by omega) hm40
      have hvsz : v.cells.size = cel T e := by rw [h2.cells.1, hlen]
      have hdsz : x.cells.length = cel T e := hlen
      have hcelpos : 0 < cel T e := by omega
      -- the element's own entry
      have hinf : ∃ inf, P.info? e = some inf ∧ inf.bytes = byt T e := by
        have : cel T e ≠ 0 := hne
        unfold cel at this
        split at this
        · rename_i i hi
          obtain ⟨inf, q1, q2, q3, q4, _⟩ := hT.info e i hi
          exact ⟨inf, q1, by simp [byt, hi, q4]⟩
        · exact absurd rfl this
      obtain ⟨inf, hinf1, hinf2⟩ := hinf
      let cells := (Array.range (m.toNat * cel T e)).map (v.cells[· % v.cells.size]!)
      have hrun : (do pure (Next.value (← Instr.makeSlice t (.int k n) (.int k' m))) : Sem Next).run P w = .ok (.value (.slice (some ⟨w.heap.size, 0, none⟩) n.toNat m.toNat)) (w.alloc (.cells cells e)) := by
        have hbig : ¬ (281474976710656 < (byt T e : Int) * m) := by
          have : ((m.toNat * byt T e : Nat) : Int) ≤ (big40 : Nat) := by exact_mod_cast hb40
          have hmn : (m.toNat : Int) = m := Int.toNat_of_nonneg (by omega)
          rw [Int.natCast_mul, hmn, Int.mul_comm] at this
          simp only [big40] at this
          omega
        have hm0 : ¬ m < 0 := by omega
        have hn0 : ¬ n < 0 := by omega
        have hnm' : ¬ n > m := by omega
        have hmem : (zeroValue e).run P w = .ok v w := h1
        by_cases hzz : m.toNat * cel T e = 0
        · simp [Instr.makeSlice, asInt, asIntOf, run_underlying hu', typeInfo, hinf1, hinf2, hwn, hwm, hbig, hm0, hn0, hnm', hsz, hzz, newRow, cells, Sem.run_bind, run_newObj, go_sem]
        · simp [Instr.makeSlice, asInt, asIntOf, run_underlying hu', typeInfo, hinf1, hinf2, hwn, hwm, hbig, hm0, hn0, hnm', hsz, hzz, newRow, cells, Sem.run_bind, run_newObj, hmem, go_sem]
      have hflen : ((List.replicate n.toNat x.cells).flatten.map D.v).length = n.toNat * cel T e := by simp [hdsz]
      have hnmT : n.toNat * cel T e ≤ m.toNat * cel T e := Nat.mul_le_mul_right _ (by omega)
      have hget : ∀ (i : Nat) u, cells[i]? = some u → i < m.toNat * cel T e ∧ v.cells[i % cel T e]? = some u := by
        intro i u hu
        simp only [cells, Array.getElem?_map, Array.getElem?_range] at hu
        split at hu
        · rename_i hi
          simp only [Option.map_some, Option.some.injEq] at hu
          refine ⟨hi, ?_⟩
          have hmod : i % cel T e < v.cells.size := by rw [hvsz]; exact Nat.mod_lt _ hcelpos
          rw [hvsz] at hu
          rw [getElem!_pos v.cells (i % cel T e) hmod] at hu
          rw [← hu]
          simp [hmod]
        · cases hu
      obtain ⟨q1, q2⟩ := hI.newRow hs e (cells := cells) (ds := (List.replicate n.toNat x.cells).flatten.map .v) (by rw [hflen]; simp [cells]; exact hnmT)
        (fun i u d hu hd => by
          obtain ⟨_, hu'⟩ := hget i u hu
          simp only [List.getElem?_map, Option.map_eq_some_iff] at hd
          obtain ⟨y, hy, rfl⟩ := hd
          rw [flatten_get, hdsz] at hy
          split at hy
          · exact .v _ _ (h2.cells.2 _ u y hu' hy)
          · cases hy)
        (fun i u _ hu => by
          obtain ⟨_, hu'⟩ := hget i u hu
          exact h2.one hone _ u hu')
      refine ⟨_, _, _, .inl hrun, ?_, q1, q2⟩
      refine .arr _ _ _ _ _ w.heap.size 0 _ _ (Gh.put_self _ _ _ _) (by omega) hcelpos (fun _ => rfl) ⟨cells, e, (0, 0), alloc_new _ _, by simp [cells]⟩
    · cases h
  · cases h

theorem range_does (hT : TOk P T) {par : Par} (hpar : par.T = T) {a : Act} {env : E} {fb : Nat} {dst : Option Tmp} {t : TypeId} {x : Operand} {r : Eff} (hI : Inv z g w st) (hE : RelE w g a.tmps env) (hG : GlobOk par w g)
    (h : opRange par fb dst env st t x = some r) :
    ∃ s rc, r.wr = some (s, rc) ∧ (s < maxSite → Does P (do pure (Next.value (← Instr.range t (a.eval x)))) z g w r.d (setS st s rc)) := by
  unfold opRange at h
  rw [hpar] at h
  split at h
  · rename_i s dst' hx hu
    cases h
    refine ⟨_, _, rfl, fun hs => ?_⟩
    obtain ⟨ba, e, es⟩ := (ev_rel hE hG hx).toV.str_eq
    rw [e]
    obtain ⟨q1, q2⟩ := hI.new hs (o := .stringIter ba 0) (bo := .iter s 0) (fun hE => ⟨ba, alloc_new _ _, es.symm⟩)
    refine ⟨.pointer (some ⟨w.heap.size, 0, none⟩), _, _, .inl ?_, .itr _ _ w.heap.size 0 (Gh.put_self _ _ _ _), q1, q2⟩
    simp [Instr.range, run_underlying (hT.und hu), go_sem]
  · cases h

/-- A store to a variable. -/
theorem store_does (hT : TOk P T) {par : Par} (hpar : par.T = T) {a : Act} {env : E} {t : TypeId} {p x : Operand} {r : Eff} (hI : Inv z g w st) (hE : RelE w g a.tmps env) (hG : GlobOk par w g)
    (h : opStore par env st t p x = some r) :
    ∃ s rc, r.wr = some (s, rc) ∧ (s < maxSite → Does P (do Instr.storeAt t (a.eval p) (a.eval x); pure Next.skip) z g w r.d (setS st s rc)) := by
  unfold opStore at h
  rw [hpar] at h
  split at h
  · rename_i s ver off d hp hx
    split at h
    · rename_i ty cs fz hl
      split at h <;> cases h
      rename_i hc
      obtain ⟨hone, hsome, hlen, hfz, hle⟩ := hc
      refine ⟨_, _, rfl, fun hs => ?_⟩
      have hx' := ev_rel hE hG hx
      obtain ⟨b, δ, hb, hB, hown⟩ := hI.box hl
      obtain ⟨b', δ', hb', e⟩ := (ev_rel hE hG hp).ptr_eq
      rw [hb] at hb'
      cases hb'
      rw [e]
      generalize a.eval x = v at hx' ⊢
      have hC := Cells.of hx' hone
      obtain ⟨vs, el, fr, h1, h2, h3, h4, h5, h6, h7, h8⟩ := hB
      have hvl : v.cells.toList.length = d.cells.length := by rw [Array.length_toList]; exact hC.size
      obtain ⟨w', vs', r1, r2, r3⟩ := storeCells_run P b (δ + off) el fr v.cells.toList 0 vs w h1 (by omega)
        (fun k hk1 hk2 => by
          have := (h5 (k - δ) (by omega)).2.2
          rw [show δ + (k - δ) = k from by omega] at this
          exact fun h => by omega)
        (fun u hu => by
          obtain ⟨i, hi, rfl⟩ := List.mem_iff_getElem.1 hu
          exact hC.one i _ (by simp at hi ⊢))
      simp only [Nat.add_zero] at r2 r3
      obtain ⟨k, hk⟩ := Option.isSome_iff_exists.1 hsome
      have hsz := hT.size hk w
      have hrun : (do Instr.storeAt t (.pointer (some ⟨b, δ + off, none⟩)) v; pure Next.skip : Sem Next).run P w = .ok .skip w' := by
        have hcs : ¬ (v.cells.size ≠ cel T t) := by rw [hC.size, hlen]; simp
        simp only [Instr.storeAt, Instr.sureAddr, storeVar, Sem.run_bind, Sem.run_pure, Result.andThen_ok, hsz, if_neg hcs, r1]
      have hdl : (overlay cs off d.cells).length = cs.length := by simp [overlay]; omega
      have hget : ∀ (i : Nat), (overlay cs off d.cells)[i]? = if off ≤ i ∧ i < off + d.cells.length then d.cells[i - off]? else cs[i]? := by
        intro i
        unfold overlay
        by_cases h1 : i < off
        · rw [if_neg (by omega), List.append_assoc, List.getElem?_append_left (by simp; omega), List.getElem?_take, if_pos h1]
        · by_cases h2 : i < off + d.cells.length
          · rw [if_pos (by omega), List.append_assoc, List.getElem?_append_right (by simp; omega), List.getElem?_append_left (by simp; omega)]
            congr 1
            simp; omega
          · rw [if_neg (by omega), List.getElem?_append_right (by simp; omega), List.getElem?_drop]
            congr 1
            simp; omega
      have key := hI.write (s := s) (ver := ver) (b := b) (δ := δ) hs (lookBox_look hl) hb r2 (fun k hk1 hk2 => by
          have := h5 (k - δ) (by omega)
          rw [show δ + (k - δ) = k from by omega] at this
          exact ⟨this.1, this.2.1⟩) (ver' := ver) (δ' := δ) (bo := .box ty (overlay cs off d.cells) fz) (.inl ⟨rfl, rfl⟩) (S' := g.S) (fun a ha => .inl ha) (fun a ha => ha)
        (fun hE => by
          refine ⟨vs', el, fr, r2.is, h2, by rw [r2.size, hdl]; exact h3, fun i u y hu hy => ?_, h5, fun i h1 h2 => h6 i h1 (by omega), by omega, fun i u hi hu => ?_⟩
          · rw [hget] at hy
            split at hy
            · rename_i hi
              have := r3 (i - off) (by omega)
              rw [show δ + off + (i - off) = δ + i from by omega, hu] at this
              exact (hC.rel (i - off) u y (by simpa using this.symm) hy).ext hE
            · rw [r2.out (δ + i) (by omega)] at hu
              exact (h4 i u y hu hy).ext hE
          · by_cases hi2 : off ≤ i ∧ i < off + d.cells.length
            · have := r3 (i - off) (by omega)
              rw [show δ + off + (i - off) = δ + i from by omega, hu] at this
              exact hC.one (i - off) u (by simpa using this.symm)
            · rw [r2.out (δ + i) (by omega)] at hu
              exact h8 i u (by omega) hu)
      exact ⟨undef, _, w', .inr ⟨hrun, rfl⟩, .v _ _ (.undef _ (by simp [undef])), key.1, key.2⟩
    · cases h
  · cases h

end
end Go.BI
/- SOUNDNESS OF 'B', twelfth part: aggregates and lists. -/
set_option linter.unusedVariables false
set_option linter.unusedSimpArgs false
namespace Go.BI
open Go Go.RowKit

section
variable {P : Program} {T : Tys} {z : Base} {w w' : World} {g : Gh} {st : Sites}

theorem overlay_len {cs new : List D} {off : Nat} (h : off + new.length ≤ cs.length) : (overlay cs off new).length = cs.length := by simp [overlay]; omega

theorem overlay_get {cs new : List D} {off : Nat} (h : off + new.length ≤ cs.length) (i : Nat) : (overlay cs off new)[i]? = if off ≤ i ∧ i < off + new.length then new[i - off]? else cs[i]? := by
  unfold overlay
  by_cases h1 : i < off
  · rw [if_neg (by omega), List.append_assoc, List.getElem?_append_left (by simp; omega), List.getElem?_take, if_pos h1]
  · by_cases h2 : i < off + new.length
    · rw [if_pos (by omega), List.append_assoc, List.getElem?_append_right (by simp; omega), List.getElem?_append_left (by simp; omega)]
      congr 1
      simp; omega
    · rw [if_neg (by omega), List.getElem?_append_right (by simp; omega), List.getElem?_drop]
      congr 1
      simp; omega

theorem foldl_set (off : Nat) : ∀ (l : List Value) (k : Nat) (cs : Array Value), 
    ((l.zipIdx k).foldl (fun cs (c, j) => cs.setIfInBounds (off + j) c) cs).size = cs.size ∧
    ∀ i, off + k + l.length ≤ cs.size → ((l.zipIdx k).foldl (fun cs (c, j) => cs.setIfInBounds (off + j) c) cs)[i]? = if off + k ≤ i ∧ i < off + k + l.length then l[i - (off + k)]? else cs[i]? := by
  intro l
  induction l with
  | nil => intro k cs; refine ⟨rfl, fun i _ => ?_⟩; simp; intro h1 h2; omega
  | cons v r ih =>
    intro k cs
    simp only [List.zipIdx_cons, List.foldl_cons, List.length_cons]
    obtain ⟨h1, h2⟩ := ih (k + 1) (cs.setIfInBounds (off + k) v)
    refine ⟨by rw [h1]; simp, fun i hi => ?_⟩
    rw [h2 i (by simp; omega)]
    by_cases hc : off + (k + 1) ≤ i ∧ i < off + (k + 1) + r.length
    · rw [if_pos hc, if_pos (by omega)]
      rw [show i - (off + k) = (i - (off + (k + 1))) + 1 from by omega]
      simp
    · rw [if_neg hc]
      by_cases he : i = off + k
      · subst he
        rw [if_pos (by omega)]
        have : off + k < cs.size := by omega
        simp [this]
      · rw [if_neg (by omega)]
        exact Array.getElem?_setIfInBounds_ne (by omega)

/-- Parts, each what it is. -/
def RelP (w : World) (g : Gh) : List (Nat × Value) → List (Nat × D) → Prop
  | [], [] => True
  | (i, v) :: r, (j, d) :: q => i = j ∧ RelD w g v d ∧ RelP w g r q
  | _, _ => False

theorem fill_run {place place' : Nat → Option (Nat × Nat)} (hp : ∀ i p, place' i = some p → place i = some p) : ∀ (ps : List (Nat × Value)) (qs : List (Nat × D)) (cells : Array Value) (ds out : List D), Cells w g cells ds → RelP w g ps qs →
    fillB place' ds qs = some out → ∃ cells', Instr.fill place cells ps = some cells' ∧ Cells w g cells' out := by
  intro ps
  induction ps with
  | nil =>
    intro qs cells ds out hc hr h
    cases qs with
    | nil => simp only [fillB] at h; cases h; exact ⟨cells, rfl, hc⟩
    | cons q qs => exact hr.elim
  | cons p ps ih =>
    intro qs cells ds out hc hr h
    cases qs with
    | nil => obtain ⟨i, v⟩ := p; exact hr.elim
    | cons q qs =>
      obtain ⟨i, v⟩ := p
      obtain ⟨j, d⟩ := q
      obtain ⟨rfl, hd, hr'⟩ := hr
      simp only [fillB] at h
      split at h
      · cases h
      · rename_i off size hpl
        split at h
        · cases h
        · rename_i hcond
          simp only [not_or, ne_eq, Classical.not_not, Bool.not_eq_false, gt_iff_lt, Nat.not_lt] at hcond
          obtain ⟨ho, hsz, hle⟩ := hcond
          have hC := Cells.of hd ho
          have hvl : v.cells.toList.length = d.cells.length := by rw [Array.length_toList]; exact hC.size
          have hcs := hc.size
          obtain ⟨f1, f2⟩ := foldl_set off v.cells.toList 0 cells
          have hfold : v.cells.zipIdx.foldl (fun cs (c, j) => cs.setIfInBounds (off + j) c) cells = (v.cells.toList.zipIdx 0).foldl (fun cs (c, j) => cs.setIfInBounds (off + j) c) cells := by
            rw [← Array.foldl_toList, Array.toList_zipIdx]
          have hcells : Cells w g (v.cells.zipIdx.foldl (fun cs (c, j) => cs.setIfInBounds (off + j) c) cells) (overlay ds off d.cells) := by
            rw [hfold]
            refine ⟨by rw [f1, overlay_len hle]; exact hcs, fun k u hu => ?_, fun k u y hu hy => ?_⟩
            · rw [f2 k (by omega)] at hu
              split at hu
              · exact hC.one _ u (by simpa using hu)
              · exact hc.one _ u hu
            · rw [f2 k (by omega)] at hu
              rw [overlay_get hle] at hy
              by_cases hk : off ≤ k ∧ k < off + d.cells.length
              · rw [if_pos hk] at hy
                rw [if_pos (by omega)] at hu
                exact hC.rel (k - off) u y (by simpa using hu) hy
              · rw [if_neg hk] at hy
                rw [if_neg (by omega)] at hu
                exact hc.rel k u y hu hy
          obtain ⟨cells', e1, e2⟩ := ih qs _ _ out hcells hr' h
          refine ⟨cells', ?_, e2⟩
          simp only [Instr.fill, hp _ _ hpl]
          rw [if_neg (by simp [hC.size, hsz, hcs]; omega)]
          exact e1

theorem evParts_rel {par : Par} {a : Act} {env : E} (hE : RelE w g a.tmps env) (hG : GlobOk par w g) : ∀ {l : List (Nat × Operand)} {ps : List (Nat × D)}, evParts par.G env l = some ps → RelP w g (l.map fun (i, x) => (i, a.eval x)) ps := by
  intro l
  induction l with
  | nil => intro ps h; simp only [evParts] at h; cases h; trivial
  | cons p l ih =>
    intro ps h
    obtain ⟨i, x⟩ := p
    simp only [evParts] at h
    split at h
    · rename_i d hd
      split at h <;> cases h
      rename_i q hq
      exact ⟨rfl, ev_rel hE hG hd, ih hq⟩
    · cases h

theorem zeroCells {w : World} {g : Gh} (hT : TOk P T) {t : TypeId} {x : V} (h : zeroV T t = some x) (ho : oneD (.v x) = true) :
    ∃ inf v, P.info? t = some inf ∧ inf.zero = some v ∧ inf.size = cel T t ∧ Cells w g v.cells (x.cells.map .v) := by
  unfold zeroV at h
  split at h
  · rename_i i hi
    obtain ⟨inf, h1, h2, h3, h4, h5⟩ := hT.info t i hi
    obtain ⟨v, hv, hc⟩ := h5 x h
    have hr : RelV w g.S v x := constV_rel hc
    have := Cells.of (RelD.v v x hr) ho
    exact ⟨inf, v, h1, hv, by simp [cel, hi, h3], this⟩
  · cases h

theorem und_T {t : TypeId} {k : TypeDesc} (h : und T t = some k) : ∃ i, T t = some i ∧ i.desc = k := by
  unfold und at h
  split at h <;> cases h
  exact ⟨_, by assumption, rfl⟩

theorem T_info (hT : TOk P T) {t : TypeId} (h : (T t).isSome = true) : ∃ inf, P.info? t = some inf ∧ inf.size = cel T t := by
  obtain ⟨i, hi⟩ := Option.isSome_iff_exists.1 h
  obtain ⟨inf, h1, h2, h3, _⟩ := hT.info t i hi
  exact ⟨inf, h1, by simp [cel, hi, h3]⟩

theorem places_of (hT : TOk P T) : ∀ (fs : List Field), (∀ f ∈ fs, (T f.type).isSome = true) → fs.mapM (fun f => (P.info? f.type).map fun i => (f.offset, i.size)) = some (fs.map fun f => (f.offset, cel T f.type)) := by
  intro fs
  induction fs with
  | nil => intro _; rfl
  | cons f fs ih =>
    intro h
    obtain ⟨inf, h1, h2⟩ := T_info hT (h f (by simp))
    simp [List.mapM_cons, h1, h2, ih (fun f hf => h f (by simp [hf]))]

theorem build_gives (hT : TOk P T) {par : Par} (hpar : par.T = T) {a : Act} {env : E} {t : TypeId} {parts : Array (Nat × Operand)} {r : Eff} (hE : RelE w g a.tmps env) (hG : GlobOk par w g)
    (h : opBuild par env t parts.toList = some r) : Gives P (Instr.build t (parts.map fun (i, x) => (i, a.eval x))) w g r.d ∧ r.wr = none := by
  unfold opBuild at h
  rw [hpar] at h
  split at h
  · rename_i x ps hz hps
    have hrel := evParts_rel hE hG hps
    have hpl : (parts.map fun (i, x) => (i, a.eval x)).toList = parts.toList.map fun (i, x) => (i, a.eval x) := by rw [Array.toList_map]
    split at h
    · cases h
    rename_i hone
    simp only [Bool.not_eq_false] at hone
    obtain ⟨inf, v, q1, q2, q3, q4⟩ := zeroCells (w := w) (g := g) hT hz hone
    split at h
    · rename_i fs hu
      split at h <;> cases h
      rename_i out hf
      obtain ⟨i, hi, hd⟩ := und_T hu
      have hpo := places_of hT fs.toList ((hT.sub t i hi).1 fs hd)
      obtain ⟨cells, e1, e2⟩ := fill_run (place := ((fs.toList.map fun f => (f.offset, cel T f.type)).toArray[·]?)) (fun k p hk => by
        unfold structPlace at hk
        split at hk <;> cases hk
        rename_i f hf
        simp only [List.getElem?_toArray, List.getElem?_map, Array.getElem?_toList, hf, Option.map_some]) _ _ _ _ _ q4 hrel hf
      refine ⟨⟨.agg cells, run_build w t _ cells ?_, mkAgg_rel e2⟩, rfl⟩
      unfold Program.built
      rw [q1, hT.und hu, hpl]
      simp only [q2, hpo, e1]
    · rename_i n e hu
      split at h <;> cases h
      rename_i out hf
      obtain ⟨i, hi, hd⟩ := und_T hu
      obtain ⟨ie, e0, e00⟩ := T_info hT ((hT.sub t i hi).2 n e hd)
      obtain ⟨cells, e1, e2⟩ := fill_run (place := (fun i => some (i * ie.size, ie.size))) (fun k p hk => by rw [e00]; exact hk) _ _ _ _ _ q4 hrel hf
      refine ⟨⟨.agg cells, run_build w t _ cells ?_, mkAgg_rel e2⟩, rfl⟩
      unfold Program.built
      rw [q1, hT.und hu, hpl]
      simp only [q2, e0, e1]
    · cases h
  · cases h

end
end Go.BI
/- SOUNDNESS OF 'B', thirteenth part: what is copied; 'copy'. -/
set_option linter.unusedVariables false
set_option linter.unusedSimpArgs false
namespace Go.BI
open Go Go.RowKit

section
variable {P : Program} {T : Tys} {z : Base} {w w' : World} {g : Gh} {st : Sites}

theorem Ext.drew (g : Gh) (w : World) : Ext g w g w.drew := ⟨fun _ _ _ h => h, fun _ h => h, fun _ h => h, fun _ _ => rfl, fun b cs el fr h => ⟨cs, fr, h, rfl⟩, fun b L h => ⟨L, h⟩, Nat.le_refl _, fun _ h => h⟩

theorem Inv.drew (hI : Inv z g w st) : Inv z g w.drew st := by
  have := hI.step (s := none) (bs := none) (g' := g) (w' := w.drew) {
    ext := Ext.drew g w
    blocks := fun k hk _ => rfl
    size := Nat.le_refl _
    own := fun b hb => by cases hb
    others := fun t r ob x _ _ _ _ => by simp
    S := fun a ha => .inl ha
    N := fun a ha => ha
    blk := fun t v x hx => .inl hx
    site := fun p hp => by cases hp
    old := fun a ha => hI.old a (.inl ha)
    os := rfl
    tape := rfl
    output := rfl
    has := fun p x hp hx => by cases hp
  }
  exact this

theorem toBytes_ofBytes (l : List UInt8) : True := trivial

theorem ofBytes_length (l : List UInt8) : (ofBytes l).length = l.length := by simp [ofBytes]

/-- What is copied or appended: the first so many elements. -/
theorem src_run {vx : Value} {x : D} {m sz n : Nat} {l : List V} {rd : List Nat} (hI : Inv z g w st) (hx : RelD w g vx x) (hm : srcLen x = some m) (hl : srcCells st x = some (l, rd)) (hlen : l.length = m * sz) (hsz : 1 ≤ sz) (hn : n ≤ m) :
    (∀ w' : World, (Builtin.lenOf vx).run P w' = .ok m w') ∧ ∃ cells : List Value, cells.length = n * sz ∧ (∀ (i : Nat) u, cells[i]? = some u → u.oneCell' = true) ∧
      (∀ (i : Nat) u y, cells[i]? = some u → l[i]? = some y → RelV w g.S u y) ∧ ∀ w' : World, (∀ a, w'.cell? a = w.cell? a) → (Builtin.firstCells sz n vx).run P w' = .ok cells.toArray w' := by
  have hnm : n * sz ≤ m * sz := Nat.mul_le_mul_right _ hn
  -- cells behind an address
  have mem : ∀ {a : Option Addr} {cap : Nat} (ad : Addr) (val : Nat → Value), vx = .slice a m cap → (n * sz ≠ 0 → a = some ad) → (a = none → n * sz = 0) →
      (∀ (i : Nat) y, i < n * sz → l[i]? = some y → w.cell? (ad.add i) = some (val i) ∧ (val i).oneCell' = true ∧ RelV w g.S (val i) y) →
      (∀ w' : World, (Builtin.lenOf vx).run P w' = .ok m w') ∧ ∃ cells : List Value, cells.length = n * sz ∧ (∀ (i : Nat) u, cells[i]? = some u → u.oneCell' = true) ∧
      (∀ (i : Nat) u y, cells[i]? = some u → l[i]? = some y → RelV w g.S u y) ∧ ∀ w' : World, (∀ a, w'.cell? a = w.cell? a) → (Builtin.firstCells sz n vx).run P w' = .ok cells.toArray w' := by
    intro a cap ad val hv ha hnone hc
    subst hv
    refine ⟨fun _ => rfl, (List.range (n * sz)).map val, by simp, fun i u hu => ?_, fun i u y hu hy => ?_, fun w' hw' => ?_⟩
    · simp only [List.getElem?_map, Option.map_eq_some_iff] at hu
      obtain ⟨j, hj, rfl⟩ := hu
      obtain ⟨h1, h2⟩ := List.getElem?_eq_some_iff.1 hj
      simp at h1 h2
      subst h2
      exact (hc i (l[i]'(by omega)) h1 (by simp)).2.1
    · simp only [List.getElem?_map, Option.map_eq_some_iff] at hu
      obtain ⟨j, hj, rfl⟩ := hu
      obtain ⟨h1, h2⟩ := List.getElem?_eq_some_iff.1 hj
      simp at h1 h2
      subst h2
      exact (hc i y h1 hy).2.2
    · by_cases h0 : n * sz = 0
      · cases a with
        | none => simp [Builtin.firstCells, h0]
        | some a => simp [Builtin.firstCells, h0, loadCells, loadCellsFrom]
      · obtain rfl := ha h0
        have := run_loadCells (P := P) w' ad (n * sz) val (fun j hj => by rw [hw']; exact (hc j (l[j]'(by omega)) hj (by simp)).1)
        exact this
  have sl : ∀ {nl : Bool} {s : Nat} {xs : List V}, RelV w g.S vx (.slice nl s xs) → xs.length = m → l = xs.flatMap V.cells →
      (∀ w' : World, (Builtin.lenOf vx).run P w' = .ok m w') ∧ ∃ cells : List Value, cells.length = n * sz ∧ (∀ (i : Nat) u, cells[i]? = some u → u.oneCell' = true) ∧
      (∀ (i : Nat) u y, cells[i]? = some u → l[i]? = some y → RelV w g.S u y) ∧ ∀ w' : World, (∀ a, w'.cell? a = w.cell? a) → (Builtin.firstCells sz n vx).run P w' = .ok cells.toArray w' := by
    intro nl s xs hv hxm hlx
    rcases relV_slice' hv with ⟨_, e, rfl⟩ | ⟨_, _, a, cap, val, e, hle, ha, hs, hc⟩
    · simp at hxm
      subst hxm
      have : n = 0 := by omega
      subst this
      exact mem (a := none) (cap := 0) ⟨0, 0, none⟩ (fun _ => undef) e (fun h => absurd (by simp) h) (fun _ => by simp) (fun i y hi => by simp at hi)
    · subst hlx
      rw [hxm] at e
      exact mem (a := some a) (cap := cap) a val e (fun _ => rfl) (fun h => by cases h) (fun i y _ hy => ⟨(hc i y hy).1, (hc i y hy).2.2.1, (hc i y hy).2.2.2⟩)
  unfold srcCells at hl
  split at hl
  · cases hl
    simp only [srcLen, Option.some.injEq] at hm
    exact sl hx.toV hm rfl
  · cases hl
    simp only [srcLen, Option.some.injEq] at hm
    exact sl (relD_full hx).1 hm rfl
  · rename_i s
    cases hl
    simp only [srcLen, Option.some.injEq] at hm
    obtain ⟨bs, rfl, rfl⟩ := hx.toV.str_eq
    have hbs : bs.size = m := by rw [← hm, Array.length_toList]; rfl
    rw [ofBytes_length, hm] at hlen
    have hnsz : n * sz = n := by
      by_cases h0 : m = 0
      · have : n = 0 := by omega
        simp [this]
      · have : sz = 1 := by
          have : m * 1 = m * sz := by omega
          exact (Nat.eq_of_mul_eq_mul_left (by omega) this).symm
        simp [this]
    refine ⟨fun w' => by simp only [Builtin.lenOf, hbs]; rfl, ((bs.data.toList.take n).map fun b => Value.int .u8 b.toNat), by simp [hnsz, hm]; omega, fun i u hu => ?_, fun i u y hu hy => ?_, fun w' _ => ?_⟩
    · simp only [List.getElem?_map, Option.map_eq_some_iff] at hu
      obtain ⟨_, _, rfl⟩ := hu
      rfl
    · simp only [List.getElem?_map, Option.map_eq_some_iff, List.getElem?_take] at hu
      obtain ⟨b, hb, rfl⟩ := hu
      split at hb
      · simp only [ofBytes, List.getElem?_map, hb, Option.map_some, Option.some.injEq] at hy
        subst hy
        exact .int _ _
      · cases hb
    · simp only [Builtin.firstCells, Sem.run_pure]
      congr 1
      apply Array.ext'
      rw [Array.toList_map]
      have := extract_list bs 0 n
      rw [this]
      simp
  · rename_i s ver sz' off len
    split at hl
    · rename_i ty cs fz hlb
      split at hl
      · rename_i hle
        split at hl <;> cases hl
        rename_i hav
        simp only [srcLen, Option.some.injEq] at hm
        subst hm
        have hl' := congrArg List.length (allV_eq hav)
        simp only [List.length_take, List.length_drop, List.length_map] at hl'
        have hll : l.length = len * sz' := by omega
        cases hx with
        | arr s ver sz'' off len b δ p cap hb hlc hs hp hex =>
          obtain ⟨b', δ', hb', hB, _⟩ := hI.box hlb
          rw [hb] at hb'
          cases hb'
          obtain ⟨val, hv⟩ := hB.cells
          refine mem (a := some ⟨b, p, none⟩) (cap := cap) ⟨b, p, none⟩ (fun i => val (off + i)) rfl (fun _ => rfl) (fun h => by cases h) (fun i y hi hy => ?_)
          have hlen0 : len ≠ 0 := by
            rintro rfl
            simp at hnm
            omega
          obtain rfl := hp (by omega)
          have hget : cs[off + i]? = some (.v y) := by
            have h1 : ((cs.drop off).take (len * sz'))[i]? = some (.v y) := by rw [allV_eq hav]; simp [hy]
            rw [List.getElem?_take, if_pos (by omega), List.getElem?_drop] at h1
            exact h1
          obtain ⟨q1, q2, q3⟩ := hv (off + i) _ hget
          rw [add_at] at q1 ⊢
          rw [show δ + off + i = δ + (off + i) from by omega]
          exact ⟨q1, q3, q2.toV⟩
      · cases hl
    · cases hl
  · cases hl

end
end Go.BI
