/- B IS RIGHT, third part: calls, loops over functions, regions. Conditions: none. -/
import Derived.Test.YtjofohhnkdbfbaaGreatDoorBi2
import Derived.Great.BuildSlice
import Derived.RangeFuncLeaves
import Derived.RangeFuncNested
/- SOUNDNESS OF 'B', twenty-sixth part: the arguments of a call that begins with an empty store; what such a call leaves; results. -/
set_option linter.unusedVariables false
set_option linter.unusedSimpArgs false
namespace Go.BI
open Go Go.RowKit

section
variable {P : Program} {T : Tys} {z : Base} {w w' : World} {g : Gh} {st : Sites}

/-- Related for whoever writes no cell that is there. -/
def RelC (w : World) (S : Addr → Prop) (v : Value) (d : D) : Prop :=
  ∀ gc : Gh, (∀ a, S a → gc.S a) → (∀ a : Addr, a.spot = none → (∃ v, w.cell? a = some v) → gc.N a) → RelD w gc v d

theorem RelC.mono {S S' : Addr → Prop} (h : ∀ a, S a → S' a) {v : Value} {d : D} (r : RelC w S v d) : RelC w S' v d := fun gc h1 h2 => r gc (fun a ha => h1 a (h a ha)) h2

theorem RelC.of_v {S : Addr → Prop} {v : Value} {x : V} (r : RelV w S v x) : RelC w S v (.v x) := fun gc h1 _ => .v _ _ (r.mono h1 fun _ _ => rfl)

theorem RelC.of_pin {v : Value} {k : Bool} {cs : List V} (r : RelD w g v (.pin k cs)) : RelC w g.S v (.pin k cs) := by
  intro gc h1 h2
  cases r with
  | pin k a cs val ha hc =>
    refine .pin k a cs val ha fun i x hx => ?_
    obtain ⟨q1, q2, q3, q4⟩ := hc i x hx
    refine ⟨q1, ?_, q3.mono h1 fun _ _ => rfl, q4⟩
    cases k with
    | true => exact h1 _ q2
    | false => exact .inr (h2 _ (add_spot a ha i) ⟨_, q1⟩)

theorem noRefs_get {ds : List D} (h : noRefs ds = true) {i : Nat} {d : D} (hd : ds[i]? = some d) : ∃ x, d = .v x := by
  unfold noRefs at h
  rw [List.all_eq_true] at h
  have := h d (List.mem_of_getElem? hd)
  split at this
  · exact ⟨_, rfl⟩
  · cases this

theorem argC_ok {t : Option TypeId} {d d' : D} {st' : Sites} {v : Value} (h : argC T t d st = some (d', st')) (hI : Inv z g w st) (hd : RelD w g v d) :
    ∃ g', Ext g w g' w ∧ Inv z g' w st' ∧ RelC w g'.S v d' := by
  unfold argC at h
  split at h
  · cases h
    exact ⟨g, .refl _ _, hI, .of_pin hd⟩
  · rename_i f a b
    split at h <;> cases h
    rename_i hn
    rw [Bool.and_eq_true] at hn
    refine ⟨g, .refl _ _, hI, fun gc h1 h2 => ?_⟩
    cases hd with
    | fn f a b va vb l1 l2 r1 r2 =>
      refine .fn f a b va vb l1 l2 (fun i u d hu hdd => ?_) (fun i u d hu hdd => ?_)
      · obtain ⟨x, rfl⟩ := noRefs_get hn.1 hdd
        exact .v _ _ ((r1 i u _ hu hdd).toV.mono h1 fun _ _ => rfl)
      · obtain ⟨x, rfl⟩ := noRefs_get hn.2 hdd
        exact .v _ _ ((r2 i u _ hu hdd).toV.mono h1 fun _ _ => rfl)
  · rename_i s ver off
    split at h
    · rename_i n ty cs fz hn hlb
      split at h
      · rename_i hc
        split at h <;> cases h
        rename_i l hfl
        obtain ⟨b, δ, hb, hv⟩ := hd.ptr_eq
        subst hv
        obtain ⟨b', δ', hb', hB, hown⟩ := hI.box hlb
        rw [hb] at hb'
        cases hb'
        obtain ⟨val, hval⟩ := hB.cells
        have hdl : ((cs.drop off).take n).length = n := by simp; omega
        obtain ⟨g1, e1, i1, n1, r1⟩ := freezeL_ok (f := freeze) (fun h => freeze_ok h) ((cs.drop off).take n) st l st' g (fun i => val (off + i)) hfl hI (fun i d' hd' => by
          have hi : i < n := by
            have := (List.getElem?_eq_some_iff.1 hd').1
            omega
          rw [List.getElem?_take_of_lt hi, List.getElem?_drop] at hd'
          exact (hval (off + i) d' hd').2.1)
        refine ⟨g1, e1, i1, fun gc h1 h2 => .pin false _ l (fun i => val (off + i)) rfl fun i x hx => ?_⟩
        have hi : i < n := by
          have := (List.getElem?_eq_some_iff.1 hx).1
          omega
        have h0 := hval (off + i) (cs[off + i]'(by omega)) (by simp)
        rw [add_at] at h0
        rw [add_at, Nat.add_assoc]
        exact ⟨h0.1, .inr (h2 _ rfl ⟨_, h0.1⟩), (r1 i x hx).mono h1 fun _ _ => rfl, h0.2.2⟩
      · cases h
    · cases h
  · split at h <;> cases h
    rename_i x hx
    obtain ⟨g', e1, i1, r1⟩ := freeze_ok hx hI hd
    exact ⟨g', e1, i1, .of_v r1⟩

theorem argsC_ok : ∀ (ds : List D) (ts : List TypeId) (st : Sites) (ds' : List D) (st' : Sites) (g : Gh) (val : Nat → Value), argsC T ts ds st = some (ds', st') → Inv z g w st → (∀ (i : Nat) d, ds[i]? = some d → RelD w g (val i) d) →
    ∃ g', Ext g w g' w ∧ Inv z g' w st' ∧ ds'.length = ds.length ∧ ∀ (i : Nat) d, ds'[i]? = some d → RelC w g'.S (val i) d := by
  intro ds
  induction ds with
  | nil =>
    intro ts st ds' st' g val h hI hv
    simp only [argsC] at h
    cases h
    exact ⟨g, .refl _ _, hI, rfl, by simp⟩
  | cons d r ih =>
    intro ts st ds' st' g val h hI hv
    simp only [argsC] at h
    split at h
    · rename_i x st1 hx
      split at h <;> cases h
      rename_i xs hxs
      obtain ⟨g1, e1, i1, r1⟩ := argC_ok hx hI (hv 0 d rfl)
      obtain ⟨g2, e2, i2, n2, r2⟩ := ih ts.tail st1 xs st' g1 (fun i => val (i + 1)) hxs i1 (fun i d' hd => (hv (i + 1) d' (by simpa using hd)).ext e1)
      refine ⟨g2, e1.trans e2, i2, by simp [n2], fun i y hy => ?_⟩
      cases i with
      | zero => simp at hy; subst hy; exact r1.mono e2.S
      | succ i => exact r2 i y (by simpa using hy)
    · cases h

/-- What a call that begins with an empty store leaves: nothing that was there has turned; its result stays. -/
def Closed (w : World) (S : Addr → Prop) (x : V) (v : Value) (w' : World) : Prop :=
  ∃ S' : Addr → Prop, (∀ a, S a → S' a) ∧ (∀ a, S' a → S a ∨ (w.heap.size ≤ a.block ∧ a.spot = none ∧ ∃ v, w'.cell? a = some v)) ∧ Below w.heap.size w w' ∧ RelV w' S' v x

theorem Closed.into (hI : Inv z g w st) {x : V} {v : Value} (h : Closed w g.S x v w') : ∃ g', Ext g w g' w' ∧ Inv z g' w' st ∧ RelV w' g'.S v x := by
  obtain ⟨S', h1, h2, h3, h4⟩ := h
  have hold : ∀ a, g.S a ∨ g.N a → w'.cell? a = w.cell? a := fun a ha => h3.cell (hI.lt ha)
  have hE : Ext g w { g with S := S' } w' := ⟨fun _ _ _ h => h, h1, fun _ h => h, hold, fun b cs el fr hb => by
      have hlt := (Array.getElem?_eq_some_iff.1 hb).1
      exact ⟨cs, fr, (h3.block b hlt).trans hb, rfl⟩, fun b L hb => ⟨L, (h3.block b (Array.getElem?_eq_some_iff.1 hb).1).trans hb⟩, h3.size, fun b hb => (h3.block b (Array.getElem?_eq_some_iff.1 hb).1).trans hb⟩
  refine ⟨{ g with S := S' }, hE, ?_, h4⟩
  have := hI.step (s := none) (bs := none) (g' := { g with S := S' }) (w' := w') {
    ext := hE
    blocks := fun k hk _ => h3.block k hk
    size := h3.size
    own := fun b hb => by cases hb
    others := fun t r ob x _ _ _ _ => by simp
    S := fun a ha => by
      rcases h2 a ha with h | ⟨h, _⟩
      · exact .inl h
      · exact .inr (.inl h)
    N := fun a ha => ha
    blk := fun t v x hx => .inl hx
    site := fun p hp => by cases hp
    old := fun a ha => by
      rcases h2 a ha with h | ⟨_, h5, h6⟩
      · obtain ⟨q1, v, q2⟩ := hI.old a (.inl h)
        exact ⟨q1, v, (hold a (.inl h)).trans q2⟩
      · exact ⟨h5, h6⟩
    os := h3.os
    tape := h3.tape
    output := h3.output
    has := fun p x hp hx => by cases hp
  }
  exact this

/-- The base of a call with an empty store, and its first state. -/
def Base.shut (w : World) (S : Addr → Prop) : Base := ⟨w, fun _ => False, S, fun a => a.spot = none ∧ ∃ v, w.cell? a = some v⟩
def Gh.shut (w : World) (S : Addr → Prop) : Gh := ⟨fun _ _ => none, S, fun a => a.spot = none ∧ ∃ v, w.cell? a = some v⟩

theorem getR_nil (s : Nat) : getR .nil s = some ⟨0, none⟩ := getK_nil _ _ _

theorem Inv.shut {S : Addr → Prop} (hS : ∀ a, S a → a.spot = none ∧ ∃ v, w.cell? a = some v) : Inv (Base.shut w S) (Gh.shut w S) w .nil := by
  refine ⟨?_, ?_, ?_, ?_, fun _ _ _ => rfl, rfl, rfl, rfl, Nat.le_refl _, fun a ha => .inl ha, fun a ha => ha, ?_⟩
  · intro s r o hr ho
    rw [getR_nil] at hr
    cases hr
    cases ho
  · intro s s' r r' o o' x x' hr _ ho
    rw [getR_nil] at hr
    cases hr
    cases ho
  · intro s v x hx; cases hx
  · intro a ha
    rcases ha with ha | ha
    · exact hS a ha
    · exact ha
  · intro s v x hx; cases hx

theorem Inv.to_closed {S : Addr → Prop} {x : V} {v : Value} (hI : Inv (Base.shut w S) g w' st) (hS : ∀ a, S a → g.S a) (hv : RelV w' g.S v x) : Closed w S x v w' := by
  refine ⟨g.S, hS, fun a ha => ?_, ⟨hI.os, hI.tape, hI.output, hI.size, fun k hk => hI.keep k hk (fun h => h)⟩, hv⟩
  rcases hI.S a ha with h | h | h
  · exact .inl h
  · exact h.elim
  · obtain ⟨q1, q2⟩ := hI.old a (.inl ha)
    exact .inr ⟨h, q1, q2⟩

/-! ### Results -/
/-- One result out of a frame. -/
def resSem (tmps : Array Value) : ResultVar → Sem Value
  | .tmp t => pure (tmps.getD t undef)
  | .cell a t => do loadVar t (← asAddr (tmps.getD a undef))

theorem resOf_run (hT : TOk P T) {tmps : Array Value} {env : E} {r : ResultVar} {d : D} (hI : Inv z g w st) (hE : RelE w g tmps env) (h : resOf T env st r = some d) :
    Gives P (resSem tmps r) w g d := by
  cases r with
  | tmp t =>
    obtain ⟨d', h1, h2⟩ := hE t
    simp only [resOf] at h
    rw [h] at h1
    cases h1
    exact ⟨_, rfl, h2⟩
  | cell a t =>
    obtain ⟨d', h1, h2⟩ := hE a
    simp only [resOf] at h
    split at h
    · rename_i s ver off hx
      rw [hx] at h1
      cases h1
      split at h
      · rename_i ty cs fz hlb
        obtain ⟨b, δ, hb, hv⟩ := h2.ptr_eq
        obtain ⟨b', δ', hb', hB, hown⟩ := hI.box hlb
        rw [hb] at hb'
        cases hb'
        obtain ⟨val, hval⟩ := hB.cells
        obtain ⟨v, r1, r2⟩ := loadVar_run (P := P) hT (a := ⟨b, δ, none⟩) rfl val hval h
        rw [add_at] at r1
        refine ⟨v, ?_, r2⟩
        simp only [resSem, hv]
        simpa [asAddr, go_sem] using r1
      · cases h
    · rename_i k cs hx
      rw [hx] at h1
      cases h1
      split at h <;> cases h
      rename_i x hp
      simp only [resSem]
      generalize tmps.getD a undef = v0 at h2 ⊢
      cases h2 with
      | pin k p cs val hps hc =>
        obtain ⟨v, r1, r2⟩ := loadVar_run (P := P) hT hps val (ds := cs.map .v) (fun i y hy => by
          simp only [List.getElem?_map, Option.map_eq_some_iff] at hy
          obtain ⟨y', hy', rfl⟩ := hy
          obtain ⟨q1, q2, q3, q4⟩ := hc i y' hy'
          exact ⟨q1, .v _ _ q3, q4⟩) (partV_D hp)
        refine ⟨v, ?_, r2⟩
        have : p.add 0 = p := by obtain ⟨x, y, q⟩ := p; simp only at hps; subst hps; simp [add_at]
        rw [this] at r1
        simpa [asAddr, go_sem] using r1
    · cases h

theorem resAll_run (hT : TOk P T) {tmps : Array Value} {env : E} (hI : Inv z g w st) (hE : RelE w g tmps env) : ∀ (rs : List ResultVar) (ds : List D), resAll T env st rs = some ds →
    ∃ vs : List Value, (rs.mapM (resSem tmps)).run P w = .ok vs w ∧ vs.length = ds.length ∧ ∀ (i : Nat) v d, vs[i]? = some v → ds[i]? = some d → RelD w g v d := by
  intro rs
  induction rs with
  | nil => intro ds h; simp only [resAll] at h; cases h; exact ⟨[], by simp [go_sem], rfl, by simp⟩
  | cons r l ih =>
    intro ds h
    simp only [resAll] at h
    split at h
    · rename_i d hd
      split at h <;> cases h
      rename_i ds' hds
      obtain ⟨v, r1, r2⟩ := resOf_run hT hI hE hd
      obtain ⟨vs, s1, s2, s3⟩ := ih ds' hds
      refine ⟨v :: vs, ?_, by simp [s2], fun i u e hu he => ?_⟩
      · rw [List.mapM_cons, Sem.run_bind, r1, Result.andThen_ok, Sem.run_bind, s1, Result.andThen_ok]
        rfl
      · cases i with
        | zero => simp at hu he; subst hu he; exact r2
        | succ i => exact s3 i u e (by simpa using hu) (by simpa using he)
    · cases h

theorem mkTup_rel {vs : List Value} {ds : List D} (hl : vs.length = ds.length) (h : ∀ (i : Nat) v d, vs[i]? = some v → ds[i]? = some d → RelD w g v d) : RelD w g (.tuple vs.toArray) (mkTup ds) := by
  unfold mkTup
  split
  · rename_i xs hx
    obtain rfl := allV_eq hx
    refine .v _ _ (.tup _ _ (by simpa using hl) fun i v x hv hxx => ?_)
    exact (h i v (.v x) (by simpa using hv) (by simp [hxx])).toV
  · exact .tup _ _ (by simpa using hl) fun i v x hv hxx => h i v x (by simpa using hv) hxx

theorem results_run (hT : TOk P T) {fn : Func} {tmps : Array Value} {env : E} {d : D} (hI : Inv z g w st) (hE : RelE w g tmps env) (h : results T fn env st = some d) : Gives P (Go.results fn tmps) w g d := by
  have key : ∀ ds, resAll T env st fn.results.toList = some ds → (∀ x, ds = [x] → RelD w g undef x → True) → Gives P (Go.results fn tmps) w g (match ds with | [x] => x | ds => mkTup ds) := by
    intro ds hds _
    obtain ⟨vs, s1, s2, s3⟩ := resAll_run hT hI hE _ ds hds
    have hm : (Go.results fn tmps).run P w = .ok (if h : vs.toArray.size = 1 then vs.toArray[0] else .tuple vs.toArray) w := by
      have hd : Go.results fn tmps = (do let vs ← fn.results.mapM (resSem tmps); pure (if h : vs.size = 1 then vs[0] else .tuple vs)) := by
        unfold Go.results
        congr 2
      rw [hd, Array.mapM_eq_mapM_toList]
      rw [map_eq_pure_bind, Sem.run_bind, Sem.run_bind, s1]
      rfl
    match ds, s2, s3 with
    | [x], s2, s3 =>
      obtain ⟨v, rfl⟩ := List.length_eq_one_iff.1 s2
      exact ⟨v, by simpa using hm, s3 0 v x rfl rfl⟩
    | [], s2, s3 =>
      refine ⟨_, hm, ?_⟩
      rw [dif_neg (by simp [s2])]
      exact mkTup_rel s2 s3
    | x :: y :: r, s2, s3 =>
      refine ⟨_, hm, ?_⟩
      rw [dif_neg (by simp [s2])]
      exact mkTup_rel s2 s3
  unfold results at h
  split at h
  · cases h
    rename_i hr
    exact key _ hr (fun _ _ _ => trivial)
  · cases h
    rename_i ds hne hr
    have := key _ hr (fun _ _ _ => trivial)
    split at this
    · exact absurd rfl (hne _)
    · exact this
  · cases h

end
end Go.BI
/- SOUNDNESS OF 'B', twenty-seventh part: a list's elements. -/
set_option linter.unusedVariables false
set_option linter.unusedSimpArgs false
namespace Go.BI
open Go Go.RowKit

section
variable {P : Program} {T : Tys} {z : Base} {w w' : World} {g : Gh} {st : Sites}

theorem RelP.ext {g' : Gh} (h : Ext g w g' w') : ∀ {ps : List (Nat × Value)} {qs : List (Nat × D)}, RelP w g ps qs → RelP w' g' ps qs := by
  intro ps
  induction ps with
  | nil => intro qs r; cases qs with
    | nil => trivial
    | cons _ _ => exact r.elim
  | cons p ps ih =>
    intro qs r
    cases qs with
    | nil => exact r.elim
    | cons q qs => exact ⟨r.1, r.2.1.ext h, ih r.2.2⟩

theorem freezeParts_ok {par : Par} {a : Act} {env : E} : ∀ (l : List (Nat × Operand)) (st : Sites) (ps : List (Nat × D)) (st' : Sites) (g : Gh), freezeParts par.G env l st = some (ps, st') → Inv z g w st → RelE w g a.tmps env → GlobOk par w g →
    ∃ g', Ext g w g' w ∧ Inv z g' w st' ∧ RelP w g' (l.map fun (i, x) => (i, a.eval x)) ps := by
  intro l
  induction l with
  | nil => intro st ps st' g h hI _ _; simp only [freezeParts] at h; cases h; exact ⟨g, .refl _ _, hI, trivial⟩
  | cons p r ih =>
    intro st ps st' g h hI hE hG
    obtain ⟨i, x⟩ := p
    simp only [freezeParts] at h
    split at h
    · rename_i d hd
      have hr := ev_rel hE hG hd
      split at h
      · rename_i d1 st1 h1
        split at h <;> cases h
        rename_i ps' h2
        have key : ∃ g1, Ext g w g1 w ∧ Inv z g1 w st1 ∧ RelD w g1 (a.eval x) d1 := by
          split at h1
          · split at h1 <;> cases h1
            rename_i y hy
            obtain ⟨g1, e1, i1, r1⟩ := freeze_ok hy hI hr
            exact ⟨g1, e1, i1, .v _ _ r1⟩
          · cases h1
            exact ⟨g, .refl _ _, hI, hr⟩
        obtain ⟨g1, e1, i1, r1⟩ := key
        obtain ⟨g2, e2, i2, r2⟩ := ih st1 ps' st' g1 h2 i1 (hE.ext e1) (hG.ext e1)
        exact ⟨g2, e1.trans e2, i2, rfl, r1.ext e2, r2⟩
      · cases h
    · cases h

theorem relP_toV : ∀ {ps : List (Nat × Value)} {qs : List (Nat × D)}, RelP w g ps qs → RelP w g ps (qs.map fun p => (p.1, match p.2.toV with | some x => D.v x | none => p.2)) := by
  intro ps
  induction ps with
  | nil => intro qs r; cases qs with
    | nil => trivial
    | cons _ _ => exact r.elim
  | cons p ps ih =>
    intro qs r
    cases qs with
    | nil => exact r.elim
    | cons q qs =>
      obtain ⟨i, v⟩ := p
      obtain ⟨j, d⟩ := q
      refine ⟨r.1, ?_, ih r.2.2⟩
      split
      · rename_i x hx
        exact .v _ _ (toV_rel r.2.1 hx)
      · exact r.2.1

theorem fillB_len {place : Nat → Option (Nat × Nat)} : ∀ (ps : List (Nat × D)) (cs out : List D), fillB place cs ps = some out → out.length = cs.length := by
  intro ps
  induction ps with
  | nil => intro cs out h; simp only [fillB] at h; cases h; rfl
  | cons p r ih =>
    intro cs out h
    obtain ⟨i, d⟩ := p
    simp only [fillB] at h
    split at h
    · cases h
    · rename_i off size hp
      split at h
      · cases h
      · rename_i hc
        have := ih _ _ h
        rw [this, overlay_len (by simp at hc; omega)]

theorem mul_mod_get {α : Type} (l : List α) (n : Nat) : (List.replicate n l).flatten.length = n * l.length := by simp

theorem list_ok (hT : TOk P T) {par : Par} (hpar : par.T = T) {a : Act} {env : E} {t : TypeId} {len : Nat} {parts : Array (Nat × Operand)} {d : D} {st' : Sites} (hI : Inv z g w st) (hE : RelE w g a.tmps env) (hG : GlobOk par w g)
    (h : bigSlice par t len parts.toList env st = some (d, st')) : Does P (do pure (Next.value (← Instr.buildSlice t len (parts.map fun (i, x) => (i, a.eval x))))) z g w d st' := by
  unfold bigSlice at h
  rw [hpar] at h
  split at h
  · rename_i e hu
    have hu' := hT.und hu
    simp only at h
    split at h
    · cases h
    rename_i hsz
    simp only [not_or] at hsz
    obtain ⟨hs0, hs24⟩ := hsz
    split at h
    · rename_i zx ps st1 hz hps
      split at h
      · cases h
      rename_i hone
      simp only [not_or, Bool.not_eq_false] at hone
      obtain ⟨hone, hzl⟩ := hone
      replace hzl : zx.cells.length = cel T e := by omega
      split at h
      · rename_i cs hf
        split at h <;> cases h
        rename_i l hl
        obtain rfl := allV_eq hl
        obtain ⟨g1, e1, i1, r1⟩ := freezeParts_ok (a := a) _ _ _ _ _ hps hI hE hG
        obtain ⟨inf, zv, q1, q2, q3, q4⟩ := zeroCells (w := w) (g := g1) hT hz hone
        have hzs : zv.cells.size = cel T e := by rw [q4.size]; simp; omega
        have hC : Cells w g1 ((Array.range (len * cel T e)).map (zv.cells[· % zv.cells.size]!)) ((List.replicate len zx.cells).flatten.map .v) := by
          have hget : ∀ (i : Nat) v, ((Array.range (len * cel T e)).map (zv.cells[· % zv.cells.size]!))[i]? = some v → i < len * cel T e ∧ zv.cells[i % cel T e]? = some v := by
            intro i v hv
            simp only [Array.getElem?_map, Option.map_eq_some_iff] at hv
            obtain ⟨j, hj, rfl⟩ := hv
            obtain ⟨h1, h2⟩ := Array.getElem?_eq_some_iff.1 hj
            simp at h1 h2
            subst h2
            refine ⟨h1, ?_⟩
            have hm : i % cel T e < zv.cells.size := by rw [hzs]; exact Nat.mod_lt _ (by omega)
            rw [hzs]
            simp [getElem!_pos, hm]
          refine ⟨by simp [hzl], fun i v hv => q4.one _ v (hget i v hv).2, fun i v x hv hx => ?_⟩
          obtain ⟨h1, h2⟩ := hget i v hv
          simp only [List.getElem?_map, Option.map_eq_some_iff] at hx
          obtain ⟨y, hy, rfl⟩ := hx
          rw [flatten_get, hzl, if_pos h1] at hy
          exact q4.rel _ v _ h2 (by simp [hy])
        obtain ⟨cells, f1, f2⟩ := fill_run (place := fun i => some (i * inf.size, inf.size)) (fun k p hk => by rw [q3]; exact hk) _ _ _ _ _ hC (relP_toV r1) hf
        have hpl : (parts.map fun (i, x) => (i, a.eval x)).toList = parts.toList.map fun (i, x) => (i, a.eval x) := by rw [Array.toList_map]
        have hrun : (Instr.buildSlice t len (parts.map fun (i, x) => (i, a.eval x))).run P w = .ok (.slice (some ⟨w.heap.size, 0, none⟩) len len) (w.alloc (.cells cells e)) := by
          rw [← hpl, ← q3] at f1
          by_cases h0 : len * inf.size = 0
          · rw [h0, show Array.range 0 = #[] from rfl, Array.map_empty] at f1
            have hs : (sizeOf e).run P w = .ok inf.size w := by rw [q3]; exact hT.size' hs0 w
            have hl0 : len = 0 := by
              rcases Nat.mul_eq_zero.1 h0 with h | h
              · exact h
              · exact absurd (q3 ▸ h) hs0
            subst hl0
            simp only [Instr.buildSlice, run_underlying hu', Sem.run_bind, Result.andThen_ok, hs, Nat.zero_mul, show ¬ (0 > 2 ^ 24) from by omega, if_false, if_true, Sem.run_pure, show Array.range 0 = #[] from rfl, Array.map_empty, f1]
            simp [newRow]
          · exact run_buildSlice w t e len _ cells inf zv hu' q1 q2 (by rw [q3]; exact hs24) h0 f1
        have hlen : l.length = len * cel T e := by
          have := fillB_len _ _ _ hf
          simp [hzl] at this
          exact this
        have hcs : cells.size = l.length := by rw [f2.size]; simp
        have hnew := alloc_new w (.cells cells e)
        obtain ⟨s1, s2⟩ := i1.newS (o := .cells cells e) (S' := fun x => g1.S x ∨ (x.block = w.heap.size ∧ x.spot = none ∧ x.off < l.length)) (fun x hx => by
          rcases hx with hx | ⟨h1, h2, h3⟩
          · exact .inl hx
          · refine .inr ⟨h1, h2, cells[x.off]'(by omega), ?_⟩
            simp only [World.cell?, h1, hnew, h2]
            simp [show x.off < cells.size from by omega]) (fun x hx => .inl hx)
        refine ⟨_, _, _, .inl (run_v hrun), ?_, e1.trans s1, s2⟩
        have hR : RelV (w.alloc (.cells cells e)) (fun x => g1.S x ∨ (x.block = w.heap.size ∧ x.spot = none ∧ x.off < l.length)) (.slice (some ⟨w.heap.size, 0, none⟩) len len) (.slice false (cel T e) (group (cel T e) len l)) := by
          refine group_rel (by omega) rfl (Nat.le_refl _) (by omega) (val := fun i => cells.getD i undef) fun i y hi hy => ?_
          have hlt : i < cells.size := by omega
          have hci : cells[i]? = some cells[i] := by simp [hlt]
          refine ⟨?_, .inr ⟨by simp [add_at], by simp [add_at], by simp [add_at]; omega⟩, ?_, ?_⟩
          · rw [add_at]
            simp only [World.cell?, hnew]
            simp [hlt]
          · simpa [hlt] using f2.one i _ hci
          · have := (f2.rel i _ (.v y) hci (by simp [hy])).toV
            simpa [hlt] using this.ext s1
        have hgl := (group_flat (sz := cel T e) (by omega) len l (fun x hx => by
          obtain ⟨i, hi, rfl⟩ := List.mem_iff_getElem.1 hx
          have hci : cells[i]? = some (cells[i]'(by omega)) := by simp [show i < cells.size from by omega]
          exact one_cells (f2.rel i _ (.v l[i]) hci (by simp)).toV (f2.one i _ hci)) (by omega)).1
        exact .full _ _ _ _ hR ⟨_, by rw [hgl]⟩
      · cases h
    · cases h
  · cases h

end
end Go.BI
/- SOUNDNESS OF 'B', twenty-eighth part: the operations that enter no function, as one. -/
set_option linter.unusedVariables false
set_option linter.unusedSimpArgs false
namespace Go.BI
open Go Go.RowKit

def fenceR (ρ : Option Nat) : Fence := { Fence.wide with round := ρ }

/-- A call's end: it has returned. -/
def Ret (R : Value → World → Prop) : Ending → World → Prop
  | .returned v, w => R v w
  | _, _ => False

/-- What an operation leads to, calls gone through. -/
def NextOk (P : Program) (s : Sem Next) (w : World) (R : Value → World → Prop) : Prop :=
  match s.run P w with
  | .ok (.value v) w' => R v w'
  | .ok .skip w' => R undef w'
  | .ok (.enter f args) w' => CallsIn Fence.wide 0 P f args w' (Ret R)
  | .ok (.round l f tmps assign body) w' => RoundIn Fence.wide 0 P l f tmps assign body w' (Ret R)
  | _ => False

theorem Ret.mono {R R' : Value → World → Prop} (h : ∀ v w, R v w → R' v w) : ∀ e w, Ret R e w → Ret R' e w := by
  intro e w hr
  cases e with
  | returned v => exact h _ _ hr
  | _ => exact hr

theorem NextOk.mono {P : Program} {s : Sem Next} {w : World} {R R' : Value → World → Prop} (h : NextOk P s w R) (hr : ∀ v w, R v w → R' v w) : NextOk P s w R' := by
  unfold NextOk at *
  split at h
  · exact hr _ _ h
  · exact hr _ _ h
  · exact h.mono (Ret.mono hr)
  · exact h.mono (Ret.mono hr)
  · exact h

theorem NextOk.wpIn {P : Program} {o : Oper} {a : Act} {w : World} {ρ : Option Nat} {R : Value → World → Prop} {next : Act → World → Prop} {Q : Exit → Act → World → Prop} (hd : ∀ c, o.op ≠ .defer c) (h : NextOk P (execOp a.eval o) w R)
    (hn : ∀ v w', R v w' → next (a.put o.dst v) w') : o.wpIn (fenceR ρ) 0 P a w next Q := by
  refine ⟨fun _ _ => trivial, ?_⟩
  rw [Oper.semAt_eq _ _ _ hd]
  unfold NextOk at h
  split at h
  · rename_i v w' hr; rw [hr]; exact hn _ _ h
  · rename_i w' hr; rw [hr]; exact hn _ _ h
  · rename_i f args w' hr
    rw [hr]
    refine ⟨fun hh => (by cases hh), CallsIn.mono (F := fenceR ρ) (show CallsIn (fenceR ρ) 0 P f args w' (Ret R) from h) fun e w'' he => ?_⟩
    cases e with
    | returned v => exact hn _ _ he
    | panicked c => exact he.elim
    | outgrown => exact he.elim
  · rename_i l f tmps assign body w' hr
    rw [hr]
    refine ⟨fun hh => (by cases hh), RoundIn.mono (F := fenceR ρ) (show RoundIn (fenceR ρ) 0 P l f tmps assign body w' (Ret R) from h) fun e w'' he => ?_⟩
    cases e with
    | returned v => exact hn _ _ he
    | panicked c => exact he.elim
    | outgrown => exact he.elim
  · exact h.elim

section
variable {P : Program} {T : Tys} {z : Base} {w w' : World} {g : Gh} {st : Sites}

/-- An operation is found to do what the interpreter says. -/
def OpOk (P : Program) (z : Base) (g : Gh) (w : World) (s : Sem Next) (d : D) (st' : Sites) : Prop :=
  NextOk P s w fun v w' => ∃ g', Ext g w g' w' ∧ Inv z g' w' st' ∧ RelD w' g' v d

theorem OpOk.of_does {s : Sem Next} {d : D} {st' : Sites} (h : Does P s z g w d st') : OpOk P z g w s d st' := by
  obtain ⟨v, g', w', hr, h1, h2, h3⟩ := h
  unfold OpOk NextOk
  rcases hr with hr | ⟨hr, rfl⟩
  · rw [hr]; exact ⟨g', h2, h3, h1⟩
  · rw [hr]; exact ⟨g', h2, h3, h1⟩

theorem withEff_ok {e : Option Eff} {st st' : St} {d : D} (h : withEff e st = some (d, st')) : ∃ r, e = some r ∧ r.d = d ∧ (∀ p, r.wr = some p → p.1 < maxSite) ∧ st'.sites = setO st.sites r.wr := by
  unfold withEff at h
  split at h
  · rename_i r
    rw [fD_eq] at h
    split at h
    · rename_i s rc hw
      split at h
      · rename_i hb
        rw [fRec_eq, fSetS_eq] at h
        cases h
        refine ⟨r, rfl, rfl, fun p hp => ?_, (by rw [hw]; rfl)⟩
        rw [hw] at hp
        cases hp
        exact Nat.blt_eq ▸ hb
      · cases h
    · rename_i hw
      cases h
      exact ⟨r, rfl, rfl, fun p hp => (by rw [hw] at hp; cases hp), by rw [hw]; rfl⟩
  · cases h

theorem EffOk.opOk {s : Sem Next} {e : Option Eff} {st st' : St} {d : D} (h : withEff e st = some (d, st')) (hk : ∀ r, e = some r → EffOk P s z g w st.sites r) : OpOk P z g w s d st'.sites := by
  obtain ⟨r, h1, h2, h3, h4⟩ := withEff_ok h
  have := hk r h1 h3
  rw [h4, ← h2]
  exact .of_does this

theorem EffOk.of_wr {s : Sem Next} {r : Eff} (h : ∃ x rc, r.wr = some (x, rc) ∧ (x < maxSite → Does P s z g w r.d (setS st x rc))) : EffOk P s z g w st r := by
  intro hm
  obtain ⟨x, rc, h1, h2⟩ := h
  have := h2 (hm _ h1)
  rw [h1]
  exact this

/-- An operation that is neither a call of a function nor a list. -/
theorem opEff_ok {par : Par} (hT : TOk par.P par.T) {fb : Nat} {o : Oper} {env : E} {st : Sites} {a : Act} {r : Eff} (hr : opEff par fb o env st = some r)
    (hI : Inv z g w st) (hE : RelE w g a.tmps env) (hG : GlobOk par w g) : EffOk par.P (execOp a.eval o) z g w st r ∧ ∀ c, o.op ≠ .defer c := by
  unfold opEff at hr
  split at hr
  case h_1 x ho =>
    unfold opCopy at hr
    split at hr <;> cases hr
    rename_i hx
    simp only [execOp, ho]
    exact ⟨fun _ => copy_does hI hE hG hx, fun c => by simp⟩
  case h_2 x ho =>
    unfold opCopy at hr
    split at hr <;> cases hr
    rename_i hx
    simp only [execOp, ho]
    exact ⟨fun _ => copy_does hI hE hG hx, fun c => by simp⟩
  case h_3 t x ho =>
    simp only [execOp, ho]
    exact ⟨.of_gives hI (load_gives hT rfl hI hE hG hr), fun c => by simp⟩
  case h_4 t p x ho =>
    simp only [execOp, ho]
    exact ⟨.of_wr (store_does hT rfl hI hE hG hr), fun c => by simp⟩
  case h_5 op t x y _ ho =>
    simp only [execOp, ho]
    refine ⟨?_, fun c => by simp⟩
    unfold opBin at hr
    split at hr
    · rename_i hx hy
      split at hr <;> cases hr
      rename_i hb
      exact .of_gives hI ⟨bin_gives hT (ev_rel hE hG hx) (ev_rel hE hG hy) hb, rfl⟩
    · cases hr
  case h_6 c x y ho =>
    simp only [execOp, ho]
    refine ⟨?_, fun c => by simp⟩
    intro _
    obtain ⟨q1, q2⟩ := pick_does (P := par.P) hI hE hG hr
    rw [q2]
    exact q1
  case h_7 e ho =>
    simp only [execOp, ho]
    exact ⟨.of_wr (alloc_does hT rfl hI hr), fun c => by simp⟩
  case h_8 e x ho =>
    simp only [execOp, ho]
    exact ⟨.of_wr (box_does hT rfl hI hE hG hr), fun c => by simp⟩
  case h_9 t parts ho =>
    simp only [execOp, ho]
    exact ⟨.of_gives hI (build_gives hT rfl hE hG hr), fun c => by simp⟩
  case h_10 x ho =>
    exact ⟨nil_ok ho hI hE hG hr, fun c => by rw [ho]; simp⟩
  case h_11 op _ x ho =>
    simp only [execOp, ho]
    refine ⟨?_, fun c => by simp⟩
    unfold opUn at hr
    split at hr
    · rename_i hx
      split at hr <;> cases hr
      rename_i hb
      exact .of_gives hI ⟨un_gives (ev_rel hE hG hx) hb, rfl⟩
    · cases hr
  case h_12 src dst x ho =>
    simp only [execOp, ho]
    exact ⟨conv_ok hT rfl hI hE hG hr, fun c => by simp⟩
  case h_13 t x ho =>
    simp only [execOp, ho]
    refine ⟨?_, fun c => by simp⟩
    unfold opIface at hr
    split at hr
    · rename_i hx
      split at hr
      · cases hr
      · rename_i y k hne hy hu
        cases hr
        exact .of_gives hI ⟨iface_gives hT (ev_rel hE hG hx) hy hu (fun ms hk => hne _ hk), rfl⟩
      · cases hr
    · cases hr
  case h_14 fn first caps ho =>
    simp only [execOp, ho]
    exact ⟨func_gives hI hE hG hr, fun c => by simp⟩
  case h_15 t l c ho =>
    simp only [execOp, ho]
    exact ⟨.of_wr (make_does hT rfl hI hE hG hr), fun c => by simp⟩
  case h_16 t x lo hi mx ho =>
    simp only [execOp, ho]
    exact ⟨.of_gives hI (slice_gives hT rfl hI hE hG hr), fun c => by simp⟩
  case h_17 t x f ho =>
    simp only [execOp, ho]
    refine ⟨?_, fun c => by simp⟩
    unfold opFieldAddr at hr
    split at hr
    · rename_i fl dd hf hx
      split at hr
      · cases hr
      · rename_i hcel
        refine .of_gives hI ⟨fieldAddr_gives hT hf hcel (ev_rel hE hG hx) ?_, ?_⟩
        · split at hr <;> cases hr <;> rfl
        · split at hr <;> cases hr <;> rfl
    · cases hr
  case h_18 t x f ho =>
    simp only [execOp, ho]
    refine ⟨?_, fun c => by simp⟩
    unfold opField at hr
    split at hr
    · rename_i fl dd hf hx
      refine .of_gives hI ⟨field_gives hT hf (ev_rel hE hG hx) ?_, ?_⟩
      · split at hr
        · split at hr <;> cases hr
          rename_i hp
          simp [hp]
        · split at hr <;> cases hr
          rename_i hp
          simp [hp]
        · cases hr
      · split at hr
        · split at hr <;> cases hr
          rfl
        · split at hr <;> cases hr
          rfl
        · cases hr
    · cases hr
  case h_19 t x i ho =>
    simp only [execOp, ho]
    refine ⟨?_, fun c => by simp⟩
    unfold opIndexAddr at hr
    split at hr
    · rename_i dd k n hx hi
      split at hr
      · cases hr
      · rename_i hn
        have hiv := (ev_rel hE hG hi).toV.int_eq
        rw [hiv]
        split at hr
        · rename_i m e hu
          exact .of_gives hI (addrArr_gives hT (hT.und hu) (by omega) (ev_rel hE hG hx) hr)
        · rename_i e hu
          exact .of_gives hI (addrSlice_gives hT (hT.und hu) (by omega) (ev_rel hE hG hx) hr)
        · cases hr
    · cases hr
  case h_20 t x i ho =>
    simp only [execOp, ho]
    exact ⟨.of_gives hI (index_gives hT rfl hE hG hr), fun c => by simp⟩
  case h_21 t x ho =>
    simp only [execOp, ho]
    exact ⟨.of_wr (range_does hT rfl hI hE hG hr), fun c => by simp⟩
  case h_22 it ho =>
    simp only [execOp, ho]
    exact ⟨next_ok hI hE hG hr, fun c => by simp⟩
  case h_23 t i ho =>
    simp only [execOp, ho]
    exact ⟨.of_gives hI (extract_gives hE hG hr), fun c => by simp⟩
  case h_24 c ho =>
    split at hr
    · rename_i b hb
      refine ⟨?_, fun c => by rw [ho]; simp⟩
      have : execOp a.eval o = builtin b c.argTypes o.type (c.args.map fun | .const _ => true | _ => false) (c.args.map a.eval) := by
        simp only [execOp, ho, resolve, hb]
        rfl
      rw [this]
      exact builtin_ok hT rfl hI hE hG hr
    · cases hr
  case h_25 => cases hr

end
end Go.BI
/- SOUNDNESS OF 'B', twenty-ninth part: how a function is entered and left. -/
set_option linter.unusedVariables false
set_option linter.unusedSimpArgs false
namespace Go.BI
open Go Go.RowKit

section
variable {P : Program} {T : Tys} {z : Base} {w w' : World} {g : Gh} {st : Sites}

/-- The blocks of loops' deferred calls, taken: nothing else has turned. -/
structure Took (lo : Nat) (w w' : World) : Prop where
  heap : ∀ k, w'.heap[k]? = w.heap[k]? ∨ (lo ≤ k ∧ w.heap[k]? = some (.deferred (some [])) ∧ w'.heap[k]? = some (.deferred none))
  size : w'.heap.size = w.heap.size
  os : w'.os = w.os
  tape : w'.tape = w.tape
  output : w'.output = w.output

theorem Took.refl (lo : Nat) (w : World) : Took lo w w := ⟨fun _ => .inl rfl, rfl, rfl, rfl, rfl⟩

theorem Took.trans {lo : Nat} {w1 w2 w3 : World} (h : Took lo w1 w2) (k : Took lo w2 w3) : Took lo w1 w3 := by
  refine ⟨fun b => ?_, k.size.trans h.size, k.os.trans h.os, k.tape.trans h.tape, k.output.trans h.output⟩
  rcases h.heap b with h1 | ⟨h1, h2, h3⟩
  · rcases k.heap b with k1 | ⟨k1, k2, k3⟩
    · exact .inl (k1.trans h1)
    · exact .inr ⟨k1, h1 ▸ k2, k3⟩
  · rcases k.heap b with k1 | ⟨k1, k2, k3⟩
    · exact .inr ⟨h1, h2, k1.trans h3⟩
    · rw [h3] at k2
      cases k2

theorem Took.of {lo : Nat} (h : Took lo w w') {b : Nat} {o : Obj} (ho : w.heap[b]? = some o) (hn : o ≠ .deferred (some [])) : w'.heap[b]? = some o := by
  rcases h.heap b with h1 | ⟨_, h2, _⟩
  · exact h1.trans ho
  · rw [ho] at h2
    cases h2
    exact absurd rfl hn

theorem Took.cell {lo : Nat} (h : Took lo w w') (a : Addr) : w'.cell? a = w.cell? a := by
  unfold World.cell?
  rcases h.heap a.block with h1 | ⟨_, h2, h3⟩
  · rw [h1]
  · rw [h2, h3]

theorem Took.relD {lo : Nat} (h : Took lo w w') {v : Value} {d : D} (r : RelD w g v d) : RelD w' g v d :=
  r.turn (fun _ _ _ h => h) (fun _ h => h) (fun _ h => h) (fun a _ => h.cell a) fun b cs el fr hb => ⟨cs, fr, h.of hb (by simp), rfl⟩

theorem Took.inv {lo : Nat} (h : Took lo w w') (hlo : z.w0.heap.size ≤ lo) (hI : Inv z g w st) : Inv z g w' st := by
  refine ⟨fun s r o hr ho => ?_, hI.apart, hI.ver, fun a ha => ?_, fun b hb hB => ?_, h.os.trans hI.os, h.tape.trans hI.tape, h.output.trans hI.output, by rw [h.size]; exact hI.size, hI.S, hI.N, fun s v x hx => by rw [h.size]; exact hI.has s v x hx⟩
  · obtain ⟨b, δ, h1, h2, h3⟩ := hI.site s r o hr ho
    refine ⟨b, δ, h1, ?_, h3⟩
    cases o with
    | box ty cells fz =>
      obtain ⟨cs, el, fr, q1, q2, q3, q4, q5, q6, q7⟩ := h2
      exact ⟨cs, el, fr, h.of q1 (by simp), q2, q3, fun i v d e1 e2 => h.relD (q4 i v d e1 e2), q5, q6, q7⟩
    | iter s pos =>
      obtain ⟨ba, q1, q2⟩ := h2
      exact ⟨ba, h.of q1 (by simp), q2⟩
    | loop l =>
      obtain ⟨L, q1, q2, q3, q4, q5, q6, q7, q8, q9⟩ := h2
      exact ⟨L, h.of q1 (by simp), q2, q3, fun t => (let ⟨d, e1, e2⟩ := q4 t; ⟨d, e1, h.relD e2⟩), q5, q6, q7, q8, q9⟩
  · obtain ⟨h1, v, h2⟩ := hI.old a ha
    exact ⟨h1, v, (h.cell a).trans h2⟩
  · rcases h.heap b with h1 | ⟨h1, _, _⟩
    · exact h1.trans (hI.keep b hb hB)
    · omega

/-- Behind a function's run, its marks taken: for its caller. -/
theorem Took.ext {lo : Nat} {w1 : World} {g1 : Gh} (h : Took lo w1 w') (hlo : w.heap.size ≤ lo) (e : Ext g w g1 w1) : Ext g w g1 w' := by
  refine ⟨e.blk, e.S, e.N, fun a ha => (h.cell a).trans (e.cell a ha), fun b cs el fr hb => ?_, fun b L hb => ?_, by rw [h.size]; exact e.size, fun b hb => ?_⟩
  · obtain ⟨cs', fr', h1, h2⟩ := e.shape b cs el fr hb
    exact ⟨cs', fr', h.of h1 (by simp), h2⟩
  · obtain ⟨L', h1⟩ := e.loops b L hb
    exact ⟨L', h.of h1 (by simp)⟩
  · have h1 := e.defs b hb
    have hlt := (Array.getElem?_eq_some_iff.1 hb).1
    rcases h.heap b with h2 | ⟨h2, _, _⟩
    · exact h2.trans h1
    · omega

/-- The marks of a frame. -/
def MarksOk (w : World) (lo : Nat) : List Deferred → Prop
  | [] => True
  | d :: ds => (∃ b, d = { target := .collected b, args := #[] } ∧ w.heap[b]? = some (.deferred (some [])) ∧ lo ≤ b ∧ ∀ d' ∈ ds, d' ≠ d) ∧ MarksOk w lo ds

theorem MarksOk.mem {lo : Nat} {ds : List Deferred} (h : MarksOk w lo ds) : ∀ d ∈ ds, ∃ b, d = { target := .collected b, args := #[] } ∧ w.heap[b]? = some (.deferred (some [])) ∧ lo ≤ b := by
  induction ds with
  | nil => simp
  | cons d ds ih =>
    intro x hx
    rcases List.mem_cons.1 hx with rfl | hx
    · obtain ⟨⟨b, h1, h2, h3, _⟩, _⟩ := h
      exact ⟨b, h1, h2, h3⟩
    · exact ih h.2 x hx

theorem MarksOk.mono {lo : Nat} {ds : List Deferred} (h : MarksOk w lo ds) (hd : ∀ d ∈ ds, ∀ b, d = { target := .collected b, args := #[] } → w.heap[b]? = some (.deferred (some [])) → w'.heap[b]? = some (.deferred (some []))) : MarksOk w' lo ds := by
  induction ds with
  | nil => trivial
  | cons d ds ih =>
    obtain ⟨⟨b, h1, h2, h3, h4⟩, h5⟩ := h
    exact ⟨⟨b, h1, hd d (by simp) b h1 h2, h3, h4⟩, ih h5 fun d' hd' => hd d' (by simp [hd'])⟩

theorem MarksOk.ext {g' : Gh} {lo : Nat} {ds : List Deferred} (e : Ext g w g' w') (h : MarksOk w lo ds) : MarksOk w' lo ds := h.mono fun _ _ b _ hb => e.defs b hb

/-- A frame leaves: its marks are taken, one by one. -/
theorem leavesM_ok {fn : Func} {tmps : Array Value} {R : Ending → World → Prop} {lo : Nat} : ∀ (ds : List Deferred) (w : World), MarksOk w lo ds →
    (∀ w', Took lo w w' → LeavesInM Fence.wide 0 P fn tmps R [] .returning w') → LeavesInM Fence.wide 0 P fn tmps R ds .returning w := by
  intro ds
  induction ds with
  | nil => intro w _ h; exact h w (.refl _ _)
  | cons d ds ih =>
    intro w hm h
    obtain ⟨⟨b, rfl, h2, h3, h4⟩, h5⟩ := hm
    have hlt : b < w.heap.size := (Array.getElem?_eq_some_iff.1 h2).1
    have ht : Took lo w (w.putObj b (.deferred none)) := by
      refine ⟨fun k => ?_, by simp [World.putObj], rfl, rfl, rfl⟩
      by_cases hk : k = b
      · subst hk
        exact .inr ⟨h3, h2, World.putObj_heap_same hlt⟩
      · exact .inl (World.putObj_heap_other hk)
    refine ⟨by simp, .inl ⟨b, _, rfl, run_takeDeferred h2, ih _ (h5.mono fun d' hd' b' hb' hh => ?_) fun w' hw' => h w' (ht.trans hw')⟩⟩
    have hne : b' ≠ b := by
      rintro rfl
      exact h4 d' hd' hb'
    rw [World.putObj_heap_other hne]
    exact hh

theorem getO_mkEnv (t : Nat) : ∀ (l : List D) (k : Nat) (e : E), k + l.length ≤ 4000 → getO (mkEnv l k e) t = if k ≤ t ∧ t < k + l.length then l[t - k]? else getO e t := by
  intro l
  induction l with
  | nil => intro k e _; simp [mkEnv]; intro h1 h2; omega
  | cons d r ih =>
    intro k e hk
    simp only [List.length_cons] at hk
    simp only [mkEnv]
    rw [ih (k + 1) _ (by omega), getO_putE _ _ _ _ (by omega)]
    simp only [List.length_cons]
    by_cases h1 : t = k
    · subst h1
      rw [if_neg (by omega), if_pos rfl, if_pos (by omega)]
      simp
    · by_cases h2 : k + 1 ≤ t ∧ t < k + 1 + r.length
      · rw [if_pos h2, if_pos (by omega)]
        rw [show t - k = (t - (k + 1)) + 1 from by omega]
        simp
      · rw [if_neg h2, if_neg h1, if_neg (by omega)]

theorem getO_nil (t : Nat) : getO (.nil : E) t = some (.v .undef) := getK_nil _ _ _

theorem mkEnv_rel {args : List D} {vals : Array Value} {n : Nat} (hl : vals.size = args.length) (hn : args.length ≤ n) (h4 : n ≤ 4000) (hr : ∀ (i : Nat) v d, vals[i]? = some v → args[i]? = some d → RelD w g v d) :
    RelE w g (vals ++ Array.replicate (n - vals.size) undef) (mkEnv args 0 .nil) := by
  intro t
  rw [getO_mkEnv _ _ _ _ (by omega)]
  by_cases ht : t < args.length
  · rw [if_pos (by omega)]
    have h1 : args[t - 0]? = some args[t] := by simp [ht]
    refine ⟨args[t], h1, hr t _ _ ?_ (by simp [ht])⟩
    have hv : t < vals.size := by omega
    have h2 : (vals ++ Array.replicate (n - vals.size) undef)[t]? = some vals[t] := by
      rw [Array.getElem?_append_left hv]
      simp [hv]
    rw [Array.getD_eq_getD_getElem?, h2]
    simp [hv]
  · rw [if_neg (by omega), getO_nil]
    refine ⟨_, rfl, .v _ _ (.undef _ ?_)⟩
    rw [Array.getD_eq_getD_getElem?, Array.getElem?_append_right (by omega), Array.getElem?_replicate]
    split <;> simp [undef]

end
end Go.BI
/- SOUNDNESS OF 'B', thirtieth part: what is to be proved of code; a function's call by its text. -/
set_option linter.unusedVariables false
set_option linter.unusedSimpArgs false
namespace Go.BI
open Go Go.RowKit

/-- A function of ours in a function's place. -/
def NatOk (par : Par) (f : FuncId) (gf : List V → Option V) : Prop :=
  ∀ (w : World) (S : Addr → Prop) (vals : Array Value) (l : List V) (x : V), (∀ a, S a → a.spot = none ∧ ∃ v, w.cell? a = some v) → GlobOk par w (Gh.shut w S) → vals.size = l.length →
    (∀ (i : Nat) v y, vals[i]? = some v → l[i]? = some y → RelV w S v y) → gf l = some x → NextOk par.P (callFunc f vals) w fun v w' => Closed w S x v w'

/-- A function taken as an effect on the store. -/
def SemOk (par : Par) (f : FuncId) (h : List D → St → Option (D × St)) : Prop :=
  ∀ (args : List D) (st : St) (d : D) (st' : St), h args st = some (d, st') → ∀ (z : Base) (g : Gh) (w : World) (vals : Array Value), Inv z g w st.sites → vals.size = args.length →
    (∀ (i : Nat) v y, vals[i]? = some v → args[i]? = some y → RelD w g v y) → NextOk par.P (callFunc f vals) w fun v w' => ∃ g', Ext g w g' w' ∧ Inv z g' w' st'.sites ∧ RelD w' g' v d

def identB (args : List D) (st : St) : Option (D × St) :=
  match args with
  | [.ptr s v o] => some (.ptr s v o, st)
  | _ => none

/-- What is asked of a function that is not taken by its text. -/
def SpecOk (par : Par) (f : FuncId) : Prop :=
  match par.spec f with
  | .nat gf => NatOk par f gf
  | .ident => SemOk par f identB
  | .bytes => SemOk par f (mkBytes par f)
  | .insert => SemOk par f (insRow par f)
  | _ => True

structure ParOk (par : Par) : Prop where
  T : TOk par.P par.T
  fn : ∀ f fn, par.fn f = some fn → par.P.funcs[f]? = some fn ∧ fn.name ≠ "runtime.NumGoroutine" ∧ ∀ c, fn.body = some c → codeOk fn.ntmps c = true ∧ fn.ntmps ≤ 4000
  spec : ∀ f, SpecOk par f

def exOf : Ex → Exit
  | .normal => .normal
  | .exit i => .exit i
  | .goto l => .goto l
  | .ret => .ret

/-- A frame as it stands. -/
structure Fr (par : Par) (z : Base) (lo : Nat) (g : Gh) (w : World) (st : Sites) (a : Act) (env : E) (N : Nat) : Prop where
  inv : Inv z g w st
  env : RelE w g a.tmps env
  glob : GlobOk par w g
  size : a.tmps.size = N
  marks : MarksOk w lo a.defers
  low : lo ≤ w.heap.size

def Post (par : Par) (z : Base) (lo : Nat) (g : Gh) (w : World) (N : Nat) (env' : E) (st' : Sites) (e : Ex) : Exit → Act → World → Prop :=
  fun x a' w' => x = exOf e ∧ ∃ g', Ext g w g' w' ∧ Fr par z lo g' w' st' a' env' N

/-- What is to be proved of an interpreter of code. -/
def RunOk (par : Par) (run : Run) : Prop :=
  ∀ (c : Code) (fb : Nat) (env : E) (st : St) (e : Ex) (env' : E) (st' : St), run c fb env st = some (e, env', st') →
  ∀ (z : Base) (lo : Nat) (g : Gh) (w : World) (a : Act) (N : Nat) (ρ : Option Nat), codeOk N c = true → N ≤ 4000 → z.w0.heap.size ≤ lo → (∀ l, ρ = some l → ∃ L, w.heap[l]? = some (.loop L)) →
    Fr par z lo g w st.sites a env N → c.wpIn (fenceR ρ) 0 par.P (Post par z lo g w N env' st'.sites e) a w

section
variable {par : Par} {run : Run} {z : Base} {w w' : World} {g : Gh}

theorem RelE.took {lo : Nat} (h : Took lo w w') {tmps : Array Value} {env : E} (r : RelE w g tmps env) : RelE w' g tmps env := fun t => let ⟨d, e1, e2⟩ := r t; ⟨d, e1, h.relD e2⟩

/-- A function's text, run. -/
theorem body_ok (hP : ParOk par) (hR : RunOk par run) {f : FuncId} {fn : Func} {c : Code} {args : List D} {vals : Array Value} {fb : Nat} {st st' : St} {e : Ex} {env' : E} {d : D} (hfn : par.fn f = some fn) (hb : fn.body = some c)
    (hle : args.length ≤ fn.ntmps) (hrun : run c fb (mkEnv args 0 .nil) st = some (e, env', st')) (he : e = .normal ∨ e = .ret) (hres : results par.T fn env' st'.sites = some d) (hI : Inv z g w st.sites) (hG : GlobOk par w g)
    (hl : vals.size = args.length) (hr : ∀ (i : Nat) v y, vals[i]? = some v → args[i]? = some y → RelD w g v y) :
    CallsIn Fence.wide 0 par.P f vals w (Ret fun v w' => ∃ g', Ext g w g' w' ∧ Inv z g' w' st'.sites ∧ RelD w' g' v d) := by
  obtain ⟨h1, h2, h3⟩ := hP.fn f fn hfn
  obtain ⟨h4, h5⟩ := h3 c hb
  refine callsIn_of_wp_marks h1 hb trivial ?_
  have := hR _ _ _ _ _ _ _ hrun z w.heap.size g w { tmps := vals ++ Array.replicate (fn.ntmps - vals.size) undef, defers := [] } fn.ntmps none h4 h5 hI.size (fun l hl => by cases hl)
    ⟨hI, mkEnv_rel hl hle h5 hr, hG, by simp; omega, trivial, Nat.le_refl _⟩
  refine wpIn_mono this ?_
  rintro x a' w1 ⟨rfl, g', hE, hF⟩
  have key : LeavesInM Fence.wide 0 par.P fn a'.tmps (Ret fun v w' => ∃ g', Ext g w g' w' ∧ Inv z g' w' st'.sites ∧ RelD w' g' v d) a'.defers .returning w1 := by
    refine leavesM_ok _ _ hF.marks fun w2 ht => ?_
    obtain ⟨v, r1, r2⟩ := results_run (P := par.P) hP.T (ht.inv hI.size hF.inv) (hF.env.took ht) hres
    exact ⟨v, r1, g', ht.ext (Nat.le_refl _) hE, ht.inv hI.size hF.inv, r2⟩
  rcases he with rfl | rfl <;> exact key

theorem callFunc_enter {f : FuncId} {fn : Func} {c : Code} {P : Program} (h1 : P.funcs[f]? = some fn) (h2 : fn.name ≠ "runtime.NumGoroutine") (hb : fn.body = some c) (vals : Array Value) (w : World) :
    (callFunc f vals).run P w = .ok (.enter f vals) w := by
  have h3 : (fn.name == "runtime.NumGoroutine") = false := by simpa using h2
  simp [callFunc, h1, h2, hb, go_sem]

theorem leaveC_sites (keep : Bool) (d : D) (st : St) (top : Nat) : (leaveC keep d st top).1 = d ∧ (leaveC keep d st top).2.sites = st.sites := by
  unfold leaveC
  cases keep with
  | true => exact ⟨rfl, rfl⟩
  | false => cases d <;> exact ⟨rfl, rfl⟩

/-- A call over the caller's store. -/
theorem callO_ok (hP : ParOk par) (hR : RunOk par run) {keep : Bool} {f : FuncId} {args : List D} {vals : Array Value} {st st' : St} {d : D} (h : callO par run keep f args st = some (d, st')) (hI : Inv z g w st.sites) (hG : GlobOk par w g)
    (hl : vals.size = args.length) (hr : ∀ (i : Nat) v y, vals[i]? = some v → args[i]? = some y → RelD w g v y) :
    (callFunc f vals).run par.P w = .ok (.enter f vals) w ∧ CallsIn Fence.wide 0 par.P f vals w (Ret fun v w' => ∃ g', Ext g w g' w' ∧ Inv z g' w' st'.sites ∧ RelD w' g' v d) := by
  unfold callO at h
  split at h
  · rename_i fn hfn
    split at h
    · rename_i c hb hle
      simp only [fEnv_eq, fNat_eq] at h
      have hle' : args.length ≤ fn.ntmps := Nat.le_of_ble_eq_true hle
      obtain ⟨h1, h2, h3⟩ := hP.fn f fn hfn
      refine ⟨callFunc_enter h1 h2 hb _ _, ?_⟩
      have fin : ∀ {e : Ex} {env' : E} {st1 : St} {d1 : D}, e = .normal ∨ e = .ret → run c st.top (mkEnv args 0 .nil) ⟨st.sites, st.top + fn.ntmps + args.length, st.low⟩ = some (e, env', st1) → results par.T fn env' st1.sites = some d1 →
          some (leaveC keep d1 st1 st.top) = some (d, st') → CallsIn Fence.wide 0 par.P f vals w (Ret fun v w' => ∃ g', Ext g w g' w' ∧ Inv z g' w' st'.sites ∧ RelD w' g' v d) := by
        intro e env' st1 d1 he hrun hres hlv
        have := body_ok (run := run) hP hR (fb := st.top) hfn hb hle' hrun he hres (z := z) (g := g) (w := w) hI hG hl hr
        obtain ⟨q1, q2⟩ := leaveC_sites keep d1 st1 st.top
        have hlv := Option.some.inj hlv
        rw [hlv] at q1 q2
        rw [q2]
        simp only at q1
        rw [q1]
        exact this
      split at h
      · rename_i env' st1 hrun
        split at h
        · rename_i d1 hres
          exact fin (.inl rfl) hrun hres h
        · cases h
      · rename_i env' st1 hrun
        split at h
        · rename_i d1 hres
          exact fin (.inr rfl) hrun hres h
        · cases h
      · cases h
    · cases h
  · cases h

theorem GlobOk.shut {S : Addr → Prop} (hG : GlobOk par w g) (hS : ∀ a, g.S a → S a) : GlobOk par w (Gh.shut w S) := by
  intro i
  have := hG i
  generalize hv : Value.pointer (some ⟨i, 0, none⟩) = v at this ⊢
  cases this with
  | pin k a cs val ha hc =>
    exact .pin true a _ val ha fun j x hx => (let ⟨q1, q2, q3, q4⟩ := hc j x hx; ⟨q1, hS _ q2, q3.mono hS fun _ _ => rfl, q4⟩)

/-- A function's text, run with an empty store. -/
theorem callT_ok (hP : ParOk par) (hR : RunOk par run) {f : FuncId} {args : List D} {vals : Array Value} {x : V} {S : Addr → Prop} (h : callT par run f args = some x) (hS : ∀ a, S a → a.spot = none ∧ ∃ v, w.cell? a = some v)
    (hG : GlobOk par w (Gh.shut w S)) (hl : vals.size = args.length) (hr : ∀ (i : Nat) v y, vals[i]? = some v → args[i]? = some y → RelC w S v y) :
    NextOk par.P (callFunc f vals) w fun v w' => Closed w S x v w' := by
  unfold callT at h
  split at h
  · rename_i fn hfn
    split at h
    · rename_i c hb hle
      simp only [fEnv_eq] at h
      have hle' : args.length ≤ fn.ntmps := Nat.le_of_ble_eq_true hle
      obtain ⟨h1, h2, h3⟩ := hP.fn f fn hfn
      unfold NextOk
      rw [callFunc_enter h1 h2 hb _ _]
      have fin : ∀ {e : Ex} {env' : E} {st1 : St} {d1 : D}, e = .normal ∨ e = .ret → run c 0 (mkEnv args 0 .nil) ⟨.nil, fn.ntmps + args.length, 0⟩ = some (e, env', st1) → results par.T fn env' st1.sites = some d1 →
          (match freeze d1 st1.sites with | some (x, _) => fDeep 30 x fun x => some x | none => none) = some x → CallsIn Fence.wide 0 par.P f vals w (Ret fun v w' => Closed w S x v w') := by
        intro e env' st1 d1 he hrun hres hfz
        have := body_ok (run := run) hP hR (fb := 0) hfn hb hle' hrun he hres (z := Base.shut w S) (g := Gh.shut w S) (w := w) (Inv.shut hS) hG hl (fun i v y hv hy => hr i v y hv hy _ (fun _ h => h) (fun a h1 h2 => ⟨h1, h2⟩))
        refine this.mono (Ret.mono ?_)
        rintro v w1 ⟨g', hE, hI1, hd⟩
        split at hfz
        · rename_i x1 st2 hf1
          rw [fDeep_eq] at hfz
          cases hfz
          obtain ⟨g2, e2, i2, r2⟩ := freeze_ok hf1 hI1 hd
          exact i2.to_closed (fun a ha => e2.S a (hE.S a ha)) r2
        · cases hfz
      split at h
      · rename_i env' st1 hrun
        split at h
        · rename_i d1 hres
          exact fin (.inl rfl) hrun hres h
        · cases h
      · rename_i env' st1 hrun
        split at h
        · rename_i d1 hres
          exact fin (.inr rfl) hrun hres h
        · cases h
      · cases h
    · cases h
  · cases h

/-- A call of a function. -/
theorem callF_ok (hP : ParOk par) (hR : RunOk par run) {f : FuncId} {args : List D} {vals : Array Value} {st st' : St} {d : D} (h : callF par run f args st = some (d, st')) (hI : Inv z g w st.sites) (hG : GlobOk par w g)
    (hl : vals.size = args.length) (hr : ∀ (i : Nat) v y, vals[i]? = some v → args[i]? = some y → RelD w g v y) :
    NextOk par.P (callFunc f vals) w fun v w' => ∃ g', Ext g w g' w' ∧ Inv z g' w' st'.sites ∧ RelD w' g' v d := by
  have open_ : ∀ {keep : Bool}, callO par run keep f args st = some (d, st') → NextOk par.P (callFunc f vals) w fun v w' => ∃ g', Ext g w g' w' ∧ Inv z g' w' st'.sites ∧ RelD w' g' v d := by
    intro keep ho
    obtain ⟨q1, q2⟩ := callO_ok hP hR ho hI hG hl hr
    unfold NextOk
    rw [q1]
    exact q2
  have hsp := hP.spec f
  unfold SpecOk at hsp
  unfold callF at h
  split at h
  · rename_i hk
    rw [hk] at hsp
    refine hsp args st d st' ?_ z g w vals hI hl hr
    split at h <;> cases h
    rfl
  · rename_i hk
    rw [hk] at hsp
    exact hsp args st d st' h z g w vals hI hl hr
  · rename_i hk
    rw [hk] at hsp
    exact hsp args st d st' h z g w vals hI hl hr
  · exact open_ h
  · exact open_ h
  · split at h
    · rename_i as sites ha
      split at h <;> cases h
      rename_i x hx
      obtain ⟨g1, e1, i1, n1, r1⟩ := argsC_ok args (paramsOf par f) st.sites as sites g (fun i => vals.getD i undef) ha hI (fun i d' hd' => by
        have hi : i < vals.size := by rw [hl]; exact (List.getElem?_eq_some_iff.1 hd').1
        exact hr i _ d' (by simp [Array.getD_eq_getD_getElem?, hi]) hd')
      have hr1 : ∀ (i : Nat) v y, vals[i]? = some v → as[i]? = some y → RelC w g1.S v y := by
        intro i v y hv hy
        have := r1 i y hy
        rwa [Array.getD_eq_getD_getElem?, hv] at this
      have hS : ∀ a, g1.S a → a.spot = none ∧ ∃ v, w.cell? a = some v := fun a ha => i1.old a (.inl ha)
      have key : NextOk par.P (callFunc f vals) w fun v w' => Closed w g1.S x v w' := by
        unfold callC at hx
        split at hx
        · rename_i gf hk
          rw [hk] at hsp
          split at hx
          · rename_i l hal
            obtain rfl := allV_eq hal
            refine hsp w g1.S vals l x hS ((hG.ext e1).shut fun _ h => h) (by rw [hl, ← n1]; simp) (fun i v y hv hy => ?_) hx
            have := hr1 i v (.v y) hv (by simp [hy])
            exact (this (Gh.shut w g1.S) (fun _ h => h) (fun a h1 h2 => ⟨h1, h2⟩)).toV
          · cases hx
        · exact callT_ok hP hR hx hS ((hG.ext e1).shut fun _ h => h) (by rw [hl, n1]) hr1
        · cases hx
      refine key.mono ?_
      rintro v w1 hc
      obtain ⟨g2, e2, i2, r2⟩ := Closed.into i1 hc
      exact ⟨g2, e1.trans e2, i2, .v _ _ r2⟩
    · exact open_ h

end
end Go.BI
/- SOUNDNESS OF 'B', thirty-first part: a loop's rounds; calls of functions' values; every operation. -/
set_option linter.unusedVariables false
set_option linter.unusedSimpArgs false
namespace Go.BI
open Go Go.RowKit

section
variable {P : Program} {z : Base} {w w' : World} {g : Gh} {st : Sites}

/-- A loop's record, turned. -/
theorem loop_turn (hI : Inv z g w st) {s ver b δ : Nat} {l : LRec} (hl : look st s ver = some (.loop l)) (hb : g.blk s ver = some (b, δ)) :
    ∃ L : Loop, w.heap[b]? = some (.loop L) ∧ L.state = l.state ∧ L.pending = l.pending ∧ RelE w g L.tmps l.env ∧ L.params.toList = l.params ∧ L.assign = l.assign ∧ L.body = l.body ∧
      (L.params.toList.all (fun p => decide (p < L.tmps.size)) && codeOk L.tmps.size l.assign && codeOk L.tmps.size l.body) = true ∧ L.tmps.size ≤ 4000 ∧
      ∀ s' p', Ext g w g (w.putObj b (.loop { L with state := s', pending := p' })) ∧ Inv z g (w.putObj b (.loop { L with state := s', pending := p' })) (setS st s ⟨ver, some (.loop { l with state := s', pending := p' })⟩) := by
  obtain ⟨b', δ', hb', hB, _⟩ := hI.look hl
  rw [hb] at hb'
  cases hb'
  obtain ⟨L, h1, h2, h3, h4, h5, h6, h7, h8, h9⟩ := hB
  refine ⟨L, h1, h2, h3, h4, h5, h6, h7, h8, h9, fun s' p' => ?_⟩
  have hlt : b < w.heap.size := (Array.getElem?_eq_some_iff.1 h1).1
  exact hI.turn (o' := .loop { L with state := s', pending := p' }) (bo := .loop { l with state := s', pending := p' }) (look_lt hl) hl hb h1 (by simp) (by simp) (fun L' _ => ⟨_, rfl⟩)
    (fun hE => ⟨{ L with state := s', pending := p' }, by simp [hlt], rfl, rfl, h4.ext hE, h5, h6, h7, h8, h9⟩)

theorem setAll_rel : ∀ (ps : List (Tmp × Value)) (qs : List (Tmp × D)) (tmps : Array Value) (env : E), ps.length = qs.length → (∀ (i : Nat) p q, ps[i]? = some p → qs[i]? = some q → p.1 = q.1 ∧ RelD w g p.2 q.2) →
    (∀ p ∈ ps, p.1 < tmps.size) → tmps.size ≤ 4000 → RelE w g tmps env → RelE w g (ps.foldl (fun t p => t.setIfInBounds p.1 p.2) tmps) (setAll env qs) ∧ (ps.foldl (fun t p => t.setIfInBounds p.1 p.2) tmps).size = tmps.size := by
  intro ps
  induction ps with
  | nil =>
    intro qs tmps env hl _ _ _ hE
    cases qs with
    | nil => exact ⟨hE, rfl⟩
    | cons _ _ => simp at hl
  | cons p ps ih =>
    intro qs tmps env hl hr hlt h4 hE
    cases qs with
    | nil => simp at hl
    | cons q qs =>
      obtain ⟨h1, h2⟩ := hr 0 p q rfl rfl
      have hp := hlt p (by simp)
      have := ih qs (tmps.setIfInBounds p.1 p.2) (putE env q.1 q.2) (by simpa using hl) (fun i p' q' hp' hq' => hr (i + 1) p' q' (by simpa using hp') (by simpa using hq')) (fun p' hp' => by simpa using hlt p' (by simp [hp'])) (by simpa using h4)
        (by rw [← h1]; exact hE.put hp (Nat.lt_of_lt_of_le hp h4) h2)
      simp only [List.foldl_cons, setAll]
      exact ⟨this.1, by rw [this.2]; simp⟩

end

section
variable {par : Par} {run : Run} {z : Base} {w w' : World} {g : Gh}

theorem round_ok (hP : ParOk par) (hR : RunOk par run) {s ver b δ : Nat} {args : List D} {vals : Array Value} {st st' : St} {d : D} (h : round run s ver args st = some (d, st')) (hI : Inv z g w st.sites) (hG : GlobOk par w g)
    (hb : g.blk s ver = some (b, δ)) (hl : vals.size = args.length) (hr : ∀ (i : Nat) v y, vals[i]? = some v → args[i]? = some y → RelD w g v y) :
    NextOk par.P (Instr.yield b vals) w fun v w' => ∃ g', Ext g w g' w' ∧ Inv z g' w' st'.sites ∧ RelD w' g' v d := by
  unfold round at h
  split at h
  · rename_i l hlk
    split at h
    · cases h
    · rename_i hlen
      split at h
      · rename_i hready
        split at h
        · rename_i env1 st1 hrun1
          split at h
          · rename_i l1 hlk1
            split at h
            · rename_i hready1
              split at h
              · rename_i e env2 st2 hrun2
                split at h
                · rename_i l2 hlk2
                  cases h
                  obtain ⟨L, h1, h2, h3, h4, h5, h6, h7, h8, h9, _⟩ := loop_turn hI hlk hb
                  simp only [Bool.and_eq_true] at h8
                  obtain ⟨⟨hps, hca⟩, hcb⟩ := h8
                  have hpl : L.params.size = l.params.length := by rw [← h5]; simp
                  have hy := run_yield (P := par.P) (args := vals) h1 (by omega)
                  unfold NextOk
                  rw [hy]
                  refine roundIn_of_wpIn trivial ?_
                  -- yield's temporaries
                  have hfold : (L.params.zip vals).foldl (fun tmps (x : Tmp × Value) => tmps.setIfInBounds x.1 x.2) L.tmps = (L.params.toList.zip vals.toList).foldl (fun t p => t.setIfInBounds p.1 p.2) L.tmps := by
                    rw [← Array.foldl_toList, Array.toList_zip]
                  obtain ⟨q1, q2⟩ := setAll_rel (w := w) (g := g) (L.params.toList.zip vals.toList) (l.params.zip args) L.tmps l.env (by simp [h5]; omega) (fun i p q hp hq => by
                    rw [h5] at hp
                    rw [List.getElem?_zip_eq_some] at hp hq
                    obtain ⟨p1, p2⟩ := hp
                    obtain ⟨q1, q2⟩ := hq
                    rw [p1] at q1
                    exact ⟨Option.some.inj q1, hr i p.2 q.2 (by simpa using p2) q2⟩) (fun p hp => by
                    have := (List.of_mem_zip hp).1
                    rw [List.all_eq_true] at hps
                    simpa using hps _ this) h9 h4
                  have hrun1' : run L.assign l.fb (setAll l.env (l.params.zip args)) st = some (.normal, env1, st1) := by rw [h6]; exact hrun1
                  have w1 := hR _ _ _ _ _ _ _ hrun1' z w.heap.size g w { tmps := (L.params.toList.zip vals.toList).foldl (fun t p => t.setIfInBounds p.1 p.2) L.tmps, defers := [] } L.tmps.size (some b) (by rw [h6]; exact hca) h9 hI.size
                    (fun l' hl' => by cases hl'; exact ⟨L, h1⟩) ⟨hI, q1, hG, q2, trivial, Nat.le_refl _⟩
                  rw [← hfold] at w1
                  refine wpIn_mono (F := fenceR (some b)) w1 ?_
                  rintro x a1 w1 ⟨rfl, g1, e1, f1⟩
                  have hb1 := e1.blk _ _ _ hb
                  obtain ⟨L1, k1, k2, k3, k4, k5, k6, k7, k8, k9, k10⟩ := loop_turn f1.inv hlk1 hb1
                  obtain ⟨e2, i2⟩ := k10 .busy l1.pending
                  have hL1 : { L1 with state := LoopState.busy, pending := l1.pending } = { L1 with state := LoopState.busy } := by rw [← k3]
                  have hl1 : { l1 with state := LoopState.busy, pending := l1.pending } = { l1 with state := LoopState.busy } := rfl
                  rw [hL1] at e2 i2
                  refine ⟨_, run_beginRound k1 (by rw [k2]; exact hready1), ?_⟩
                  have hrun2' : run L.body l.fb env1 ⟨setS st1.sites s ⟨ver, some (.loop { l1 with state := .busy })⟩, st1.top, st1.low⟩ = some (e, env2, st2) := by rw [h7]; exact hrun2
                  have hlt1 : b < w1.heap.size := (Array.getElem?_eq_some_iff.1 k1).1
                  have w2 := hR _ _ _ _ _ _ _ hrun2' z w.heap.size g1 (w1.putObj b (.loop { L1 with state := .busy })) a1 L.tmps.size (some b) (by rw [h7]; exact hcb) h9 hI.size
                    (fun l' hl' => by cases hl'; exact ⟨_, World.putObj_heap_same hlt1⟩) ⟨i2, f1.env.ext e2, f1.glob.ext e2, f1.size, f1.marks.ext e2, Nat.le_trans f1.low e2.size⟩
                  refine wpIn_mono (F := fenceR (some b)) w2 ?_
                  rintro x a2 w3 ⟨rfl, g3, e3, f3⟩
                  have hb3 := e3.blk _ _ _ hb1
                  obtain ⟨L2, m1, m2, m3, m4, m5, m6, m7, m8, m9, m10⟩ := loop_turn f3.inv hlk2 hb3
                  have fin : ∀ (jump : Option Code), jumpCode e = jump → ∃ v w4, (Instr.endRound b jump).run par.P w3 = .ok v w4 ∧ Ret (fun v w' => ∃ g', Ext g w g' w' ∧ Inv z g' w' (setS st2.sites s ⟨ver, some (.loop { l2 with state := if (jumpCode e).isNone then .ready else .done, pending := jumpCode e })⟩) ∧ RelD w' g' v (.v (.bool (jumpCode e).isNone))) (.returned v) w4 := by
                    rintro jump rfl
                    obtain ⟨e4, i4⟩ := m10 (if (jumpCode e).isNone then .ready else .done) (jumpCode e)
                    exact ⟨_, _, run_endRound (jumpCode e) m1, g3, ((e1.trans e2).trans e3).trans e4, i4, .v _ _ (.bool _)⟩
                  cases e with
                  | normal => exact fin none rfl
                  | exit id => exact fin (some (.exit id)) rfl
                  | goto t => exact fin (some (.goto t)) rfl
                  | ret => exact fin (some .ret) rfl
                · cases h
              · cases h
            · cases h
          · cases h
        · cases h
      · cases h
  · cases h

theorem rel_append {v1 v2 : Array Value} {d1 d2 : List D} (h1 : v1.size = d1.length) (r1 : ∀ (i : Nat) v y, v1[i]? = some v → d1[i]? = some y → RelD w g v y) (r2 : ∀ (i : Nat) v y, v2[i]? = some v → d2[i]? = some y → RelD w g v y) :
    ∀ (i : Nat) v y, (v1 ++ v2)[i]? = some v → (d1 ++ d2)[i]? = some y → RelD w g v y := by
  intro i v y hv hy
  by_cases hi : i < v1.size
  · rw [Array.getElem?_append_left hi] at hv
    rw [List.getElem?_append_left (by omega)] at hy
    exact r1 i v y hv hy
  · rw [Array.getElem?_append_right (by omega)] at hv
    rw [List.getElem?_append_right (by omega)] at hy
    rw [h1] at hv
    exact r2 _ v y hv hy

/-- A call of a function's value. -/
theorem callD_ok (hP : ParOk par) (hR : RunOk par run) {f : D} {vf : Value} {args : List D} {vals : Array Value} {st st' : St} {d : D} (h : callD par run f args st = some (d, st')) (hI : Inv z g w st.sites) (hG : GlobOk par w g)
    (hf : RelD w g vf f) (hl : vals.size = args.length) (hr : ∀ (i : Nat) v y, vals[i]? = some v → args[i]? = some y → RelD w g v y) :
    NextOk par.P (do let dd ← Deferred.ofValue vf vals; invoke dd.target dd.args) w fun v w' => ∃ g', Ext g w g' w' ∧ Inv z g' w' st'.sites ∧ RelD w' g' v d := by
  unfold callD at h
  split at h
  · rename_i f first caps
    cases hf with
    | fn f first caps va vb l1 l2 r1 r2 =>
      have hl' : ((va ++ vals) ++ vb).size = ((first ++ args) ++ caps).length := by simp; omega
      have := callF_ok hP hR h hI hG hl' (rel_append (by simp; omega) (rel_append l1 r1 hr) r2)
      exact this
  · rename_i s ver
    cases hf with
    | yld s ver b δ hb =>
      have := round_ok hP hR h hI hG hb hl hr
      simp only [Deferred.ofValue]
      exact (by simpa using this : NextOk par.P (Instr.yield b (#[] ++ vals)) w _)
  · cases h

/-- Every operation. -/
theorem opStep_ok (hP : ParOk par) (hR : RunOk par run) {fb : Nat} {o : Oper} {env : E} {st st' : St} {d : D} {a : Act} (h : opStep par run fb o env st = some (d, st'))
    (hI : Inv z g w st.sites) (hE : RelE w g a.tmps env) (hG : GlobOk par w g) : OpOk par.P z g w (execOp a.eval o) d st'.sites ∧ ∀ c, o.op ≠ .defer c := by
  unfold opStep at h
  split at h
  · have hk : ∀ r, opEff par fb o env st.sites = some r → EffOk par.P (execOp a.eval o) z g w st.sites r := fun r hr => (opEff_ok hP.T hr hI hE hG).1
    obtain ⟨r, h1, _⟩ := withEff_ok h
    exact ⟨EffOk.opOk h hk, (opEff_ok hP.T h1 hI hE hG).2⟩
  · rename_i f args hk
    unfold opK at hk
    split at hk
    · rename_i c ho
      split at hk <;> cases hk
      rename_i hc
      refine ⟨?_, fun c => by rw [ho]; simp⟩
      unfold withCall at h
      split at h
      · rename_i df ds hdf hds
        obtain ⟨q1, q2⟩ := mapEv_rel hE hG hds
        have := callD_ok hP hR (vals := c.args.map a.eval) h hI hG (ev_rel hE hG hdf) (by simpa using q1) (fun i v y hv hy => by
          simp only [Array.getElem?_map, Option.map_eq_some_iff] at hv
          obtain ⟨x, hx, rfl⟩ := hv
          exact q2 i x y (by simpa using hx) hy)
        unfold OpOk
        simp only [execOp, ho, resolve, hc]
        exact this
      · cases h
    · cases hk
    · cases hk
  · rename_i t len parts hk
    unfold opK at hk
    split at hk
    · split at hk <;> cases hk
    · rename_i ho
      cases hk
      refine ⟨?_, fun c => by rw [ho]; simp⟩
      unfold opList at h
      split at h
      · rename_i d' sites hb
        rw [fD_eq] at h
        cases h
        simp only [execOp, ho]
        exact .of_does (list_ok hP.T rfl hI hE hG hb)
      · cases h
    · cases hk

end
end Go.BI
/- SOUNDNESS OF 'B', thirty-second part: regions in the order of the text; the machine's rules for scopes and loops. -/
set_option linter.unusedVariables false
set_option linter.unusedSimpArgs false
namespace Go.BI
open Go Go.RowKit

section
variable {F : Fence} {n : Nat} {P : Program} {Q : Exit → Act → World → Prop}

theorem stepR_scope {b : Frame} {a : Act} {k : List Item} {cs : List Frame} {w : World} {c : Code} : Go.step P (lone (b.atR a (.code (.scope c) :: k)) cs w) = .next (lone (b.atR a (.code c :: .inScope c :: k)) cs w) :=
  step_lone_go (by simp [stepG, stepG.exec, Frame.atR])
theorem stepR_inScope {b : Frame} {a : Act} {k : List Item} {cs : List Frame} {w : World} {c : Code} : Go.step P (lone (b.atR a (.inScope c :: k)) cs w) = .next (lone (b.atR a k) cs w) :=
  step_lone_go (by simp [stepG, stepG.exec, Frame.atR])

theorem wpIn_scope {c : Code} {a : Act} {w : World} (h : c.wpIn F n P (Exit.noGoto Q) a w) : (Code.scope c).wpIn F n P Q a w := by
  intro b k cs hro hb hr
  have h0 : (lone (b.atR a (.code (.scope c) :: k)) cs w).fenced P F := fenced_calm hb hr rfl
  obtain ⟨e, a₁, w₁, hq, harr⟩ := h b (.inScope c :: k) cs hro hb hr
  cases e with
  | normal => exact ⟨.normal, a₁, w₁, hq, .head h0 stepR_scope (StepsIn.trans harr (.one (fenced_calm hb hr rfl) stepR_inScope))⟩
  | exit id =>
    have hx : exitTo id (.inScope c :: k) = exitTo id k := by simp [exitTo]
    exact ⟨.exit id, a₁, w₁, hq, fun k' hk => .head h0 stepR_scope (harr.1 k' (by rw [hx]; exact hk)),
      fun hr' hk => let ⟨k₁, h1, h2⟩ := harr.2 hr' (by rw [hx]; exact hk); ⟨k₁, h1, .head h0 stepR_scope h2⟩⟩
  | goto l => exact hq.elim
  | ret => exact ⟨_, a₁, w₁, hq, .of_steps (.one h0 stepR_scope) harr⟩
  | panic ch => exact ⟨_, a₁, w₁, hq, .of_steps (.one h0 stepR_scope) harr⟩
  | outgrown => exact ⟨_, a₁, w₁, hq, .of_steps (.one h0 stepR_scope) harr⟩

/-- A loop, by a family of states with numbers that fall. -/
theorem wpIn_loop_K {c : Code} (K : Nat → Act → World → Prop) (round : ∀ j a w, K j a w → c.wpIn F n P (Exit.then (fun a' w' => ∃ j', j' < j ∧ K j' a' w') Q) a w) {j : Nat} {a : Act} {w : World} (h₀ : K j a w) :
    (Code.loop c).wpIn F n P Q a w := by
  intro b k cs hro hb hr
  have key : ∀ j a w, K j a w →
      ∃ e a' w', Q e a' w' ∧ ArrivesIn (Machine.fenced P F) P (lone (b.atR a (.code c :: .inLoop c :: k)) cs w) b k cs e a' w' := by
    intro j
    induction j using Nat.strongRecOn with
    | _ j ih =>
      intro a w hI
      obtain ⟨e, a₁, w₁, hq, harr⟩ := round j a w hI b (.inLoop c :: k) cs hro hb hr
      cases e with
      | normal =>
        obtain ⟨j', hlt, hI₁⟩ := hq
        obtain ⟨e₂, a₂, w₂, hq₂, harr₂⟩ := ih j' hlt a₁ w₁ hI₁
        exact ⟨e₂, a₂, w₂, hq₂, .of_steps (StepsIn.trans harr (.one (fenced_calm hb hr rfl) stepR_inLoop)) harr₂⟩
      | exit id => exact ⟨_, a₁, w₁, hq, .pass (x := .inLoop c) rfl (fun _ _ => .inl (by simp)) harr⟩
      | goto l => exact ⟨_, a₁, w₁, hq, .pass (x := .inLoop c) rfl (fun _ _ => .inl (by simp)) harr⟩
      | ret => exact ⟨_, a₁, w₁, hq, .pass (x := .inLoop c) rfl (fun _ _ => .inl (by simp)) harr⟩
      | panic ch => exact ⟨_, a₁, w₁, hq, .pass (x := .inLoop c) rfl (fun _ _ => .inl (by simp)) harr⟩
      | outgrown => exact ⟨_, a₁, w₁, hq, .pass (x := .inLoop c) rfl (fun _ _ => .inl (by simp)) harr⟩
  obtain ⟨e, a', w', hq, harr⟩ := key _ a w h₀
  exact ⟨e, a', w', hq, .of_steps (.one (fenced_calm hb hr rfl) stepR_loop) harr⟩
end

section
variable {par : Par} {run : Run} {z : Base} {w w' : World} {g : Gh} {lo N : Nat} {ρ : Option Nat}

theorem Fr.ext {st st' : Sites} {a : Act} {env : E} {g' : Gh} (hF : Fr par z lo g w st a env N) (hE : Ext g w g' w') (hI : Inv z g' w' st') : Fr par z lo g' w' st' a env N :=
  ⟨hI, hF.env.ext hE, hF.glob.ext hE, hF.size, hF.marks.ext hE, Nat.le_trans hF.low hE.size⟩

theorem Fr.put {st : Sites} {a : Act} {env : E} {dst : Option Tmp} {v : Value} {d : D} (hF : Fr par z lo g w st a env N) (hd : ∀ t, dst = some t → t < N) (h4 : N ≤ 4000) (hv : RelD w g v d) : Fr par z lo g w st (a.put dst v) (BI.put env dst d) N := by
  cases dst with
  | none => exact hF
  | some t =>
    have ht := hd t rfl
    refine ⟨hF.inv, ?_, hF.glob, ?_, hF.marks, hF.low⟩
    · exact hF.env.put (by rw [hF.size]; exact ht) (Nat.lt_of_lt_of_le ht h4) hv
    · simp only [Act.put, Array.size_setIfInBounds]
      exact hF.size

theorem operOk_dst {o : Oper} (h : operOk N o = true) : ∀ t, o.dst = some t → t < N := by
  intro t ht
  unfold operOk at h
  rw [ht] at h
  simpa using h

/-- Is an operation carried out? -/
theorem wanted_eq {ops : Array Oper} {o : Oper} {env : E} {tmps : Array Value} {b : Bool} (hE : RelE w g tmps env) (h : wantedB ops.toList o env = some b) : Region.wanted o (yielded ops tmps) = b := by
  unfold wantedB at h
  unfold Region.wanted
  split at h
  · rename_i hg
    cases h
    rw [hg]
  · rename_i j want hg
    rw [hg]
    simp only
    split at h
    · rename_i q hq
      split at h
      · rename_i t ht
        have hq' : ops[j]? = some q := by simpa using hq
        obtain ⟨d, hd, hr⟩ := hE t
        split at h
        · rename_i c hc
          cases h
          rw [hc] at hd
          cases hd
          have hv := hr.toV.bool_eq
          have : tmps[t]? = some (.bool c) := by
            rw [Array.getD_eq_getD_getElem?] at hv
            cases hx : tmps[t]? with
            | none => rw [hx] at hv; simp [undef] at hv
            | some x => rw [hx] at hv; simpa using hv
          simp [yielded, hq', ht, this]
        · rename_i hc
          cases h
          rw [hc] at hd
          cases hd
          obtain ⟨vs, hv, _⟩ := hr.toV.tup_eq
          have : yielded ops tmps j = none := by
            rw [Array.getD_eq_getD_getElem?] at hv
            cases hx : tmps[t]? with
            | none => simp [yielded, hq', ht, hx]
            | some x =>
              rw [hx] at hv
              simp at hv
              subst hv
              simp [yielded, hq', ht, hx]
          rw [this]
          rfl
        · cases h
      · cases h
    · cases h

theorem tup_undef : RelD w g undef (.v (.tup [])) := .v _ _ (.tup _ _ rfl fun i v x hv => by simp at hv)

/-- A region, in the order of its text. -/
theorem runOps_ok (hP : ParOk par) (hR : RunOk par run) {ops : Array Oper} {fb : Nat} (hok : ∀ o ∈ ops.toList, operOk N o = true) (h4 : N ≤ 4000) : ∀ (rest : List Oper) (k : Nat) (env : E) (st : St) (env' : E) (st' : St), ops.toList.drop k = rest → k + rest.length = ops.size →
    runOps par run fb ops.toList rest env st = some (env', st') → ∀ (g0 : Gh) (w0 : World) (g : Gh) (w : World) (a : Act), Ext g0 w0 g w → Fr par z lo g w st.sites a env N →
    wpOpsIn (fenceR ρ) 0 par.P ops (Post par z lo g0 w0 N env' st'.sites .normal) (List.range' k rest.length) a w := by
  intro rest
  induction rest with
  | nil =>
    intro k env st env' st' _ _ h g0 w0 g w a hE hF
    simp only [runOps] at h
    cases h
    exact ⟨rfl, g, hE, hF⟩
  | cons o r ih =>
    intro k env st env' st' hdrop hk h g0 w0 g w a hE hF
    have ho : ops[k]? = some o := by
      have : (ops.toList.drop k)[0]? = some o := by rw [hdrop]; rfl
      simpa [List.getElem?_drop] using this
    have hmem : o ∈ ops.toList := List.mem_of_mem_drop (i := k) (by rw [hdrop]; simp)
    have hdst := operOk_dst (hok o hmem)
    have hdrop' : ops.toList.drop (k + 1) = r := by
      rw [← List.drop_drop, hdrop]
      rfl
    simp only [List.length_cons] at hk
    simp only [List.length_cons, List.range'_succ, wpOpsIn, ho]
    simp only [runOps] at h
    split at h
    · rename_i hw
      rw [wanted_eq hF.env hw, if_pos rfl]
      split at h
      · rename_i d st1 hs
        rw [fPut_eq] at h
        obtain ⟨q1, q2⟩ := opStep_ok hP hR hs hF.inv hF.env hF.glob
        refine NextOk.wpIn q2 q1 ?_
        rintro v w1 ⟨g1, e1, i1, r1⟩
        have hF1 := (hF.ext e1 i1).put hdst h4 r1
        exact ih (k + 1) _ _ _ _ hdrop' (by omega) h g0 w0 g1 w1 _ (hE.trans e1) hF1
      · cases h
    · rename_i hw
      rw [wanted_eq hF.env hw, if_neg (by simp)]
      rw [fPut_eq] at h
      exact ⟨fun _ _ => trivial, ih (k + 1) _ _ _ _ hdrop' (by omega) h g0 w0 g w _ hE (hF.put hdst h4 tup_undef)⟩
    · cases h

end
end Go.BI
