/- B IS RIGHT, second part: conversions, append, copy, slices, functions. Conditions: none. -/
import Derived.Test.YtjofohhnkdbfbaaGreatDoorBi1
import Derived.Laws.BytesString
/- SOUNDNESS OF 'B', fourteenth part: 'copy'. -/
set_option linter.unusedVariables false
set_option linter.unusedSimpArgs false
namespace Go.BI
open Go Go.RowKit

section
variable {P : Program} {T : Tys} {z : Base} {w w' : World} {g : Gh} {st : Sites}

/-- What an effect's write leaves. -/
def after (st : Sites) (wr : Option (Nat × Rec)) : Sites := setO st wr

/-- An operation's effect is right. -/
def EffOk (P : Program) (x : Sem Next) (z : Base) (g : Gh) (w : World) (st : Sites) (r : Eff) : Prop := (∀ p, r.wr = some p → p.1 < maxSite) → Does P x z g w r.d (setO st r.wr)

theorem EffOk.of_gives {s : Sem Value} {r : Eff} (hI : Inv z g w st) (h : Gives P s w g r.d ∧ r.wr = none) : EffOk P (do pure (Next.value (← s))) z g w st r := by
  intro _
  obtain ⟨⟨v, h1, h2⟩, h3⟩ := h
  rw [h3]
  exact .same hI (run_v h1) h2

theorem copy_ok (hT : TOk P T) {argTypes : Array TypeId} {ty : TypeId} {vd vs : Value} {d s : D} {r : Eff} (hI : Inv z g w st) (hd : RelD w g vd d) (hs : RelD w g vs s) (h : effCopy T argTypes d s st = some r) :
    EffOk P (do pure (Next.value (← Builtin.copy_ argTypes ty #[vd, vs]))) z g w st r := by
  intro hmax
  unfold effCopy at h
  split at h
  · rename_i t ht
    split at h
    · rename_i e hu
      have hu := hT.und hu
      split at h
      · cases h
      rename_i hc
      have hz : ∀ w, (sizeOf e).run P w = .ok (cel T e) w := fun w => hT.size' hc w
      split at h
      · rename_i m l rd hm hl
        split at h
        · rename_i hlen
          -- the program's own steps
          have run : ∀ {base : Option Addr} {len cap : Nat} {cells : List Value} {w' : World}, vd = .slice base len cap → (∀ w' : World, (Builtin.lenOf vs).run P w' = .ok m w') →
              (Builtin.firstCells (cel T e) (min m len) vs).run P w = .ok cells.toArray w →
              (∀ a, base = some a → (storeCells a cells).run P w = .ok () w') → (base = none → w' = w) →
              (do pure (Next.value (← Builtin.copy_ argTypes ty #[vd, vs])) : Sem Next).run P w = .ok (.value (.int .i64 (min m len : Nat))) w' := by
            intro base len cap cells w' hv hlo hfc hst hn
            subst hv
            have e1 : Nat.min m len = min m len := rfl
            cases base with
            | none =>
              obtain rfl := hn rfl
              simp only [Builtin.copy_, ht, Sem.run_bind, run_underlying hu, Result.andThen_ok, hlo, hz, e1]
              simp [run_underlying hu, hlo, hz, e1, hfc, goInt]
            | some a =>
              have := hst a rfl
              simp only [Builtin.copy_, ht, Sem.run_bind, run_underlying hu, Result.andThen_ok, hlo, hz, e1]
              simp [run_underlying hu, hlo, hz, e1, hfc, this, goInt]
          have none0 : ∀ {base : Option Addr} {len cap : Nat}, vd = .slice base len cap → min m len = 0 →
              (do pure (Next.value (← Builtin.copy_ argTypes ty #[vd, vs])) : Sem Next).run P w = .ok (.value (.int .i64 (0 : Nat))) w := by
            intro base len cap hv h0
            obtain ⟨q1, cells, q2, q3, q4, q5⟩ := src_run (P := P) hI hs hm hl hlen (by omega) (n := 0) (Nat.zero_le _)
            have : cells = [] := List.length_eq_zero_iff.1 (by omega)
            subst this
            have := run (base := base) (len := len) (cap := cap) (cells := []) (w' := w) hv q1 (by rw [h0]; exact q5 w (fun _ => rfl)) (fun a _ => rfl) (fun _ => rfl)
            rwa [h0] at this
          unfold copyTo at h
          split at h
          · rename_i a ver sz' off len
            cases hd with
            | arr a ver sz' off len b δ p cap hb hle hs1 hp hex =>
              split at h
              · rename_i h0
                cases h
                exact ⟨_, g, w, .inl (none0 rfl h0), .v _ _ (.int _ _), .refl _ _, hI⟩
              · rename_i h0
                split at h
                · rename_i hsz
                  split at h
                  · rename_i ty' cs fz hlb
                    split at h <;> cases h
                    rename_i hcond
                    obtain ⟨hle2, hfz⟩ := hcond
                    have hmaxs : a < maxSite := hmax _ rfl
                    obtain ⟨b', δ', hb', hB, hown⟩ := hI.box hlb
                    rw [hb] at hb'
                    cases hb'
                    obtain ⟨cs0, el, fr, h1, h2, h3, h4, h5, h6, h7, h8⟩ := hB
                    obtain rfl := hp (by omega)
                    obtain ⟨q1, cells, q2, q3, q4, q5⟩ := src_run (P := P) hI hs hm hl hlen (by omega) (n := min m len) (Nat.min_le_left _ _)
                    have hnl : min m len * cel T e ≤ len * cel T e := Nat.mul_le_mul_right _ (Nat.min_le_right _ _)
                    have hnm : min m len * cel T e ≤ m * cel T e := Nat.mul_le_mul_right _ (Nat.min_le_left _ _)
                    obtain ⟨w', cs', r1, r2, r3⟩ := storeCells_run P b (δ + off) el fr cells 0 cs0 w h1 (by omega)
                      (fun k hk1 hk2 => by
                        have := (h5 (k - δ) (by omega)).2.2
                        rw [show δ + (k - δ) = k from by omega] at this
                        exact fun h => by omega)
                      (fun u hu => by
                        obtain ⟨i, hi, rfl⟩ := List.mem_iff_getElem.1 hu
                        exact q3 i _ (by simp))
                    simp only [Nat.add_zero] at r2 r3
                    have hrun := run (w' := w') rfl q1 (q5 w (fun _ => rfl)) (fun a ha => by cases ha; exact r1) (fun h => by cases h)
                    have hnew : ((l.take (min m len * cel T e)).map D.v).length = min m len * cel T e := by simp; omega
                    have key := hI.write (s := a) (ver := ver) (b := b) (δ := δ) hmaxs (lookBox_look hlb) hb r2 (fun k hk1 hk2 => by
                        have := h5 (k - δ) (by omega)
                        rw [show δ + (k - δ) = k from by omega] at this
                        exact ⟨this.1, this.2.1⟩) (ver' := ver) (δ' := δ) (bo := .box ty' (overlay cs off ((l.take (min m len * cel T e)).map .v)) fz) (.inl ⟨rfl, rfl⟩) (S' := g.S) (fun a ha => .inl ha) (fun a ha => ha)
                      (fun hE => by
                        have hol : (overlay cs off ((l.take (min m len * cel T e)).map D.v)).length = cs.length := overlay_len (by omega)
                        refine ⟨cs', el, fr, r2.is, h2, by rw [r2.size, hol]; exact h3, fun i u y hu hy => ?_, h5, fun i h1 h2 => h6 i h1 (by omega), by omega, fun i u hi hu => ?_⟩
                        · rw [overlay_get (by omega)] at hy
                          split at hy
                          · rename_i hi
                            have := r3 (i - off) (by omega)
                            rw [show δ + off + (i - off) = δ + i from by omega, hu] at this
                            simp only [List.getElem?_map, Option.map_eq_some_iff] at hy
                            obtain ⟨y', hy', rfl⟩ := hy
                            rw [List.getElem?_take] at hy'
                            split at hy'
                            · exact .v _ _ ((q4 (i - off) u y' this.symm hy').ext hE)
                            · cases hy'
                          · rw [r2.out (δ + i) (by omega)] at hu
                            exact (h4 i u y hu hy).ext hE
                        · by_cases hi2 : off ≤ i ∧ i < off + min m len * cel T e
                          · have := r3 (i - off) (by omega)
                            rw [show δ + off + (i - off) = δ + i from by omega, hu] at this
                            exact q3 (i - off) u this.symm
                          · rw [r2.out (δ + i) (by omega)] at hu
                            exact h8 i u (by omega) hu)
                    exact ⟨_, _, w', .inl hrun, .v _ _ (.int _ _), key.1, key.2⟩
                  · cases h
                · cases h
          · cases h
            rcases relV_slice' hd.toV with ⟨_, e', _⟩ | ⟨_, _, a, cap, val, e', _⟩
            · exact ⟨_, g, w, .inl (none0 e' (by simp)), .v _ _ (.int _ _), .refl _ _, hI⟩
            · exact ⟨_, g, w, .inl (none0 e' (by simp)), .v _ _ (.int _ _), .refl _ _, hI⟩
          · cases h
            rcases relV_slice' (relD_full hd).1 with ⟨_, e', _⟩ | ⟨_, _, a, cap, val, e', _⟩
            · exact ⟨_, g, w, .inl (none0 e' (by simp)), .v _ _ (.int _ _), .refl _ _, hI⟩
            · exact ⟨_, g, w, .inl (none0 e' (by simp)), .v _ _ (.int _ _), .refl _ _, hI⟩
          · cases h
        · cases h
      · cases h
    · cases h
  · cases h

end
end Go.BI
/- SOUNDNESS OF 'B', fifteenth part: 'append'. -/
set_option linter.unusedVariables false
set_option linter.unusedSimpArgs false
namespace Go.BI
open Go Go.RowKit

section
variable {P : Program} {T : Tys} {z : Base} {w w' : World} {g : Gh} {st : Sites}

/-- What is appended, as the machine takes it. -/
structure Apps (P : Program) (inf : TypeInfo) (zv : Value) (k : TypeDesc) (vx : Value) (n : Nat) (news : List Value) (w : World) : Prop where
  zeros : isIntT k = true → ∃ kk i, vx = .int kk i ∧ IntKind.i64.wrap i = (n : Int) ∧ ¬ ((281474976710656 : Int) < n * inf.bytes) ∧ news.toArray = (if n * inf.size = 0 then #[] else Builtin.zeroCells zv.cells n)
  plain : isIntT k = false → (∀ w' : World, (Builtin.lenOf vx).run P w' = .ok n w') ∧ ∀ w' : World, (∀ a, w'.cell? a = w.cell? a) → (Builtin.firstCells inf.size n vx).run P w' = .ok news.toArray w'

theorem isInt_eq {k : TypeDesc} (h : isIntT k = true) : ∃ q, k = .int q := by cases k <;> first | exact ⟨_, rfl⟩ | (simp [isIntT] at h)

set_option maxHeartbeats 4000000 in
theorem append_room {argTypes : Array TypeId} {ty t xt e : TypeId} {k : TypeDesc} {inf : TypeInfo} {zv vx : Value} {n : Nat} {news : List Value} {base : Option Addr} {sLen sCap : Nat} (h0 : argTypes[0]? = some t) (h1 : argTypes[1]? = some xt)
    (ht : P.underlying t = some (.slice e)) (hx : P.underlying xt = some k) (hi : P.info? e = some inf) (hz : inf.zero = some zv) (hs : Apps P inf zv k vx n news w) (hroom : sLen + n ≤ sCap)
    (hst : ∀ a, base = some a → (storeCells (a.add (sLen * inf.size)) news).run P w = .ok () w') (hn : base = none → w' = w) :
    (Builtin.append_ argTypes ty #[.slice base sLen sCap, vx]).run P w = .ok (.slice base (sLen + n) sCap) w' := by
  cases hk : isIntT k with
  | true =>
    obtain ⟨kk, i, rfl, hw, hb, hnews⟩ := hs.zeros hk
    obtain ⟨q, rfl⟩ := isInt_eq hk
    have hl : news = (if n * inf.size = 0 then #[] else Builtin.zeroCells zv.cells n).toList := by rw [← hnews]
    have hn0 : ¬ ((n : Int) < 0) := by omega
    cases base with
    | none =>
      obtain rfl := hn rfl
      by_cases hzz : n * inf.size = 0 <;>
        simp [Builtin.append_, h0, h1, run_underlying ht, run_underlying hx, sizeOf, typeInfo, zeroValue, hi, hz, asInt, asIntOf, hw, hb, hn0, hroom, hzz]
    | some a =>
      have := hst a rfl
      rw [hl] at this
      by_cases hzz : n * inf.size = 0
      · rw [if_pos hzz] at this
        simp [Builtin.append_, h0, h1, run_underlying ht, run_underlying hx, sizeOf, typeInfo, zeroValue, hi, hz, asInt, asIntOf, hw, hb, hn0, hroom, hzz]
        simp only [List.toList_toArray] at this
        simp [this]
      · rw [if_neg hzz] at this
        simp [Builtin.append_, h0, h1, run_underlying ht, run_underlying hx, sizeOf, typeInfo, zeroValue, hi, hz, asInt, asIntOf, hw, hb, hn0, hroom, hzz, this]
  | false =>
    obtain ⟨q1, q2⟩ := hs.plain hk
    have q2' := q2 w (fun _ => rfl)
    cases base with
    | none =>
      obtain rfl := hn rfl
      cases k <;> first | (simp [isIntT] at hk; done) | simp [Builtin.append_, h0, h1, run_underlying ht, run_underlying hx, sizeOf, typeInfo, hi, q1, hroom, q2']
    | some a =>
      have := hst a rfl
      cases k <;> first | (simp [isIntT] at hk; done) | simp [Builtin.append_, h0, h1, run_underlying ht, run_underlying hx, sizeOf, typeInfo, hi, q1, hroom, q2', this]

set_option maxHeartbeats 4000000 in
theorem append_grow {argTypes : Array TypeId} {ty t xt e : TypeId} {k : TypeDesc} {inf : TypeInfo} {zv vx : Value} {n : Nat} {news olds : List Value} {base : Option Addr} {sLen sCap : Nat} (h0 : argTypes[0]? = some t) (h1 : argTypes[1]? = some xt)
    (ht : P.underlying t = some (.slice e)) (hx : P.underlying xt = some k) (hi : P.info? e = some inf) (hz : inf.zero = some zv) (hs : Apps P inf zv k vx n news w) (hroom : sCap < sLen + n)
    (h63 : ((sLen + n : Nat) : Int) ≤ 9223372036854775807) (hfit : Builtin.nextslicecap (sLen + n) sCap * inf.bytes ≤ 281474976710656)
    (hold : (Builtin.firstCells inf.size sLen (.slice base sLen sCap)).run P w.drew = .ok olds.toArray w.drew) :
    (Builtin.append_ argTypes ty #[.slice base sLen sCap, vx]).run P w = .ok (.slice (some ⟨w.heap.size, 0, none⟩) (sLen + n) (grownCap w (sLen + n) sCap e))
      (w.drew.alloc (.cells ((olds ++ news).toArray ++ Builtin.zeroCells zv.cells (grownCap w (sLen + n) sCap e - (sLen + n))) e)) := by
  have hn : ¬ (sLen + n ≤ sCap) := by omega
  have h63' : ¬ (9223372036854775807 < ((sLen : Int) + (n : Int))) := by omega
  have h48' : ¬ (281474976710656 < Builtin.nextslicecap (sLen + n) sCap * inf.bytes) := by omega
  cases hk : isIntT k with
  | true =>
    obtain ⟨kk, i, rfl, hw, hb, hnews⟩ := hs.zeros hk
    obtain ⟨q, rfl⟩ := isInt_eq hk
    have hn0 : ¬ ((n : Int) < 0) := by omega
    by_cases hzz : n * inf.size = 0
    · rw [if_pos hzz] at hnews
      have hl : news = [] := by simpa using congrArg Array.toList hnews
      subst hl
      simp [Builtin.append_, h0, h1, run_underlying ht, run_underlying hx, sizeOf, typeInfo, zeroValue, hi, hz, asInt, asIntOf, hw, hb, hn0, hn, h63', h48', hzz, Question.forced, hold, newRow, grownCap]
    · rw [if_neg hzz] at hnews
      have hl : news = (Builtin.zeroCells zv.cells n).toList := by rw [← hnews]
      subst hl
      simp [Builtin.append_, h0, h1, run_underlying ht, run_underlying hx, sizeOf, typeInfo, zeroValue, hi, hz, asInt, asIntOf, hw, hb, hn0, hn, h63', h48', hzz, Question.forced, hold, newRow, grownCap]
      congr 2; apply Array.ext'; simp [List.append_assoc]
  | false =>
    obtain ⟨q1, q2⟩ := hs.plain hk
    have q2' := q2 w.drew (fun _ => rfl)
    cases k <;> first | (simp [isIntT] at hk; done) | (simp [Builtin.append_, h0, h1, run_underlying ht, run_underlying hx, sizeOf, typeInfo, zeroValue, hi, hz, q1, hn, h63', h48', Question.forced, hold, q2', newRow, grownCap]; done) | (simp [Builtin.append_, h0, h1, run_underlying ht, run_underlying hx, sizeOf, typeInfo, zeroValue, hi, hz, q1, hn, h63', h48', Question.forced, hold, q2', newRow, grownCap]; congr 2; apply Array.ext'; simp [List.append_assoc])

theorem growBy_le (need : Nat) : ∀ (r c : Nat), c < need → 256 ≤ need → Builtin.growBy need r c ≤ 2 * need := by
  intro r
  induction r with
  | zero => intro c hc hn; simp only [Builtin.growBy]; omega
  | succ r ih =>
    intro c hc hn
    simp only [Builtin.growBy]
    rw [if_neg (by omega)]
    by_cases h : c + (c + 768) / 4 < need
    · exact ih _ h hn
    · cases r with
      | zero => simp only [Builtin.growBy]; omega
      | succ r => simp only [Builtin.growBy]; rw [if_pos (by omega)]; omega

theorem nextslicecap_le {need cap : Nat} (h : cap < need) : Builtin.nextslicecap need cap ≤ 2 * need := by
  unfold Builtin.nextslicecap
  split
  · omega
  · split
    · omega
    · exact growBy_le need 4 cap h (by omega)

theorem grownCap_ge (w : World) (need old : Nat) (e : TypeId) : need ≤ grownCap w need old e := by
  unfold grownCap
  simp only [Question.cut]
  omega

end
end Go.BI
/- SOUNDNESS OF 'B', sixteenth part: 'append', held against the interpreter. -/
set_option linter.unusedVariables false
set_option linter.unusedSimpArgs false
namespace Go.BI
open Go Go.RowKit

section
variable {P : Program} {T : Tys} {z : Base} {w w' : World} {g : Gh} {st : Sites}

/-- A new row of cells at a site, of which the first 'fz' stay. -/
theorem Inv.newFz (hI : Inv z g w st) {s ver : Nat} (hs : s < maxSite) (hv : verS st s < ver) (e ty : TypeId) (hty : ty ≠ noTy → e = ty) {cells : Array Value} {ds : List D} {fz : Nat} (hlen : ds.length ≤ cells.size) (hfz : fz ≤ ds.length)
    (hrel : ∀ (i : Nat) v d, cells[i]? = some v → ds[i]? = some d → RelD w g v d) (hone : ∀ (i : Nat) v, i < ds.length → cells[i]? = some v → v.oneCell' = true) :
    ∃ g', Ext g w g' (w.alloc (.cells cells e)) ∧ Inv z g' (w.alloc (.cells cells e)) (setS st s ⟨ver, some (.box ty ds fz)⟩) ∧ g'.blk s ver = some (w.heap.size, 0) := by
  let S' : Addr → Prop := fun a => g.S a ∨ (a.block = w.heap.size ∧ a.spot = none ∧ a.off < fz)
  have hold : ∀ k, k < w.heap.size → (w.alloc (.cells cells e)).heap[k]? = w.heap[k]? := by
    intro k hk
    simp only [World.alloc, Array.getElem?_push]
    rw [if_neg (by omega)]
  have hnew := alloc_new w (.cells cells e)
  have hE : Ext g w (g.putS s ver (w.heap.size, 0) S') (w.alloc (.cells cells e)) :=
    ⟨Gh.put_blk (.inl (verS_fresh hI hv)), fun _ h => .inl h, fun _ h => h, fun a ha => World.cell?_alloc_lt _ _ _ (hI.lt ha), fun b cs el fr hb => by
      have hlt := (Array.getElem?_eq_some_iff.1 hb).1
      exact ⟨cs, fr, (hold b hlt).trans hb, rfl⟩, fun b L hb => ⟨L, (hold b (Array.getElem?_eq_some_iff.1 hb).1).trans hb⟩, by simp, fun b hb => (hold b (Array.getElem?_eq_some_iff.1 hb).1).trans hb⟩
  refine ⟨g.putS s ver (w.heap.size, 0) S', hE, ?_, Gh.put_self _ _ _ _⟩
  have := hI.step (s := some (s, ⟨ver, some (.box ty ds fz)⟩)) (bs := none) (g' := g.putS s ver (w.heap.size, 0) S') (w' := w.alloc (.cells cells e)) {
    ext := hE
    blocks := fun k hk _ => hold k hk
    size := by simp
    own := fun b hb => by cases hb
    others := fun t r ob x _ _ _ _ => by simp
    S := fun a ha => by
      rcases ha with h | ⟨h, _⟩
      · exact .inl h
      · exact .inr (.inl (by omega))
    N := fun a ha => ha
    blk := fun t v x hx => by
      simp only [Gh.putS, Gh.put] at hx
      split at hx
      · rename_i hc
        exact .inr ⟨_, rfl, hc.1, hc.2⟩
      · exact .inl hx
    site := fun p hp => by
      cases hp
      refine ⟨hs, fun r hr => ?_, fun ob hob => ?_⟩
      · simp only [verS, hr] at hv
        show r.ver ≤ ver
        omega
      · cases hob
        refine ⟨w.heap.size, 0, Gh.put_self _ _ _ _, ⟨cells, e, (0, 0), hnew, fun h => ⟨hty h, rfl⟩, by omega, fun i v d hv hd => ?_, fun i hi => ⟨fun hS => ?_, fun hN => ?_, ?_⟩, fun i hi _ => ?_, hfz, fun i v hi hv => ?_⟩, .inr (Nat.le_refl _)⟩
        · rw [Nat.zero_add] at hv
          exact (hrel i v d hv hd).ext hE
        · rcases hS with h | ⟨_, _, h⟩
          · exact absurd (hI.lt (a := ⟨w.heap.size, 0 + i, none⟩) (.inl h)) (by simp)
          · simp at h; omega
        · exact absurd (hI.lt (a := ⟨w.heap.size, 0 + i, none⟩) (.inr hN)) (by simp)
        · exact Nat.zero_le _
        · exact .inr ⟨rfl, rfl, by simpa using hi⟩
        · rw [Nat.zero_add] at hv
          exact hone i v hi hv
    old := fun a ha => by
      rcases ha with h | ⟨h1, h2, h3⟩
      · obtain ⟨h1, v, h2⟩ := hI.old a (.inl h)
        exact ⟨h1, v, (World.cell?_alloc_lt _ _ _ (hI.lt (.inl h))).trans h2⟩
      · refine ⟨h2, cells[a.off]'(by omega), ?_⟩
        have hlt : a.off < cells.size := by omega
        simp only [World.cell?, h1, hnew, h2]
        simp [hlt]
    os := rfl
    tape := rfl
    output := rfl
    has := fun p x hp hx => by
      cases hp
      have : (g.put s ver (w.heap.size, 0)).blk s ver = some x := hx
      rw [Gh.put_self] at this
      cases this
      simp
  }
  exact this

end
end Go.BI
/- SOUNDNESS OF 'B', seventeenth part: 'append', held against the interpreter. -/
set_option linter.unusedVariables false
set_option linter.unusedSimpArgs false
namespace Go.BI
open Go Go.RowKit

section
variable {P : Program} {T : Tys} {z : Base} {w w' : World} {g : Gh} {st : Sites}

theorem zeroCells_get (zero : Array Value) (n i : Nat) (u : Value) (h : (Builtin.zeroCells zero n)[i]? = some u) : i < n * zero.size ∧ zero[i % zero.size]? = some u := by
  unfold Builtin.zeroCells at h
  simp only [Array.getElem?_map, Array.getElem?_range] at h
  split at h
  · rename_i hi
    have hpos : 0 < zero.size := by
      rcases Nat.eq_zero_or_pos zero.size with h0 | h0
      · rw [h0] at hi; simp at hi
      · exact h0
    have hmod := Nat.mod_lt i hpos
    simp only [Option.map_some, Option.some.injEq] at h
    rw [getElem!_pos zero (i % zero.size) hmod] at h
    exact ⟨hi, by simp [hmod, h]⟩
  · cases h

theorem zeroCells_size (zero : Array Value) (n : Nat) : (Builtin.zeroCells zero n).size = n * zero.size := by simp [Builtin.zeroCells]

/-- What is appended, by the interpreter and by the machine. -/
theorem appSrc_run (hT : TOk P T) {e : TypeId} {k : TypeDesc} {zx : V} {vx : Value} {x : D} {n : Nat} {new : List V} {rd : List Nat} (hI : Inv z g w st) (hx : RelD w g vx x) (hz : zeroV T e = some zx) (hc : cel T e ≠ 0) (hzl : zx.cells.length = cel T e) (ho : oneD (.v zx) = true)
    (h : appSrc T e (isIntT k) zx x st = some (n, new, rd)) :
    ∃ inf zv news, P.info? e = some inf ∧ inf.zero = some zv ∧ inf.size = cel T e ∧ inf.bytes = byt T e ∧ zv.cells.size = cel T e ∧ (∀ (i : Nat) u, zv.cells[i]? = some u → u.oneCell' = true) ∧ Apps P inf zv k vx n news w ∧ news.length = n * cel T e ∧ new.length = n * cel T e ∧
      (∀ (i : Nat) u, news[i]? = some u → u.oneCell' = true) ∧ (∀ (i : Nat) u y, news[i]? = some u → new[i]? = some y → RelV w g.S u y) := by
  obtain ⟨inf, zv, q1, q2, q3, q4⟩ := zeroCells (w := w) (g := g) hT hz ho
  have hb : inf.bytes = byt T e := by
    unfold zeroV at hz
    split at hz
    · rename_i i hi
      obtain ⟨inf', h1, _, _, h4, _⟩ := hT.info e i hi
      rw [q1] at h1
      cases h1
      simp [byt, hi, h4]
    · cases hz
  have hzs : zv.cells.size = cel T e := by rw [q4.size]; simp [hzl]
  have hrelz : ∀ (i : Nat) u y, zv.cells[i]? = some u → zx.cells[i]? = some y → RelV w g.S u y := fun i u y hu hy => (q4.rel i u (.v y) hu (by simp [hy])).toV
  cases hk : isIntT k with
  | true =>
    rw [hk] at h
    simp only [appSrc] at h
    split at h
    · rename_i kk i
      split at h <;> cases h
      rename_i hcond
      obtain ⟨h0, h1, h2⟩ := hcond
      obtain rfl := hx.toV.int_eq
      have hin : (i.toNat : Int) = i := Int.toNat_of_nonneg h0
      refine ⟨inf, zv, (Builtin.zeroCells zv.cells i.toNat).toList, q1, q2, q3, hb, hzs, q4.one, ⟨fun _ => ⟨kk, i, rfl, by rw [wrap_small h0 h2, hin], ?_, ?_⟩, fun hf => absurd (hk.symm.trans hf) (by simp)⟩, ?_, ?_, ?_, ?_⟩
      · have : ((i.toNat * byt T e : Nat) : Int) ≤ (big40 : Nat) := by exact_mod_cast h1
        rw [hb]
        rw [Int.natCast_mul] at this
        simp only [big40] at this
        omega
      · split
        · rename_i hzz
          apply Array.ext'
          have : (Builtin.zeroCells zv.cells i.toNat).size = 0 := by rw [zeroCells_size, hzs, ← q3]; exact hzz
          simpa using this
        · simp
      · rw [Array.length_toList, zeroCells_size, hzs]
      · simp [hzl]
      · intro j u hu
        obtain ⟨_, hu'⟩ := zeroCells_get _ _ j u (by simpa using hu)
        exact q4.one _ u hu'
      · intro j u y hu hy
        obtain ⟨_, hu'⟩ := zeroCells_get _ _ j u (by simpa using hu)
        rw [flatten_get, hzl] at hy
        rw [hzs] at hu'
        split at hy
        · exact hrelz _ u y hu' hy
        · cases hy
    · cases h
  | false =>
    rw [hk] at h
    simp only [appSrc] at h
    split at h
    · rename_i m l rd' hm hl
      split at h <;> cases h
      rename_i hlen
      obtain ⟨r1, cells, r2, r3, r4, r5⟩ := src_run (P := P) hI hx hm hl hlen (by omega) (n := n) (Nat.le_refl _)
      exact ⟨inf, zv, cells, q1, q2, q3, hb, hzs, q4.one, ⟨fun hf => absurd (hk.symm.trans hf) (by simp), fun _ => ⟨r1, fun w' hw' => by rw [q3]; exact r5 w' hw'⟩⟩, r2, hlen, r3, r4⟩
    · cases h

/-- The arm that grows. -/
theorem appGrow_ok (hT : TOk P T) {argTypes : Array TypeId} {ty t xt e : TypeId} {k : TypeDesc} {inf : TypeInfo} {zv vx : Value} {n len cap : Nat} {news olds : List Value} {ds : List D} {fz : Nat} {base : Option Addr} {site ver : Nat} {bt : TypeId}
    (hI : Inv z g w st) (hs : site < maxSite) (hver : verS st site < ver) (hbt : bt ≠ noTy → e = bt)
    (h0 : argTypes[0]? = some t) (h1 : argTypes[1]? = some xt) (ht : P.underlying t = some (.slice e)) (hx : P.underlying xt = some k) (hi : P.info? e = some inf) (hz : inf.zero = some zv) (hsz : inf.size = cel T e) (hb : inf.bytes = byt T e)
    (hzs : zv.cells.size = cel T e) (hap : Apps P inf zv k vx n news w) (hroom : cap < len + n) (h40 : len + n ≤ big40) (hb40 : (len + n) * byt T e ≤ big40) (hcel : 1 ≤ cel T e)
    (hol : olds.length = len * cel T e) (hnl : news.length = n * cel T e) (hold : (Builtin.firstCells inf.size len (.slice base len cap)).run P w.drew = .ok olds.toArray w.drew)
    (hdl : ds.length = (len + n) * cel T e) (hfz : fz ≤ ds.length) (hrel : ∀ (i : Nat) u d, (olds ++ news)[i]? = some u → ds[i]? = some d → RelD w g u d) (hone : ∀ (i : Nat) u, (olds ++ news)[i]? = some u → u.oneCell' = true) :
    Does P (do pure (Next.value (← Builtin.append_ argTypes ty #[.slice base len cap, vx]))) z g w (.arr site ver (cel T e) 0 (len + n)) (setS st site ⟨ver, some (.box bt ds fz)⟩) := by
  have hfit : Builtin.nextslicecap (len + n) cap * inf.bytes ≤ 281474976710656 := by
    have h2 := Nat.mul_le_mul_right inf.bytes (nextslicecap_le hroom)
    rw [hb] at h2 ⊢
    rw [Nat.mul_assoc] at h2
    simp only [big40] at hb40
    omega
  have h63 : ((len + n : Nat) : Int) ≤ 9223372036854775807 := by simp only [big40] at h40; omega
  have hrun := append_grow (P := P) (ty := ty) (w := w) h0 h1 ht hx hi hz hap hroom h63 hfit hold
  have hsl : (olds ++ news).length = (len + n) * cel T e := by simp [hol, hnl, Nat.add_mul]
  have hge := grownCap_ge w (len + n) cap e
  generalize hgc : grownCap w (len + n) cap e = gc at hrun hge
  have hget : ∀ i, i < ds.length → ((olds ++ news).toArray ++ Builtin.zeroCells zv.cells (gc - (len + n)))[i]? = (olds ++ news)[i]? := by
    intro i hi
    rw [Array.getElem?_append_left (by simp only [List.size_toArray]; omega), List.getElem?_toArray]
  obtain ⟨g', hE, hI', hblk⟩ := hI.drew.newFz (s := site) (ver := ver) hs hver e bt hbt (cells := (olds ++ news).toArray ++ Builtin.zeroCells zv.cells (gc - (len + n))) (ds := ds) (fz := fz) (by rw [Array.size_append, List.size_toArray]; omega) hfz
    (fun i v d hv hd => by
      have hlt := (List.getElem?_eq_some_iff.1 hd).1
      rw [hget i hlt] at hv
      exact (hrel i v d hv hd).ext (Ext.drew g w))
    (fun i v hi hv => by
      rw [hget i hi] at hv
      exact hone i v hv)
  refine ⟨_, g', _, .inl (run_v hrun), ?_, (Ext.drew g w).trans hE, hI'⟩
  refine .arr _ _ _ _ _ w.heap.size 0 _ _ hblk (by omega) hcel (fun _ => rfl) ⟨_, _, _, alloc_new w.drew _, ?_⟩
  rw [Array.size_append, List.size_toArray, hsl, zeroCells_size, hzs, ← Nat.add_mul]
  rw [show len + n + (gc - (len + n)) = gc from by omega]
  omega

end
end Go.BI
/- SOUNDNESS OF 'B', eighteenth part: 'append', whole. -/
set_option linter.unusedVariables false
set_option linter.unusedSimpArgs false
namespace Go.BI
open Go Go.RowKit

section
variable {P : Program} {T : Tys} {z : Base} {w w' : World} {g : Gh} {st : Sites}

theorem append_ok (hT : TOk P T) {argTypes : Array TypeId} {ty : TypeId} {vs vx : Value} {s x : D} {site : Nat} {r : Eff} (hI : Inv z g w st) (hs : RelD w g vs s) (hx : RelD w g vx x) (h : effAppend T argTypes site s x st = some r) :
    EffOk P (do pure (Next.value (← Builtin.append_ argTypes ty #[vs, vx]))) z g w st r := by
  intro hmax
  unfold effAppend at h
  split at h
  · rename_i t xt h0 h1
    split at h
    · rename_i e k ht hk
      have ht := hT.und ht
      have hk := hT.und hk
      split at h
      · rename_i zx hz
        split at h
        · cases h
        rename_i hc
        simp only [not_or, ne_eq, Classical.not_not, Bool.not_eq_false] at hc
        obtain ⟨hc0, hzl, ho⟩ := hc
        split at h
        · rename_i n new rd hsrc
          obtain ⟨inf, zv, news, q1, q2, q3, q4, q5, q6, q7, q8, q9, q10, q11⟩ := appSrc_run (P := P) hT hI hx hz hc0 hzl ho hsrc
          -- nothing to append
          have same : ∀ {base : Option Addr} {len cap : Nat}, vs = .slice base len cap → len ≤ cap → n = 0 → Does P (do pure (Next.value (← Builtin.append_ argTypes ty #[vs, vx]))) z g w s st := by
            intro base len cap hv hle hn0
            subst hv hn0
            have hnews : news = [] := List.length_eq_zero_iff.1 (by omega)
            subst hnews
            have := append_room (P := P) (ty := ty) (w := w) (w' := w) (base := base) (sLen := len) (sCap := cap) h0 h1 ht hk q1 q2 q7 (by omega) (fun a _ => rfl) (fun _ => rfl)
            exact .same hI (run_v this) hs
          -- a new row
          have fresh : ∀ {base : Option Addr} {len : Nat} {old : List V} {olds : List Value}, vs = .slice base len len → 1 ≤ n → olds.length = len * cel T e →
              (Builtin.firstCells inf.size len (.slice base len len)).run P w.drew = .ok olds.toArray w.drew → (∀ (i : Nat) u, olds[i]? = some u → u.oneCell' = true) →
              (∀ (i : Nat) u y, olds[i]? = some u → old[i]? = some y → RelV w g.S u y) → appNew T e site len n old new rd st = some r →
              Does P (do pure (Next.value (← Builtin.append_ argTypes ty #[vs, vx]))) z g w r.d (setO st r.wr) := by
            intro base len old olds hv hn1 hol hfc hone hrel h
            unfold appNew at h
            split at h <;> cases h
            rename_i hcond
            obtain ⟨h40, hb40, hold⟩ := hcond
            subst hv
            refine appGrow_ok (T := T) (olds := olds) (zv := zv) (k := k) (inf := inf) (news := news) hT hI (hmax _ rfl) (Nat.lt_succ_self _) (fun _ => rfl) h0 h1 ht hk q1 q2 q3 q4 q5 q7 (by omega) h40 hb40 (by omega) hol q8 hfc (by simp [hold, q9, Nat.add_mul]) (Nat.zero_le _) (fun i u d hu hd => ?_) (fun i u hu => ?_)
            · simp only [List.getElem?_map, Option.map_eq_some_iff] at hd
              obtain ⟨y, hy, rfl⟩ := hd
              rw [List.getElem?_append] at hu hy
              rw [hol] at hu
              rw [hold] at hy
              split at hu
              · rw [if_pos (by assumption)] at hy
                exact .v _ _ (hrel i u y hu hy)
              · rw [if_neg (by assumption)] at hy
                exact .v _ _ (q11 _ u y hu hy)
            · rw [List.getElem?_append] at hu
              split at hu
              · exact hone i u hu
              · exact q10 _ u hu
          unfold appTo at h
          split at h
          · rename_i nsz
            obtain ⟨_, e', _⟩ | ⟨h', _⟩ := relV_slice' hs.toV
            · split at h
              · rename_i hn0
                cases h
                exact same e' (Nat.le_refl _) hn0
              · exact fresh (olds := []) e' (by omega) (by simp) (by simp [Builtin.firstCells]) (by simp) (by simp) h
            · cases h'
          · split at h <;> cases h
            rename_i hn0
            rcases relV_slice' hs.toV with ⟨_, e', _⟩ | ⟨_, _, a, cap, val, e', hle, _⟩
            · exact same e' (Nat.le_refl _) hn0
            · exact same e' hle hn0
          · rename_i nl ssz xs
            obtain ⟨hxv, av, hav⟩ := relD_full hs
            split at h
            · rename_i hn0
              cases h
              exact same hav (Nat.le_refl _) hn0
            · have hlen : (xs.flatMap V.cells).length = xs.length * cel T e := by
                unfold appNew at h
                split at h
                · rename_i hcond; exact hcond.2.2
                · cases h
              obtain ⟨r1, olds, r2, r3, r4, r5⟩ := src_run (P := P) (x := .full nl ssz xs) (m := xs.length) (l := xs.flatMap V.cells) (rd := []) (sz := cel T e) hI hs rfl rfl hlen (by omega) (n := xs.length) (Nat.le_refl _)
              refine fresh (olds := olds) hav (by omega) r2 ?_ r3 r4 h
              rw [q3, ← hav]
              exact r5 w.drew (fun _ => rfl)
          · rename_i a ver sz' off len
            cases hs with
            | arr a ver sz' off len b δ p cap hb hle hs1 hp hex =>
              split at h
              · rename_i hn0
                cases h
                exact same rfl hle hn0
              · rename_i hn0
                split at h
                · rename_i hsz
                  split at h
                  · rename_i bty cs fz hlb
                    split at h <;> cases h
                    rename_i hcond
                    obtain ⟨hle2, hfz, h40, hb40⟩ := hcond
                    subst hsz
                    have hmaxs : a < maxSite := hmax _ rfl
                    obtain ⟨b', δ', hb', hB, hown⟩ := hI.box hlb
                    rw [hb] at hb'
                    cases hb'
                    have hcs := hI.box hlb
                    obtain ⟨cs0, el, fr, e1, e2, e3, e4, e5, e6, e7, e8⟩ := hB
                    have hver : verS st a = ver := by
                      obtain ⟨r, hr, hrv, _⟩ := look_of (lookBox_look hlb)
                      simp [verS, hr, hrv]
                    have holdlen : ((cs.take (off + len * cel T e)).drop off).length = len * cel T e := by simp; omega
                    have holdget : ∀ (i : Nat) d, ((cs.take (off + len * cel T e)).drop off)[i]? = some d → i < len * cel T e ∧ cs[off + i]? = some d := by
                      intro i d hd
                      rw [List.getElem?_drop, List.getElem?_take] at hd
                      split at hd
                      · exact ⟨by omega, hd⟩
                      · cases hd
                    have hdl : (((cs.take (off + len * cel T e)).drop off) ++ new.map D.v).length = (len + n) * cel T e := by
                      rw [List.length_append, holdlen, List.length_map, q9, Nat.add_mul]
                    by_cases hroom : len + n ≤ cap
                    · obtain rfl := hp (by omega)
                      obtain ⟨cs1, el1, fr1, f1, f2⟩ := hex
                      rw [e1] at f1
                      cases f1
                      have hmul : (len + n) * cel T e ≤ cap * cel T e := Nat.mul_le_mul_right _ hroom
                      rw [Nat.add_mul] at hmul
                      obtain ⟨w', cs', r1, r2, r3⟩ := storeCells_run P b (δ + off + len * cel T e) el fr news 0 cs0 w e1 (by omega)
                        (fun k' hk1 hk2 => by
                          have := (e5 (k' - δ) (by omega)).2.2
                          rw [show δ + (k' - δ) = k' from by omega] at this
                          exact fun h => by omega)
                        (fun u hu => by
                          obtain ⟨i, hi, rfl⟩ := List.mem_iff_getElem.1 hu
                          exact q10 i _ (by simp))
                      simp only [Nat.add_zero] at r2 r3
                      have hrun := append_room (P := P) (ty := ty) (w := w) (w' := w') (base := some ⟨b, δ + off, none⟩) (sLen := len) (sCap := cap) h0 h1 ht hk q1 q2 q7 hroom (fun a ha => by
                        cases ha
                        rw [add_at, q3]
                        exact r1) (fun h => by cases h)
                      have key := hI.write (s := a) (ver := ver) (b := b) (δ := δ) hmaxs (lookBox_look hlb) hb r2 (fun k' hk1 hk2 => by
                          have := e5 (k' - δ) (by omega)
                          rw [show δ + (k' - δ) = k' from by omega] at this
                          exact ⟨this.1, this.2.1⟩) (ver' := ver + 1) (δ' := δ + off) (bo := .box (if off = 0 ∧ bty = e then e else noTy) (((cs.take (off + len * cel T e)).drop off) ++ new.map .v) (fz - off)) (.inr rfl) (S' := g.S) (fun a ha => .inl ha) (fun a ha => ha)
                        (fun hE => by
                          refine ⟨cs', el, fr, r2.is, fun hne => ?_, by rw [r2.size, hdl, Nat.add_mul]; omega, fun i u y hu hy => ?_, fun i hi => ?_, fun i h1 h2 => ?_, by rw [hdl, Nat.add_mul]; omega, fun i u hi hu => ?_⟩
                          · split at hne
                            · rename_i hc
                              rw [if_pos hc]
                              have := e2 (by rw [hc.2]; exact hne)
                              exact ⟨this.1.trans hc.2, by omega⟩
                            · exact absurd rfl hne
                          · rw [List.getElem?_append, holdlen] at hy
                            split at hy
                            · obtain ⟨_, hy'⟩ := holdget i y hy
                              rw [r2.out _ (by omega), show δ + off + i = δ + (off + i) from by omega] at hu
                              exact (e4 _ u y hu hy').ext hE
                            · simp only [List.getElem?_map, Option.map_eq_some_iff] at hy
                              obtain ⟨y', hy', rfl⟩ := hy
                              have hlt := (List.getElem?_eq_some_iff.1 hy').1
                              have := r3 (i - len * cel T e) (by omega)
                              rw [show δ + off + len * cel T e + (i - len * cel T e) = δ + off + i from by omega, hu] at this
                              exact .v _ _ ((q11 _ u y' this.symm hy').ext hE)
                          · have := e5 (off + i) (by omega)
                            rw [show δ + (off + i) = δ + off + i from by omega] at this
                            exact this
                          · have := e6 (off + i) (by omega) (by omega)
                            rw [show δ + (off + i) = δ + off + i from by omega] at this
                            exact this
                          · rw [hdl, Nat.add_mul] at hi
                            by_cases hlt : i < len * cel T e
                            · rw [r2.out _ (by omega), show δ + off + i = δ + (off + i) from by omega] at hu
                              exact e8 (off + i) u (by omega) hu
                            · have := r3 (i - len * cel T e) (by omega)
                              rw [show δ + off + len * cel T e + (i - len * cel T e) = δ + off + i from by omega, hu] at this
                              exact q10 _ u this.symm)
                      refine ⟨_, _, w', .inl (run_v hrun), ?_, key.1, key.2⟩
                      exact .arr _ _ _ _ _ b (δ + off) _ cap (Gh.put_self _ _ _ _) hroom hs1 (fun _ => rfl) ⟨cs', el, fr, r2.is, by rw [r2.size]; exact f2⟩
                    · have hp0 : len * cel T e ≠ 0 → p = δ + off := fun h => hp (by
                        rintro rfl
                        have : len = 0 := by omega
                        subst this
                        simp at h)
                      have hval : ∀ j, j < len * cel T e → ∃ u, cs0[δ + off + j]? = some u := fun j hj => ⟨cs0[δ + off + j]'(by omega), by simp⟩
                      let olds : List Value := (List.range (len * cel T e)).map fun j => cs0.getD (δ + off + j) undef
                      have hol : olds.length = len * cel T e := by simp [olds]
                      have hog : ∀ (i : Nat) u, olds[i]? = some u → i < len * cel T e ∧ cs0[δ + (off + i)]? = some u := by
                        intro i u hu
                        simp only [olds, List.getElem?_map, Option.map_eq_some_iff] at hu
                        obtain ⟨j, hj, rfl⟩ := hu
                        obtain ⟨g1, g2⟩ := List.getElem?_eq_some_iff.1 hj
                        simp at g1 g2
                        subst g2
                        obtain ⟨u, hu⟩ := hval i g1
                        refine ⟨g1, ?_⟩
                        rw [← Nat.add_assoc, hu]
                        simp [Array.getD_eq_getD_getElem?, hu]
                      have hfc : (Builtin.firstCells inf.size len (.slice (some ⟨b, p, none⟩) len cap)).run P w.drew = .ok olds.toArray w.drew := by
                        rw [q3]
                        refine run_loadCells (P := P) w.drew ⟨b, p, none⟩ (len * cel T e) _ (fun j hj => ?_)
                        obtain rfl := hp0 (by omega)
                        obtain ⟨u, hu⟩ := hval j hj
                        rw [add_at]
                        rw [World.cell?_drew]
                        simp [World.cell?, e1, Array.getD_eq_getD_getElem?, hu]
                      refine appGrow_ok (T := T) (olds := olds) (zv := zv) (k := k) (inf := inf) (news := news) hT hI hmaxs (by rw [hver]; exact Nat.lt_succ_self _) (fun hne => ?_) h0 h1 ht hk q1 q2 q3 q4 q5 q7 (by omega) h40 hb40 (by omega) hol q8 hfc hdl (by rw [hdl, Nat.add_mul]; omega) (fun i u d hu hd => ?_) (fun i u hu => ?_)
                      · split at hne
                        · rename_i hc
                          rw [if_pos hc]
                        · exact absurd rfl hne
                      · rw [List.getElem?_append] at hu hd
                        rw [hol] at hu
                        rw [holdlen] at hd
                        split at hu
                        · rename_i hlt
                          rw [if_pos hlt] at hd
                          exact e4 _ u d (hog i u hu).2 (holdget i d hd).2
                        · rename_i hlt
                          rw [if_neg hlt] at hd
                          simp only [List.getElem?_map, Option.map_eq_some_iff] at hd
                          obtain ⟨y', hy', rfl⟩ := hd
                          exact .v _ _ (q11 _ u y' hu hy')
                      · rw [List.getElem?_append] at hu
                        split at hu
                        · obtain ⟨hlt, hu'⟩ := hog i u hu
                          exact e8 (off + i) u (by omega) hu'
                        · exact q10 _ u hu
                  · cases h
                · cases h
          · cases h
        · cases h
      · cases h
    · cases h
  · cases h

end
end Go.BI
/- SOUNDNESS OF 'B', nineteenth part: the small ones. -/
set_option linter.unusedVariables false
set_option linter.unusedSimpArgs false
namespace Go.BI
open Go Go.RowKit

section
variable {P : Program} {T : Tys} {z : Base} {w w' : World} {g : Gh} {st : Sites}

theorem nil_ok {par : Par} {a : Act} {env : E} {x : Operand} {r : Eff} {o : Oper} (ho : o.op = .nilCheck x) (hI : Inv z g w st) (hE : RelE w g a.tmps env) (hG : GlobOk par w g) (h : opNil par env x = some r) :
    EffOk P (execOp a.eval o) z g w st r := by
  intro hmax
  clear hmax
  unfold opNil at h
  split at h <;> cases h
  · rename_i hx
    have hx' := ev_rel hE hG hx
    obtain ⟨b, δ, hb, e⟩ := hx'.ptr_eq
    refine .same hI ?_ hx'
    simp only [execOp, ho, e]
    rfl
  · rename_i hx
    have hx' := ev_rel hE hG hx
    obtain ⟨b, e, _⟩ := pin_drop hx'
    refine .same hI ?_ hx'
    simp only [execOp, ho, e]
    rfl
  · rename_i hx
    have hx' := ev_rel hE hG hx
    refine .same hI ?_ hx'
    generalize hv : a.eval x = v at hx' ⊢
    cases hx'
    simp only [execOp, ho, hv]
    rfl
  · rename_i hx
    have hx' := ev_rel hE hG hx
    refine .same hI ?_ hx'
    generalize hv : a.eval x = v at hx' ⊢
    cases hx'
    simp only [execOp, ho, hv]
    rfl

theorem func_gives {par : Par} {a : Act} {env : E} {fn : Fn} {first caps : Array Operand} {r : Eff} (hI : Inv z g w st) (hE : RelE w g a.tmps env) (hG : GlobOk par w g) (h : opFunc par env fn first.toList caps.toList = some r) :
    EffOk P (do pure (Next.value (← Instr.makeFunc fn (first.map a.eval) (caps.map a.eval)))) z g w st r := by
  intro hmax
  clear hmax
  unfold opFunc at h
  split at h
  · split at h <;> cases h
    rename_i f da db ha hb
    obtain ⟨h1, h2⟩ := mapEv_rel hE hG ha
    obtain ⟨h3, h4⟩ := mapEv_rel hE hG hb
    refine .same hI (v := .func (.func _) (first.map a.eval) (caps.map a.eval)) rfl (.fn _ da db (first.map a.eval) (caps.map a.eval) (by simpa using h1) (by simpa using h3) (fun i v d hv hd => ?_) (fun i v d hv hd => ?_))
    · simp only [Array.getElem?_map, Option.map_eq_some_iff] at hv
      obtain ⟨x, hx, rfl⟩ := hv
      exact h2 i x d (by simpa using hx) hd
    · simp only [Array.getElem?_map, Option.map_eq_some_iff] at hv
      obtain ⟨x, hx, rfl⟩ := hv
      exact h4 i x d (by simpa using hx) hd
  · cases h

theorem len_gives (hT : TOk P T) {argTypes : Array TypeId} {ty t : TypeId} {vx : Value} {x : D} {n : Nat} (ht : argTypes[0]? = some t) (hx : RelD w g vx x) (h : lenB T t x = some n) :
    Gives P (Builtin.len_ argTypes ty #[vx]) w g (.v (.int .i64 n)) := by
  refine ⟨.int .i64 n, ?_, .v _ _ (.int _ _)⟩
  unfold lenB at h
  split at h
  · cases h
    rename_i hu
    simp [Builtin.len_, ht, run_underlying (hT.und hu), goInt, go_sem]
  · rename_i hu
    split at h <;> cases h
    rename_i hu2
    simp [Builtin.len_, ht, run_underlying (hT.und hu), run_underlying (hT.und hu2), goInt, go_sem]
  · rename_i hu
    split at h <;> cases h
    obtain ⟨bs, rfl, rfl⟩ := hx.toV.str_eq
    have : bs.data.toList.length = bs.size := by rw [Array.length_toList]; rfl
    rw [this]
    simp [Builtin.len_, ht, run_underlying (hT.und hu), goInt, go_sem]
  · rename_i hu
    have key : ∀ {a : Option Addr} {len cap : Nat}, vx = .slice a len cap → (Builtin.len_ argTypes ty #[vx]).run P w = .ok (.int .i64 len) w := by
      intro a len cap e
      subst e
      simp [Builtin.len_, ht, run_underlying (hT.und hu), goInt, go_sem]
    split at h <;> cases h
    · rcases relV_slice' hx.toV with ⟨_, e, rfl⟩ | ⟨_, _, a, cap, val, e, _⟩
      · exact key e
      · exact key e
    · obtain ⟨_, a, e⟩ := relD_full hx
      exact key e
    · cases hx
      exact key rfl
  · cases h

end
end Go.BI
/- SOUNDNESS OF 'B', twentieth part: iterators' steps. -/
set_option linter.unusedVariables false
set_option linter.unusedSimpArgs false
namespace Go.BI
open Go Go.RowKit

section
variable {P : Program} {T : Tys} {z : Base} {w w' : World} {g : Gh} {st : Sites}

/-- A block of a site turned into another object that holds no cells. -/
theorem Inv.turn (hI : Inv z g w st) {s ver b δ : Nat} {ob bo : BObj} {o o' : Obj} (hs : s < maxSite) (hl : BI.look st s ver = some ob) (hb : g.blk s ver = some (b, δ)) (ho : w.heap[b]? = some o)
    (hno : ∀ cs el fr, o ≠ .cells cs el fr) (hnd : o ≠ .deferred (some [])) (hlo : ∀ L, o = .loop L → ∃ L', o' = .loop L')
    (hB : Ext g w g { w with heap := w.heap.setIfInBounds b o' } → RelB { w with heap := w.heap.setIfInBounds b o' } g b δ bo) :
    Ext g w g { w with heap := w.heap.setIfInBounds b o' } ∧ Inv z g { w with heap := w.heap.setIfInBounds b o' } (setS st s ⟨ver, some bo⟩) := by
  obtain ⟨r, hr, rfl, hro⟩ := look_of hl
  obtain ⟨b0, δ0, hb0, hB0, hown⟩ := hI.site s r ob hr hro
  rw [hb] at hb0
  cases hb0
  have hlt : b < w.heap.size := (Array.getElem?_eq_some_iff.1 ho).1
  have hoth : ∀ k, k ≠ b → (w.heap.setIfInBounds b o')[k]? = w.heap[k]? := fun k hk => Array.getElem?_setIfInBounds_ne (Ne.symm hk)
  have hcell : ∀ a, g.S a ∨ g.N a → ({ w with heap := w.heap.setIfInBounds b o' } : World).cell? a = w.cell? a := by
    intro a ha
    have hne : a.block ≠ b := by
      intro e
      obtain ⟨_, v, hv⟩ := hI.old a ha
      simp only [World.cell?, e, ho] at hv
      split at hv
      · rename_i cs el fr heq
        cases heq
        exact hno _ _ _ rfl
      · cases hv
    simp only [World.cell?, hoth _ hne]
  have hE : Ext g w g { w with heap := w.heap.setIfInBounds b o' } := ⟨fun _ _ _ h => h, fun _ h => h, fun _ h => h, hcell, fun k cs el fr hk => by
    by_cases hkb : k = b
    · subst hkb
      rw [ho] at hk
      cases hk
      exact absurd rfl (hno _ _ _)
    · exact ⟨cs, fr, (hoth k hkb).trans hk, rfl⟩, fun k L hk => by
    by_cases hkb : k = b
    · subst hkb
      rw [ho] at hk
      cases hk
      obtain ⟨L', rfl⟩ := hlo L rfl
      exact ⟨L', by simp [hlt]⟩
    · exact ⟨L, (hoth k hkb).trans hk⟩, by simp, fun k hk => by
    by_cases hkb : k = b
    · subst hkb
      rw [ho] at hk
      cases hk
      exact absurd rfl hnd
    · exact (hoth k hkb).trans hk⟩
  refine ⟨hE, ?_⟩
  have := hI.step (s := some (s, ⟨r.ver, some bo⟩)) (bs := some b) (g' := g) (w' := { w with heap := w.heap.setIfInBounds b o' }) {
    ext := hE
    blocks := fun k hk hne => hoth k (fun e => hne (by rw [e]))
    size := by simp
    own := fun k hk => by
      cases hk
      exact ⟨hown, hlt⟩
    others := fun t r' o' x hne hr' ho' hx => by
      have hts : t ≠ s := hne _ rfl
      have := hI.apart t s r' r o' ob x (b, δ) hr' hr ho' hro hx hb hts
      intro e
      cases e
      exact this rfl
    S := fun a ha => .inl ha
    N := fun a ha => ha
    blk := fun t v x hx => .inl hx
    site := fun p hp => by
      cases hp
      refine ⟨hs, fun r' hr' => ?_, fun o' ho' => ?_⟩
      · rw [hr] at hr'
        cases hr'
        exact Nat.le_refl _
      · cases ho'
        exact ⟨b, δ, hb, hB hE, .inl rfl⟩
    old := fun a ha => by
      obtain ⟨h1, v, h2⟩ := hI.old a (.inl ha)
      exact ⟨h1, v, (hcell a (.inl ha)).trans h2⟩
    os := rfl
    tape := rfl
    output := rfl
    has := fun p x hp hx => by
      cases hp
      rw [hb] at hx
      cases hx
      simpa using hlt
  }
  exact this

theorem next_ok {par : Par} {a : Act} {env : E} {it : Operand} {ty : TypeId} {r : Eff} (hI : Inv z g w st) (hE : RelE w g a.tmps env) (hG : GlobOk par w g) (h : opNext par env st it = some r) :
    EffOk P (do pure (Next.value (← Instr.next (a.eval it) true ty))) z g w st r := by
  intro hmax
  unfold opNext at h
  split at h
  · rename_i s ver hx
    have hx' := ev_rel hE hG hx
    split at h
    · rename_i b pos hl
      obtain ⟨bk, δ, hb, hB, _⟩ := hI.look hl
      obtain ⟨ba, hh, rfl⟩ := hB
      generalize hv : a.eval it = v at hx' ⊢
      cases hx' with
      | itr s ver b' δ' hb' =>
        rw [hb] at hb'
        cases hb'
        have hsz : ba.data.toList.length = ba.size := by rw [Array.length_toList]; rfl
        have hget : (getObj bk).run P w = .ok (.stringIter ba pos) w := by simp [getObj, Sem.run, hh]
        have hba : (⟨ba.data.toList.toArray⟩ : ByteArray) = ba := by simp
        split at h
        · rename_i hlt
          cases h
          rw [hsz] at hlt
          rw [hba] at hmax ⊢
          have hset : ∀ o, (setObj bk o).run P w = .ok () { w with heap := w.heap.setIfInBounds bk o } := by intro o; simp [setObj, Sem.run, hh]
          have key := hI.turn (s := s) (ver := ver) (b := bk) (δ := δ) (o' := .stringIter ba (pos + (Utf8.decode ba pos).2)) (bo := .iter ba.data.toList (pos + (Utf8.decode ba pos).2)) (hmax _ rfl) hl hb hh (by simp) (by simp) (by simp) (fun hE => ⟨ba, by
            have hlt : bk < w.heap.size := (Array.getElem?_eq_some_iff.1 hh).1
            simp [hlt], rfl⟩)
          refine ⟨.tuple #[.bool true, goInt pos, .int .i32 (Utf8.decode ba pos).1], g, _, .inl ?_, .v _ _ (.tup _ _ rfl fun i v x hv hx => ?_), key.1, key.2⟩
          · simp only [Instr.next, Sem.run_bind, hget, Result.andThen_ok, if_pos hlt, hset, Sem.run_pure]
          · match i with
            | 0 => simp at hv hx; subst hv hx; exact .bool _
            | 1 => simp at hv hx; subst hv hx; exact .int _ _
            | 2 => simp at hv hx; subst hv hx; exact .int _ _
            | n + 3 => simp at hv
        · rename_i hlt
          cases h
          rw [hsz] at hlt
          refine .same hI (v := .tuple #[.bool false]) ?_ (.v _ _ (.tup _ _ rfl fun i v x hv hx => ?_))
          · simp only [Instr.next, Sem.run_bind, hget, Result.andThen_ok, if_neg hlt, Sem.run_pure]
          · match i with
            | 0 => simp at hv hx; subst hv hx; exact .bool _
            | n + 1 => simp at hv
    · cases h
  · cases h

end
end Go.BI
/- SOUNDNESS OF 'B', twenty-first part: conversions that leave memory as it is; min, max, cap. -/
set_option linter.unusedVariables false
set_option linter.unusedSimpArgs false
namespace Go.BI
open Go Go.RowKit

section
variable {P : Program} {T : Tys} {z : Base} {w w' : World} {g : Gh} {st : Sites}

theorem convInt_gives (hT : TOk P T) {src dst : TypeId} {s : TypeDesc} {k k' : IntKind} {n : Int} {vx : Value} (hs : und T src = some s) (hd : und T dst = some (.int k')) (hx : RelD w g vx (.v (.int k n))) :
    Gives P (convert src dst vx) w g (.v (.int k' (wrapB k' n))) := by
  obtain rfl := hx.toV.int_eq
  refine ⟨.int k' (wrapB k' n), ?_, .v _ _ (.int _ _)⟩
  simp [convert, run_underlying (hT.und hs), run_underlying (hT.und hd), Conv.intToInt, wrapB_eq, go_sem]

theorem minmax_gives {k k' : IntKind} {a b : Int} {va vb : Value} {argTypes : Array TypeId} {ty : TypeId} (ha : RelD w g va (.v (.int k a))) (hb : RelD w g vb (.v (.int k' b))) :
    Gives P (Builtin.min_ argTypes ty #[va, vb]) w g (.v (.int k (if b < a then b else a))) ∧ Gives P (Builtin.max_ argTypes ty #[va, vb]) w g (.v (.int k (if a < b then b else a))) := by
  obtain rfl := ha.toV.int_eq
  obtain rfl := hb.toV.int_eq
  refine ⟨⟨.int k (if b < a then b else a), ?_, .v _ _ (.int _ _)⟩, ⟨.int k (if a < b then b else a), ?_, .v _ _ (.int _ _)⟩⟩
  · simp [Builtin.min_, Builtin.min2, go_sem]
  · simp [Builtin.max_, Builtin.max2, go_sem]

theorem toBytes_eq {l : List V} {b : List UInt8} (h : toBytes l = some b) : ∃ ns : List Int, l = ns.map (V.int .u8) ∧ b = ns.map fun n => UInt8.ofNat n.toNat := by
  induction l generalizing b with
  | nil => simp only [toBytes] at h; cases h; exact ⟨[], rfl, rfl⟩
  | cons x r ih =>
    unfold toBytes at h
    split at h
    · rename_i heq; cases heq
    · rename_i n r' heq
      cases heq
      split at h <;> cases h
      rename_i l' hl'
      obtain ⟨ns, h1, h2⟩ := ih hl'
      exact ⟨n :: ns, by simp [h1], by simp [h2]⟩
    · cases h

theorem flat_ints (ns : List Int) : (ns.map (V.int .u8)).flatMap V.cells = ns.map (V.int .u8) := by
  induction ns with
  | nil => rfl
  | cons n r ih => simp [List.flatMap_cons, ih, V.cells]

theorem push_data (ns : List Int) : ∀ (s : ByteArray), (ns.foldl (fun r n => r.push (UInt8.ofNat n.toNat)) s).data.toList = s.data.toList ++ ns.map fun n => UInt8.ofNat n.toNat := by
  induction ns with
  | nil => intro s; simp
  | cons n r ih => intro s; rw [List.foldl_cons, ih]; simp

/-- A string of what bytes a datum holds. -/
theorem bytes_run {vx : Value} {x : D} {m : Nat} {l : List V} {rd : List Nat} {b : List UInt8} (hI : Inv z g w st) (hx : RelD w g vx x) (hm : srcLen x = some m) (hl : srcCells st x = some (l, rd)) (hlen : l.length = m) (hb : toBytes l = some b)
    (hv : ∃ a cap, vx = .slice a m cap) : Gives P (Conv.bytesToString vx) w g (.v (.str b)) := by
  obtain ⟨a, cap, rfl⟩ := hv
  obtain ⟨ns, rfl, rfl⟩ := toBytes_eq hb
  cases a with
  | none =>
    obtain ⟨_, cells, r2, r3, r4, r5⟩ := src_run (P := P) (sz := 1) hI hx hm hl (by omega) (Nat.le_refl _) (n := m) (Nat.le_refl _)
    have := r5 w (fun _ => rfl)
    simp only [Builtin.firstCells, Sem.run_pure, Result.ok.injEq, and_true] at this
    have hc : cells = [] := by simpa using (congrArg Array.toList this).symm
    have hns : ns = [] := by
      subst hc
      simp at hlen r2
      exact List.length_eq_zero_iff.1 (by omega)
    subst hns
    refine ⟨.string .empty, ?_, .v _ _ (.str _)⟩
    simp [Conv.bytesToString]
  | some a =>
    obtain ⟨_, cells, r2, r3, r4, r5⟩ := src_run (P := P) (sz := 1) hI hx hm hl (by omega) (Nat.le_refl _) (n := m) (Nat.le_refl _)
    have := r5 w (fun _ => rfl)
    simp only [Builtin.firstCells, Nat.mul_one] at this
    have hc : cells = ns.map (Value.int .u8) := by
      apply List.ext_getElem?
      intro i
      have hnl : ns.length = m := by simpa using hlen
      by_cases hi : i < m
      · have h1 : cells[i]? = some (cells[i]'(by omega)) := by simp
        have h2 : (ns.map (V.int .u8))[i]? = some (V.int .u8 (ns[i]'(by omega))) := by simp [show i < ns.length from by omega]
        have := (r4 i _ _ h1 h2).int_eq
        rw [h1, this]
        simp [show i < ns.length from by omega]
      · rw [List.getElem?_eq_none (by omega), List.getElem?_eq_none (by simp at hlen ⊢; omega)]
    rw [hc] at this
    refine ⟨_, run_bytesToString w a m cap ns this, ?_⟩
    have h := RelV.str (w := w) (S := g.S) (ns.foldl (fun r n => r.push (UInt8.ofNat n.toNat)) ByteArray.empty)
    rw [push_data] at h
    exact .v _ _ (by simpa using h)

end
end Go.BI
/- SOUNDNESS OF 'B', twenty-second part: a string's bytes. -/
set_option linter.unusedVariables false
set_option linter.unusedSimpArgs false
namespace Go.BI
open Go Go.RowKit

section
variable {P : Program} {T : Tys} {z : Base} {w w' : World} {g : Gh} {st : Sites}

theorem freeze_alloc (w : World) (c : Array Value) (e : TypeId) : (w.alloc (.cells c e)).freeze ⟨w.heap.size, c.size, none⟩ 1 = w.alloc (.cells c e (c.size, c.size + 1)) := by
  unfold World.freeze World.alloc
  simp only [Nat.one_ne_zero, if_false]
  congr 1
  apply Array.ext_getElem?
  intro i
  rw [Array.getElem?_modify]
  by_cases h : w.heap.size = i
  · subst h
    simp
  · rw [if_neg h, Array.getElem?_push, Array.getElem?_push, if_neg (Ne.symm h), if_neg (Ne.symm h)]

theorem stringToBytes_run (w : World) (e : TypeId) (s : ByteArray) : ∃ cap, s.size ≤ cap ∧ (Conv.stringToBytes e s).run P w = .ok (.slice (some ⟨w.heap.size, 0, none⟩) s.size cap)
    (w.drew.alloc (.cells ((s.data.map fun b => Value.int .u8 b.toNat) ++ Array.replicate (cap - s.size) (Value.int .u8 0)) e
      (((s.data.map fun b => Value.int .u8 b.toNat) ++ Array.replicate (cap - s.size) (Value.int .u8 0)).size, ((s.data.map fun b => Value.int .u8 b.toNat) ++ Array.replicate (cap - s.size) (Value.int .u8 0)).size + 1))) := by
  refine ⟨(Question.appendCap s.size 0 e).cut (w.tape w.drawn (.appendCap s.size 0 e)), by simp only [Question.cut]; omega, ?_⟩
  have hf : (Question.appendCap s.size 0 e).forced = false := by simp [Question.forced]
  have hch : (choose (.appendCap s.size 0 e)).run P w = .ok ((Question.appendCap s.size 0 e).cut (w.tape w.drawn (.appendCap s.size 0 e))) w.drew := by
    rw [run_choose, hf]
    rfl
  generalize (Question.appendCap s.size 0 e).cut (w.tape w.drawn (.appendCap s.size 0 e)) = cap at hch ⊢
  unfold Conv.stringToBytes
  rw [Sem.run_bind, hch, Result.andThen_ok]
  generalize hc : (s.data.map fun b => Value.int .u8 b.toNat) ++ Array.replicate (cap - s.size) (Value.int .u8 0) = c
  have hsh : (w.drew.alloc (.cells c e)).shape? w.heap.size = some (e, c.size) := by
    have := alloc_new w.drew (.cells c e)
    simp only [World.shape?]
    rw [show w.heap.size = w.drew.heap.size from rfl, this]
  simp only [newRow, Sem.run_bind, run_newObj_alloc, Result.andThen_ok, Sem.run_pure, markStringish, run_shape, World.size_drew, hsh, run_freeze, hc]
  have := freeze_alloc w.drew c e
  simp only [World.size_drew] at this
  rw [this]

/-- A string's bytes: a new row that stays. -/
theorem strBytes_does {e : TypeId} {s : ByteArray} {x : Sem Next} (hI : Inv z g w st) (hx : ∀ v w', (Conv.stringToBytes e s).run P w = .ok v w' → x.run P w = .ok (.value v) w') :
    Does P x z g w (.v (.slice false 1 (ofBytes s.data.toList))) st := by
  obtain ⟨cap, hcap, hrun⟩ := stringToBytes_run (P := P) w e s
  generalize hc : (s.data.map fun b => Value.int .u8 b.toNat) ++ Array.replicate (cap - s.size) (Value.int .u8 0) = c at hrun
  have hnew := alloc_new w.drew (.cells c e (c.size, c.size + 1))
  have hget : ∀ (i : Nat) b, s.data.toList[i]? = some b → c[i]? = some (.int .u8 b.toNat) := by
    intro i b hb
    have hlt : i < s.data.size := by simpa using (List.getElem?_eq_some_iff.1 hb).1
    rw [← hc, Array.getElem?_append_left (by simpa using hlt), Array.getElem?_map]
    have : s.data[i]? = some b := by simpa using hb
    rw [this]
    rfl
  have hsz : s.data.toList.length = s.size := by rw [Array.length_toList]; rfl
  obtain ⟨q1, q2⟩ := hI.drew.newS (o := .cells c e (c.size, c.size + 1)) (S' := fun a => g.S a ∨ (a.block = w.heap.size ∧ a.spot = none ∧ a.off < s.size)) (fun a ha => by
    rcases ha with h | ⟨h1, h2, h3⟩
    · exact .inl h
    · refine .inr ⟨h1, h2, ?_⟩
      have hb : s.data.toList[a.off]? = some (s.data.toList[a.off]'(by omega)) := by simp
      refine ⟨.int .u8 (s.data.toList[a.off]'(by omega)).toNat, ?_⟩
      simp only [World.cell?, h1]
      rw [show w.heap.size = w.drew.heap.size from rfl, hnew]
      simp only [h2]
      exact hget _ _ hb) (fun a ha => .inl ha)
  refine ⟨_, _, _, .inl (hx _ _ hrun), .v _ _ (.slice _ _ _ _ _ (fun i => c.getD i undef) (by rw [ofBytes_length, hsz]) hcap rfl (fun y hy => ?_) (Nat.le_refl _) (fun i y hy => ?_) (fun i y hy => ?_)), (Ext.drew g w).trans q1, q2⟩
  · simp only [ofBytes, List.mem_map] at hy
    obtain ⟨b, _, rfl⟩ := hy
    rfl
  · have hfl : (ofBytes s.data.toList).flatMap V.cells = ofBytes s.data.toList := by
      have := flat_ints (s.data.toList.map fun b => (b.toNat : Int))
      simpa [ofBytes, List.map_map, Function.comp_def] using this
    rw [hfl] at hy
    simp only [ofBytes, List.getElem?_map, Option.map_eq_some_iff] at hy
    obtain ⟨b, hb, rfl⟩ := hy
    have hlt : i < s.data.toList.length := (List.getElem?_eq_some_iff.1 hb).1
    have hg := hget i b hb
    refine ⟨?_, .inr ⟨by simp [add_block], by simp [add_at], by rw [add_at]; simp; omega⟩, by simp [Array.getD_eq_getD_getElem?, hg, Value.oneCell']⟩
    rw [add_at]
    simp only [World.cell?]
    rw [show w.heap.size = w.drew.heap.size from rfl, hnew]
    simp [Array.getD_eq_getD_getElem?, hg]
  · have hfl : (ofBytes s.data.toList).flatMap V.cells = ofBytes s.data.toList := by
      have := flat_ints (s.data.toList.map fun b => (b.toNat : Int))
      simpa [ofBytes, List.map_map, Function.comp_def] using this
    rw [hfl] at hy
    simp only [ofBytes, List.getElem?_map, Option.map_eq_some_iff] at hy
    obtain ⟨b, hb, rfl⟩ := hy
    have hg := hget i b hb
    simp only [Array.getD_eq_getD_getElem?, hg, Option.getD_some]
    exact .int _ _

end
end Go.BI
/- SOUNDNESS OF 'B', twenty-third part: cap, unsafe's functions. -/
set_option linter.unusedVariables false
set_option linter.unusedSimpArgs false
namespace Go.BI
open Go Go.RowKit

section
variable {P : Program} {T : Tys} {z : Base} {w w' : World} {g : Gh} {st : Sites}

theorem cap_gives (hT : TOk P T) {argTypes : Array TypeId} {ty t e : TypeId} {vx : Value} {n : Nat} {b : Option Addr} {len : Nat} (ht : argTypes[0]? = some t) (hu : und T t = some (.slice e)) (hv : vx = .slice b len n) :
    Gives P (Builtin.cap_ argTypes ty #[vx]) w g (.v (.int .i64 n)) := by
  refine ⟨.int .i64 n, ?_, .v _ _ (.int _ _)⟩
  subst hv
  simp [Builtin.cap_, ht, run_underlying (hT.und hu), goInt, go_sem]

theorem sliceData_gives {argTypes : Array TypeId} {ty : TypeId} {vx : Value} {x : D} {d : D} (hx : RelD w g vx x)
    (h : sliceDataB x = some d) :
    Gives P (Builtin.unsafeSliceData_ argTypes ty #[vx]) w g d := by
  have run : ∀ {a : Addr} {len cap : Nat}, cap ≠ 0 → (Builtin.unsafeSliceData_ argTypes ty #[.slice (some a) len cap]).run P w = .ok (.pointer (some a)) w := by
    intro a len cap hc
    show (if cap ≠ 0 then pure (.pointer (some a)) else _ : Sem Value).run P w = _
    rw [if_pos hc]
    rfl
  unfold sliceDataB at h
  split at h
  · cases h
    rcases relV_slice' hx.toV with ⟨_, e, rfl⟩ | ⟨h0, _⟩
    · subst e
      exact ⟨.pointer none, rfl, .v _ _ .nilp⟩
    · cases h0
  · split at h <;> cases h
    rename_i hl
    cases hx with
    | arr s ver sz off len b δ p cap hb hle hs hp hex =>
      obtain rfl := hp (by omega)
      exact ⟨_, run (by omega), .ptr _ _ _ _ _ hb⟩
  · cases h
    obtain ⟨h1, a, e⟩ := relD_full hx
    subst e
    rcases relV_slice' h1 with ⟨h0, _⟩ | ⟨_, _, a, cap, val, e, hle, _⟩
    · cases h0
    · cases e
      simp only [List.length_cons] at hle
      exact ⟨_, run (by simp), .anyp _⟩
  · cases h
    rcases relV_slice' hx.toV with ⟨h0, _⟩ | ⟨_, _, a, cap, val, e, hle, _⟩
    · cases h0
    · subst e
      simp only [List.length_cons] at hle
      exact ⟨_, run (by omega), .anyp _⟩
  · cases h

theorem liesAt_same (P : Program) {e : TypeId} {count off n : Nat} (hs : P.cellsOf e ≠ 0) (h0 : off % P.cellsOf e = 0) (hn : off / P.cellsOf e + n ≤ count) : liesAt P P.depth e count off e n = true := by
  have hd : P.depth = (2 * (P.types.size + Made.depth) + 1) + 1 := rfl
  have hsame : ∀ d, sameLayout P (d + 1) e e = true := fun d => by simp [sameLayout]
  have hrow : rowAt P (sameLayout P P.depth · e) P.depth e count off n = true := by
    have : ∀ d, rowAt P (sameLayout P P.depth · e) (d + 1) e count off n = true := fun d => by
      unfold rowAt
      simp only [hs, if_false, h0, decide_eq_true hn, Bool.and_true, beq_self_eq_true, Bool.true_and]
      have : sameLayout P P.depth e e = true := by rw [hd]; exact hsame _
      simp [this]
    rw [hd] at this ⊢
    exact this _
  have : ∀ d, liesAt P (d + 1) e count off e n = true := fun d => by
    unfold liesAt
    rw [hrow, Bool.true_or]
  rw [hd]
  exact this _

theorem loadBytes_run (a : Addr) (ha : a.spot = none) : ∀ (ns : List Int) (i : Nat) (acc : ByteArray), (∀ (k : Nat) x, ns[k]? = some x → w.cell? (a.add (i + k)) = some (.int .u8 x)) →
    (loadBytes (a.add i) acc ns.length).run P w = .ok (ns.foldl (fun r n => r.push n.toNat.toUInt8) acc) w := by
  intro ns
  induction ns with
  | nil => intro i acc h; simp [loadBytes, go_sem]
  | cons x r ih =>
    intro i acc h
    have h0 : w.cell? (a.add i) = some (.int .u8 x) := by simpa using h 0 x (by simp)
    have hl : (load (a.add i)).run P w = .ok (.int .u8 x) w := by simp [load, Sem.run, h0]
    have := ih (i + 1) (acc.push x.toNat.toUInt8) (fun k y hk => by
      have := h (k + 1) y (by simpa using hk)
      rwa [show i + (k + 1) = i + 1 + k from by omega] at this)
    simp only [List.length_cons, loadBytes, Sem.run_bind, hl, Result.andThen_ok, add_add a ha, List.foldl_cons]
    exact this

theorem unsafeString_some (argTypes : Array TypeId) (ty : TypeId) (a : Addr) (v : Value) : Builtin.unsafeString_ argTypes ty #[.pointer (some a), v] = (do
    let n ← asInt v
    let some pt := argTypes[0]? | stuck "unsafe.String: no argument types"
    if n < 0 then runtimePanic (.error "unsafe.String: len out of range")
    if n > IntKind.i64.max then unsupported (.unsafePointer "String: a length above the largest int")
    if n = 0 then pure (.string .empty)
    else if ← variablesAt a (← elemOf pt) n.toNat then do
      let s ← loadBytes a .empty n.toNat
      Go.freeze a n.toNat
      pure (.string s)
    else unsupported (.unsafePointer "String: not so many bytes at ptr")) := rfl

theorem unsafeString_zero (argTypes : Array TypeId) (ty pt : TypeId) (p : Option Addr) (k : IntKind) (h : argTypes[0]? = some pt) (w : World) : (Builtin.unsafeString_ argTypes ty #[.pointer p, .int k 0]).run P w = .ok (.string .empty) w := by
  have hmax : IntKind.i64.max = 9223372036854775807 := rfl
  cases p with
  | none =>
    have hdef : Builtin.unsafeString_ argTypes ty #[.pointer none, .int k 0] = (do
      let n ← asInt (.int k 0)
      let some pt := argTypes[0]? | stuck "unsafe.String: no argument types"
      if n < 0 then runtimePanic (.error "unsafe.String: len out of range")
      if n > IntKind.i64.max then unsupported (.unsafePointer "String: a length above the largest int")
      if n = 0 then pure (.string .empty)
      else runtimePanic (.error "unsafe.String: ptr is nil and len is not zero")) := rfl
    rw [hdef]
    simp [asInt, asIntOf, hmax, h]
  | some a =>
    rw [unsafeString_some]
    simp [asInt, asIntOf, hmax, h]

theorem strAt_ok (hT : TOk P T) {argTypes : Array TypeId} {ty : TypeId} {vp vn : Value} {s ver off : Nat} {k : IntKind} {n : Int} {r : Eff} (hI : Inv z g w st) (hp : RelD w g vp (.ptr s ver off)) (hn : RelD w g vn (.v (.int k n)))
    (h : strAt T argTypes s ver off n st = some r) : EffOk P (do pure (Next.value (← Builtin.unsafeString_ argTypes ty #[vp, vn]))) z g w st r := by
  intro hmax
  unfold strAt at h
  split at h
  · rename_i pt hpt
    split at h
    · rename_i e hu
      split at h
      · rename_i bt cs fz0 hlb
        split at h
        · rename_i hc
          obtain ⟨rfl, hno, hcel, hn0, hnb, hle⟩ := hc
          split at h
          · rename_i l hl
            split at h <;> cases h
            rename_i bs hbs
            have hmaxs : s < maxSite := hmax _ rfl
            obtain rfl := hn.toV.int_eq
            obtain ⟨b, δ, hb, hv⟩ := hp.ptr_eq
            subst hv
            obtain ⟨b', δ', hb', hB, hown⟩ := hI.box hlb
            rw [hb] at hb'
            cases hb'
            obtain ⟨cs0, el, fr, h1, h2, h3, h4, h5, h6, h7, h8⟩ := hB
            obtain ⟨rfl, rfl⟩ := h2 hno
            obtain rfl := allV_eq hl
            simp only [List.length_map] at hle
            obtain ⟨ns, e1, rfl⟩ := toBytes_eq hbs
            have hnl : ns.length = n.toNat := by
              have := congrArg List.length e1
              simp at this
              omega
            have hcell : ∀ (i : Nat) x, ns[i]? = some x → w.cell? ((⟨b, off, none⟩ : Addr).add (0 + i)) = some (.int .u8 x) := by
              intro i x hx
              have hi : i < ns.length := (List.getElem?_eq_some_iff.1 hx).1
              have hlx : l[off + i]? = some (V.int .u8 x) := by
                have := congrArg (fun q => q[i]?) e1
                simp only [List.getElem?_map, hx, Option.map_some] at this
                rw [List.getElem?_take_of_lt (by omega), List.getElem?_drop] at this
                exact this
              have hlt : off + i < cs0.size := by simp at h3; omega
              have hv := h4 (off + i) (cs0[off + i]'hlt) (.v (.int .u8 x)) (by simp [hlt]) (by simp [hlx])
              have := hv.toV.int_eq
              rw [add_at]
              simp only [World.cell?, h1, Nat.zero_add]
              simp [hlt, this]
            have hsh : w.shape? b = some (el, cs0.size) := by simp [World.shape?, h1]
            have hcp : P.cellsOf el = 1 := by rw [hT.cel (by omega), hcel]
            have hva : (variablesAt ⟨b, off, none⟩ el n.toNat).run P w = .ok true w := by
              have := liesAt_same P (e := el) (count := cs0.size / P.cellsOf el) (off := off) (n := n.toNat) (by omega) (by rw [hcp]; omega) (by rw [hcp]; simp at h3 ⊢; omega)
              simp [variablesAt, run_shape, hsh, this, go_sem]
            have hlo := loadBytes_run (P := P) (w := w) ⟨b, off, none⟩ rfl ns 0 .empty hcell
            rw [add_at, Nat.add_zero, hnl] at hlo
            have hel : (elemOf pt).run P w = .ok el w := by simp [elemOf, run_underlying (hT.und hu), go_sem]
            have hmx : ¬ (n > IntKind.i64.max) := by
              have : IntKind.i64.max = 9223372036854775807 := rfl
              simp [big40] at hnb
              omega
            have hrun : (do pure (Next.value (← Builtin.unsafeString_ argTypes ty #[.pointer (some ⟨b, 0 + off, none⟩), .int k n])) : Sem Next).run P w =
                .ok (.value (.string (ns.foldl (fun r n => r.push n.toNat.toUInt8) ByteArray.empty))) (w.freeze ⟨b, off, none⟩ n.toNat) := by
              have h9 : ¬ n < 0 := by omega
              have h10 : ¬ n = 0 := by omega
              rw [unsafeString_some]
              have h11 : ¬ (9223372036854775807 < n) := by simp [big40] at hnb; omega
              have hmax : IntKind.i64.max = 9223372036854775807 := rfl
              simp [asInt, asIntOf, hmax, hpt, h9, h10, h11, hel, hva, hlo, run_freeze, go_sem]
            -- what the freezing leaves
            have hfr : (w.freeze ⟨b, off, none⟩ n.toNat).heap[b]? = some (.cells cs0 el (if fr.1 == fr.2 then (off, off + n.toNat) else (min fr.1 off, max fr.2 (off + n.toNat)))) := by
              have hlt : b < w.heap.size := (Array.getElem?_eq_some_iff.1 h1).1
              unfold World.freeze
              rw [if_neg (by omega)]
              simp [Array.getElem?_modify, h1]
            have hw : Wrote w (w.freeze ⟨b, off, none⟩ n.toNat) b 0 0 cs0 cs0 el fr (if fr.1 == fr.2 then (off, off + n.toNat) else (min fr.1 off, max fr.2 (off + n.toNat))) := by
              refine ⟨h1, hfr, rfl, fun _ _ => rfl, fun k hk => ?_, ?_, ?_, ?_, ?_⟩
              · unfold World.freeze
                rw [if_neg (by omega)]
                simp [Array.getElem?_modify, Ne.symm hk]
              all_goals
                unfold World.freeze
                rw [if_neg (by omega)]
                try simp
            have hfr2 : fr.2 ≤ fz0 := by have := (h5 fz0 (Nat.le_refl _)).2.2; omega
            have key := hI.write (s := s) (ver := ver) (b := b) (δ := 0) hmaxs (lookBox_look hlb) hb hw (fun k h1 h2 => by omega) (ver' := ver) (δ' := 0) (bo := .box el (l.map .v) (l.map D.v).length) (.inl ⟨rfl, rfl⟩)
              (S' := fun a => g.S a ∨ (a.block = b ∧ a.spot = none ∧ a.off < l.length)) (fun a ha => by
                rcases ha with ha | ⟨q1, q2, q3⟩
                · exact .inl ha
                · exact .inr ⟨q1, q2, by simp at h3; omega⟩) (fun a ha => .inl ha)
              (fun hE => by
                refine ⟨cs0, el, _, hfr, h2, h3, fun i v d e1 e2 => (h4 i v d e1 e2).ext hE, fun i hi => ⟨fun hS => ?_, fun hN => ?_, ?_⟩, fun i hi hl => .inr ⟨rfl, rfl, by simpa using hl⟩, Nat.le_refl _, h8⟩
                · simp only [List.length_map] at hi h7
                  rcases hS with hS | ⟨_, _, hS⟩
                  · exact (h5 i (by omega)).1 hS
                  · simp at hS; omega
                · simp only [List.length_map] at hi h7
                  exact (h5 i (by omega)).2.1 hN
                · simp only [List.length_map] at hi h7
                  split <;> simp <;> omega)
            refine ⟨_, _, _, .inl hrun, ?_, key.1, key.2⟩
            have h := RelV.str (w := w.freeze ⟨b, off, none⟩ n.toNat) (S := (g.putS s ver (b, 0) fun a => g.S a ∨ (a.block = b ∧ a.spot = none ∧ a.off < l.length)).S) (ns.foldl (fun r n => r.push n.toNat.toUInt8) ByteArray.empty)
            have := push_data ns ByteArray.empty
            simp only [Nat.toUInt8] at h
            rw [this] at h
            exact .v _ _ (by simpa using h)
          · cases h
        · cases h
      · cases h
    · cases h
  · cases h

end
end Go.BI
/- SOUNDNESS OF 'B', twenty-fourth part: conversions as one; the builtins as one. -/
set_option linter.unusedVariables false
set_option linter.unusedSimpArgs false
namespace Go.BI
open Go Go.RowKit

section
variable {P : Program} {T : Tys} {z : Base} {w w' : World} {g : Gh} {st : Sites}

theorem viewAt_cells {b : Nat} {e : TypeId × Nat} (h : w.shape? b = some e) : (viewAt b).run P w = .ok none w := by
  simp [viewAt, run_shape, h, go_sem]

theorem convUnsafe_gives (hT : TOk P T) {src dst : TypeId} {s t : TypeDesc} {vx : Value} {d : D} {r : Eff} (hI : Inv z g w st) (hs : und T src = some s) (hd : und T dst = some t) (hx : RelD w g vx d) (h : convUnsafe T st s t d = some r) :
    Gives P (convert src dst vx) w g r.d ∧ r.wr = none := by
  unfold convUnsafe at h
  split at h
  · rename_i e
    split at h
    · rename_i sx ver off
      split at h
      · rename_i bt cs fz hlb
        split at h <;> cases h
        rename_i hc
        obtain ⟨hc1, hc2⟩ := hc
        refine ⟨⟨vx, ?_, hx⟩, rfl⟩
        obtain ⟨b, δ, hb, hv⟩ := hx.ptr_eq
        subst hv
        obtain ⟨b', δ', hb', hB, hown⟩ := hI.box hlb
        rw [hb] at hb'
        cases hb'
        obtain ⟨cs0, el, fr, h1, h2, h3, h4, h5, h6, h7, h8⟩ := hB
        have hsh : w.shape? b = some (el, cs0.size) := by simp [World.shape?, h1]
        have hva := viewAt_cells (P := P) hsh
        have hz := hT.size' hc2 w
        have hlt : ¬ (cs0.size ≤ δ + off) := by omega
        simp [convert, run_underlying (hT.und hs), run_underlying (hT.und hd), Conv.unsafePointer, Conv.seenAt, hva, cellsIn, run_shape, hsh, hlt, hz, hc2, go_sem]
      · cases h
    · cases h
  · split at h
    · rename_i u sx ver off
      split at h
      · rename_i bt cs fz hlb
        split at h <;> cases h
        rename_i hc
        obtain ⟨rfl, hno, rfl, hc2, hc3⟩ := hc
        refine ⟨⟨vx, ?_, hx⟩, rfl⟩
        obtain ⟨b, δ, hb, hv⟩ := hx.ptr_eq
        subst hv
        obtain ⟨b', δ', hb', hB, hown⟩ := hI.box hlb
        rw [hb] at hb'
        cases hb'
        obtain ⟨cs0, el, fr, h1, h2, h3, h4, h5, h6, h7, h8⟩ := hB
        obtain ⟨rfl, rfl⟩ := h2 hno
        have hsh : w.shape? b = some (el, cs0.size) := by simp [World.shape?, h1]
        have hva := viewAt_cells (P := P) hsh
        have hz := hT.size' hc2 w
        have hcp : P.cellsOf el = cel T el := hT.cel hc2
        have hpos : 1 ≤ cs0.size / cel T el := by
          rw [Nat.le_div_iff_mul_le (by omega)]
          omega
        have hla := liesAt_same P (e := el) (count := cs0.size / P.cellsOf el) (off := 0) (n := 1) (by omega) (by simp) (by rw [hcp]; simp; omega)
        have hva2 : (variablesAt ⟨b, 0, none⟩ el 1).run P w = .ok true w := by simp [variablesAt, run_shape, hsh, hla, go_sem]
        simp [convert, run_underlying (hT.und hs), run_underlying (hT.und hd), Conv.unsafePointer, Conv.seenAt, hva, hva2, hz, hc2, go_sem]
      · cases h
    · cases h
  · cases h

theorem isByteT_und (hT : TOk P T) {t : TypeId} (h : isByteT T t = true) : P.underlying t = some (.int .u8) := by
  unfold isByteT at h
  split at h
  · rename_i hu; exact hT.und hu
  · cases h

theorem bytesOf_run {vx : Value} {x : D} {b : List UInt8} {rd : List Nat} (hI : Inv z g w st) (hx : RelD w g vx x) (h : bytesOf st x = some (b, rd)) : Gives P (Conv.bytesToString vx) w g (.v (.str b)) := by
  have flat : ∀ {xs : List V} {b : List UInt8}, toBytes xs = some b → (xs.flatMap V.cells = xs ∧ xs.length = b.length) := by
    intro xs b hb
    obtain ⟨ns, rfl, rfl⟩ := toBytes_eq hb
    exact ⟨flat_ints ns, by simp⟩
  unfold bytesOf at h
  split at h
  · rename_i nl sz xs
    split at h <;> cases h
    rename_i hb
    obtain ⟨f1, f2⟩ := flat hb
    refine bytes_run (m := xs.length) (l := xs) (rd := []) hI hx rfl (by simp [srcCells, f1]) rfl hb ?_
    rcases relV_slice' hx.toV with ⟨_, e, rfl⟩ | ⟨_, _, a, cap, val, e, _⟩
    · exact ⟨_, _, e⟩
    · exact ⟨_, _, e⟩
  · rename_i nl sz xs
    split at h <;> cases h
    rename_i hb
    obtain ⟨f1, f2⟩ := flat hb
    obtain ⟨_, a, e⟩ := relD_full hx
    exact bytes_run (m := xs.length) (l := xs) (rd := []) hI hx rfl (by simp [srcCells, f1]) rfl hb ⟨_, _, e⟩
  · rename_i s ver sz off len
    split at h
    · rename_i l rd' hl
      split at h
      · rename_i hc
        split at h <;> cases h
        rename_i hb
        refine bytes_run (m := len) hI hx rfl hl hc.2 hb ?_
        cases hx with
        | arr => exact ⟨_, _, rfl⟩
      · cases h
    · cases h
  · cases h

theorem conv_ok (hT : TOk P T) {par : Par} (hpar : par.T = T) {a : Act} {env : E} {src dst : TypeId} {x : Operand} {r : Eff} (hI : Inv z g w st) (hE : RelE w g a.tmps env) (hG : GlobOk par w g)
    (h : opConv par env st src dst x = some r) : EffOk P (do pure (Next.value (← convert src dst (a.eval x)))) z g w st r := by
  unfold opConv at h
  rw [hpar] at h
  split at h
  · rename_i d s t hx hs hd
    have hx' := ev_rel hE hG hx
    unfold convD at h
    split at h
    · split at h <;> cases h
      exact .of_gives hI ⟨convInt_gives hT hs hd hx', rfl⟩
    · rename_i b
      split at h
      · cases h
        refine .of_gives hI ⟨⟨a.eval x, ?_, hx'⟩, rfl⟩
        obtain ⟨ba, hv, hb⟩ := hx'.toV.str_eq
        rw [hv]
        simp [convert, run_underlying (hT.und hs), run_underlying (hT.und hd), go_sem]
      · rename_i e
        split at h <;> cases h
        rename_i hby
        have he := isByteT_und hT hby
        intro _
        obtain ⟨ba, hv, hb⟩ := hx'.toV.str_eq
        subst hb
        refine strBytes_does (e := e) (s := ba) hI fun v w' hr => ?_
        refine run_v ?_
        rw [hv]
        have : (convert src dst (.string ba)).run P w = (Conv.stringToBytes e ba).run P w := by
          simp [convert, run_underlying (hT.und hs), run_underlying (hT.und hd), run_underlying he, go_sem]
        rw [this]
        exact hr
      · cases h
    · exact .of_gives hI (convUnsafe_gives hT hI hs hd hx' h)
    · split at h
      · rename_i e
        split at h
        · rename_i hby
          have he := isByteT_und hT hby
          split at h <;> cases h
          rename_i b rd hb
          obtain ⟨v, h1, h2⟩ := bytesOf_run (P := P) hI hx' hb
          refine .of_gives hI ⟨⟨v, ?_, h2⟩, rfl⟩
          rw [← h1]
          have hsl : ∃ q n c, a.eval x = .slice q n c := by
            unfold bytesOf at hb
            split at hb
            · rcases relV_slice' hx'.toV with ⟨_, e, rfl⟩ | ⟨_, _, a, cap, val, e, _⟩
              · exact ⟨_, _, _, e⟩
              · exact ⟨_, _, _, e⟩
            · obtain ⟨_, q, e⟩ := relD_full hx'
              exact ⟨_, _, _, e⟩
            · generalize a.eval x = vx at hx' ⊢
              cases hx' with
              | arr => exact ⟨_, _, _, rfl⟩
            · cases hb
          obtain ⟨q, n, c, hv⟩ := hsl
          rw [hv]
          simp [convert, run_underlying (hT.und hs), run_underlying (hT.und hd), run_underlying he, go_sem]
        · cases h
      · cases h
  · cases h

/-- A builtin's call. -/
theorem builtin_ok (hT : TOk P T) {par : Par} (hpar : par.T = T) {a : Act} {env : E} {fb : Nat} {dst : Option Tmp} {b : Builtin} {args : Array Operand} {argTypes : Array TypeId} {ty : TypeId} {consts : Array Bool} {r : Eff}
    (hI : Inv z g w st) (hE : RelE w g a.tmps env) (hG : GlobOk par w g) (h : opBuiltin par fb dst env st b args.toList argTypes = some r) :
    EffOk P (builtin b argTypes ty consts (args.map a.eval)) z g w st r := by
  unfold opBuiltin at h
  split at h
  · rename_i l hl
    obtain ⟨hlen, hrel⟩ := mapEv_rel hE hG hl
    have one : ∀ {x : D}, l = [x] → ∃ v, args.map a.eval = #[v] ∧ RelD w g v x := by
      rintro x rfl
      obtain ⟨y, hy⟩ := List.length_eq_one_iff.1 hlen
      refine ⟨a.eval y, ?_, hrel 0 y x (by rw [hy]; rfl) rfl⟩
      have : args = #[y] := by rw [← Array.toArray_toList (xs := args), hy]
      rw [this]
      simp
    have two : ∀ {x y : D}, l = [x, y] → ∃ u v, args.map a.eval = #[u, v] ∧ RelD w g u x ∧ RelD w g v y := by
      rintro x y rfl
      obtain ⟨p, q, hpq⟩ : ∃ p q, args.toList = [p, q] := by
        match hh : args.toList, hlen with
        | [p, q], _ => exact ⟨p, q, rfl⟩
      refine ⟨a.eval p, a.eval q, ?_, hrel 0 p x (by rw [hpq]; rfl) rfl, hrel 1 q y (by rw [hpq]; rfl) rfl⟩
      have : args = #[p, q] := by rw [← Array.toArray_toList (xs := args), hpq]
      rw [this]
      simp
    unfold effBuiltin at h
    rw [hpar] at h
    split at h
    · -- len
      obtain ⟨v, e, hv⟩ := one rfl
      rw [e]
      simp only [Option.bind_eq_bind, Option.bind_eq_some_iff] at h
      obtain ⟨t, ht, n, hn, h⟩ := h
      cases h
      exact .of_gives hI ⟨len_gives hT ht hv hn, rfl⟩
    · -- cap
      obtain ⟨v, e, hv⟩ := one rfl
      rw [e]
      split at h
      · rename_i t ht
        split at h
        · cases h
          rename_i hu
          rcases relV_slice' hv.toV with ⟨_, e, _⟩ | ⟨h0, _⟩
          · exact .of_gives hI ⟨cap_gives hT ht hu e, rfl⟩
          · cases h0
        · cases h
          rename_i hu
          obtain ⟨_, q, e⟩ := relD_full hv
          exact .of_gives hI ⟨cap_gives hT ht hu e, rfl⟩
        · cases h
      · cases h
    · -- min
      obtain ⟨u, v, e, hu, hv⟩ := two rfl
      rw [e]
      cases h
      exact .of_gives hI ⟨(minmax_gives hu hv).1, rfl⟩
    · -- max
      obtain ⟨u, v, e, hu, hv⟩ := two rfl
      rw [e]
      cases h
      exact .of_gives hI ⟨(minmax_gives hu hv).2, rfl⟩
    · -- append
      obtain ⟨u, v, e, hu, hv⟩ := two rfl
      rw [e]
      split at h
      · exact append_ok hT hI hu hv h
      · cases h
    · -- copy
      obtain ⟨u, v, e, hu, hv⟩ := two rfl
      rw [e]
      exact copy_ok hT hI hu hv h
    · -- unsafe.SliceData
      rename_i x
      obtain ⟨v, e, hv⟩ := one rfl
      rw [e]
      split at h <;> cases h
      rename_i d hd
      exact .of_gives hI ⟨sliceData_gives hv hd, rfl⟩
    · -- unsafe.String
      obtain ⟨u, v, e, hu, hv⟩ := two rfl
      rw [e]
      split at h
      · rename_i hn
        subst hn
        have hmx : ¬ ((0 : Int) > IntKind.i64.max) := by
          have : IntKind.i64.max = 9223372036854775807 := rfl
          omega
        obtain rfl := hv.toV.int_eq
        split at h
        · rename_i pt hpt
          have empty : ∀ {p : Option Addr} {k : IntKind}, u = .pointer p → EffOk P (builtin .unsafeString argTypes ty consts #[u, .int k 0]) z g w st { d := .v (.str []) } := by
            rintro p k rfl
            refine .of_gives hI ⟨⟨.string .empty, ?_, .v _ _ (.str _)⟩, rfl⟩
            exact unsafeString_zero _ _ _ _ _ hpt _
          split at h <;> cases h
          · exact empty hu.toV.nilp_eq
          · cases hu; exact empty rfl
          · obtain ⟨_, _, _, e⟩ := hu.ptr_eq; exact empty e
          · obtain ⟨_, e, _⟩ := pin_drop hu; exact empty e
        · cases h
      · split at h
        · exact strAt_ok hT hI hu hv h
        · cases h
    · cases h
  · cases h

end
end Go.BI
/- SOUNDNESS OF 'B', twenty-fifth part: rows that are frozen. -/
set_option linter.unusedVariables false
set_option linter.unusedSimpArgs false
namespace Go.BI
open Go Go.RowKit

theorem getK_lt {α : Type} (z : α) : ∀ (k : Nat) (e : Tr α) (t : Nat) (d : α), getK z k e t = some d → d = z ∨ t + 1 < 2 ^ k := by
  intro k
  induction k with
  | zero => intro e t d h; simp [getK] at h; exact .inl h.symm
  | succ k ih =>
    intro e t d h
    cases e with
    | nil => simp [getK] at h; exact .inl h.symm
    | node x l r =>
      cases t with
      | zero => right; have := Nat.one_le_two_pow (n := k); rw [Nat.pow_succ]; omega
      | succ n =>
        simp only [getK] at h
        have e2 : Nat.div n 2 = n / 2 := rfl
        split at h
        · rcases ih _ _ _ h with h | h
          · exact .inl h
          · rw [e2] at h; right; rw [Nat.pow_succ]; omega
        · rcases ih _ _ _ h with h | h
          · exact .inl h
          · rw [e2] at h; right; rw [Nat.pow_succ]; omega

section
variable {P : Program} {T : Tys} {z : Base} {w w' : World} {g : Gh} {st : Sites}

theorem look_lt {s ver : Nat} {o : BObj} (h : look st s ver = some o) : s < maxSite := by
  obtain ⟨r, h1, h2, h3⟩ := look_of h
  rcases getK_lt _ _ _ _ _ h1 with h | h
  · subst h; cases h3
  · simp [maxSite]; omega

/-- A box's cells are found to stay: no step of the machine. -/
theorem Inv.frz (hI : Inv z g w st) {s ver b δ : Nat} {ty : TypeId} {cs cs' : List D} {fz : Nat} (hl : lookBox st s ver = some (ty, cs, fz)) (hlen : cs'.length = cs.length) (hb : g.blk s ver = some (b, δ))
    (hrel : ∀ (i : Nat) v d, w.cell? ⟨b, δ + i, none⟩ = some v → cs'[i]? = some d → RelD w g v d) :
    Ext g w (g.putS s ver (b, δ) fun a => g.S a ∨ (a.block = b ∧ a.spot = none ∧ δ ≤ a.off ∧ a.off < δ + cs.length)) w ∧
    Inv z (g.putS s ver (b, δ) fun a => g.S a ∨ (a.block = b ∧ a.spot = none ∧ δ ≤ a.off ∧ a.off < δ + cs.length)) w (setS st s ⟨ver, some (.box ty cs' cs'.length)⟩) := by
  obtain ⟨b', δ', hb', hB, hown⟩ := hI.box hl
  rw [hb] at hb'
  cases hb'
  obtain ⟨cs0, el, fr, h1, h2, h3, h4, h5, h6, h7, h8⟩ := hB
  have hw : Wrote w w b 0 0 cs0 cs0 el fr fr := ⟨h1, h1, rfl, fun _ _ => rfl, fun _ _ => rfl, rfl, rfl, rfl, rfl⟩
  refine hI.write (look_lt (lookBox_look hl)) (lookBox_look hl) hb hw (fun k h1 h2 => by omega) (ver' := ver) (δ' := δ) (bo := .box ty cs' cs'.length) (.inl ⟨rfl, rfl⟩) (fun a ha => ?_) (fun a ha => .inl ha) (fun hE => ?_)
  · rcases ha with ha | ⟨q1, q2, q3, q4⟩
    · exact .inl ha
    · exact .inr ⟨q1, q2, by omega⟩
  · refine ⟨cs0, el, fr, h1, h2, by omega, fun i v d e1 e2 => ?_, fun i hi => ⟨fun hS => ?_, fun hN => ?_, ?_⟩, fun i hi hl => .inr ⟨rfl, rfl, by simp, by simp; omega⟩, Nat.le_refl _, fun i v hi => h8 i v (by omega)⟩
    · refine (hrel i v d ?_ e2).ext hE
      simp only [World.cell?, h1]
      exact e1
    · rcases hS with hS | ⟨_, _, _, hS⟩
      · exact (h5 i (by omega)).1 hS
      · simp at hS; omega
    · exact (h5 i (by omega)).2.1 hN
    · exact (h5 i (by omega)).2.2

theorem freezeL_ok {f : D → Sites → Option (V × Sites)} (hf : ∀ {d : D} {st : Sites} {x : V} {st' : Sites} {g : Gh} {v : Value}, f d st = some (x, st') → Inv z g w st → RelD w g v d → ∃ g', Ext g w g' w ∧ Inv z g' w st' ∧ RelV w g'.S v x) :
    ∀ (ds : List D) (st : Sites) (l : List V) (st' : Sites) (g : Gh) (val : Nat → Value), freezeL f ds st = some (l, st') → Inv z g w st → (∀ (i : Nat) d, ds[i]? = some d → RelD w g (val i) d) →
      ∃ g', Ext g w g' w ∧ Inv z g' w st' ∧ l.length = ds.length ∧ ∀ (i : Nat) x, l[i]? = some x → RelV w g'.S (val i) x := by
  intro ds
  induction ds with
  | nil =>
    intro st l st' g val h hI hv
    simp only [freezeL] at h
    cases h
    exact ⟨g, .refl _ _, hI, rfl, by simp⟩
  | cons d r ih =>
    intro st l st' g val h hI hv
    simp only [freezeL] at h
    split at h
    · rename_i x st1 hx
      split at h <;> cases h
      rename_i xs hxs
      obtain ⟨g1, e1, i1, r1⟩ := hf hx hI (hv 0 d rfl)
      obtain ⟨g2, e2, i2, n2, r2⟩ := ih st1 xs st' g1 (fun i => val (i + 1)) hxs i1 (fun i d' hd => (hv (i + 1) d' (by simpa using hd)).ext e1)
      refine ⟨g2, e1.trans e2, i2, by simp [n2], fun i y hy => ?_⟩
      cases i with
      | zero => simp at hy; subst hy; exact r1.ext e2
      | succ i => exact r2 i y (by simpa using hy)
    · cases h

theorem freezeN_ok : ∀ (n : Nat) {d : D} {st : Sites} {x : V} {st' : Sites} {g : Gh} {v : Value}, freezeN n d st = some (x, st') → Inv z g w st → RelD w g v d → ∃ g', Ext g w g' w ∧ Inv z g' w st' ∧ RelV w g'.S v x := by
  intro n
  induction n with
  | zero =>
    intro d st x st' g v h hI hd
    simp only [freezeN] at h
    split at h <;> cases h
    · exact ⟨g, .refl _ _, hI, hd.toV⟩
    · exact ⟨g, .refl _ _, hI, (relD_full hd).1⟩
  | succ n ih =>
    intro d st x st' g v h hI hd
    simp only [freezeN] at h
    split at h
    · cases h
      exact ⟨g, .refl _ _, hI, hd.toV⟩
    · cases h
      exact ⟨g, .refl _ _, hI, (relD_full hd).1⟩
    · rename_i s ver sz off len
      cases hd with
      | arr s ver sz off len b δ p cap hb hle hs hp hex =>
        split at h
        · rename_i ty0 cs fz hlb
          split at h
          · rename_i hc
            split at h
            · rename_i l st1 hfl
              split at h
              · rename_i ty cs1 fz1 hlb1
                split at h <;> cases h
                rename_i hc1
                obtain ⟨b', δ', hb', hB, hown⟩ := hI.box hlb
                rw [hb] at hb'
                cases hb'
                obtain ⟨val, hval⟩ := hB.cells
                have hdl : ((cs.drop off).take (len * sz)).length = len * sz := by simp; omega
                obtain ⟨g1, e1, i1, n1, r1⟩ := freezeL_ok ih ((cs.drop off).take (len * sz)) st l st1 g (fun i => val (off + i)) hfl hI (fun i d' hd' => by
                  have hi : i < len * sz := by
                    have := (List.getElem?_eq_some_iff.1 hd').1
                    omega
                  rw [List.getElem?_take_of_lt hi, List.getElem?_drop] at hd'
                  exact (hval (off + i) d' hd').2.1)
                rw [hdl] at n1
                have hb1 := e1.blk _ _ _ hb
                obtain ⟨b', δ', hb', hB1, hown1⟩ := i1.box hlb1
                rw [hb1] at hb'
                cases hb'
                obtain ⟨val1, hval1⟩ := hB1.cells
                have hol : (overlay cs1 off (l.map D.v)).length = cs1.length := overlay_len (by simp; omega)
                obtain ⟨q1, q2⟩ := i1.frz (cs' := overlay cs1 off (l.map D.v)) hlb1 hol hb1 (fun i u d' hu hd' => by
                  rw [overlay_get (by simp; omega)] at hd'
                  split at hd'
                  · rename_i hi
                    simp only [List.length_map, n1] at hi
                    simp only [List.getElem?_map, Option.map_eq_some_iff] at hd'
                    obtain ⟨y, hy, rfl⟩ := hd'
                    have h0 := (hval i (cs[i]'(by omega)) (by simp)).1
                    rw [add_at, hu] at h0
                    cases h0
                    have := r1 (i - off) y hy
                    rw [show off + (i - off) = i from by omega] at this
                    exact .v _ _ this
                  · have h0 := hval1 i d' hd'
                    rw [add_at, hu] at h0
                    obtain ⟨h01, h02, _⟩ := h0
                    cases h01
                    exact h02)
                rw [hol] at q2
                refine ⟨_, e1.trans q1, q2, ?_⟩
                refine group_rel hs rfl hle (by omega) (val := fun i => val (off + i)) fun i y hi hy => ?_
                have hp' := hp (fun h0 => by subst h0; have : len = 0 := by omega
                                             subst this; simp at hi)
                subst hp'
                have h0 := hval (off + i) (cs[off + i]'(by omega)) (by simp)
                rw [add_at] at h0
                rw [add_at, Nat.add_assoc]
                refine ⟨h0.1, .inr ⟨rfl, rfl, by simp, by simp; omega⟩, h0.2.2, (r1 i y hy).ext q1⟩
              · cases h
            · cases h
          · cases h
        · cases h
    · rename_i ds
      split at h <;> cases h
      rename_i xs hfl
      obtain ⟨vs, rfl, hC⟩ := aggD_rel hd
      obtain ⟨g1, e1, i1, n1, r1⟩ := freezeL_ok ih ds st xs st' g (fun i => vs.getD i undef) hfl hI (fun i d' hd' => by
        have hi : i < vs.size := by rw [hC.size]; exact (List.getElem?_eq_some_iff.1 hd').1
        exact hC.rel i _ d' (by simp [Array.getD_eq_getD_getElem?, hi]) hd')
      refine ⟨g1, e1, i1, .agg _ _ (by rw [hC.size, n1]) hC.one fun i u y hu hy => ?_⟩
      have := r1 i y hy
      simpa [Array.getD_eq_getD_getElem?, hu] using this
    · rename_i ds
      split at h <;> cases h
      rename_i xs hfl
      cases hd with
      | tup vs cs hl hr =>
      obtain ⟨g1, e1, i1, n1, r1⟩ := freezeL_ok ih ds st xs st' g (fun i => vs.getD i undef) hfl hI (fun i d' hd' => by
        have hi : i < vs.size := by rw [hl]; exact (List.getElem?_eq_some_iff.1 hd').1
        exact hr i _ d' (by simp [Array.getD_eq_getD_getElem?, hi]) hd')
      refine ⟨g1, e1, i1, .tup _ _ (by rw [hl, n1]) fun i u y hu hy => ?_⟩
      have := r1 i y hy
      simpa [Array.getD_eq_getD_getElem?, hu] using this
    · cases h

theorem freeze_ok {d : D} {st : Sites} {x : V} {st' : Sites} {g : Gh} {v : Value} (h : freeze d st = some (x, st')) (hI : Inv z g w st) (hd : RelD w g v d) : ∃ g', Ext g w g' w ∧ Inv z g' w st' ∧ RelV w g'.S v x := freezeN_ok 30 h hI hd

end
end Go.BI
