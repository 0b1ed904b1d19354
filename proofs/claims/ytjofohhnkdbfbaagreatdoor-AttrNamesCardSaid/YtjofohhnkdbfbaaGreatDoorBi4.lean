/- B IS RIGHT, fourth part: regions whose order is drawn; the whole. Conditions: none. -/
import Derived.Test.YtjofohhnkdbfbaaGreatDoorBi3
import Derived.OrdersIn
/- DRAWN REGIONS, first part: what an effect hangs on. -/
set_option linter.unusedVariables false
set_option linter.unusedSimpArgs false
namespace Go.BI
open Go Go.RowKit

/-! ### Equal data -/
theorem eqL_sound {α : Type} {f : α → α → Bool} (hf : ∀ x y, f x y = true → x = y) : ∀ (xs ys : List α), eqL f xs ys = true → xs = ys := by
  intro xs
  induction xs with
  | nil => intro ys h; cases ys with
    | nil => rfl
    | cons _ _ => simp [eqL] at h
  | cons x xs ih =>
    intro ys h
    cases ys with
    | nil => simp [eqL] at h
    | cons y ys =>
      simp only [eqL] at h
      split at h
      · rename_i hxy
        rw [hf x y hxy, ih ys h]
      · cases h

theorem nbeq {a b : Nat} (h : Nat.beq a b = true) : a = b := Nat.eq_of_beq_eq_true h

theorem eqV_sound : ∀ (n : Nat) (x y : V), eqV n x y = true → x = y := by
  intro n
  induction n with
  | zero => intro x y h; simp [eqV] at h
  | succ n ih =>
    intro x y h
    have hL := eqL_sound (f := eqV n) ih
    cases x <;> cases y <;> simp only [eqV, Bool.and_eq_true, decide_eq_true_eq, beq_iff_eq, Bool.false_eq_true] at h <;> try rfl
    · rw [h]
    · rw [h.1, h.2]
    · rw [h]
    · rw [nbeq h.1, ih _ _ h.2]
    · rw [h.1.1, nbeq h.1.2, hL _ _ h.2]
    · rw [hL _ _ h]
    · rw [hL _ _ h]

theorem eqDN_sound : ∀ (n : Nat) (x y : D), eqDN n x y = true → x = y := by
  intro n
  induction n with
  | zero => intro x y h; simp [eqDN] at h
  | succ n ih =>
    intro x y h
    have hL := eqL_sound (f := eqDN n) ih
    have hV := eqL_sound (f := eqV 40) (eqV_sound 40)
    cases x <;> cases y <;> simp only [eqDN, Bool.and_eq_true, beq_iff_eq, Bool.false_eq_true] at h <;> try rfl
    · rw [eqV_sound _ _ _ h]
    · rw [nbeq h.1.1, nbeq h.1.2, nbeq h.2]
    · rw [h.1, hV _ _ h.2]
    · rw [nbeq h.1.1.1.1, nbeq h.1.1.1.2, nbeq h.1.1.2, nbeq h.1.2, nbeq h.2]
    · rw [h.1.1, nbeq h.1.2, hV _ _ h.2]
    · rw [nbeq h.1.1, hL _ _ h.1.2, hL _ _ h.2]
    · rw [nbeq h.1, nbeq h.2]
    · rw [nbeq h.1, nbeq h.2]
    · rw [hL _ _ h]
    · rw [hL _ _ h]

/-! ### Operands -/
section
variable {G : Nat → List V} {env env2 : E}

theorem mapEv_congr : ∀ {l : List Operand}, (∀ x ∈ l, ev G env2 x = ev G env x) → mapEv G env2 l = mapEv G env l := by
  intro l
  induction l with
  | nil => intro _; rfl
  | cons x r ih => intro h; simp only [mapEv]; rw [h x (by simp), ih fun y hy => h y (by simp [hy])]

theorem evParts_congr : ∀ {l : List (Nat × Operand)}, (∀ p ∈ l, ev G env2 p.2 = ev G env p.2) → evParts G env2 l = evParts G env l := by
  intro l
  induction l with
  | nil => intro _; rfl
  | cons x r ih => intro h; obtain ⟨i, x⟩ := x; simp only [evParts]; rw [h (i, x) (by simp), ih fun y hy => h y (by simp [hy])]

theorem freezeParts_congr : ∀ {l : List (Nat × Operand)} {st : Sites}, (∀ p ∈ l, ev G env2 p.2 = ev G env p.2) → freezeParts G env2 l st = freezeParts G env l st := by
  intro l
  induction l with
  | nil => intro st _; rfl
  | cons x r ih =>
    intro st h
    obtain ⟨i, x⟩ := x
    have h2 : ∀ st, freezeParts G env2 r st = freezeParts G env r st := fun st => ih fun y hy => h y (by simp [hy])
    have hx : ev G env2 x = ev G env x := h (i, x) (by simp)
    simp only [freezeParts, hx, h2]

theorem optEv_congr {o : Option Operand} (h : ∀ x, o = some x → ev G env2 x = ev G env x) : optEv G env2 o = optEv G env o := by
  cases o with
  | none => rfl
  | some x => simp only [optEv]; rw [h x rfl]
end

theorem opEff_env {par : Par} {fb : Nat} {o : Oper} {env env2 : E} {st : Sites} (hx : ∀ x ∈ o.op.operands.toList, ev par.G env2 x = ev par.G env x) : opEff par fb o env2 st = opEff par fb o env st := by
  unfold opEff
  cases ho : o.op <;> simp only [ho, Op.operands] at hx ⊢ <;> try rfl
  case move x => simp only [opCopy, hx x (by simp)]
  case assign x => simp only [opCopy, hx x (by simp)]
  case pick c a b => simp only [opPick, opCopy, hx c (by simp), hx a (by simp), hx b (by simp)]
  case box e x => simp only [opBox, hx x (by simp)]
  case build t parts =>
    have : evParts par.G env2 parts.toList = evParts par.G env parts.toList := evParts_congr fun p hp => hx p.2 (by simp; exact ⟨p.1, by simpa using hp⟩)
    simp only [opBuild, this]
  case load t x => simp only [opLoad, hx x (by simp)]
  case store t x y => simp only [opStore, hx x (by simp), hx y (by simp)]
  case nilCheck x => simp only [opNil, hx x (by simp)]
  case binOp op t x y _ => simp only [opBin, hx x (by simp), hx y (by simp)]
  case unOp op t x => simp only [opUn, hx x (by simp)]
  case convert a b x => simp only [opConv, hx x (by simp)]
  case makeInterface t x => simp only [opIface, hx x (by simp)]
  case makeFunc fn a b =>
    have h1 : mapEv par.G env2 a.toList = mapEv par.G env a.toList := mapEv_congr fun x hx' => hx x (by simp; exact .inl (by simpa using hx'))
    have h2 : mapEv par.G env2 b.toList = mapEv par.G env b.toList := mapEv_congr fun x hx' => hx x (by simp; exact .inr (by simpa using hx'))
    simp only [opFunc, h1, h2]
  case makeSlice t x y => simp only [opMake, hx x (by simp), hx y (by simp)]
  case slice t x lo hi mx =>
    have h1 : optEv par.G env2 lo = optEv par.G env lo := optEv_congr fun y hy => hx y (by subst hy; simp)
    have h2 : optEv par.G env2 hi = optEv par.G env hi := optEv_congr fun y hy => hx y (by subst hy; simp)
    have h3 : optEv par.G env2 mx = optEv par.G env mx := optEv_congr fun y hy => hx y (by subst hy; simp)
    simp only [opSlice, h1, h2, h3, hx x (by simp)]
  case fieldAddr t x f => simp only [opFieldAddr, hx x (by simp)]
  case field t x f => simp only [opField, hx x (by simp)]
  case indexAddr t x y => simp only [opIndexAddr, hx x (by simp), hx y (by simp)]
  case index t x y => simp only [opIndex, hx x (by simp), hx y (by simp)]
  case range t x => simp only [opRange, hx x (by simp)]
  case next it q => cases q <;> simp only [opNext, hx it (by simp)]
  case extract t i => simp only [opExtract, hx t (by simp)]
  case call c =>
    have h1 : mapEv par.G env2 c.args.toList = mapEv par.G env c.args.toList := mapEv_congr fun x hx' => hx x (by simp [Call.operands]; exact .inr (by simpa using hx'))
    simp only [opBuiltin, h1]

/-! ### Sites -/
section
variable {st st2 : Sites}

theorem look_local {s ver : Nat} (h : getR st2 s = getR st s) : look st2 s ver = look st s ver := by simp only [look, h]
theorem lookBox_local {s ver : Nat} (h : getR st2 s = getR st s) : lookBox st2 s ver = lookBox st s ver := by simp only [lookBox, look_local h]
theorem verS_local {s : Nat} (h : getR st2 s = getR st s) : verS st2 s = verS st s := by simp only [verS, h]

theorem srcCells_local {x : D} {l : List V} {rd : List Nat} (h : srcCells st x = some (l, rd)) (hr : ∀ s ∈ rd, getR st2 s = getR st s) : srcCells st2 x = some (l, rd) := by
  unfold srcCells at h ⊢
  split
  · exact h
  · exact h
  · exact h
  · rename_i s ver sz off len
    try simp only at h
    split at h
    · rename_i ty cs fz hl
      split at h
      · rename_i hc
        split at h <;> cases h
        rename_i ha
        rw [lookBox_local (hr s (by simp)), hl]
        simp [hc, ha]
      · cases h
    · cases h
  · rename_i h1 h2 h3 h4
    split at h
    · exact absurd rfl (h1 _ _ _)
    · exact absurd rfl (h2 _ _ _)
    · exact absurd rfl (h3 _)
    · exact absurd rfl (h4 _ _ _ _ _)
    · cases h

theorem appSrc_local {T : Tys} {e : TypeId} {zs : Bool} {zv : V} {x : D} {n : Nat} {l : List V} {rd : List Nat} (h : appSrc T e zs zv x st = some (n, l, rd)) (hr : ∀ s ∈ rd, getR st2 s = getR st s) : appSrc T e zs zv x st2 = some (n, l, rd) := by
  unfold appSrc at h ⊢
  cases zs with
  | true => exact h
  | false =>
    simp only at h ⊢
    split at h
    · rename_i m l' rd' hm hl
      split at h <;> cases h
      rename_i hc
      rw [srcCells_local hl hr, hm]
      simp [hc]
    · cases h

theorem appTo_local {T : Tys} {e : TypeId} {site : Nat} {s : D} {n : Nat} {new : List V} {rd : List Nat} {r : Eff} (h : appTo T e site s n new rd st = some r) (hr : ∀ s ∈ r.rd, getR st2 s = getR st s) : appTo T e site s n new rd st2 = some r := by
  have new_ : ∀ {len : Nat} {old : List V}, appNew T e site len n old new rd st = some r → appNew T e site len n old new rd st2 = some r := by
    intro len old h
    unfold appNew at h ⊢
    split at h <;> cases h
    rename_i hc
    rw [if_pos hc, verS_local (hr site (by simp))]
  unfold appTo at h ⊢
  split
  · simp only at h
    split at h
    · rename_i h0; rw [if_pos h0]; exact h
    · rename_i h0; rw [if_neg h0]; exact new_ h
  · rename_i hne
    split at h <;> simp_all
  · simp only at h
    split at h
    · rename_i h0; rw [if_pos h0]; exact h
    · rename_i h0; rw [if_neg h0]; exact new_ h
  · rename_i a ver sz' off len
    try simp only at h
    split at h
    · rename_i h0; rw [if_pos h0]; exact h
    · rename_i h0
      rw [if_neg h0]
      split at h
      · rename_i hz
        rw [if_pos hz]
        split at h
        · rename_i ty cs fz hl
          split at h <;> cases h
          rename_i hc
          rw [lookBox_local (hr a (by simp)), hl]
          try simp only
          rw [if_pos hc]
        · cases h
      · cases h
  · rename_i h1 h2 h3 h4
    split at h
    · exact absurd rfl (h1 _)
    · exact absurd rfl (h2 _ _ _)
    · exact absurd rfl (h3 _ _ _)
    · exact absurd rfl (h4 _ _ _ _ _)
    · cases h

theorem appTo_rd {T : Tys} {e : TypeId} {site : Nat} {s : D} {n : Nat} {new : List V} {rd : List Nat} {r : Eff} (h : appTo T e site s n new rd st = some r) : ∀ x ∈ rd, x ∈ r.rd := by
  have new_ : ∀ {len : Nat} {old : List V}, appNew T e site len n old new rd st = some r → ∀ x ∈ rd, x ∈ r.rd := by
    intro len old h
    unfold appNew at h
    split at h <;> cases h
    intro x hx
    simp [hx]
  unfold appTo at h
  split at h
  · split at h
    · cases h; exact fun x hx => hx
    · exact new_ h
  · split at h <;> cases h
    exact fun x hx => hx
  · split at h
    · cases h; exact fun x hx => hx
    · exact new_ h
  · split at h
    · cases h; exact fun x hx => hx
    · split at h
      · split at h
        · split at h <;> cases h
          intro x hx
          simp [hx]
        · cases h
      · cases h
  · cases h

theorem append_local {T : Tys} {argTypes : Array TypeId} {site : Nat} {s x : D} {r : Eff} (h : effAppend T argTypes site s x st = some r) (hr : ∀ s ∈ r.rd, getR st2 s = getR st s) : effAppend T argTypes site s x st2 = some r := by
  unfold effAppend at h ⊢
  split at h
  · rename_i t xt ht hxt
    try rw [ht, hxt]
    try simp only
    split at h
    · rename_i e k hu hk
      try rw [hu, hk]
      try simp only
      split at h
      · rename_i zv hz
        try rw [hz]
        try simp only
        split at h
        · cases h
        · rename_i hc
          rw [if_neg hc]
          split at h
          · rename_i n new rd hs
            rw [appSrc_local hs fun q hq => hr q (appTo_rd h q hq)]
            exact appTo_local h hr
          · cases h
      · cases h
    · cases h
  · cases h

theorem copyTo_local {sz m : Nat} {l : List V} {rd : List Nat} {dst : D} {r : Eff} (h : copyTo sz m l rd dst st = some r) (hr : ∀ s ∈ r.rd, getR st2 s = getR st s) : copyTo sz m l rd dst st2 = some r ∧ ∀ x ∈ rd, x ∈ r.rd := by
  unfold copyTo at h ⊢
  split
  · rename_i a ver sz' off len
    try simp only at h
    split at h
    · rename_i h0; rw [if_pos h0]; cases h; exact ⟨rfl, fun x hx => hx⟩
    · rename_i h0
      rw [if_neg h0]
      split at h
      · rename_i hz
        rw [if_pos hz]
        split at h
        · rename_i ty cs fz hl
          split at h <;> cases h
          rename_i hc
          rw [lookBox_local (hr a (by simp)), hl]
          try simp only
          rw [if_pos hc]
          exact ⟨rfl, fun x hx => by simp [hx]⟩
        · cases h
      · cases h
  · simp only at h; cases h; exact ⟨rfl, fun x hx => hx⟩
  · simp only at h; cases h; exact ⟨rfl, fun x hx => hx⟩
  · rename_i h1 h2 h3
    split at h
    · exact absurd rfl (h1 _ _ _ _ _)
    · exact absurd rfl (h2 _ _)
    · exact absurd rfl (h3 _ _)
    · cases h

theorem copy_local {T : Tys} {argTypes : Array TypeId} {d s : D} {r : Eff} (h : effCopy T argTypes d s st = some r) (hr : ∀ s ∈ r.rd, getR st2 s = getR st s) : effCopy T argTypes d s st2 = some r := by
  unfold effCopy at h ⊢
  split at h
  · rename_i t ht
    try rw [ht]
    try simp only
    split at h
    · rename_i e hu
      try rw [hu]
      try simp only
      split at h
      · cases h
      · rename_i hc
        rw [if_neg hc]
        split at h
        · rename_i m l rd hm hl
          split at h
          · rename_i hlen
            obtain ⟨q1, q2⟩ := copyTo_local h hr
            rw [hm, srcCells_local hl fun q hq => hr q (q2 q hq)]
            try simp only
            rw [if_pos hlen]
            exact q1
          · cases h
        · cases h
    · cases h
  · cases h

theorem strAt_local {T : Tys} {argTypes : Array TypeId} {s ver off : Nat} {n : Int} {r : Eff} (h : strAt T argTypes s ver off n st = some r) (hr : ∀ s ∈ r.rd, getR st2 s = getR st s) : strAt T argTypes s ver off n st2 = some r := by
  unfold strAt at h ⊢
  split at h
  · rename_i pt hpt
    try rw [hpt]
    try simp only
    split at h
    · rename_i e hu
      try rw [hu]
      try simp only
      split at h
      · rename_i ty cs fz hl
        split at h
        · rename_i hc
          split at h
          · rename_i l hal
            split at h <;> cases h
            rename_i bs hbs
            rw [lookBox_local (hr s (by simp)), hl]
            try simp only
            rw [if_pos hc, hal]
            simp only [hbs]
          · cases h
        · cases h
      · cases h
    · cases h
  · cases h

theorem bytesOf_local {x : D} {b : List UInt8} {rd : List Nat} (h : bytesOf st x = some (b, rd)) (hr : ∀ s ∈ rd, getR st2 s = getR st s) : bytesOf st2 x = some (b, rd) := by
  unfold bytesOf at h ⊢
  split
  · exact h
  · exact h
  · rename_i s ver sz off len
    try simp only at h
    split at h
    · rename_i l rd' hl
      split at h
      · rename_i hc
        split at h <;> cases h
        rename_i hb
        rw [srcCells_local hl hr]
        try simp only
        rw [if_pos hc]
        simp [hb]
      · cases h
    · cases h
  · rename_i h1 h2 h3
    split at h
    · exact absurd rfl (h1 _ _ _)
    · exact absurd rfl (h2 _ _ _)
    · exact absurd rfl (h3 _ _ _ _ _)
    · cases h

theorem convUnsafe_local {T : Tys} {src dst : TypeDesc} {x : D} {r : Eff} (h : convUnsafe T st src dst x = some r) (hr : ∀ s ∈ r.rd, getR st2 s = getR st s) : convUnsafe T st2 src dst x = some r := by
  unfold convUnsafe at h ⊢
  split at h
  · try simp only
    split at h
    · rename_i s ver off
      try simp only
      split at h
      · rename_i ty cs fz hl
        split at h <;> cases h
        rename_i hc
        rw [lookBox_local (hr s (by simp)), hl]
        try simp only
        rw [if_pos hc]
      · cases h
    · cases h
  · try simp only
    split at h
    · rename_i u s ver off
      try simp only
      split at h
      · rename_i ty cs fz hl
        split at h <;> cases h
        rename_i hc
        rw [lookBox_local (hr s (by simp)), hl]
        try simp only
        rw [if_pos hc]
      · cases h
    · cases h
  · cases h

theorem convD_local {T : Tys} {src dst : TypeDesc} {x : D} {r : Eff} (h : convD T st src dst x = some r) (hr : ∀ s ∈ r.rd, getR st2 s = getR st s) : convD T st2 src dst x = some r := by
  unfold convD at h ⊢
  split
  · exact h
  · exact h
  · exact convUnsafe_local h hr
  · rename_i h1 h2 h3
    split at h
    · exact absurd rfl (h1 _ _)
    · exact absurd rfl (h2 _)
    · exact absurd rfl (h3 _ _ _)
    · split at h
      · try simp only
        split at h
        · rename_i hb
          rw [if_pos hb]
          split at h <;> cases h
          rename_i b rd hbo
          rw [bytesOf_local hbo hr]
        · cases h
      · cases h

theorem sliceArr_local {T : Tys} {n : Nat} {e : TypeId} {d : D} {lo hi mx : Option D} {r : Eff} (h : sliceArr T st n e d lo hi mx = some r) (hr : ∀ s ∈ r.rd, getR st2 s = getR st s) : sliceArr T st2 n e d lo hi mx = some r := by
  unfold sliceArr at h ⊢
  split at h
  · cases h
  · rename_i hc
    rw [if_neg hc]
    split at h
    · rename_i l hh m hb
      try rw [hb]
      try simp only
      split at h
      · rename_i s ver off
        try simp only
        split at h
        · rename_i ty cs fz hl
          split at h <;> cases h
          rename_i hc2
          rw [lookBox_local (hr s (by simp)), hl]
          try simp only
          rw [if_pos hc2]
        · cases h
      · exact h
      · cases h
    · cases h

theorem slice_local {par : Par} {env : E} {t : TypeId} {x : Operand} {lo hi mx : Option Operand} {r : Eff} (h : opSlice par env st t x lo hi mx = some r) (hr : ∀ s ∈ r.rd, getR st2 s = getR st s) : opSlice par env st2 t x lo hi mx = some r := by
  unfold opSlice at h ⊢
  split at h
  · rename_i d l hh m hx hlo hhi hmx
    try rw [hx, hlo, hhi, hmx]
    try simp only
    split at h
    · exact h
    · exact h
    · exact sliceArr_local h hr
    · try simp only
      split at h
      · exact sliceArr_local h hr
      · cases h
    · cases h
  · cases h

theorem newBox_local {s : Nat} {e : TypeId} {cs : List D} (hr : ∀ x ∈ (newBox st s e cs).rd, getR st2 x = getR st x) : newBox st2 s e cs = newBox st s e cs := by
  unfold newBox
  rw [verS_local (hr s (by simp [newBox]))]

theorem builtin_local {par : Par} {fb : Nat} {dst : Option Tmp} {env : E} {b : Builtin} {args : List Operand} {argTypes : Array TypeId} {r : Eff} (h : opBuiltin par fb dst env st b args argTypes = some r) (hr : ∀ s ∈ r.rd, getR st2 s = getR st s) :
    opBuiltin par fb dst env st2 b args argTypes = some r := by
  unfold opBuiltin at h ⊢
  split at h
  · rename_i l hl
    try rw [hl]
    try simp only
    unfold effBuiltin at h ⊢
    split
    · exact h
    · exact h
    · exact h
    · exact h
    · simp only at h
      split at h
      · exact append_local h hr
      · cases h
    · exact copy_local h hr
    · exact h
    · simp only at h
      split at h
      · rename_i h0
        rw [if_pos h0]
        exact h
      · rename_i h0
        rw [if_neg h0]
        split at h
        · exact strAt_local h hr
        · cases h
    · rename_i q1 q2 q3 q4 q5 q6 q7 q8
      split at h
      · exact absurd rfl (q1 _ rfl)
      · exact absurd rfl (q2 _ rfl)
      · exact absurd rfl (q3 _ _ _ _ rfl)
      · exact absurd rfl (q4 _ _ _ _ rfl)
      · exact absurd rfl (q5 _ _ rfl)
      · exact absurd rfl (q6 _ _ rfl)
      · exact absurd rfl (q7 _ rfl)
      · exact absurd rfl (q8 _ _ _ rfl)
      · cases h
  · cases h

/-- What an effect does hangs on the sites that it looks at. -/
theorem opEff_local {par : Par} {fb : Nat} {o : Oper} {env : E} {r : Eff} (h : opEff par fb o env st = some r) (hr : ∀ s ∈ r.rd, getR st2 s = getR st s) : opEff par fb o env st2 = some r := by
  unfold opEff at h ⊢
  cases ho : o.op <;> simp only [ho] at h ⊢ <;> try exact h
  case load t x =>
    unfold opLoad at h ⊢
    split at h
    · rename_i s ver off hx
      try rw [hx]
      try simp only
      split at h
      · rename_i ty cs fz hl
        split at h <;> cases h
        rename_i hp
        rw [lookBox_local (hr s (by simp)), hl]
        simp only [hp]
      · cases h
    · rename_i k cs hx
      try rw [hx]
      exact h
    · cases h
  case store t x y =>
    unfold opStore at h ⊢
    split at h
    · rename_i s ver off d hx hy
      try rw [hx, hy]
      try simp only
      split at h
      · rename_i ty cs fz hl
        split at h <;> cases h
        rename_i hc
        rw [lookBox_local (hr s (by simp)), hl]
        try simp only
        rw [if_pos hc]
      · cases h
    · cases h
  case alloc e =>
    unfold opAlloc at h ⊢
    split at h
    · rename_i zv t hz hd
      try rw [hz, hd]
      try simp only
      split at h <;> cases h
      rename_i hc
      rw [if_pos hc, newBox_local hr]
    · cases h
  case box e x =>
    unfold opBox at h ⊢
    split at h
    · rename_i d t hz hd
      try rw [hz, hd]
      try simp only
      split at h <;> cases h
      rename_i hc
      rw [if_pos hc, newBox_local hr]
    · cases h
  case convert s d x =>
    unfold opConv at h ⊢
    split at h
    · rename_i x' s' t' h1 h2 h3
      try rw [h1, h2, h3]
      exact convD_local h hr
    · cases h
  case makeSlice t l c =>
    unfold opMake at h ⊢
    split at h
    · rename_i e k n k' m dst hu h1 h2 hd
      try rw [hu, h1, h2, hd]
      try simp only
      split at h
      · rename_i zv hz
        try rw [hz]
        try simp only
        split at h <;> cases h
        rename_i hc
        rw [if_pos hc, verS_local (hr _ (by simp))]
      · cases h
    · cases h
  case slice t x lo hi mx => exact slice_local h hr
  case range t x =>
    unfold opRange at h ⊢
    split at h
    · rename_i s dst h1 hd hu
      try rw [h1, hd, hu]
      try simp only
      cases h
      rw [verS_local (hr _ (by simp))]
    · cases h
  case next it q =>
    cases q with
    | false => cases h
    | true =>
    simp only at h ⊢
    unfold opNext at h ⊢
    split at h
    · rename_i s ver hx
      try rw [hx]
      try simp only
      split at h
      · rename_i b pos hl
        have hs : getR st2 s = getR st s := by
          split at h <;> cases h <;> exact hr s (by simp)
        rw [look_local hs, hl]
        exact h
      · cases h
    · cases h
  case call c =>
    cases hc : c.callee with
    | builtin b => simp only [hc] at h ⊢; exact builtin_local h hr
    | value f => simp only [hc] at h; cases h
    | invoke r m => simp only [hc] at h; cases h

end
end Go.BI
/- DRAWN REGIONS, second part: what an operation did; which stand ahead of which. -/
set_option linter.unusedVariables false
set_option linter.unusedSimpArgs false
namespace Go.BI
open Go Go.RowKit

/-! ### Calls and lists that do not hang on the store -/
def shutD : D → D
  | .full nl sz xs => .v (.slice nl sz xs)
  | d => d

theorem argsC_data {T : Tys} : ∀ (ds : List D) (ts : List TypeId) (st : Sites), ds.all isData = true → argsC T ts ds st = some (ds.map shutD, st) := by
  intro ds
  induction ds with
  | nil => intro ts st _; rfl
  | cons d r ih =>
    intro ts st h
    simp only [List.all_cons, Bool.and_eq_true] at h
    obtain ⟨h1, h2⟩ := h
    have ha : argC T ts.head? d st = some (shutD d, st) := by
      cases d <;> simp only [isData, Bool.false_eq_true] at h1
      · rfl
      · rfl
      · rfl
      · simp only [argC, h1, if_true, shutD]
    simp only [argsC, ha, ih ts.tail st h2, List.map_cons]

theorem pureCall_any {par : Par} {run : Run} {fd : D} {ds : List D} {st st' : St} {d : D} (h : callD par run fd ds st = some (d, st')) (hp : pureCall par fd ds = true) :
    st' = st ∧ ∀ s2, callD par run fd ds ⟨s2, st.top, st.low⟩ = some (d, ⟨s2, st.top, st.low⟩) := by
  unfold pureCall at hp
  split at hp
  · rename_i f first caps
    simp only [Bool.and_eq_true] at hp
    obtain ⟨hk, hd⟩ := hp
    have key : ∀ (st1 : St), callF par run f (first ++ ds ++ caps) st1 = (match callC par run f ((first ++ ds ++ caps).map shutD) with | some x => some (.v x, ⟨st1.sites, st1.top, st1.low⟩) | none => none) := by
      intro st1
      unfold callF
      cases hs : par.spec f <;> simp only [hs, shutK, Bool.false_eq_true] at hk
      · simp only [argsC_data _ _ _ hd]; rfl
      · simp only [argsC_data _ _ _ hd]; rfl
    simp only [callD, key] at h ⊢
    split at h <;> cases h
    rename_i x hx
    exact ⟨rfl, fun s2 => rfl⟩
  · cases hp

theorem freezeParts_pure {G : Nat → List V} {env : E} : ∀ (l : List (Nat × Operand)), pureParts G env l = true → ∃ ps, ∀ st, freezeParts G env l st = some (ps, st) := by
  intro l
  induction l with
  | nil => intro _; exact ⟨[], fun _ => rfl⟩
  | cons p r ih =>
    intro h
    obtain ⟨i, x⟩ := p
    simp only [pureParts, List.all_cons, Bool.and_eq_true] at h
    obtain ⟨h1, h2⟩ := h
    obtain ⟨ps, hps⟩ := ih h2
    split at h1
    · rename_i d hd
      refine ⟨(i, d) :: ps, fun st => ?_⟩
      simp only [Bool.not_eq_true'] at h1
      simp only [freezeParts, hd, h1, hps, Bool.false_eq_true, if_false]
    · cases h1

theorem pureParts_any {par : Par} {env : E} {t : TypeId} {len : Nat} {parts : List (Nat × Operand)} {st st' : St} {d : D} (h : opList par env st t len parts = some (d, st')) (hp : pureParts par.G env parts = true) :
    st' = st ∧ ∀ s2, opList par env ⟨s2, st.top, st.low⟩ t len parts = some (d, ⟨s2, st.top, st.low⟩) := by
  obtain ⟨ps, hps⟩ := freezeParts_pure parts hp
  unfold opList bigSlice at h ⊢
  simp only [hps, fD_eq] at h ⊢
  split at h
  · rename_i d' sites hb
    cases h
    split at hb
    · rename_i e hu
      split at hb
      · cases hb
      · rename_i hc
        split at hb
        · rename_i zv ps' st1 hz hq
          cases hq
          split at hb
          · cases hb
          · rename_i ho
            split at hb
            · rename_i cs hf
              split at hb <;> cases hb
              rename_i l hl
              refine ⟨rfl, fun s2 => ?_⟩
              simp only [if_neg hc, hz, if_neg ho, hf, hl]
            · cases hb
        · cases hb
    · cases hb
  · cases h

/-! ### What an operation did -/
inductive DidOk (par : Par) (run : Run) (fb : Nat) (o : Oper) (env : E) (st st' : St) (d : D) : Did → Prop
  | pure : st' = st → (∀ s2, opStep par run fb o env ⟨s2, st.top, st.low⟩ = some (d, ⟨s2, st.top, st.low⟩)) → DidOk par run fb o env st st' d .pure
  | eff (e : Eff) : opK o = .eff → opEff par fb o env st.sites = some e → withEff (some e) st = some (d, st') → DidOk par run fb o env st st' d (.eff e o env)
  | bar : opStep par run fb o env st = some (d, st') → DidOk par run fb o env st st' d (.bar st.sites st'.sites)

theorem doOp_ok {par : Par} {run : Run} {fb : Nat} {o : Oper} {env : E} {st st' : St} {d : D} {did : Did} (h : doOp par run fb o env st = some (did, d, st')) : DidOk par run fb o env st st' d did := by
  unfold doOp at h
  split at h
  · rename_i hk
    split at h
    · rename_i e he
      split at h <;> cases h
      rename_i hw
      unfold didEff
      split
      · rename_i hrd hwr
        have hs : st' = st := by
          unfold withEff at hw
          simp only [fD_eq, hwr] at hw
          cases hw
          rfl
        refine .pure hs fun s2 => ?_
        have he2 : opEff par fb o env s2 = some e := opEff_local he (by rw [hrd]; simp)
        simp only [opStep, hk, he2]
        unfold withEff at hw ⊢
        simp only [fD_eq, hwr] at hw ⊢
        cases hw
        rfl
      · exact .eff e hk he hw
    · cases h
  · rename_i f args hk
    split at h
    · rename_i fd ds hf hds
      split at h <;> cases h
      rename_i hc
      have hst : opStep par run fb o env st = some (d, st') := by simp only [opStep, hk, withCall, hf, hds, hc]
      split
      · rename_i hp
        obtain ⟨h1, h2⟩ := pureCall_any hc hp
        refine .pure h1 fun s2 => ?_
        simp only [opStep, hk, withCall, hf, hds, h2]
      · exact .bar hst
    · cases h
  · rename_i t len parts hk
    split at h <;> cases h
    rename_i hc
    have hst : opStep par run fb o env st = some (d, st') := by simp only [opStep, hk, hc]
    split
    · rename_i hp
      obtain ⟨h1, h2⟩ := pureParts_any hc hp
      refine .pure h1 fun s2 => ?_
      simp only [opStep, hk, h2]
    · exact .bar hst

/-! ### The trace -/
/-- One operation's step in the order of the text. -/
def StepAt (par : Par) (run : Run) (fb : Nat) (all : List Oper) (o : Oper) (env : E) (st st' : St) (d : D) (did : Did) : Prop :=
  (wantedB all o env = some true ∧ DidOk par run fb o env st st' d did) ∨ (wantedB all o env = some false ∧ d = .v (.tup []) ∧ st' = st ∧ did = .pure)

theorem traceOps_spec {par : Par} {run : Run} {fb : Nat} {all : List Oper} : ∀ (rest : List Oper) (env : E) (st : St) (l : List Did) (env' : E) (st' : St), traceOps par run fb all rest env st = some (l, env', st') →
    l.length = rest.length ∧ ∃ (En : Nat → E) (Sn : Nat → St) (dn : Nat → D), En 0 = env ∧ Sn 0 = st ∧ En rest.length = env' ∧ Sn rest.length = st' ∧
      ∀ (i : Nat) o did, rest[i]? = some o → l[i]? = some did → En (i + 1) = put (En i) o.dst (dn i) ∧ StepAt par run fb all o (En i) (Sn i) (Sn (i + 1)) (dn i) did := by
  intro rest
  induction rest with
  | nil =>
    intro env st l env' st' h
    simp only [traceOps] at h
    cases h
    exact ⟨rfl, fun _ => env, fun _ => st, fun _ => .v .undef, rfl, rfl, rfl, rfl, fun i o did ho => by simp at ho⟩
  | cons o r ih =>
    intro env st l env' st' h
    have go : ∀ {d : D} {st1 : St} {did : Did} {l' : List Did}, traceOps par run fb all r (put env o.dst d) st1 = some (l', env', st') → l = did :: l' → StepAt par run fb all o env st st1 d did →
        l.length = (o :: r).length ∧ ∃ (En : Nat → E) (Sn : Nat → St) (dn : Nat → D), En 0 = env ∧ Sn 0 = st ∧ En (o :: r).length = env' ∧ Sn (o :: r).length = st' ∧
          ∀ (i : Nat) o' did', (o :: r)[i]? = some o' → l[i]? = some did' → En (i + 1) = put (En i) o'.dst (dn i) ∧ StepAt par run fb all o' (En i) (Sn i) (Sn (i + 1)) (dn i) did' := by
      intro d st1 did l' ht hl hs
      subst hl
      obtain ⟨h1, En, Sn, dn, e1, e2, e3, e4, e5⟩ := ih _ _ _ _ _ ht
      refine ⟨by simp [h1], fun i => match i with | 0 => env | i + 1 => En i, fun i => match i with | 0 => st | i + 1 => Sn i, fun i => match i with | 0 => d | i + 1 => dn i, rfl, rfl, e3, e4, fun i o' did' ho' hd' => ?_⟩
      cases i with
      | zero =>
        simp at ho' hd'
        subst ho' hd'
        exact ⟨e1, by simp only [e2]; exact hs⟩
      | succ i => exact e5 i o' did' (by simpa using ho') (by simpa using hd')
    simp only [traceOps] at h
    split at h
    · rename_i hw
      split at h
      · rename_i did d st1 hd
        rw [fPut_eq] at h
        split at h <;> cases h
        rename_i l' ht
        exact go ht rfl (.inl ⟨hw, doOp_ok hd⟩)
      · cases h
    · rename_i hw
      rw [fPut_eq] at h
      split at h <;> cases h
      rename_i l' ht
      exact go ht rfl (.inr ⟨hw, rfl, rfl, rfl⟩)
    · cases h

/-! ### Which stand ahead of which -/
theorem maskOf_bit {acc : List Nat} {o : Oper} {i : Nat} (h : (maskOf acc o).testBit i = true) : ∃ e ∈ o.after.toList, Region.binds .any e = true ∧ (i = e.on ∨ (acc.getD e.on 0).testBit i = true) := by
  unfold maskOf at h
  have key : ∀ (l : List Edge) (s : Nat), ((l.foldl (fun s e => if Region.binds .any e then s ||| 2 ^ e.on ||| acc.getD e.on 0 else s) s).testBit i = true) → s.testBit i = true ∨ ∃ e ∈ l, Region.binds .any e = true ∧ (i = e.on ∨ (acc.getD e.on 0).testBit i = true) := by
    intro l
    induction l with
    | nil => intro s h; exact .inl h
    | cons e l ih =>
      intro s h
      simp only [List.foldl_cons] at h
      rcases ih _ h with h1 | ⟨e', h1, h2⟩
      · split at h1
        · rename_i hb
          simp only [Nat.testBit_or, Bool.or_eq_true, Nat.testBit_two_pow, decide_eq_true_eq] at h1
          rcases h1 with (h1 | h1) | h1
          · exact .inl h1
          · exact .inr ⟨e, by simp, hb, .inl h1.symm⟩
          · exact .inr ⟨e, by simp, hb, .inr h1⟩
        · exact .inl h1
      · exact .inr ⟨e', by simp [h1], h2⟩
  rcases key _ _ h with h1 | h1
  · simp at h1
  · exact h1

theorem befM_get (ops : List Oper) : (befM ops).length = ops.length ∧ ∀ (j : Nat) o, ops[j]? = some o → (befM ops).getD j 0 = maskOf ((befM ops).take j) o := by
  have key : ∀ (l : List Oper) (init : List Nat), (l.foldl (fun acc o => acc ++ [maskOf acc o]) init).length = init.length + l.length ∧ (l.foldl (fun acc o => acc ++ [maskOf acc o]) init).take init.length = init ∧
      ∀ (k : Nat) o, l[k]? = some o → (l.foldl (fun acc o => acc ++ [maskOf acc o]) init)[init.length + k]? = some (maskOf ((l.foldl (fun acc o => acc ++ [maskOf acc o]) init).take (init.length + k)) o) := by
    intro l
    induction l with
    | nil => intro init; simp
    | cons o l ih =>
      intro init
      obtain ⟨h1, h2, h3⟩ := ih (init ++ [maskOf init o])
      simp only [List.foldl_cons]
      generalize l.foldl (fun acc o => acc ++ [maskOf acc o]) (init ++ [maskOf init o]) = R at h1 h2 h3 ⊢
      simp only [List.length_append, List.length_singleton] at h1 h2 h3
      have hin : R.take init.length = init := by
        have := congrArg (List.take init.length) h2
        rwa [List.take_take, Nat.min_eq_left (by omega), List.take_left] at this
      refine ⟨by simp only [List.length_cons]; omega, hin, fun k o' ho' => ?_⟩
      cases k with
      | zero =>
        simp at ho'
        subst ho'
        have := congrArg (fun l => l[init.length]?) h2
        simp only [List.getElem?_take_of_lt (Nat.lt_succ_self _), List.getElem?_concat_length] at this
        rw [Nat.add_zero, hin]
        exact this
      | succ k =>
        have := h3 k o' (by simpa using ho')
        rwa [show init.length + 1 + k = init.length + (k + 1) from by omega] at this
  obtain ⟨h1, _, h3⟩ := key ops []
  refine ⟨by simpa [befM] using h1, fun j o ho => ?_⟩
  have := h3 j o ho
  simp only [List.length_nil, Nat.zero_add] at this
  unfold befM
  rw [List.getD_eq_getElem?_getD, this]
  rfl

/-- The pairs that may not change places. -/
theorem badGo_spec {par : Par} {fb : Nat} : ∀ (ds : List Did) (prev : List (Nat × Did)) (k : Nat),
    (∀ p ∈ prev, ∀ (m : Nat) d, ds[m]? = some d → apart par fb p.2 d = true ∨ (p.1, k + m) ∈ badGo par fb prev k ds) ∧
    (∀ (i j : Nat) di dj, i < j → ds[i]? = some di → ds[j]? = some dj → apart par fb di dj = true ∨ (k + i, k + j) ∈ badGo par fb prev k ds) := by
  intro ds
  induction ds with
  | nil => intro prev k; exact ⟨fun p _ m d h => by simp at h, fun i j di dj _ h => by simp at h⟩
  | cons d ds ih =>
    intro prev k
    by_cases hp : d = .pure
    · subst hp
      obtain ⟨h1, h2⟩ := ih prev (k + 1)
      simp only [badGo]
      refine ⟨fun p hp m d' hd' => ?_, fun i j di dj hij hi hj => ?_⟩
      · cases m with
        | zero =>
          simp at hd'
          subst hd'
          left
          unfold apart
          split <;> simp_all
        | succ m =>
          have := h1 p hp m d' (by simpa using hd')
          rwa [show k + 1 + m = k + (m + 1) from by omega] at this
      · cases i with
        | zero =>
          simp at hi
          subst hi
          exact .inl rfl
        | succ i =>
          cases j with
          | zero => omega
          | succ j =>
            have := h2 i j di dj (by omega) (by simpa using hi) (by simpa using hj)
            rwa [show k + 1 + i = k + (i + 1) from by omega, show k + 1 + j = k + (j + 1) from by omega] at this
    · obtain ⟨h1, h2⟩ := ih ((k, d) :: prev) (k + 1)
      have hb : badGo par fb prev k (d :: ds) = (prev.filterMap fun p => if apart par fb p.2 d then none else some (p.1, k)) ++ badGo par fb ((k, d) :: prev) (k + 1) ds := by
        cases d with
        | pure => exact absurd rfl hp
        | eff e o env => rfl
        | bar a b => rfl
      rw [hb]
      refine ⟨fun p hp m d' hd' => ?_, fun i j di dj hij hi hj => ?_⟩
      · cases m with
        | zero =>
          simp at hd'
          subst hd'
          cases ha : apart par fb p.2 d with
          | true => exact .inl rfl
          | false =>
            right
            rw [List.mem_append]
            left
            rw [List.mem_filterMap]
            exact ⟨p, hp, by simp [ha]⟩
        | succ m =>
          have := h1 p (by simp [hp]) m d' (by simpa using hd')
          rw [show k + 1 + m = k + (m + 1) from by omega] at this
          exact this.imp id fun h => List.mem_append.2 (.inr h)
      · cases i with
        | zero =>
          simp at hi
          subst hi
          cases j with
          | zero => omega
          | succ j =>
            have := h1 (k, d) (by simp) j dj (by simpa using hj)
            rw [show k + 1 + j = k + (j + 1) from by omega] at this
            exact this.imp id fun h => List.mem_append.2 (.inr h)
        | succ i =>
          cases j with
          | zero => omega
          | succ j =>
            have := h2 i j di dj (by omega) (by simpa using hi) (by simpa using hj)
            rw [show k + 1 + i = k + (i + 1) from by omega, show k + 1 + j = k + (j + 1) from by omega] at this
            exact this.imp id fun h => List.mem_append.2 (.inr h)

theorem inOrder_spec {ops : List Oper} {l : List (Nat × Nat)} (h : inOrder ops l = true) : ∀ p ∈ l, ((befM ops).getD p.2 0).testBit p.1 = true := by
  unfold inOrder at h
  split at h
  · intro p hp; simp at hp
  · rw [List.all_eq_true] at h
    exact h

end Go.BI
/- SOUNDNESS OF 'B', thirty-third part: regions whose order is drawn. -/
set_option linter.unusedVariables false
set_option linter.unusedSimpArgs false
namespace Go.BI
open Go Go.RowKit

/-- The invariant hangs on what stands at each site. -/
theorem Inv.sites {z : Base} {g : Gh} {w : World} {st st2 : Sites} (hI : Inv z g w st) (h : ∀ s, getR st2 s = getR st s) : Inv z g w st2 :=
  ⟨fun s r o hr ho => hI.site s r o (by rw [← h]; exact hr) ho, fun s s' r r' o o' x x' hr hr' => hI.apart s s' r r' o o' x x' (by rw [← h]; exact hr) (by rw [← h]; exact hr'),
   fun s v x hx => (let ⟨r, h1, h2⟩ := hI.ver s v x hx; ⟨r, by rw [h]; exact h1, h2⟩), hI.old, hI.keep, hI.os, hI.tape, hI.output, hI.size, hI.S, hI.N, hI.has⟩

theorem RelE.congr {w : World} {g : Gh} {tmps : Array Value} {env env2 : E} (hE : RelE w g tmps env) (h : ∀ t, getO env2 t = getO env t) : RelE w g tmps env2 := fun t => (let ⟨d, e1, e2⟩ := hE t; ⟨d, by rw [h]; exact e1, e2⟩)

def dstAt (ops : Array Oper) (i : Nat) : Option Tmp := (ops[i]?).bind (·.dst)
def msk (ops : Array Oper) (j : Nat) : Nat := (befM ops.toList).getD j 0

/-- A region's run in the order of its text, and which of its operations may change places. -/
structure TrOk (par : Par) (run : Run) (fb : Nat) (ops : Array Oper) (En : Nat → E) (Sn : Nat → St) (dn : Nat → D) (did : Nat → Did) : Prop where
  step : ∀ i o, ops[i]? = some o → En (i + 1) = put (En i) o.dst (dn i) ∧ StepAt par run fb ops.toList o (En i) (Sn i) (Sn (i + 1)) (dn i) (did i)
  pair : ∀ i j, i < j → j < ops.size → (msk ops j).testBit i = true ∨ apart par fb (did i) (did j) = true
  name : ∀ i j oi oj, i < j → ops[i]? = some oi → ops[j]? = some oj → (msk ops j).testBit i = true ∨ namesApart ops.toList oi oj = true
  small : ∀ i t, dstAt ops i = some t → t < 4000

section
variable {par : Par} {run : Run} {fb : Nat} {ops : Array Oper} {En : Nat → E} {Sn : Nat → St} {dn : Nat → D} {did : Nat → Did} {X : Nat → Bool}

def valE (ops : Array Oper) (e0 : E) (dn : Nat → D) (X : Nat → Bool) : Nat → Nat → Option D
  | 0, t => getO e0 t
  | k + 1, t => if X k = true ∧ dstAt ops k = some t then some (dn k) else valE ops e0 dn X k t

def valS (s0 : Sites) (did : Nat → Did) (X : Nat → Bool) : Nat → Nat → Option Rec
  | 0, s => getR s0 s
  | k + 1, s => if X k = true then (match did k with
      | .bar _ b => getR b s
      | .eff e _ _ => (match e.wr with | some (s', r) => if s = s' then some r else valS s0 did X k s | none => valS s0 did X k s)
      | .pure => valS s0 did X k s) else valS s0 did X k s

theorem getO_put {env : E} {dst : Option Tmp} {d : D} (h4 : ∀ t, dst = some t → t < 4000) (t : Nat) : getO (put env dst d) t = if dst = some t then some d else getO env t := by
  cases dst with
  | none => simp [put]
  | some t' =>
    simp only [put]
    rw [getO_putE _ _ _ _ (h4 t' rfl)]
    by_cases h : t = t'
    · subst h; simp
    · rw [if_neg h, if_neg (by simpa using Ne.symm h)]

theorem TrOk.dst (H : TrOk par run fb ops En Sn dn did) {i : Nat} {o : Oper} (ho : ops[i]? = some o) : dstAt ops i = o.dst := by simp [dstAt, ho]

theorem TrOk.getE (H : TrOk par run fb ops En Sn dn did) {i : Nat} (hi : i < ops.size) (t : Nat) : getO (En (i + 1)) t = if dstAt ops i = some t then some (dn i) else getO (En i) t := by
  have ho : ops[i]? = some ops[i] := by simp [hi]
  rw [(H.step i _ ho).1, H.dst ho]
  exact getO_put (fun t ht => H.small i t (by rw [H.dst ho]; exact ht)) t

theorem TrOk.getS (H : TrOk par run fb ops En Sn dn did) {i : Nat} (hi : i < ops.size) (s : Nat) : getR (Sn (i + 1)).sites s = (match did i with
      | .bar _ b => getR b s
      | .eff e _ _ => (match e.wr with | some (s', r) => if s = s' then some r else getR (Sn i).sites s | none => getR (Sn i).sites s)
      | .pure => getR (Sn i).sites s) := by
  have ho : ops[i]? = some ops[i] := by simp [hi]
  rcases (H.step i _ ho).2 with ⟨_, h⟩ | ⟨_, _, h1, h2⟩
  · generalize did i = di at h ⊢
    cases h with
    | pure h1 h2 => rw [h1]
    | eff e h1 h2 h3 =>
      obtain ⟨r, q1, q2, q3, q4⟩ := withEff_ok h3
      cases q1
      rw [q4]
      cases hw : e.wr with
      | none => simp only [hw]; rfl
      | some p =>
        obtain ⟨s', r⟩ := p
        have := q3 _ hw
        simp only [setO, hw]
        rw [getR_setS _ _ _ _ this]
    | bar h1 => rfl
  · rw [h1, h2]

theorem valE_full (H : TrOk par run fb ops En Sn dn did) : ∀ k, k ≤ ops.size → (∀ j, j < k → X j = true) → ∀ t, valE ops (En 0) dn X k t = getO (En k) t := by
  intro k
  induction k with
  | zero => intro _ _ t; rfl
  | succ k ih =>
    intro hk hX t
    simp only [valE]
    rw [H.getE (by omega), ih (by omega) (fun j hj => hX j (by omega))]
    simp [hX k (by omega)]

theorem valS_full (H : TrOk par run fb ops En Sn dn did) : ∀ k, k ≤ ops.size → (∀ j, j < k → X j = true) → ∀ s, valS (Sn 0).sites did X k s = getR (Sn k).sites s := by
  intro k
  induction k with
  | zero => intro _ _ s; rfl
  | succ k ih =>
    intro hk hX s
    simp only [valS]
    rw [H.getS (by omega), if_pos (hX k (by omega))]
    simp only [ih (by omega) (fun j hj => hX j (by omega))]

/-- What has been done stands together; 'i' is next. -/
structure NextAt (ops : Array Oper) (X : Nat → Bool) (i : Nat) : Prop where
  lt : i < ops.size
  new : X i = false
  low : ∀ j, j < i → X j = false → (msk ops i).testBit j = false
  high : ∀ j, i < j → X j = true → (msk ops j).testBit i = false
  dc : ∀ j k, X j = true → (msk ops j).testBit k = true → X k = true

theorem namesApart_spec {l : List Oper} {a b : Oper} (h : namesApart l a b = true) : (∀ t, a.dst = some t → t ∉ tmpsOf l b ∧ b.dst ≠ some t) ∧ (∀ t, b.dst = some t → t ∉ tmpsOf l a ∧ a.dst ≠ some t) := by
  unfold namesApart at h
  rw [Bool.and_eq_true] at h
  obtain ⟨h1, h2⟩ := h
  have nb : ∀ {t : Nat} {ts : List Nat}, (!(ts.any (Nat.beq t))) = true → t ∉ ts := by
    intro t ts h hm
    simp only [Bool.not_eq_true', List.any_eq_false] at h
    exact h t hm (Nat.beq_refl t)
  refine ⟨fun t ht => ?_, fun t ht => ?_⟩
  · rw [ht] at h1
    simp only [Bool.and_eq_true] at h1
    refine ⟨nb h1.1, fun hb => ?_⟩
    rw [hb] at h1
    simp at h1
  · rw [ht] at h2
    simp only at h2
    refine ⟨nb h2, fun ha => ?_⟩
    rw [ha, ht] at h1
    simp at h1

theorem hits_no {w : Option (Nat × Rec)} {e : Eff} (h : hits w e = false) {s : Nat} {r : Rec} (hw : w = some (s, r)) : s ∉ e.rd ∧ ∀ s' r', e.wr = some (s', r') → s ≠ s' := by
  unfold hits at h
  rw [hw] at h
  simp only [Bool.or_eq_false_iff] at h
  refine ⟨fun hm => ?_, fun s' r' hs' => ?_⟩
  · have := h.1
    rw [List.any_eq_false] at this
    exact this s hm (Nat.beq_refl s)
  · have := h.2
    rw [hs'] at this
    simp only at this
    rintro rfl
    rw [Nat.beq_refl] at this
    cases this

section
variable {i : Nat} (H : TrOk par run fb ops En Sn dn did) (hN : NextAt ops X i)
include H hN

theorem NextAt.names {j : Nat} {oi oj : Oper} (hoi : ops[i]? = some oi) (hoj : ops[j]? = some oj) (hne : j ≠ i) (hj : (j < i ∧ X j = false) ∨ (i < j ∧ X j = true)) :
    (∀ t, oj.dst = some t → t ∉ tmpsOf ops.toList oi ∧ oi.dst ≠ some t) := by
  rcases hj with ⟨h1, h2⟩ | ⟨h1, h2⟩
  · rcases H.name j i oj oi h1 hoj hoi with h | h
    · rw [hN.low j h1 h2] at h; cases h
    · exact (namesApart_spec h).1
  · rcases H.name i j oi oj h1 hoi hoj with h | h
    · rw [hN.high j h1 h2] at h; cases h
    · exact (namesApart_spec h).2

/-- What an operation sees of the temporaries is what it saw in the order of the text. -/
theorem NextAt.sees {oi : Oper} (hoi : ops[i]? = some oi) {t : Nat} (ht : t ∈ tmpsOf ops.toList oi) : valE ops (En 0) dn X ops.size t = getO (En i) t := by
  have low : ∀ k, k ≤ i → valE ops (En 0) dn X k t = getO (En k) t := by
    intro k
    induction k with
    | zero => intro _; rfl
    | succ k ih =>
      intro hk
      simp only [valE]
      have hks : k < ops.size := by have := hN.lt; omega
      have hok : ops[k]? = some ops[k] := by simp [hks]
      rw [H.getE hks, ih (by omega)]
      cases hX : X k with
      | true => simp
      | false =>
        have := NextAt.names H hN hoi hok (by omega) (.inl ⟨by omega, hX⟩)
        rw [if_neg (by simp), if_neg]
        intro hd
        rw [H.dst hok] at hd
        exact (this t hd).1 ht
  have high : ∀ m, i + m ≤ ops.size → valE ops (En 0) dn X (i + m) t = getO (En i) t := by
    intro m
    induction m with
    | zero => intro _; exact low i (Nat.le_refl _)
    | succ m ih =>
      intro hk
      rw [← Nat.add_assoc]
      simp only [valE]
      rw [ih (by omega), if_neg]
      rintro ⟨h1, h2⟩
      by_cases hm : m = 0
      · subst hm
        rw [Nat.add_zero, hN.new] at h1
        cases h1
      · have hks : i + m < ops.size := by omega
        have hok : ops[i + m]? = some ops[i + m] := by simp [hks]
        have := NextAt.names H hN hoi hok (by omega) (.inr ⟨by omega, h1⟩)
        rw [H.dst hok] at h2
        exact (this t h2).1 ht
  have := high (ops.size - i) (by have := hN.lt; omega)
  rwa [show i + (ops.size - i) = ops.size from by have := hN.lt; omega] at this

/-- One more is done: the temporaries. -/
theorem NextAt.putE {t : Nat} : valE ops (En 0) dn (fun j => if j = i then true else X j) ops.size t = if dstAt ops i = some t then some (dn i) else valE ops (En 0) dn X ops.size t := by
  have key : ∀ k, k ≤ ops.size → valE ops (En 0) dn (fun j => if j = i then true else X j) k t = if i < k ∧ dstAt ops i = some t then some (dn i) else valE ops (En 0) dn X k t := by
    intro k
    induction k with
    | zero => intro _; rw [if_neg (by omega)]; rfl
    | succ k ih =>
      intro hk
      simp only [valE]
      rw [ih (by omega)]
      by_cases hki : k = i
      · subst hki
        simp only [if_true, true_and, hN.new, Bool.false_eq_true, false_and, if_false, Nat.lt_irrefl, Nat.lt_succ_self]
      · simp only [if_neg hki]
        by_cases hX : X k = true ∧ dstAt ops k = some t
        · rw [if_pos hX, if_pos hX, if_neg]
          rintro ⟨h1, h2⟩
          have hks : k < ops.size := by omega
          have hok : ops[k]? = some ops[k] := by simp [hks]
          have hoi : ops[i]? = some (ops[i]'hN.lt) := by simp [hN.lt]
          have := NextAt.names H hN hoi hok hki (.inr ⟨by omega, hX.1⟩)
          rw [H.dst hok] at hX
          rw [H.dst hoi] at h2
          exact (this t hX.2).2 h2
        · rw [if_neg hX, if_neg hX]
          by_cases h1 : i < k
          · simp [h1, show i < k + 1 from by omega]
          · rw [if_neg (by omega), if_neg (by omega)]
  rw [key _ (Nat.le_refl _)]
  simp [hN.lt]

/-- May an operation that is out of its place change it with 'i'? -/
theorem NextAt.apartL {j : Nat} (h1 : j < i) (h2 : X j = false) : apart par fb (did j) (did i) = true := by
  rcases H.pair j i h1 hN.lt with h | h
  · rw [hN.low j h1 h2] at h; cases h
  · exact h

theorem NextAt.apartR {j : Nat} (h1 : i < j) (hj : j < ops.size) (h2 : X j = true) : apart par fb (did i) (did j) = true := by
  rcases H.pair i j h1 hj with h | h
  · rw [hN.high j h1 h2] at h; cases h
  · exact h

/-- Where whatever turned the store ahead of 'i' is done, and nothing behind: the store is that of the text. -/
theorem NextAt.storeBar {a b : Sites} (hb : did i = .bar a b) (s : Nat) : valS (Sn 0).sites did X ops.size s = getR (Sn i).sites s := by
  have low : ∀ k, k ≤ i → valS (Sn 0).sites did X k s = getR (Sn k).sites s := by
    intro k
    induction k with
    | zero => intro _; rfl
    | succ k ih =>
      intro hk
      simp only [valS]
      have hks : k < ops.size := by have := hN.lt; omega
      rw [H.getS hks, ih (by omega)]
      cases hX : X k with
      | true => rfl
      | false =>
        rw [if_neg (by simp)]
        have := NextAt.apartL H hN (j := k) (by omega) hX
        rw [hb] at this
        cases hd : did k with
        | pure => rfl
        | eff e o env =>
          rw [hd] at this
          simp only [apart, effBar, Bool.and_eq_true, Option.isNone_iff_eq_none] at this
          simp only [this.1.1]
        | bar a' b' => rw [hd] at this; simp [apart] at this
  have high : ∀ m, i + m ≤ ops.size → valS (Sn 0).sites did X (i + m) s = getR (Sn i).sites s := by
    intro m
    induction m with
    | zero => intro _; exact low i (Nat.le_refl _)
    | succ m ih =>
      intro hk
      rw [← Nat.add_assoc]
      simp only [valS]
      rw [ih (by omega)]
      cases hX : X (i + m) with
      | false => rfl
      | true =>
        rw [if_pos rfl]
        by_cases hm : m = 0
        · subst hm
          rw [Nat.add_zero, hN.new] at hX
          cases hX
        · have := NextAt.apartR H hN (j := i + m) (by omega) (by omega) hX
          rw [hb] at this
          cases hd : did (i + m) with
          | pure => rfl
          | eff e o env =>
            rw [hd] at this
            simp only [apart, effBar, Bool.and_eq_true, Option.isNone_iff_eq_none] at this
            simp only [this.1.1]
          | bar a' b' => rw [hd] at this; simp [apart] at this
  have := high (ops.size - i) (by have := hN.lt; omega)
  rwa [show i + (ops.size - i) = ops.size from by have := hN.lt; omega] at this

/-- From a place 'p' in the text on (where the store is known), what the next one looks at is not turned, if no barrier stands between. -/
theorem NextAt.same {e : Eff} {o : Oper} {env : E} (he : did i = .eff e o env) {s : Nat} (hs : s ∈ e.rd) {p : Nat} {v : Option Rec} (hv : valS (Sn 0).sites did X p s = v)
    (hbar : ∀ j, p ≤ j → j < ops.size → X j = true → ∀ a b, did j ≠ .bar a b) (hmid : ∀ j, p ≤ j → j < i → X j = true → ∀ e' o' env', did j = .eff e' o' env' → ∀ r, e'.wr ≠ some (s, r)) : ∀ m, p + m ≤ ops.size → valS (Sn 0).sites did X (p + m) s = v := by
  intro m
  induction m with
  | zero => intro _; exact hv
  | succ m ih =>
    intro hk
    rw [← Nat.add_assoc]
    simp only [valS]
    rw [ih (by omega)]
    cases hX : X (p + m) with
    | false => rfl
    | true =>
      rw [if_pos rfl]
      cases hd : did (p + m) with
      | pure => rfl
      | bar a b => exact absurd hd (hbar (p + m) (by omega) (by omega) hX a b)
      | eff e' o' env' =>
        simp only
        cases hw : e'.wr with
        | none => rfl
        | some q =>
          obtain ⟨s', r⟩ := q
          simp only
          rw [if_neg]
          rintro rfl
          by_cases hlt : p + m < i
          · exact hmid (p + m) (by omega) hlt hX e' o' env' hd r hw
          · by_cases heq : p + m = i
            · rw [heq, hN.new] at hX; cases hX
            · have := NextAt.apartR H hN (j := p + m) (by omega) (by omega) hX
              rw [he, hd] at this
              simp only [apart, Bool.and_eq_true, Bool.not_eq_true'] at this
              exact (hits_no this.2 hw).1 hs

/-- The same effect, over the store as it stands. -/
theorem NextAt.effOk {e : Eff} {o : Oper} {env : E} (he : did i = .eff e o env) (ho : opEff par fb o env (Sn i).sites = some e) {stc : Sites} (hst : ∀ s, getR stc s = valS (Sn 0).sites did X ops.size s) :
    opEff par fb o env stc = some e := by
  have hi := hN.lt
  -- from a place on
  have from_ : ∀ (p : Nat) (st : Sites), p ≤ ops.size → opEff par fb o env st = some e → (∀ s ∈ e.rd, valS (Sn 0).sites did X p s = getR st s) → (∀ j, p ≤ j → j < ops.size → X j = true → ∀ a b, did j ≠ .bar a b) →
      (∀ s ∈ e.rd, ∀ j, p ≤ j → j < i → X j = true → ∀ e' o' env', did j = .eff e' o' env' → ∀ r, e'.wr ≠ some (s, r)) → opEff par fb o env stc = some e := by
    intro p st hp h1 h2 h3 h4
    refine opEff_local h1 fun s hs => ?_
    rw [hst]
    have := NextAt.same H hN he hs (h2 s hs) h3 (h4 s hs) (ops.size - p) (by omega)
    rwa [show p + (ops.size - p) = ops.size from by omega] at this
  -- a barrier that is out of its place
  have cross : ∀ {a b : Sites}, effBar par fb e o env a b = true → e.wr = none ∧ opEff par fb o env a = some e ∧ opEff par fb o env b = some e := by
    intro a b h
    simp only [effBar, Bool.and_eq_true, Option.isNone_iff_eq_none] at h
    obtain ⟨⟨h1, h2⟩, h3⟩ := h
    have one : ∀ {st : Sites}, same1 par fb e o env st = true → opEff par fb o env st = some e := by
      intro st h
      unfold same1 at h
      split at h
      · rename_i e' he'
        simp only [Bool.and_eq_true, Option.isNone_iff_eq_none] at h
        obtain ⟨⟨q1, q2⟩, q3⟩ := h
        rw [he']
        have r1 := eqDN_sound _ _ _ q1
        have r3 := eqL_sound (fun x y h => nbeq h) _ _ q3
        obtain ⟨d', w', r'⟩ := e'
        obtain ⟨d, w, r⟩ := e
        simp only at q2 h1 r1 r3
        subst q2 h1 r1 r3
        rfl
      · cases h
    exact ⟨h1, one h2, one h3⟩
  -- the last barrier that is done, if there is one
  have last : ∀ k, k ≤ ops.size → (∃ p, p < k ∧ X p = true ∧ (∃ a b, did p = .bar a b) ∧ ∀ j, p < j → j < k → X j = true → ∀ a b, did j ≠ .bar a b) ∨ (∀ j, j < k → X j = true → ∀ a b, did j ≠ .bar a b) := by
    intro k
    induction k with
    | zero => intro _; exact .inr fun j hj => by omega
    | succ k ih =>
      intro hk
      by_cases hb : X k = true ∧ ∃ a b, did k = .bar a b
      · exact .inl ⟨k, Nat.lt_succ_self _, hb.1, hb.2, fun j h1 h2 => by omega⟩
      · have hb' : X k = true → ∀ a b, did k ≠ .bar a b := fun hx a b hd => hb ⟨hx, a, b, hd⟩
        rcases ih (by omega) with ⟨p, q1, q2, q3, q4⟩ | q
        · refine .inl ⟨p, by omega, q2, q3, fun j h1 h2 hx => ?_⟩
          by_cases hj : j = k
          · subst hj; exact hb' hx
          · exact q4 j h1 (by omega) hx
        · refine .inr fun j h1 hx => ?_
          by_cases hj : j = k
          · subst hj; exact hb' hx
          · exact q j (by omega) hx
  -- the first barrier ahead of 'i' that is not done, from a place on
  have first : ∀ m p, p + m = i → (∃ q, p ≤ q ∧ q < i ∧ X q = false ∧ (∃ a b, did q = .bar a b) ∧ ∀ j, p ≤ j → j < q → X j = false → ∀ a b, did j ≠ .bar a b) ∨ (∀ j, p ≤ j → j < i → X j = false → ∀ a b, did j ≠ .bar a b) := by
    intro m
    induction m with
    | zero => intro p hp; exact .inr fun j h1 h2 => by omega
    | succ m ih =>
      intro p hp
      by_cases hb : X p = false ∧ ∃ a b, did p = .bar a b
      · exact .inl ⟨p, Nat.le_refl _, by omega, hb.1, hb.2, fun j h1 h2 => by omega⟩
      · have hb' : X p = false → ∀ a b, did p ≠ .bar a b := fun hx a b hd => hb ⟨hx, a, b, hd⟩
        rcases ih (p + 1) (by omega) with ⟨q, r1, r2, r3, r4, r5⟩ | r
        · refine .inl ⟨q, by omega, r2, r3, r4, fun j h1 h2 hx => ?_⟩
          by_cases hj : j = p
          · subst hj; exact hb' hx
          · exact r5 j (by omega) h2 hx
        · refine .inr fun j h1 h2 hx => ?_
          by_cases hj : j = p
          · subst hj; exact hb' hx
          · exact r j (by omega) h2 hx
  -- up to a place 'q' of the text, from a place 'p' at which the store is the text's: what 'i' looks at is the text's
  have upto : ∀ (p q : Nat), q ≤ i → (∀ s, valS (Sn 0).sites did X p s = getR (Sn p).sites s) → (∀ j, p ≤ j → j < q → X j = false → ∀ a b, did j ≠ .bar a b) → ∀ m, p + m ≤ q → ∀ s ∈ e.rd, valS (Sn 0).sites did X (p + m) s = getR (Sn (p + m)).sites s := by
    intro p q hq hp hb m
    induction m with
    | zero => intro _ s _; exact hp s
    | succ m ih =>
      intro hm s hs
      rw [← Nat.add_assoc]
      simp only [valS]
      rw [H.getS (by omega), ih (by omega) s hs]
      cases hX : X (p + m) with
      | true => rfl
      | false =>
        rw [if_neg (by simp)]
        have := NextAt.apartL H hN (j := p + m) (by omega) hX
        cases hd : did (p + m) with
        | pure => rfl
        | bar a b => exact absurd hd (hb (p + m) (by omega) (by omega) hX a b)
        | eff e' o' env' =>
          rw [hd, he] at this
          simp only [apart, Bool.and_eq_true, Bool.not_eq_true'] at this
          simp only
          cases hw : e'.wr with
          | none => rfl
          | some q =>
            obtain ⟨s', r⟩ := q
            simp only
            rw [if_neg]
            rintro rfl
            exact (hits_no this.1 hw).1 hs
  -- with a place 'p' ahead of 'i' from which on no barrier is done
  have main : ∀ (p : Nat), p ≤ i → (∀ s, valS (Sn 0).sites did X p s = getR (Sn p).sites s) → (∀ j, p ≤ j → j < ops.size → X j = true → ∀ a b, did j ≠ .bar a b) → opEff par fb o env stc = some e := by
    intro p hpi hp hnb
    rcases first (i - p) p (by omega) with ⟨q, r1, r2, r3, ⟨a, b, r4⟩, r5⟩ | r
    · -- a barrier at 'q' is not done: 'e' turns nothing, and does the same ahead of it
      have hap := NextAt.apartL H hN r2 r3
      rw [r4, he] at hap
      obtain ⟨c1, c2, _⟩ := cross (by simpa [apart] using hap)
      have ha : a = (Sn q).sites := by
        have hq : q < ops.size := by omega
        have hoq : ops[q]? = some ops[q] := by simp [hq]
        rcases (H.step q _ hoq).2 with ⟨_, hd⟩ | ⟨_, _, _, hd⟩
        · rw [r4] at hd
          cases hd
          rfl
        · rw [r4] at hd; cases hd
      rw [ha] at c2
      have noW : ∀ j, q ≤ j → j < i → X j = true → ∀ e' o' env', did j = .eff e' o' env' → e'.wr = none := by
        intro j h1 h2 h3 e' o' env' hd
        have hne : q ≠ j := by rintro rfl; rw [r3] at h3; cases h3
        rcases H.pair q j (by omega) (by omega) with hb | hb
        · rw [hN.dc j q h3 hb] at r3; cases r3
        · rw [r4, hd] at hb
          simp only [apart, effBar, Bool.and_eq_true, Option.isNone_iff_eq_none] at hb
          exact hb.1.1
      refine from_ q (Sn q).sites (by omega) c2 (fun s hs => ?_) (fun j h1 h2 h3 => hnb j (by omega) h2 h3) (fun s hs j h1 h2 h3 e' o' env' hd r => by rw [noW j h1 h2 h3 e' o' env' hd]; simp)
      have := upto p q (by omega) hp r5 (q - p) (by omega) s hs
      rwa [show p + (q - p) = q from by omega] at this
    · have := upto p i (Nat.le_refl _) hp r
      refine from_ i (Sn i).sites (by omega) ho (fun s hs => ?_) (fun j h1 h2 h3 => hnb j (by omega) h2 h3) (fun s hs j h1 h2 => by omega)
      have := this (i - p) (by omega) s hs
      rwa [show p + (i - p) = i from by omega] at this
  have atBar : ∀ {p : Nat} {a b : Sites}, X p = true → did p = .bar a b → ∀ s, valS (Sn 0).sites did X (p + 1) s = getR b s := by
    intro p a b hX hd s
    simp only [valS]
    rw [if_pos hX, hd]
  rcases last ops.size (Nat.le_refl _) with ⟨p, q1, q2, ⟨a, b, q3⟩, q4⟩ | q
  · by_cases hpi : p < i
    · refine main (p + 1) (by omega) (fun s => ?_) (fun j h1 h2 h3 => q4 j (by omega) h2 h3)
      rw [atBar q2 q3, H.getS q1, q3]
    · by_cases hpe : p = i
      · rw [hpe, hN.new] at q2; cases q2
      · have hap := NextAt.apartR H hN (j := p) (by omega) q1 q2
        rw [he, q3] at hap
        obtain ⟨_, _, c3⟩ := cross (by simpa [apart] using hap)
        exact from_ (p + 1) b (by omega) c3 (fun s _ => atBar q2 q3 s) (fun j h1 h2 h3 => q4 j (by omega) h2 h3) (fun s hs j h1 h2 => by omega)
  · exact main 0 (Nat.zero_le _) (fun s => rfl) (fun j _ h2 h3 => q j h2 h3)

end
end
end Go.BI
/- DRAWN REGIONS, third part: in whatever order, the same is done. -/
set_option linter.unusedVariables false
set_option linter.unusedSimpArgs false
namespace Go.BI
open Go Go.RowKit

section
variable {par : Par} {run : Run} {fb : Nat} {ops : Array Oper} {En : Nat → E} {Sn : Nat → St} {dn : Nat → D} {did : Nat → Did} {X : Nat → Bool} {i : Nat}

def updS (d : Did) (s : Nat) (v : Option Rec) : Option Rec :=
  match d with
  | .bar _ b => getR b s
  | .eff e _ _ => (match e.wr with | some (s', r) => if s = s' then some r else v | none => v)
  | .pure => v

/-- One more is done: the store. -/
theorem NextAt.putS (H : TrOk par run fb ops En Sn dn did) (hN : NextAt ops X i) (s : Nat) : valS (Sn 0).sites did (fun j => if j = i then true else X j) ops.size s = updS (did i) s (valS (Sn 0).sites did X ops.size s) := by
  have key : ∀ k, k ≤ ops.size → valS (Sn 0).sites did (fun j => if j = i then true else X j) k s = if i < k then updS (did i) s (valS (Sn 0).sites did X k s) else valS (Sn 0).sites did X k s := by
    intro k
    induction k with
    | zero => intro _; rw [if_neg (by omega)]; rfl
    | succ k ih =>
      intro hk
      have ih := ih (by omega)
      simp only [valS]
      by_cases hki : k = i
      · subst hki
        rw [if_neg (by omega)] at ih
        simp only [if_true, hN.new, Bool.false_eq_true, if_false, ih, Nat.lt_succ_self]
        cases hd : did k <;> rfl
      · simp only [if_neg hki]
        cases hX : X k with
        | false =>
          simp only [Bool.false_eq_true, if_false]
          rw [ih]
          by_cases h1 : i < k
          · rw [if_pos h1, if_pos (by omega)]
          · rw [if_neg h1, if_neg (by omega)]
        | true =>
          simp only [if_true]
          by_cases h1 : i < k
          · rw [if_pos h1] at ih
            rw [if_pos (by omega)]
            have hap := NextAt.apartR H hN h1 (by omega) hX
            cases hd : did k with
            | pure => exact ih
            | bar a b =>
              simp only
              rw [hd] at hap
              cases hdi : did i with
              | pure => rfl
              | bar a' b' => rw [hdi] at hap; simp [apart] at hap
              | eff e o env =>
                rw [hdi] at hap
                simp only [apart, effBar, Bool.and_eq_true, Option.isNone_iff_eq_none] at hap
                simp only [updS, hap.1.1]
            | eff e o env =>
              simp only
              cases hw : e.wr with
              | none => exact ih
              | some q =>
                obtain ⟨s', r⟩ := q
                simp only
                by_cases hs : s = s'
                · rw [if_pos hs, if_pos hs]
                  rw [hd] at hap
                  cases hdi : did i with
                  | pure => rfl
                  | bar a' b' =>
                    rw [hdi] at hap
                    simp only [apart, effBar, Bool.and_eq_true, Option.isNone_iff_eq_none] at hap
                    rw [hap.1.1] at hw
                    cases hw
                  | eff e' o' env' =>
                    rw [hdi] at hap
                    simp only [apart, Bool.and_eq_true, Bool.not_eq_true'] at hap
                    simp only [updS]
                    cases hw' : e'.wr with
                    | none => rfl
                    | some q' =>
                      obtain ⟨s2, r2⟩ := q'
                      simp only
                      rw [if_neg]
                      rintro rfl
                      exact (hits_no hap.1 hw').2 _ _ hw hs
                · rw [if_neg hs, if_neg hs]
                  exact ih
          · rw [if_neg h1] at ih
            rw [if_neg (by omega), ih]
  rw [key _ (Nat.le_refl _), if_pos hN.lt]

/-! ### What is ready -/
def isL (listed : Array Bool) (j : Nat) : Bool := listed.getD j false

theorem isL_set {listed : Array Bool} {i : Nat} (hi : i < listed.size) : isL (listed.setIfInBounds i true) = fun j => if j = i then true else isL listed j := by
  funext j
  unfold isL
  rw [Array.getD_eq_getD_getElem?, Array.getElem?_setIfInBounds, Array.getD_eq_getD_getElem?]
  by_cases h : i = j
  · subst h; simp [hi]
  · rw [if_neg h, if_neg (Ne.symm h)]

theorem ready_spec {md : Region.Mode} {listed : Array Bool} (hs : listed.size = ops.size) (h : i ∈ Region.ready md ops listed) :
    i < ops.size ∧ isL listed i = false ∧ ∃ o, ops[i]? = some o ∧ ∀ e ∈ o.after.toList, Region.binds md e = true → isL listed e.on = true := by
  unfold Region.ready at h
  rw [List.mem_filter, List.mem_range] at h
  obtain ⟨h1, h2⟩ := h
  rw [Bool.and_eq_true] at h2
  obtain ⟨h2, h3⟩ := h2
  have ho : ops[i]? = some ops[i] := by simp [h1]
  refine ⟨h1, ?_, _, ho, fun e he hb => ?_⟩
  · unfold isL
    have hl : i < listed.size := by omega
    simp only [Array.getD_eq_getD_getElem?, Array.getElem?_eq_getElem hl, Option.getD_some, Bool.not_eq_true'] at h2 ⊢
    exact h2
  · rw [ho] at h3
    simp only [Option.map_some, Option.getD_some] at h3
    rw [Array.all_eq_true_iff_forall_mem] at h3
    have := h3 e (by simpa using he)
    rw [hb] at this
    simpa [isL] using this

theorem binds_any {md : Region.Mode} {e : Edge} (h : Region.binds .any e = true) : Region.binds md e = true := by
  unfold Region.binds at *
  split at h <;> simp_all

/-- The state of what has been done, closed downwards. -/
def Down (ops : Array Oper) (X : Nat → Bool) : Prop := ∀ j k, X j = true → (msk ops j).testBit k = true → X k = true

theorem msk_bit {j k : Nat} {o : Oper} (ho : ops[j]? = some o) (h : (msk ops j).testBit k = true) : ∃ e ∈ o.after.toList, Region.binds .any e = true ∧ (k = e.on ∨ (msk ops e.on).testBit k = true) := by
  obtain ⟨h1, h2⟩ := befM_get ops.toList
  have hoj : ops.toList[j]? = some o := by simpa using ho
  unfold msk at h
  rw [h2 j o hoj] at h
  obtain ⟨e, e1, e2, e3⟩ := maskOf_bit h
  refine ⟨e, e1, e2, e3.imp id fun h3 => ?_⟩
  unfold msk
  rw [List.getD_eq_getElem?_getD] at h3 ⊢
  rw [List.getElem?_take] at h3
  split at h3
  · exact h3
  · simp at h3

theorem ready_next {md : Region.Mode} {listed : Array Bool} (hs : listed.size = ops.size) (hd : Down ops (isL listed)) (h : i ∈ Region.ready md ops listed) :
    NextAt ops (isL listed) i ∧ Down ops (fun j => if j = i then true else isL listed j) := by
  obtain ⟨h1, h2, o, ho, h3⟩ := ready_spec hs h
  have bits : ∀ k, (msk ops i).testBit k = true → isL listed k = true := by
    intro k hk
    obtain ⟨e, e1, e2, e3⟩ := msk_bit ho hk
    have hl := h3 e e1 (binds_any e2)
    rcases e3 with rfl | e3
    · exact hl
    · exact hd _ _ hl e3
  refine ⟨⟨h1, h2, fun j hj hx => ?_, fun j hj hx => ?_, hd⟩, fun j k hj hk => ?_⟩
  · cases hb : (msk ops i).testBit j with
    | false => rfl
    | true => rw [bits j hb] at hx; cases hx
  · cases hb : (msk ops j).testBit i with
    | false => rfl
    | true => rw [hd _ _ hx hb] at h2; cases h2
  · simp only at hj ⊢
    by_cases hki : k = i
    · simp [hki]
    · rw [if_neg hki]
      by_cases hji : j = i
      · rw [hji] at hk; exact bits k hk
      · rw [if_neg hji] at hj; exact hd _ _ hj hk

/-! ### Whatever stands ready is done in the end -/
def cnt (n : Nat) (listed : Array Bool) : Nat := ((List.range n).filter fun i => !isL listed i).length

theorem cnt_set {n : Nat} {listed : Array Bool} (hs : listed.size = n) (hi : i < n) (hx : isL listed i = false) : cnt n (listed.setIfInBounds i true) < cnt n listed := by
  unfold cnt
  rw [isL_set (by omega)]
  have : ((List.range n).filter fun j => !(if j = i then true else isL listed j)) = ((List.range n).filter fun j => !isL listed j).filter fun j => decide (j ≠ i) := by
    rw [List.filter_filter]
    congr 1
    funext j
    by_cases h : j = i <;> simp [h]
  rw [this, List.length_filter_lt_length_iff_exists]
  exact ⟨i, by rw [List.mem_filter]; exact ⟨by simpa using hi, by simp [hx]⟩, by simp⟩

theorem cnt_zero {n : Nat} {listed : Array Bool} (h : cnt n listed = 0) : ∀ i, i < n → isL listed i = true := by
  intro i hi
  unfold cnt at h
  rw [List.length_eq_zero_iff, List.filter_eq_nil_iff] at h
  simpa using h i (by simpa using hi)

theorem go_all {md : Region.Mode} {X : Array Bool} (hX : X.size = ops.size) (hr : Region.ready md ops X = []) : ∀ (fuel t : Nat) (listed : Array Bool) (acc : List Nat), listed.size = ops.size → (Region.linearise.go md ops fuel t listed acc).length = acc.length + fuel → cnt ops.size listed ≤ fuel →
    (∀ i, isL listed i = true → isL X i = true) → ∀ i, i < ops.size → isL X i = true := by
  intro fuel
  induction fuel with
  | zero =>
    intro t listed acc hs _ hc hsub i hi
    exact hsub i (cnt_zero (Nat.le_zero.1 hc) i hi)
  | succ fuel ih =>
    intro t listed acc hs hlen hc hsub i hi
    simp only [Region.linearise.go] at hlen
    change (match (Region.ready md ops listed)[t % (Region.ready md ops listed).length]? with
      | some i => Region.linearise.go md ops fuel (t / (Region.ready md ops listed).length) (listed.setIfInBounds i true) (i :: acc)
      | none => acc.reverse).length = _ at hlen
    split at hlen
    · rename_i k hk
      have hmem := List.mem_of_getElem? hk
      obtain ⟨h1, h2, o, ho, h3⟩ := ready_spec hs hmem
      have hkX : isL X k = true := by
        cases hx : isL X k with
        | true => rfl
        | false =>
          have : k ∈ Region.ready md ops X := by
            unfold Region.ready
            rw [List.mem_filter, List.mem_range]
            refine ⟨h1, ?_⟩
            rw [Bool.and_eq_true]
            constructor
            · unfold isL at hx
              have hl : k < X.size := by omega
              simp only [Array.getD_eq_getD_getElem?, Array.getElem?_eq_getElem hl, Option.getD_some, Bool.not_eq_true'] at hx ⊢
              exact hx
            · rw [ho]
              simp only [Option.map_some, Option.getD_some]
              rw [Array.all_eq_true_iff_forall_mem]
              intro e he
              cases hb : Region.binds md e with
              | false => rfl
              | true =>
                have := hsub _ (h3 e (by simpa using he) hb)
                simpa [isL] using this
          rw [hr] at this
          cases this
      refine ih _ (listed.setIfInBounds k true) (k :: acc) (by simpa using hs) (by rw [hlen]; simp; omega) ?_ (fun j hj => ?_) i hi
      · have := cnt_set hs h1 h2
        omega
      · rw [isL_set (by omega)] at hj
        simp only at hj
        by_cases hjk : j = k
        · rw [hjk]; exact hkX
        · rw [if_neg hjk] at hj; exact hsub j hj
    · rw [List.length_reverse] at hlen
      omega

theorem isL_none (n j : Nat) : isL (Array.replicate n false) j = false := by
  unfold isL
  rw [Array.getD_eq_getD_getElem?, Array.getElem?_replicate]
  split <;> rfl

theorem cnt_le (n : Nat) (listed : Array Bool) : cnt n listed ≤ n := by
  unfold cnt
  have := List.length_filter_le (fun i => !isL listed i) (List.range n)
  simpa using this

theorem withEff_any {e : Eff} {st st' : St} {d : D} (h : withEff (some e) st = some (d, st')) (st2 : St) : ∃ st3, withEff (some e) st2 = some (d, st3) ∧ st3.sites = setO st2.sites e.wr := by
  unfold withEff at h ⊢
  simp only [fD_eq] at h ⊢
  split at h
  · rename_i s r hw
    split at h
    · rename_i hb
      rw [fRec_eq, fSetS_eq] at h
      cases h
      simp only [hw, hb, fRec_eq, fSetS_eq]
      exact ⟨_, rfl, rfl⟩
    · cases h
  · rename_i hw
    cases h
    rw [hw]
    exact ⟨_, rfl, rfl⟩

theorem opStep_env {run : Run} {o : Oper} {env env2 : E} {st : St} (hx : ∀ x ∈ o.op.operands.toList, ev par.G env2 x = ev par.G env x) : opStep par run fb o env2 st = opStep par run fb o env st := by
  unfold opStep
  split
  · rw [opEff_env hx]
  · rename_i f args hk
    unfold opK at hk
    split at hk
    · rename_i c ho
      split at hk <;> cases hk
      rename_i hc
      rw [ho] at hx
      simp only [Op.operands, Call.operands, hc] at hx
      rw [hx f (by simp), mapEv_congr fun x hx' => hx x (by simp; exact .inr (by simpa using hx'))]
    · cases hk
    · cases hk
  · rename_i t len parts hk
    unfold opK at hk
    split at hk
    · split at hk <;> cases hk
    · rename_i ho
      cases hk
      rw [ho] at hx
      simp only [Op.operands] at hx
      unfold opList bigSlice
      rw [freezeParts_congr fun p hp => hx p.2 (by simp; exact ⟨p.1, by simpa using hp⟩)]
    · cases hk

theorem sees_ops {env env2 : E} {l : List Oper} {o : Oper} (h : ∀ t ∈ tmpsOf l o, getO env2 t = getO env t) : ∀ x ∈ o.op.operands.toList, ev par.G env2 x = ev par.G env x := by
  intro x hx
  cases x with
  | tmp t =>
    simp only [ev]
    refine h t ?_
    unfold tmpsOf
    rw [List.mem_append]
    left
    rw [List.mem_filterMap]
    exact ⟨_, hx, rfl⟩
  | const _ => rfl
  | global _ => rfl
  | func _ => rfl

theorem sees_guard {env env2 : E} {l : List Oper} {o : Oper} (h : ∀ t ∈ tmpsOf l o, getO env2 t = getO env t) : wantedB l o env2 = wantedB l o env := by
  unfold wantedB
  split
  · rfl
  · rename_i j want hg
    split
    · rename_i q hq
      split
      · rename_i t ht
        rw [h t]
        unfold tmpsOf
        rw [List.mem_append]
        right
        simp [hg, hq, ht]
      · rfl
    · rfl
end

section
variable {par : Par} {run : Run} {z : Base} {lo N : Nat} {ρ : Option Nat} {fb : Nat} {ops : Array Oper} {En : Nat → E} {Sn : Nat → St} {dn : Nat → D} {did : Nat → Did}

/-- Whatever the order, the same is done. -/
theorem sim (hP : ParOk par) (hR : RunOk par run) (H : TrOk par run fb ops En Sn dn did) (hok : ∀ o ∈ ops.toList, operOk N o = true) (h4 : N ≤ 4000) {md : Region.Mode} (hall : ∀ X : Array Bool, X.size = ops.size → Region.ready md ops X = [] → ∀ i, i < ops.size → isL X i = true)
    (g0 : Gh) (w0 : World) : ∀ (fuel : Nat) (X : Array Bool) (g : Gh) (w : World) (a : Act) (env : E) (st : Sites), X.size = ops.size → cnt ops.size X ≤ fuel → Down ops (isL X) → Ext g0 w0 g w → Fr par z lo g w st a env N →
      (∀ t, getO env t = valE ops (En 0) dn (isL X) ops.size t) → (∀ s, getR st s = valS (Sn 0).sites did (isL X) ops.size s) →
      wpAnyIn (fenceR ρ) 0 par.P md ops (Post par z lo g0 w0 N (En ops.size) (Sn ops.size).sites .normal) fuel X a w := by
  have final : ∀ (X : Array Bool) (g : Gh) (w : World) (a : Act) (env : E) (st : Sites), (∀ i, i < ops.size → isL X i = true) → Ext g0 w0 g w → Fr par z lo g w st a env N →
      (∀ t, getO env t = valE ops (En 0) dn (isL X) ops.size t) → (∀ s, getR st s = valS (Sn 0).sites did (isL X) ops.size s) → Post par z lo g0 w0 N (En ops.size) (Sn ops.size).sites .normal .normal a w := by
    intro X g w a env st hX hE hF he hs
    refine ⟨rfl, g, hE, hF.inv.sites fun s => ?_, hF.env.congr fun t => ?_, hF.glob, hF.size, hF.marks, hF.low⟩
    · rw [hs, valS_full H _ (Nat.le_refl _) hX]
    · rw [he, valE_full H _ (Nat.le_refl _) hX]
  intro fuel
  induction fuel with
  | zero =>
    intro X g w a env st hX hc hD hE hF he hs
    have hfull := cnt_zero (Nat.le_zero.1 hc)
    refine ⟨?_, final X g w a env st hfull hE hF he hs⟩
    cases hr : Region.ready md ops X with
    | nil => rfl
    | cons i l =>
      obtain ⟨h1, h2, _⟩ := ready_spec hX (by rw [hr]; simp : i ∈ Region.ready md ops X)
      rw [hfull i h1] at h2
      cases h2
  | succ fuel ih =>
    intro X g w a env st hX hc hD hE hF he hs
    refine ⟨fun hr => final X g w a env st (hall X hX hr) hE hF he hs, fun i hi => ?_⟩
    obtain ⟨hN, hD'⟩ := ready_next hX hD hi
    have hlt := hN.lt
    have ho : ops[i]? = some ops[i] := by simp [hlt]
    have hdst : ∀ t, ops[i].dst = some t → t < N := operOk_dst (hok _ (by simp))
    have hXs : isL (X.setIfInBounds i true) = fun j => if j = i then true else isL X j := isL_set (by omega)
    have hc' : cnt ops.size (X.setIfInBounds i true) ≤ fuel := by have := cnt_set hX hlt hN.new; omega
    -- what it sees
    have see : ∀ t ∈ tmpsOf ops.toList ops[i], getO env t = getO (En i) t := fun t ht => by rw [he]; exact NextAt.sees H hN ho ht
    have hguard := sees_guard see
    have hops := sees_ops (par := par) see
    -- one more is done
    have go : ∀ {g1 : Gh} {w1 : World} {st1 : Sites} {v : Value}, Ext g w g1 w1 → Inv z g1 w1 st1 → RelD w1 g1 v (dn i) → (∀ s, getR st1 s = updS (did i) s (getR st s)) →
        wpAnyIn (fenceR ρ) 0 par.P md ops (Post par z lo g0 w0 N (En ops.size) (Sn ops.size).sites .normal) fuel (X.setIfInBounds i true) (a.put ops[i].dst v) w1 := by
      intro g1 w1 st1 v e1 i1 r1 hs1
      refine ih _ g1 w1 _ (put env ops[i].dst (dn i)) st1 (by simpa using hX) hc' (by rw [hXs]; exact hD') (hE.trans e1) ((hF.ext e1 i1).put hdst h4 r1) (fun t => ?_) (fun s => ?_)
      · rw [hXs, NextAt.putE H hN, getO_put (fun t ht => Nat.lt_of_lt_of_le (hdst t ht) h4), he, H.dst ho]
      · rw [hXs, NextAt.putS H hN, hs1, hs]
    unfold wpOpIn
    rw [ho]
    simp only
    rcases (H.step i _ ho).2 with ⟨hw, hd⟩ | ⟨hw, hd1, hd2, hd3⟩
    · rw [wanted_eq hF.env (hguard.trans hw), if_pos rfl]
      generalize hdi : did i = di at hd
      cases hd with
      | pure h1 h2 =>
        have h3 := h2 st
        rw [← opStep_env hops] at h3
        obtain ⟨q1, q2⟩ := opStep_ok hP hR h3 hF.inv hF.env hF.glob
        refine NextOk.wpIn q2 q1 ?_
        rintro v w1 ⟨g1, e1, i1, r1⟩
        exact go e1 i1 r1 fun s => by rw [hdi]; rfl
      | eff e h1 h2 h3 =>
        have h5 := NextAt.effOk H hN hdi h2 hs
        rw [← opEff_env hops] at h5
        obtain ⟨st3, k1, k2⟩ := withEff_any h3 ⟨st, 0, 0⟩
        have h6 : opStep par run fb ops[i] env ⟨st, 0, 0⟩ = some (dn i, st3) := by
          simp only [opStep, h1, h5]
          exact k1
        obtain ⟨q1, q2⟩ := opStep_ok hP hR h6 hF.inv hF.env hF.glob
        refine NextOk.wpIn q2 q1 ?_
        rintro v w1 ⟨g1, e1, i1, r1⟩
        refine go e1 i1 r1 fun s => ?_
        rw [hdi, k2]
        simp only [updS]
        obtain ⟨r, p1, p2, p3, p4⟩ := withEff_ok h3
        cases p1
        cases hwr : e.wr with
        | none => rfl
        | some p =>
          obtain ⟨s', rc⟩ := p
          simp only [setO]
          rw [getR_setS _ _ _ _ (p3 _ hwr)]
      | bar h1 =>
        have hsb : ∀ s, getR (Sn i).sites s = getR st s := fun s => by rw [hs, NextAt.storeBar H hN hdi]
        have h3 := h1
        rw [← opStep_env hops] at h3
        obtain ⟨q1, q2⟩ := opStep_ok hP hR h3 (hF.inv.sites hsb) hF.env hF.glob
        refine NextOk.wpIn q2 q1 ?_
        rintro v w1 ⟨g1, e1, i1, r1⟩
        exact go e1 i1 r1 fun s => by rw [hdi]; rfl
    · rw [wanted_eq hF.env (hguard.trans hw), if_neg (by simp)]
      exact ⟨fun _ _ => trivial, go (.refl _ _) hF.inv (by rw [hd1]; exact tup_undef) fun s => by rw [hd3]; rfl⟩

theorem runDraw_ok (hP : ParOk par) (hR : RunOk par run) {env env' : E} {st st' : St} {a : Act} {g : Gh} {w : World} (h : runReg par run fb true ops.toList env st = some (env', st')) (hok : ∀ o ∈ ops.toList, operOk N o = true)
    (hst : drawStat ops = true) (h4 : N ≤ 4000) (hF : Fr par z lo g w st.sites a env N) (t : Nat) :
    wpOpsIn (fenceR ρ) 0 par.P ops (Post par z lo g w N env' st'.sites .normal) (Region.schedule (par.P.follows .mixedOrders) ops t) a { w with drawn := w.drawn + 1 } := by
  simp only [runReg, runDraw] at h
  split at h
  · rename_i l env1 st1 ht
    unfold drawOk at h
    split at h
    · rename_i hord
      cases h
      obtain ⟨hlen, En, Sn, dn, e1, e2, e3, e4, e5⟩ := traceOps_spec _ _ _ _ _ _ ht
      simp only [drawStat, Bool.and_eq_true, beq_iff_eq] at hst
      obtain ⟨⟨⟨hn, hany⟩, htext⟩, hgc⟩ := hst
      have hsz : ops.toList.length = ops.size := by simp
      have H : TrOk par run fb ops En Sn dn (fun i => l.getD i .pure) := by
        refine ⟨fun i o ho => ?_, fun i j hij hj => ?_, fun i j oi oj hij hoi hoj => ?_, fun i t ht => ?_⟩
        · have hi : i < l.length := by
            rw [hlen, hsz]
            exact (Array.getElem?_eq_some_iff.1 ho).1
          have hl : l[i]? = some l[i] := by simp [hi]
          have := e5 i o _ (by simpa using ho) hl
          rwa [List.getD_eq_getElem?_getD, hl, Option.getD_some]
        · have hjl : j < l.length := by rw [hlen, hsz]; exact hj
          have hil : i < l.length := by omega
          rcases (badGo_spec (par := par) (fb := fb) l [] 0).2 i j l[i] l[j] hij (by simp [hil]) (by simp [hjl]) with hb | hb
          · right
            rw [List.getD_eq_getElem?_getD, List.getD_eq_getElem?_getD]
            simpa [hil, hjl] using hb
          · left
            have := inOrder_spec hord _ hb
            simpa [msk] using this
        · unfold namesOk at hn
          rw [List.all_eq_true] at hn
          have h1 := hn (oj, j) (by rw [List.mem_zipIdx_iff_getElem?]; simpa using hoj)
          rw [List.all_eq_true] at h1
          have h2 := h1 (oi, i) (by rw [List.mem_zipIdx_iff_getElem?]; simpa using hoi)
          simp only [Bool.or_eq_true, Bool.not_eq_true'] at h2
          rcases h2 with (h2 | h2) | h2
          · have : Nat.blt i j = true := by rw [Nat.blt_eq]; exact hij
            rw [this] at h2
            cases h2
          · exact .inl h2
          · exact .inr h2
        · unfold dstAt at ht
          rw [Option.bind_eq_some_iff] at ht
          obtain ⟨o, ho, hd⟩ := ht
          exact Nat.lt_of_lt_of_le (operOk_dst (hok o (by simpa using Array.mem_of_getElem? ho)) t hd) h4
      rw [hsz] at e3 e4
      -- each mode
      have mode : ∀ md : Region.Mode, (Region.linearise md ops 0).length = ops.size → ∀ t, wpOpsIn (fenceR ρ) 0 par.P ops (Post par z lo g w N env' st'.sites .normal) (Region.linearise md ops t) a { w with drawn := w.drawn + 1 } := by
        intro md hmd t
        have hall : ∀ X : Array Bool, X.size = ops.size → Region.ready md ops X = [] → ∀ i, i < ops.size → isL X i = true := by
          intro X hX hr
          exact go_all hX hr ops.size 0 (Array.replicate ops.size false) [] (by simp) (by simpa [Region.linearise] using hmd) (cnt_le _ _) (fun i hi => by rw [isL_none] at hi; cases hi)
        have hF' : Fr par z lo g { w with drawn := w.drawn + 1 } st.sites a env N := hF.ext (Ext.drew g w) hF.inv.drew
        have := sim (ρ := ρ) (z := z) (lo := lo) hP hR H hok h4 hall g w ops.size (Array.replicate ops.size false) g { w with drawn := w.drawn + 1 } a env st.sites (by simp) (cnt_le _ _) (fun j k hj => by rw [isL_none] at hj; cases hj) (Ext.drew g w) hF'
          (fun t => by
            rw [← e1]
            have : ∀ k, valE ops (En 0) dn (isL (Array.replicate ops.size false)) k t = getO (En 0) t := by
              intro k
              induction k with
              | zero => rfl
              | succ k ih => simp only [valE]; rw [if_neg (by rw [isL_none]; simp)]; exact ih
            rw [this])
          (fun s => by
            rw [← e2]
            have : ∀ k, valS (Sn 0).sites (fun i => l.getD i .pure) (isL (Array.replicate ops.size false)) k s = getR (Sn 0).sites s := by
              intro k
              induction k with
              | zero => rfl
              | succ k ih => simp only [valS]; rw [if_neg (by rw [isL_none]; simp)]; exact ih
            rw [this])
        rw [e3, e4] at this
        exact wpAnyIn_sound _ _ _ _ _ this
      unfold Region.schedule
      split
      · exact mode _ hany _
      · split
        · exact mode _ htext _
        · exact mode _ hgc _
    · cases h
  · cases h

end
end Go.BI
/- SOUNDNESS OF 'B', thirty-fourth part: the interpreter of code is right. -/
set_option linter.unusedVariables false
set_option linter.unusedSimpArgs false
namespace Go.BI
open Go Go.RowKit

section
variable {z : Base} {w w' : World} {g : Gh} {st : Sites}

/-- What stands at a site is forgotten. -/
theorem Inv.forget (hI : Inv z g w st) {s ver : Nat} (hs : s < maxSite) (hv : verS st s ≤ ver) : Inv z g w (setS st s ⟨ver, none⟩) := by
  have := hI.step (s := some (s, ⟨ver, none⟩)) (bs := none) (g' := g) (w' := w) {
    ext := .refl _ _
    blocks := fun k hk _ => rfl
    size := Nat.le_refl _
    own := fun b hb => by cases hb
    others := fun t r ob x _ _ _ _ => by simp
    S := fun a ha => .inl ha
    N := fun a ha => ha
    blk := fun t v x hx => .inl hx
    site := fun p hp => by
      cases hp
      refine ⟨hs, fun r hr => ?_, fun o ho => by cases ho⟩
      simpa [verS, hr] using hv
    old := fun a ha => hI.old a (.inl ha)
    os := rfl
    tape := rfl
    output := rfl
    has := fun p x hp hx => hI.has _ _ _ hx
  }
  exact this

end

section
variable {par : Par} {z : Base} {w w' : World} {g : Gh} {lo N : Nat} {ρ : Option Nat}

theorem post_refl {st : Sites} {a : Act} {env : E} {e : Ex} (hF : Fr par z lo g w st a env N) : Post par z lo g w N env st e (exOf e) a w := ⟨rfl, g, .refl _ _, hF⟩

theorem post_trans {g1 : Gh} {w1 : World} (h : Ext g w g1 w1) {env' : E} {st' : Sites} {e : Ex} : ∀ x a' w', Post par z lo g1 w1 N env' st' e x a' w' → Post par z lo g w N env' st' e x a' w' := by
  rintro x a' w' ⟨h1, g', e', f'⟩
  exact ⟨h1, g', h.trans e', f'⟩

theorem loops_ext {g1 : Gh} {w1 : World} (h : Ext g w g1 w1) (hρ : ∀ l, ρ = some l → ∃ L, w.heap[l]? = some (.loop L)) : ∀ l, ρ = some l → ∃ L, w1.heap[l]? = some (.loop L) := fun l hl => (let ⟨L, hL⟩ := hρ l hl; h.loops l L hL)

theorem exOf_inj {e e' : Ex} (h : exOf e = exOf e') : e = e' := by
  cases e <;> cases e' <;> simp_all [exOf]

theorem verS_setS {st : Sites} {s : Nat} {r : Rec} (hs : s < maxSite) : verS (setS st s r) s = r.ver := by simp [verS, getR_setS _ _ _ _ hs]

/-- The entry of a range over a function. -/
theorem enter_ok {st : Sites} {f : Operand} {a : Act} {env : E} {fb s : Nat} {ps : Array Tmp} {assign body : Code} (fn : FuncId) (hc : codeOk N (.rangeFunc f ps assign body) = true) (h4 : N ≤ 4000) (hs : s < maxSite)
    (hρ : ∀ l, ρ = some l → ∃ L, w.heap[l]? = some (.loop L)) (hF : Fr par z lo g w st a env N) :
    ∃ l mark w1 g1, (Instr.enterLoop fn a.tmps ps assign body ρ).run par.P w = .ok (l, mark) w1 ∧ Ext g w g1 w1 ∧
      Inv z g1 w1 (setS st s ⟨verS st s + 1, some (.loop { state := .ready, pending := none, env, params := ps.toList, assign, body, fb })⟩) ∧ g1.blk s (verS st s + 1) = some (l, 0) ∧ MarksOk w1 lo (mark ++ a.defers) := by
  simp only [codeOk, Bool.and_eq_true] at hc
  obtain ⟨⟨hc1, hc2⟩, hc3⟩ := hc
  have new : ∀ (w0 : World) (dd : Nat), Ext g w g w0 → Inv z g w0 st → ∃ g1, Ext g w g1 (w0.alloc (.loop { state := .ready, pending := none, fn, tmps := a.tmps, params := ps, assign, body, defers := dd })) ∧
      Inv z g1 (w0.alloc (.loop { state := .ready, pending := none, fn, tmps := a.tmps, params := ps, assign, body, defers := dd })) (setS st s ⟨verS st s + 1, some (.loop { state := .ready, pending := none, env, params := ps.toList, assign, body, fb })⟩) ∧
      g1.blk s (verS st s + 1) = some (w0.heap.size, 0) := by
    intro w0 dd hE0 hI0
    obtain ⟨e1, i1⟩ := hI0.new (s := s) hs (o := .loop { state := .ready, pending := none, fn, tmps := a.tmps, params := ps, assign, body, defers := dd }) (bo := .loop { state := .ready, pending := none, env, params := ps.toList, assign, body, fb }) (fun hE => by
      refine ⟨_, alloc_new _ _, rfl, rfl, (hF.env.ext hE0).ext hE, rfl, rfl, rfl, ?_, by simp only; rw [hF.size]; exact h4⟩
      simp only [hF.size, Bool.and_eq_true]
      exact ⟨⟨hc1, hc2⟩, hc3⟩)
    exact ⟨_, hE0.trans e1, i1, Gh.put_self _ _ _ _⟩
  cases ρ with
  | none =>
    obtain ⟨e0, i0⟩ := hF.inv.newS (o := .deferred (some [])) (S' := g.S) (fun x hx => .inl hx) (fun x hx => hx)
    obtain ⟨g1, e1, i1, b1⟩ := new (w.alloc (.deferred (some []))) w.heap.size e0 i0
    refine ⟨_, _, _, g1, run_enterLoop_outer _ _ _ _ _, e1, i1, by rw [b1, World.size_alloc], ?_⟩
    refine ⟨⟨w.heap.size, rfl, ?_, hF.low, fun d' hd' he => ?_⟩, hF.marks.ext e1⟩
    · rw [Below.heap_alloc _ _ _ (by simp)]
      exact alloc_new _ _
    · obtain ⟨b, h1, h2, _⟩ := hF.marks.mem d' hd'
      have := (Array.getElem?_eq_some_iff.1 h2).1
      rw [h1] at he
      simp at he
      omega
  | some l0 =>
    obtain ⟨L0, hL0⟩ := hρ l0 rfl
    obtain ⟨g1, e1, i1, b1⟩ := new w L0.defers (.refl _ _) hF.inv
    exact ⟨_, _, _, g1, run_enterLoop_inner hL0 _ _ _ _ _, e1, i1, b1, hF.marks.ext e1⟩

theorem range_ok (hP : ParOk par) {run : Run} (hR : RunOk par run) {f : Operand} {ps : Array Tmp} {assign body : Code} {fb : Nat} {env env' : E} {st st' : St} {e : Ex} {a : Act} (h : stepRange par run f ps.toList assign body fb env st = some (e, env', st'))
    (hc : codeOk N (.rangeFunc f ps assign body) = true) (h4 : N ≤ 4000) (hlo : z.w0.heap.size ≤ lo) (hρ : ∀ l, ρ = some l → ∃ L, w.heap[l]? = some (.loop L)) (hF : Fr par z lo g w st.sites a env N) :
    (Code.rangeFunc f ps assign body).wpIn (fenceR ρ) 0 par.P (Post par z lo g w N env' st'.sites e) a w := by
  unfold stepRange at h
  split at h
  · cases h
  rename_i hmax
  have hs : fb + ps.toList.headD 0 < maxSite := by omega
  generalize fb + ps.toList.headD 0 = s at h hs
  split at h
  · rename_i gd hgd
    split at h
    · rename_i d1 st1 hcall
      split at h
      · rename_i l1 hlk
        split at h
        · cases h
        rename_i hbusy
        split at h
        · rename_i ex hex
          cases h
          refine wpIn_rangeFunc fun fn _ => ?_
          obtain ⟨l, mark, w1, g1, q1, q2, q3, q4, q5⟩ := enter_ok (par := par) (f := f) (fb := fb) fn hc h4 hs hρ hF
          unfold callG at hcall
          split at hcall
          · rename_i f0 first caps
            split at hcall
            · rename_i keep hkeep
              have hrf := ev_rel hF.env hF.glob hgd
              have hrf1 := hrf.ext q2
              generalize hav : a.eval f = vf at hrf1
              cases hrf1 with
              | fn _ _ _ va vb l1' l2' r1 r2 =>
                have hy : RelD w1 g1 (.func (.yield l) #[] #[]) (.yld s (verS st.sites s + 1)) := .yld _ _ _ _ q4
                have hl' : ((va ++ #[Value.func (.yield l) #[] #[]]) ++ vb).size = ((first ++ [D.yld s (verS st.sites s + 1)]) ++ caps).length := by simp; omega
                obtain ⟨c1, c2⟩ := callO_ok hP hR (vals := (va ++ #[Value.func (.yield l) #[] #[]]) ++ vb) hcall q3 (hF.glob.ext q2) hl' (rel_append (by simp; omega) (rel_append l1' r1 (fun i v y hv hy' => by
                  match i with
                  | 0 => simp at hv hy'; subst hv hy'; exact hy
                  | i + 1 => simp at hv)) r2)
                refine ⟨l, mark, w1, { target := .fn (.func f0) vb, args := va ++ #[Value.func (.yield l) #[] #[]] }, w1, f0, (va ++ #[Value.func (.yield l) #[] #[]]) ++ vb, w1, q1, ?_, fun _ _ => trivial, c1, fun hh => (by cases hh), ?_⟩
                · have hres : resolve a.eval (rangeCall f l) 0 = Deferred.ofValue (a.eval f) #[Value.func (.yield l) #[] #[]] := by
                    unfold resolve
                    simp only [List.map_toArray, List.map_cons, List.map_nil]
                    rfl
                  rw [hres, hav]
                  rfl
                · refine CallsIn.mono (F := fenceR ρ) (show CallsIn (fenceR ρ) 0 par.P _ _ _ _ from c2) ?_
                  rintro en w3 hen
                  cases en with
                  | panicked _ => exact hen.elim
                  | outgrown => exact hen.elim
                  | returned v =>
                    obtain ⟨g3, e3, i3, _⟩ := hen
                    have hb3 := e3.blk _ _ _ q4
                    obtain ⟨L, k1, k2, k3, k4, k5, k6, k7, k8, k9, k10⟩ := loop_turn i3 hlk hb3
                    obtain ⟨e4, i4⟩ := k10 .exhausted L.pending
                    have hL : { L with state := LoopState.exhausted, pending := L.pending } = { L with state := LoopState.exhausted } := rfl
                    rw [hL] at e4 i4
                    refine ⟨_, _, run_endLoop k1 (by rw [k2]; exact hbusy), ?_⟩
                    have i5 := (i4.forget hs (ver := verS st.sites s + 1) (by rw [verS_setS hs]; exact Nat.le_refl _)).sites (st2 := setS st1.sites s ⟨verS st.sites s + 1, none⟩) (fun t => by
                      rw [getR_setS _ _ _ _ hs, getR_setS _ _ _ _ hs, getR_setS _ _ _ _ hs]
                      split <;> rfl)
                    have hEx := (q2.trans e3).trans e4
                    have hFr : Fr par z lo g3 (w3.putObj l (.loop { L with state := .exhausted })) (setS st1.sites s ⟨verS st.sites s + 1, none⟩) { a with defers := mark ++ a.defers } env N :=
                      ⟨i5, hF.env.ext hEx, hF.glob.ext hEx, hF.size, q5.ext (e3.trans e4), Nat.le_trans hF.low hEx.size⟩
                    have hp : ∀ {e : Ex}, Post par z lo g w N env (setS st1.sites s ⟨verS st.sites s + 1, none⟩) e (exOf e) { a with defers := mark ++ a.defers } (w3.putObj l (.loop { L with state := .exhausted })) := fun {e} => ⟨rfl, g3, hEx, hFr⟩
                    clear hFr hEx i5 e4 i4 k10
                    generalize w3.putObj l (.loop { L with state := .exhausted }) = w4 at hp ⊢
                    rw [k3]
                    unfold jumpEx at hex
                    split at hex
                    · rename_i hpe; cases hex; rw [hpe]; exact hp
                    · rename_i hpe; cases hex; rw [hpe]; exact wpIn_exit hp
                    · rename_i hpe; cases hex; rw [hpe]; exact wpIn_goto hp
                    · rename_i hpe; cases hex; rw [hpe]; exact wpIn_ret hp
                    · cases hex
            · cases hcall
          · cases hcall
        · cases h
      · cases h
    · cases h
  · cases h

theorem step_ok (hP : ParOk par) {n : Nat} (ih : ∀ k, k ≤ n → RunOk par (exec par k)) : RunOk par (exec par (n + 1)) := by
  intro c fb env st e env' st' h z lo g w a N ρ hc h4 hlo hρ hF
  have hR := ih n (Nat.le_refl _)
  replace h : step par (exec par n) c fb env st = some (e, env', st') := h
  cases c with
  | skip => simp only [step] at h; cases h; exact wpIn_skip (post_refl hF)
  | label l => simp only [step] at h; cases h; exact wpIn_label (post_refl hF)
  | exit id => simp only [step] at h; cases h; exact wpIn_exit (post_refl hF)
  | goto l => simp only [step] at h; cases h; exact wpIn_goto (post_refl hF)
  | ret => simp only [step] at h; cases h; exact wpIn_ret (post_refl hF)
  | refuse s => simp only [step] at h; cases h
  | region id ops draw =>
    simp only [step] at h
    simp only [codeOk, Bool.and_eq_true] at hc
    obtain ⟨hok, hst⟩ := hc
    rw [List.all_eq_true] at hok
    unfold stepRegion at h
    split at h <;> cases h
    rename_i hr
    cases draw with
    | false =>
      refine wpIn_region ?_
      have := runOps_ok (ρ := ρ) (lo := lo) hP hR hok h4 ops.toList 0 env st _ _ rfl (by simp) hr g w g w a (.refl _ _) hF
      rw [List.range_eq_range']
      simpa using this
    | true =>
      refine wpIn_region_draw fun t => ?_
      exact runDraw_ok hP hR hr hok (by simpa using hst) h4 hF t
  | seq x y =>
    simp only [step] at h
    simp only [codeOk, Bool.and_eq_true] at hc
    unfold stepSeq at h
    split at h
    · rename_i env1 st1 hx
      refine wpIn_seq (wpIn_mono (hR _ _ _ _ _ _ _ hx z lo g w a N ρ hc.1 h4 hlo hρ hF) ?_)
      rintro x a1 w1 ⟨rfl, g1, e1, f1⟩
      exact wpIn_mono (hR _ _ _ _ _ _ _ h z lo g1 w1 a1 N ρ hc.2 h4 hlo (loops_ext e1 hρ) f1) (post_trans e1)
    · rename_i hne
      refine wpIn_seq (wpIn_mono (hR _ _ _ _ _ _ _ h z lo g w a N ρ hc.1 h4 hlo hρ hF) ?_)
      rintro x a1 w1 hp
      have hp2 := hp
      obtain ⟨rfl, _⟩ := hp2
      cases e with
      | normal => exact absurd h (hne _ _)
      | exit _ => exact hp
      | goto _ => exact hp
      | ret => exact hp
  | cond c x y =>
    simp only [step] at h
    simp only [codeOk, Bool.and_eq_true] at hc
    unfold stepCond at h
    split at h
    · rename_i hv
      refine wpIn_cond_true (ev_rel hF.env hF.glob hv).toV.bool_eq (hR _ _ _ _ _ _ _ h z lo g w a N ρ hc.1 h4 hlo hρ hF)
    · rename_i hv
      refine wpIn_cond_false (ev_rel hF.env hF.glob hv).toV.bool_eq (hR _ _ _ _ _ _ _ h z lo g w a N ρ hc.2 h4 hlo hρ hF)
    · cases h
  | block id body =>
    simp only [step] at h
    simp only [codeOk] at hc
    unfold stepBlock at h
    refine wpIn_block ?_
    split at h
    · rename_i i env1 st1 hb
      refine wpIn_mono (hR _ _ _ _ _ _ _ hb z lo g w a N ρ hc h4 hlo hρ hF) ?_
      rintro x a1 w1 ⟨rfl, rest⟩
      by_cases hi : i = id
      · rw [if_pos hi] at h
        cases h
        simp only [exOf, Exit.inBlock, if_pos hi]
        exact ⟨rfl, rest⟩
      · rw [if_neg hi] at h
        cases h
        simp only [exOf, Exit.inBlock, if_neg hi]
        exact ⟨rfl, rest⟩
    · rename_i hne
      refine wpIn_mono (hR _ _ _ _ _ _ _ h z lo g w a N ρ hc h4 hlo hρ hF) ?_
      rintro x a1 w1 hp
      have hp2 := hp
      obtain ⟨rfl, _⟩ := hp2
      cases e with
      | exit i => exact absurd h (hne i _ _)
      | normal => exact hp
      | goto _ => exact hp
      | ret => exact hp
  | scope body =>
    simp only [step] at h
    simp only [codeOk] at hc
    unfold stepScope at h
    refine wpIn_scope ?_
    split at h
    · cases h
    · rename_i hne
      refine wpIn_mono (hR _ _ _ _ _ _ _ h z lo g w a N ρ hc h4 hlo hρ hF) ?_
      rintro x a1 w1 hp
      have hp2 := hp
      obtain ⟨rfl, _⟩ := hp2
      cases e with
      | goto i => exact absurd h (hne i _ _)
      | normal => exact hp
      | exit _ => exact hp
      | ret => exact hp
  | rangeFunc f ps assign body =>
    simp only [step] at h
    exact range_ok hP hR h hc h4 hlo hρ hF
  | loop body =>
    have hcb : codeOk N body = true := by simpa only [codeOk] using hc
    refine wpIn_loop_K (fun j a1 w1 => j ≤ n + 1 ∧ ∃ env1 st1 g1, exec par j (.loop body) fb env1 st1 = some (e, env', st') ∧ Ext g w g1 w1 ∧ Fr par z lo g1 w1 st1.sites a1 env1 N) ?_ (j := n + 1) (a := a) (w := w)
      ⟨Nat.le_refl _, env, st, g, h, .refl _ _, hF⟩
    rintro j a1 w1 ⟨hj, env1, st1, g1, hex, e1, f1⟩
    cases j with
    | zero => cases hex
    | succ j =>
      replace hex : step par (exec par j) (.loop body) fb env1 st1 = some (e, env', st') := hex
      simp only [step] at hex
      have hRj := ih j (by omega)
      unfold stepLoop at hex
      split at hex
      · rename_i env2 st2 hb
        rw [fNat_eq] at hex
        refine wpIn_mono (hRj _ _ _ _ _ _ _ hb z lo g1 w1 a1 N ρ hcb h4 hlo (loops_ext e1 hρ) f1) ?_
        rintro x a2 w2 ⟨rfl, g2, e2, f2⟩
        exact ⟨j, Nat.lt_succ_self _, by omega, env2, _, g2, hex, e1.trans e2, f2⟩
      · rename_i hne
        refine wpIn_mono (hRj _ _ _ _ _ _ _ hex z lo g1 w1 a1 N ρ hcb h4 hlo (loops_ext e1 hρ) f1) ?_
        rintro x a2 w2 hp
        replace hp := post_trans e1 _ _ _ hp
        have hp2 := hp
        obtain ⟨rfl, _⟩ := hp2
        cases e with
        | normal => exact absurd hex (hne _ _)
        | exit _ => exact hp
        | goto _ => exact hp
        | ret => exact hp

/-- THE INTERPRETER IS RIGHT. -/
theorem exec_ok (hP : ParOk par) : ∀ n, RunOk par (exec par n) := by
  intro n
  induction n using Nat.strongRecOn with
  | _ n ih =>
    cases n with
    | zero =>
      intro c fb env st e env' st' h
      cases h
    | succ n => exact step_ok hP fun k hk => ih k (by omega)

end
end Go.BI
