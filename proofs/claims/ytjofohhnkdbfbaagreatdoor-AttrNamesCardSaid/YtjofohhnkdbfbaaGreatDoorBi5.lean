/- B's use: the model's own functions, slices.Insert, tables, laid variables, calls kept as tables. Conditions: none. -/
import Derived.Test.YtjofohhnkdbfbaaGreatDoorBi4
import Derived.Laws.IdiomCopy
import Derived.LaidLaws
/- THE MODEL's OWN FUNCTIONS, held against the interpreter's: a byte's place in a text, bytes compared, an address handed on, new bytes. -/
set_option linter.unusedVariables false
set_option linter.unusedSimpArgs false
namespace Go.BI
open Go Go.RowKit

theorem callFunc_ext {P : Program} {f : FuncId} {fn : Func} {e : Array Value → Sem Value} (h1 : P.funcs[f]? = some fn) (h2 : fn.name ≠ "runtime.NumGoroutine") (hb : fn.body = none) (hn : (Extern.findNext fn).isNone = true)
    (hf : Extern.find fn = some e) (vals : Array Value) (w : World) : (callFunc f vals).run P w = ((do pure (Next.value (← e vals))) : Sem Next).run P w := by
  have hn' : Extern.findNext fn = none := Option.isNone_iff_eq_none.1 hn
  simp [callFunc, h1, h2, hb, hn', hf, go_sem]

theorem ext_value {P : Program} {s : Sem Value} {w w' : World} {v : Value} {R : Value → World → Prop} (h : s.run P w = .ok v w') (hR : R v w') : NextOk P (do pure (Next.value (← s))) w R := by
  unfold NextOk
  rw [run_v h]
  exact hR

theorem NextOk.of_run {P : Program} {s s' : Sem Next} {w : World} {R : Value → World → Prop} (h : s.run P w = s'.run P w) (k : NextOk P s' w R) : NextOk P s w R := by
  unfold NextOk at *
  rw [h]
  exact k

theorem Closed.same {w : World} {S : Addr → Prop} (hS : ∀ a, S a → a.spot = none ∧ ∃ v, w.cell? a = some v) {x : V} {v : Value} (h : RelV w S v x) : Closed w S x v w :=
  ⟨S, fun _ h => h, fun _ h => .inl h, .refl _ _, h⟩

/-! ### Bytes out of a value -/
theorem extBytes_run {P : Program} {w : World} (a : Addr) (ha : a.spot = none) : ∀ (ns : List Int) (i : Nat) (acc : ByteArray), (∀ (k : Nat) x, ns[k]? = some x → w.cell? (a.add (i + k)) = some (.int .u8 x)) →
    (Extern.Bytes.loadBytes (a.add i) ns.length acc).run P w = .ok (ns.foldl (fun r n => r.push n.toNat.toUInt8) acc) w := by
  intro ns
  induction ns with
  | nil => intro i acc h; simp [Extern.Bytes.loadBytes, go_sem]
  | cons x r ih =>
    intro i acc h
    have h0 : w.cell? (a.add i) = some (.int .u8 x) := by simpa using h 0 x (by simp)
    have hl : (load (a.add i)).run P w = .ok (.int .u8 x) w := by simp [load, Sem.run, h0]
    have := ih (i + 1) (acc.push x.toNat.toUInt8) (fun k y hk => by
      have := h (k + 1) y (by simpa using hk)
      rwa [show i + (k + 1) = i + 1 + k from by omega] at this)
    simp only [List.length_cons, Extern.Bytes.loadBytes, Sem.run_bind, hl, Result.andThen_ok, add_add a ha, List.foldl_cons]
    exact this

theorem bytesOf_slice {P : Program} {w : World} {S : Addr → Prop} {v : Value} {nl : Bool} {sz : Nat} {xs : List V} {l : List UInt8} (h : RelV w S v (.slice nl sz xs)) (hb : toBytes xs = some l) :
    ∃ ba : ByteArray, (Extern.Bytes.bytesOf v).run P w = .ok ba w ∧ ba.data.toList = l := by
  obtain ⟨ns, rfl, rfl⟩ := toBytes_eq hb
  rcases relV_slice' h with ⟨_, e, h0⟩ | ⟨_, _, a, cap, val, e, hle, ha, hs, hc⟩
  · subst e
    have : ns = [] := by simpa using h0
    subst this
    exact ⟨.empty, rfl, rfl⟩
  · subst e
    rw [flat_ints] at hc
    have hcell : ∀ (k : Nat) x, ns[k]? = some x → w.cell? (a.add (0 + k)) = some (.int .u8 x) := by
      intro k x hx
      obtain ⟨q1, _, _, q2⟩ := hc k (.int .u8 x) (by simp [hx])
      rw [Nat.zero_add, q1, q2.int_eq]
    have := extBytes_run (P := P) a ha ns 0 .empty hcell
    have h0 : a.add 0 = a := by obtain ⟨x, y, q⟩ := a; simp only at ha; subst ha; simp [add_at]
    rw [h0] at this
    refine ⟨_, by simpa [Extern.Bytes.bytesOf] using this, ?_⟩
    have := push_data ns ByteArray.empty
    exact this.trans (by simp)

theorem get_list (b : ByteArray) (i : Nat) : b[i]! = b.data.toList.getD i 0 := by
  by_cases h : i < b.size
  · rw [getElem!_pos b i h, List.getD_eq_getElem?_getD, Array.getElem?_toList]
    have : b.data[i]? = some (b.data[i]'h) := Array.getElem?_eq_getElem h
    rw [this]
    rfl
  · rw [getElem!_neg b i h, List.getD_eq_getElem?_getD, Array.getElem?_toList]
    have : b.data[i]? = none := Array.getElem?_eq_none (by have : b.data.size = b.size := rfl; omega)
    rw [this]
    rfl

theorem size_list (b : ByteArray) : b.size = b.data.toList.length := by rw [Array.length_toList]; rfl

/-! ### A byte's place -/
theorem idxB_eq (c : UInt8) : ∀ (l : List UInt8) (k : Nat), idxB l c k = (match (List.range l.length).find? (fun i => l.getD i 0 == c) with | some i => ((k + i : Nat) : Int) | none => -1) := by
  intro l
  induction l with
  | nil => intro k; simp [idxB]
  | cons b r ih =>
    intro k
    simp only [idxB, List.length_cons, List.range_succ_eq_map, List.find?_cons]
    by_cases h : b = c
    · subst h; simp
    · rw [if_neg h]
      have h0 : ((b :: r).getD 0 0 == c) = false := by simpa using h
      rw [h0, List.find?_map, ih]
      simp only [Function.comp_def, List.getD_cons_succ, Nat.succ_eq_add_one]
      cases (List.range r.length).find? (fun i => r.getD i 0 == c) <;> simp [Nat.add_assoc, Nat.add_comm 1]

theorem indexByte_ok {par : Par} {f : FuncId} {fn : Func} (h1 : par.P.funcs[f]? = some fn) (h2 : fn.name ≠ "runtime.NumGoroutine") (hb : fn.body = none) (hn : (Extern.findNext fn).isNone = true)
    (hf : Extern.find fn = some Extern.BytealgIndexByte.indexByte) : NatOk par f natIndexByte := by
  intro w S vals l x hS _ hsz hr h
  refine .of_run (callFunc_ext h1 h2 hb hn hf vals w) ?_
  unfold natIndexByte at h
  split at h <;> cases h
  rename_i s c
  obtain ⟨v0, v1, rfl⟩ : ∃ v0 v1, vals = #[v0, v1] := by
    match vals, hsz with
    | ⟨[v0, v1]⟩, _ => exact ⟨v0, v1, rfl⟩
  obtain ⟨ba, rfl, rfl⟩ := (hr 0 v0 (.str s) rfl rfl).str_eq
  obtain rfl := (hr 1 v1 (.int .u8 c) rfl rfl).int_eq
  refine ext_value (v := .int .i64 (idxB ba.data.toList (UInt8.ofNat c.toNat) 0)) (w' := w) ?_ (.same hS (.int _ _))
  have key : (match (List.range ba.size).find? (fun i => ba[i]! == c.toNat.toUInt8) with | some i => (pure (goInt i) : Sem Value) | none => pure (goInt (-1))).run par.P w = .ok (.int .i64 (idxB ba.data.toList (UInt8.ofNat c.toNat) 0)) w := by
    rw [idxB_eq, ← size_list]
    have : (fun i => ba[i]! == c.toNat.toUInt8) = fun i => ba.data.toList.getD i 0 == UInt8.ofNat c.toNat := by
      funext i
      rw [get_list]
    rw [this]
    cases (List.range ba.size).find? _ <;> simp [goInt, go_sem]
  exact key

/-! ### Bytes compared -/
theorem cmpB_eq : ∀ (x y : List UInt8), cmpB x y = (match (List.range (min x.length y.length)).find? (fun i => x.getD i 0 != y.getD i 0) with
    | some i => if x.getD i 0 < y.getD i 0 then -1 else 1
    | none => if x.length < y.length then -1 else if x.length > y.length then 1 else 0) := by
  intro x
  induction x with
  | nil => intro y; cases y <;> simp [cmpB]
  | cons a x ih =>
    intro y
    cases y with
    | nil => simp [cmpB]
    | cons b y =>
      simp only [cmpB, List.length_cons, Nat.succ_min_succ, List.range_succ_eq_map, List.find?_cons]
      by_cases h : a = b
      · subst h
        rw [if_pos rfl, ih]
        simp only [List.getD_cons_zero, bne_self_eq_false, List.find?_map, Function.comp_def, List.getD_cons_succ]
        cases (List.range (min x.length y.length)).find? (fun i => x.getD i 0 != y.getD i 0) <;> simp
      · rw [if_neg h]
        have h0 : ((a :: x).getD 0 0 != (b :: y).getD 0 0) = true := by simpa using h
        rw [h0]
        simp

theorem compare_ok {par : Par} {f : FuncId} {fn : Func} (h1 : par.P.funcs[f]? = some fn) (h2 : fn.name ≠ "runtime.NumGoroutine") (hb : fn.body = none) (hn : (Extern.findNext fn).isNone = true)
    (hf : Extern.find fn = some Extern.BytealgCompare.compare) : NatOk par f natCompare := by
  intro w S vals l x hS _ hsz hr h
  refine .of_run (callFunc_ext h1 h2 hb hn hf vals w) ?_
  unfold natCompare at h
  split at h
  · rename_i n1 z1 a n2 z2 b
    split at h <;> cases h
    rename_i p q hp hq
    obtain ⟨v0, v1, rfl⟩ : ∃ v0 v1, vals = #[v0, v1] := by
      match vals, hsz with
      | ⟨[v0, v1]⟩, _ => exact ⟨v0, v1, rfl⟩
    obtain ⟨ba, r1, rfl⟩ := bytesOf_slice (P := par.P) (hr 0 v0 _ rfl rfl) hp
    obtain ⟨bb, r2, rfl⟩ := bytesOf_slice (P := par.P) (hr 1 v1 _ rfl rfl) hq
    refine ext_value (v := .int .i64 (cmpB ba.data.toList bb.data.toList)) (w' := w) ?_ (.same hS (.int _ _))
    have key : ((do pure (goInt (Extern.BytealgCompare.cmp (← Extern.Bytes.bytesOf v0) (← Extern.Bytes.bytesOf v1)))) : Sem Value).run par.P w = .ok (.int .i64 (cmpB ba.data.toList bb.data.toList)) w := by
      simp only [Sem.run_bind, r1, Result.andThen_ok, r2, Sem.run_pure]
      rw [cmpB_eq]
      unfold Extern.BytealgCompare.cmp
      rw [size_list, size_list]
      have : (fun i => ba[i]! != bb[i]!) = fun i => ba.data.toList.getD i 0 != bb.data.toList.getD i 0 := by
        funext i
        rw [get_list, get_list]
      rw [this]
      cases (List.range (min ba.data.toList.length bb.data.toList.length)).find? _ with
      | none => simp [goInt]
      | some i => simp only [get_list]; rfl
    exact key
  · cases h

/-! ### An address handed on; new bytes -/
theorem noEscape_ok {par : Par} {f : FuncId} {fn : Func} (h1 : par.P.funcs[f]? = some fn) (h2 : fn.name ≠ "runtime.NumGoroutine") (hb : fn.body = none) (hn : (Extern.findNext fn).isNone = true)
    (hf : Extern.find fn = some Extern.AbiNoEscape.same) : SemOk par f identB := by
  intro args st d st' h z g w vals hI hsz hr
  refine .of_run (callFunc_ext h1 h2 hb hn hf vals w) ?_
  unfold identB at h
  split at h <;> cases h
  rename_i s v o
  obtain ⟨v0, rfl⟩ : ∃ v0, vals = #[v0] := by
    match vals, hsz with
    | ⟨[v0]⟩, _ => exact ⟨v0, rfl⟩
  exact ext_value (v := v0) (w' := w) rfl ⟨g, .refl _ _, hI, hr 0 v0 _ rfl rfl⟩

theorem digits_spec : ∀ (n t : Nat) (acc : Array Value), (Extern.BytealgMakeNoZero.digits n t acc).size = acc.size + n ∧ ∀ (i : Nat) v, (Extern.BytealgMakeNoZero.digits n t acc)[i]? = some v → acc[i]? = some v ∨ ∃ k, v = .int .u8 k := by
  intro n
  induction n with
  | zero => intro t acc; exact ⟨rfl, fun i v h => .inl h⟩
  | succ n ih =>
    intro t acc
    obtain ⟨h1, h2⟩ := ih (t / 256) (acc.push (.int .u8 (Int.ofNat (t % 256))))
    simp only [Extern.BytealgMakeNoZero.digits]
    refine ⟨by rw [h1]; simp; omega, fun i v h => ?_⟩
    rcases h2 i v h with h | h
    · rw [Array.getElem?_push] at h
      split at h
      · cases h; exact .inr ⟨_, rfl⟩
      · exact .inl h
    · exact .inr h

theorem makeNoZero_ok {par : Par} (hT : TOk par.P par.T) {f : FuncId} {fn : Func} (hpf : par.fn f = some fn) (h1 : par.P.funcs[f]? = some fn) (h2 : fn.name ≠ "runtime.NumGoroutine") (hb : fn.body = none) (hn : (Extern.findNext fn).isNone = true)
    (hf : Extern.find fn = some (Extern.BytealgMakeNoZero.makeNoZero fn.params fn.resultTypes)) : SemOk par f (mkBytes par f) := by
  intro args st d st' h z g w vals hI hsz hr
  refine .of_run (callFunc_ext h1 h2 hb hn hf vals w) ?_
  unfold mkBytes at h
  rw [hpf] at h
  split at h
  · rename_i n e hu
    split at h <;> cases h
    rename_i hc
    obtain ⟨hn0, hn1, hcel, hmax⟩ := hc
    obtain ⟨v0, rfl⟩ : ∃ v0, vals = #[v0] := by
      match vals, hsz with
      | ⟨[v0]⟩, _ => exact ⟨v0, rfl⟩
    obtain rfl := (hr 0 v0 _ rfl rfl).toV.int_eq
    simp only [Option.bind_some, Option.bind_eq_some_iff] at hu
    obtain ⟨t, ht, hu⟩ := hu
    have hu' := hT.und hu
    -- the tape's answers
    have hch : (choose (.appendCap n.toNat 0 e)).run par.P w = .ok ((Question.appendCap n.toNat 0 e).cut (w.tape w.drawn (.appendCap n.toNat 0 e))) w.drew := by
      rw [run_choose]
      have : (Question.appendCap n.toNat 0 e).forced = false := by simp [Question.forced]
      rw [this]
      rfl
    have hcap : n.toNat ≤ (Question.appendCap n.toNat 0 e).cut (w.tape w.drawn (.appendCap n.toNat 0 e)) := by simp only [Question.cut]; omega
    generalize (Question.appendCap n.toNat 0 e).cut (w.tape w.drawn (.appendCap n.toNat 0 e)) = cap at hch hcap
    have hch2 : ∃ b, (choose (.extern "internal/bytealg.MakeNoZero.bytes" 0)).run par.P w.drew = .ok b w.drew.drew := by
      rw [run_choose]
      have : (Question.extern "internal/bytealg.MakeNoZero.bytes" 0).forced = false := by simp [Question.forced]
      rw [this]
      exact ⟨_, rfl⟩
    obtain ⟨bs, hch2⟩ := hch2
    obtain ⟨d1, d2⟩ := digits_spec cap bs #[]
    generalize hcs : Extern.BytealgMakeNoZero.digits cap bs #[] = cs at d1 d2
    have hint : ∀ (i : Nat) v, cs[i]? = some v → ∃ k, v = .int .u8 k := fun i v hv => (d2 i v hv).resolve_left (by simp)
    have hlim : ¬ (n < 0 ∨ n > 2 ^ 48) := by simp [big40] at hn1; omega
    have hrun : (Extern.BytealgMakeNoZero.makeNoZero fn.params fn.resultTypes #[.int .i64 n]).run par.P w = .ok (.slice (some ⟨w.heap.size, 0, none⟩) n.toNat cap) (w.drew.drew.alloc (.cells cs e)) := by
      have hd : Extern.BytealgMakeNoZero.makeNoZero fn.params fn.resultTypes #[.int .i64 n] = (do
          let some t := fn.resultTypes[0]? | stuck "bytealg.MakeNoZero: no result type"
          let .slice elem ← underlying t | stuck "bytealg.MakeNoZero: slice type expected"
          if n < 0 || n > 2 ^ 48 then runtimePanic (.error "makeslice: len out of range")
          let cap ← choose (.appendCap n.toNat 0 elem)
          askRoom cap
          let bytes ← choose (.extern "internal/bytealg.MakeNoZero.bytes" 0)
          let a ← newRow elem (Extern.BytealgMakeNoZero.digits cap bytes #[])
          pure (.slice (some a) n.toNat cap)) := rfl
      rw [hd]
      have hl1 : ¬ n < 0 := fun h => hlim (.inl h)
      have hl2 : ¬ (281474976710656 < n) := fun h => hlim (.inr (by simpa using h))
      have hl3 : (decide (n < 0) || decide (n > 2 ^ 48)) = false := by simp [hl1, hl2]
      simp only [ht, Sem.run_bind, run_underlying hu', Result.andThen_ok, hl3, Bool.false_eq_true, if_false, hch, run_askRoom, hch2, hcs, newRow, run_newObj_alloc, Sem.run_pure, World.size_drew]
    have e0 := (Ext.drew g w).trans (Ext.drew g w.drew)
    have i0 := hI.drew.drew
    obtain ⟨e1, i1⟩ := i0.newRow (s := st.top) hmax e (cells := cs) (ds := List.replicate n.toNat (.v .undef)) (by rw [d1]; simpa using hcap) (fun i v dd hv hd => by
      rw [List.getElem?_replicate] at hd
      split at hd <;> cases hd
      obtain ⟨k, rfl⟩ := hint i v hv
      exact .v _ _ (.undef _ (by simp))) (fun i v _ hv => by obtain ⟨k, rfl⟩ := hint i v hv; rfl)
    refine ext_value hrun ⟨_, e0.trans e1, i1, ?_⟩
    refine .arr _ _ _ _ _ w.heap.size 0 0 cap ?_ hcap (Nat.le_refl _) (fun _ => rfl) ⟨cs, e, (0, 0), alloc_new _ _, by rw [d1]; simp⟩
    exact Gh.put_self _ _ _ _
  · cases h

end Go.BI
/- 'slices.Insert' AT ELEMENTS OF ONE CELL, held against the interpreter: from what its text does (in place, or into a new row) to the effect on the store. -/
set_option linter.unusedVariables false
set_option linter.unusedSimpArgs false
namespace Go.BI
open Go Go.RowKit

/-- Cells of a row, set one by one. -/
def setArr (cs : Array Value) : Nat → List Value → Array Value
  | _, [] => cs
  | o, v :: r => setArr (cs.setIfInBounds o v) (o + 1) r

theorem setArr_size : ∀ (vs : List Value) (o : Nat) (cs : Array Value), (setArr cs o vs).size = cs.size := by
  intro vs
  induction vs with
  | nil => intro o cs; rfl
  | cons v r ih => intro o cs; simp [setArr, ih]

theorem setArr_get : ∀ (vs : List Value) (o : Nat) (cs : Array Value), o + vs.length ≤ cs.size → ∀ i, (setArr cs o vs)[i]? = if o ≤ i ∧ i < o + vs.length then vs[i - o]? else cs[i]? := by
  intro vs
  induction vs with
  | nil => intro o cs _ i; simp [setArr]; intro h1 h2; omega
  | cons v r ih =>
    intro o cs h i
    simp only [List.length_cons] at h
    simp only [setArr, List.length_cons]
    rw [ih (o + 1) _ (by simp; omega)]
    by_cases hc : o + 1 ≤ i ∧ i < o + 1 + r.length
    · rw [if_pos hc, if_pos (by omega), show i - o = (i - (o + 1)) + 1 from by omega]
      simp
    · rw [if_neg hc]
      by_cases he : i = o
      · subst he
        rw [if_pos (by omega)]
        have : i < cs.size := by omega
        simp [this]
      · rw [if_neg (by omega)]
        exact Array.getElem?_setIfInBounds_ne (by omega)

theorem setCells_eq (b : Nat) : ∀ (vs : List Value) (o : Nat) (w : World) (cs : Array Value) (el : TypeId) (fr : Nat × Nat), w.heap[b]? = some (.cells cs el fr) →
    w.setCells b o vs = { w with heap := w.heap.setIfInBounds b (.cells (setArr cs o vs) el fr) } := by
  intro vs
  induction vs with
  | nil =>
    intro o w cs el fr h
    obtain ⟨hb, he⟩ := Array.getElem?_eq_some_iff.1 h
    have : w.heap.setIfInBounds b (.cells cs el fr) = w.heap := by
      apply Array.ext_getElem?
      intro i
      by_cases hi : b = i
      · subst hi
        simp [hb, he]
      · rw [Array.getElem?_setIfInBounds_ne hi]
    simp only [World.setCells, setArr, this]
  | cons v r ih =>
    intro o w cs el fr h
    obtain ⟨hb, he⟩ := Array.getElem?_eq_some_iff.1 h
    have h1 : (w.setCell ⟨b, o, none⟩ v).heap = w.heap.setIfInBounds b (.cells (cs.setIfInBounds o v) el fr) := by
      apply Array.ext_getElem?
      intro i
      simp only [World.setCell, Array.getElem?_modify]
      by_cases hi : b = i
      · subst hi
        simp [hb, he]
      · rw [Array.getElem?_setIfInBounds_ne hi, if_neg hi]
    have h2 : w.setCell ⟨b, o, none⟩ v = { w with heap := w.heap.setIfInBounds b (.cells (cs.setIfInBounds o v) el fr) } := by
      rw [← h1]
      rfl
    rw [World.setCells, ih (o + 1) _ (cs.setIfInBounds o v) el fr (by rw [h1]; simp [hb]), h2]
    simp only [setArr, Array.setIfInBounds_setIfInBounds]

theorem setCells_alloc (w : World) (cs : Array Value) (el : TypeId) (o : Nat) (vs : List Value) : (w.alloc (.cells cs el)).setCells w.heap.size o vs = w.alloc (.cells (setArr cs o vs) el) := by
  rw [setCells_eq w.heap.size vs o _ cs el (0, 0) (alloc_new _ _)]
  have : (w.alloc (.cells cs el)).heap.setIfInBounds w.heap.size (.cells (setArr cs o vs) el) = w.heap.push (.cells (setArr cs o vs) el) := by
    show (w.heap.push (.cells cs el)).setIfInBounds w.heap.size (.cells (setArr cs o vs) el) = w.heap.push (.cells (setArr cs o vs) el)
    apply Array.ext_getElem?
    intro i
    by_cases hi : w.heap.size = i
    · subst hi
      simp
    · rw [Array.getElem?_setIfInBounds_ne hi, Array.getElem?_push, Array.getElem?_push]
      simp [Ne.symm hi]
  rw [this]
  rfl

/-- What 'slices.Insert' does with rows of one-cell elements, by its text. -/
structure InsOk (P : Program) (f : FuncId) (te : TypeId) (zs : Array Value) : Prop where
  shift : ∀ (b off n c i vb voff m vc : Nat) (cs vs : List Value) (w : World), i < n → 0 < m → n + m ≤ c → n + m ≤ 9223372036854775807 → cs.length = n → vs.length = m →
    (∀ j v, cs[j]? = some v → w.cell? ⟨b, off + j, none⟩ = some v) → (∀ j, j < n + m → (w.cell? ⟨b, off + j, none⟩).isSome = true) → (∀ j, j < n + m → w.frozen? ⟨b, off + j, none⟩ = false) →
    (∀ j v, vs[j]? = some v → w.cell? ⟨vb, voff + j, none⟩ = some v) → (∀ v ∈ cs, v.oneCell' = true) → (∀ v ∈ vs, v.oneCell' = true) →
    ∀ (tA tB : TypeId) (kA kB : Nat), w.shape? vb = some (tA, kA) → w.shape? b = some (tB, kB) → kA ≠ 0 → kB ≠ 0 → w.frozen? ⟨b, kB, none⟩ = false → (∀ j, j < m → vb = b → voff + j < off) →
    Calls P f #[.slice (some ⟨b, off, none⟩) n c, .int .i64 i, .slice (some ⟨vb, voff, none⟩) m vc] w fun e w' =>
      e = .returned (.slice (some ⟨b, off, none⟩) (n + m) c) ∧ w' = (w.drew.setCells b (off + (i + m)) (cs.drop i)).setCells b (off + i) vs
  grow : ∀ (b off n c i vb voff m vc : Nat) (cs vs : List Value) (w : World), i < n → 0 < m → n ≤ c → c < n + m → (n + m) * 8 ≤ 140737488355328 → cs.length = n → vs.length = m →
    (∀ j v, cs[j]? = some v → w.cell? ⟨b, off + j, none⟩ = some v) → (∀ j v, vs[j]? = some v → w.cell? ⟨vb, voff + j, none⟩ = some v) → (∀ v ∈ cs, v.oneCell' = true) → (∀ v ∈ vs, v.oneCell' = true) →
    ∃ G, n + m ≤ G ∧ Calls P f #[.slice (some ⟨b, off, none⟩) n c, .int .i64 i, .slice (some ⟨vb, voff, none⟩) m vc] w fun e w' =>
      e = .returned (.slice (some ⟨w.heap.size, 0, none⟩) (n + m) G) ∧
      w' = (((w.alloc (.cells ((cs.take i).toArray ++ Builtin.zeroCells zs (n + m - i) ++ Builtin.zeroCells zs (G - (n + m))) te)).drew.setCells w.heap.size i vs).drew).setCells w.heap.size (i + m) (cs.drop i)
  zs1 : zs.size = 1

theorem shape_of_cell {w : World} {a : Addr} {v : Value} (ha : a.spot = none) (h : w.cell? a = some v) : ∃ t k, w.shape? a.block = some (t, k) ∧ k ≠ 0 := by
  unfold World.cell? at h
  unfold World.shape?
  split at h
  · rename_i cs el fr hb
    refine ⟨el, cs.size, rfl, ?_⟩
    rintro h0
    simp only [ha] at h
    have : cs = #[] := Array.eq_empty_of_size_eq_zero h0
    subst this
    simp at h
  · cases h

theorem dataSl_eq {w : World} {g : Gh} {v : Value} {x : D} {l : List V} {m : Nat} (h : RelD w g v x) (hl : dataSl x = some l) (hm : srcLen x = some m) (hlm : l.length = m) (h0 : 0 < m) :
    ∃ vb voff vc, v = .slice (some ⟨vb, voff, none⟩) m vc ∧ ∃ vs : List Value, vs.length = m ∧ (∀ j u, vs[j]? = some u → w.cell? ⟨vb, voff + j, none⟩ = some u ∧ g.S ⟨vb, voff + j, none⟩ ∧ u.oneCell' = true) ∧
      ∀ (j : Nat) u y, vs[j]? = some u → l[j]? = some y → RelV w g.S u y := by
  have key : ∀ (sz : Nat) (xs : List V), RelV w g.S v (.slice false sz xs) → xs.flatMap V.cells = l → xs.length = m → ∃ vb voff vc, v = .slice (some ⟨vb, voff, none⟩) m vc ∧ ∃ vs : List Value, vs.length = m ∧ (∀ j u, vs[j]? = some u → w.cell? ⟨vb, voff + j, none⟩ = some u ∧ g.S ⟨vb, voff + j, none⟩ ∧ u.oneCell' = true) ∧
      ∀ (j : Nat) u y, vs[j]? = some u → l[j]? = some y → RelV w g.S u y := by
    intro sz xs hr hxl hxm
    subst hxl
    cases hr with
    | slice a len cap sz xs val h1 h2 h3 h4 h5 h6 h7 =>
      obtain ⟨ab, ao, asp⟩ := a
      simp only at h3
      subst h3
      refine ⟨ab, ao, cap, by rw [← h1, hxm], (List.range m).map val, by simp, fun j u hu => ?_, fun j u y hu hy => ?_⟩
      · simp only [List.getElem?_map, Option.map_eq_some_iff] at hu
        obtain ⟨k, hk, rfl⟩ := hu
        obtain ⟨q1, q2⟩ := List.getElem?_eq_some_iff.1 hk
        simp at q1 q2
        subst q2
        have := h6 j ((xs.flatMap V.cells)[j]'(by omega)) (by simp)
        rw [add_at] at this
        exact this
      · simp only [List.getElem?_map, Option.map_eq_some_iff] at hu
        obtain ⟨k, hk, rfl⟩ := hu
        obtain ⟨q1, q2⟩ := List.getElem?_eq_some_iff.1 hk
        simp at q1 q2
        subst q2
        exact h7 j y hy
  unfold dataSl at hl
  split at hl <;> cases hl
  · exact key _ _ h.toV rfl (by simpa [srcLen] using hm)
  · cases h with
    | full v nl sz xs hx hc => exact key _ _ hx rfl (by simpa [srcLen] using hm)

theorem ins_get {α : Type} (old new : List α) (i : Nat) (hi : i ≤ old.length) (k : Nat) : (old.take i ++ new ++ old.drop i)[k]? = if k < i then old[k]? else if k < i + new.length then new[k - i]? else old[k - new.length]? := by
  by_cases h1 : k < i
  · rw [if_pos h1, List.append_assoc, List.getElem?_append_left (by simp; omega), List.getElem?_take, if_pos h1]
  · rw [if_neg h1]
    by_cases h2 : k < i + new.length
    · rw [if_pos h2, List.append_assoc, List.getElem?_append_right (by simp; omega), List.getElem?_append_left (by simp; omega)]
      congr 1
      simp; omega
    · rw [if_neg h2, List.getElem?_append_right (by simp; omega), List.getElem?_drop]
      congr 1
      simp; omega

theorem wide_next {P : Program} {f : FuncId} {fn : Func} {c : Code} (h1 : P.funcs[f]? = some fn) (h2 : fn.name ≠ "runtime.NumGoroutine") (hb : fn.body = some c) {vals : Array Value} {w : World} {R : Value → World → Prop}
    (h : Calls P f vals w (Ret R)) : NextOk P (callFunc f vals) w R := by
  unfold NextOk
  rw [callFunc_enter h1 h2 hb]
  exact callsIn_wide.2 h

theorem insRow_ok {par : Par} (hT : TOk par.P par.T) {f : FuncId} {fn : Func} {c : Code} {te : TypeId} {zs : Array Value} (h1 : par.P.funcs[f]? = some fn) (h2 : fn.name ≠ "runtime.NumGoroutine") (hb : fn.body = some c)
    (hk : InsOk par.P f te zs) : SemOk par f (insRow par f) := by
  intro args st d st' h z g w vals inv hsz hr
  refine wide_next h1 h2 hb ?_
  unfold insRow at h
  split at h
  case h_2 => cases h
  rename_i a ver sz off len i x e hu
  split at h
  case h_2 => cases h
  rename_i l m ty cs fz hl hm hlb
  split at h <;> cases h
  rename_i hc
  obtain ⟨hmx, hi0, hi1, rfl, hcel, hbyt, hlm, hm0, hle, rfl, hbig⟩ := hc
  obtain ⟨v0, v1, v2, rfl⟩ : ∃ v0 v1 v2, vals = #[v0, v1, v2] := by
    match vals, hsz with
    | ⟨[v0, v1, v2]⟩, _ => exact ⟨v0, v1, v2, rfl⟩
  have r0 := hr 0 v0 _ rfl rfl
  obtain rfl := (hr 1 v1 _ rfl rfl).toV.int_eq
  have r2 := hr 2 v2 _ rfl rfl
  obtain ⟨vb, voff, vc, rfl, vs, hvl, hvs, hvr⟩ := dataSl_eq r2 hl hm hlm hm0
  obtain ⟨i, rfl⟩ : ∃ k : Nat, i = k := ⟨i.toNat, by omega⟩
  have hil : i < len := by omega
  cases r0 with
  | arr s ver sz off len b δ p cap hbk hlc hs hp hex =>
  obtain ⟨b', δ', hbk', hB, hown⟩ := inv.box hlb
  rw [hbk] at hbk'
  cases hbk'
  obtain ⟨bc, el, fr, e1, e2, e3, e4, e5, e6, e7, e8⟩ := hB
  obtain ⟨cs2, el2, fr2, f1, f2⟩ := hex
  rw [e1] at f1
  cases f1
  obtain rfl := hp (by omega)
  rw [Nat.mul_one] at f2
  have hbl : b < w.heap.size := (Array.getElem?_eq_some_iff.1 e1).1
  have hcell : ∀ k v, bc[k]? = some v → w.cell? ⟨b, k, none⟩ = some v := fun k v hv => by simp only [World.cell?, e1]; simpa using hv
  -- the old elements
  obtain ⟨olds, holds⟩ : ∃ olds : List Value, olds = (List.range len).map fun j => bc.getD (δ + off + j) undef := ⟨_, rfl⟩
  have hol : olds.length = len := by simp [holds]
  have hold : ∀ (j : Nat) u, olds[j]? = some u → j < len ∧ bc[δ + off + j]? = some u := by
    intro j u hj
    rw [holds] at hj
    simp only [List.getElem?_map, Option.map_eq_some_iff] at hj
    obtain ⟨k, q, rfl⟩ := hj
    obtain ⟨q1, q2⟩ := List.getElem?_eq_some_iff.1 q
    simp at q1 q2
    subst q2
    have : δ + off + j < bc.size := by omega
    exact ⟨q1, by simp [Array.getD_eq_getD_getElem?, this]⟩
  have hone : ∀ u ∈ olds, u.oneCell' = true := by
    intro u hu'
    obtain ⟨j, hj, rfl⟩ := List.getElem_of_mem hu'
    obtain ⟨q1, q2⟩ := hold j _ (List.getElem?_eq_getElem hj)
    exact e8 (off + j) _ (by omega) (by rw [← Nat.add_assoc]; exact q2)
  have honev : ∀ u ∈ vs, u.oneCell' = true := by
    intro u hu'
    obtain ⟨j, hj, rfl⟩ := List.getElem_of_mem hu'
    exact (hvs j _ (List.getElem?_eq_getElem hj)).2.2
  -- the new elements, as data
  obtain ⟨oldD, holdD⟩ : ∃ oldD : List D, oldD = (cs.drop off).take len := ⟨_, rfl⟩
  have hodl : oldD.length = len := by rw [holdD]; simp; omega
  have holdR : ∀ (j : Nat) u y, olds[j]? = some u → oldD[j]? = some y → RelD w g u y := by
    intro j u y hj hy
    obtain ⟨q1, q2⟩ := hold j u hj
    rw [holdD, List.getElem?_take, if_pos q1, List.getElem?_drop] at hy
    exact e4 (off + j) u y (by rw [← Nat.add_assoc]; exact q2) hy
  rw [← holdD]
  have hnewR : ∀ (k : Nat) u y, (olds.take i ++ vs ++ olds.drop i)[k]? = some u → (oldD.take i ++ l.map D.v ++ oldD.drop i)[k]? = some y → RelD w g u y := by
    intro k u y hk' hy
    rw [ins_get _ _ _ (by omega)] at hk'
    rw [ins_get _ _ _ (by omega)] at hy
    rw [List.length_map, hlm] at hy
    rw [hvl] at hk'
    by_cases c1 : k < i
    · rw [if_pos c1] at hk' hy
      exact holdR k u y hk' hy
    · rw [if_neg c1] at hk' hy
      by_cases c2 : k < i + m
      · rw [if_pos c2] at hk' hy
        simp only [List.getElem?_map, Option.map_eq_some_iff] at hy
        obtain ⟨y', hy', rfl⟩ := hy
        exact .v _ _ (hvr _ u y' hk' hy')
      · rw [if_neg c2] at hk' hy
        exact holdR _ u y hk' hy
  have hnewL : (oldD.take i ++ l.map D.v ++ oldD.drop i).length = len + m := by simp; omega
  have hnewO : ∀ u ∈ olds.take i ++ vs ++ olds.drop i, u.oneCell' = true := by
    intro u hu'
    simp only [List.mem_append] at hu'
    rcases hu' with (h | h) | h
    · exact hone u (List.mem_of_mem_take h)
    · exact honev u h
    · exact hone u (List.mem_of_mem_drop h)
  have hdl : (olds.drop i).length = len - i := by simp [hol]
  simp only [Int.toNat_natCast]
  by_cases hroom : len + m ≤ cap
  · -- in place
    obtain ⟨tA, kA, hsa, hkA⟩ := shape_of_cell (a := ⟨vb, voff + 0, none⟩) rfl (hvs 0 _ (List.getElem?_eq_getElem (by omega))).1
    have hsb : w.shape? b = some (el, bc.size) := by simp [World.shape?, e1]
    have hfr : fr.2 ≤ δ := by simpa using (e5 0 (Nat.le_refl _)).2.2
    have hfree : ∀ k, δ ≤ k → ¬ g.S ⟨b, k, none⟩ ∧ ¬ g.N ⟨b, k, none⟩ := by
      intro k hk'
      obtain ⟨q1, q2, _⟩ := e5 (k - δ) (Nat.zero_le _)
      rw [show δ + (k - δ) = k from by omega] at q1 q2
      exact ⟨q1, q2⟩
    have hnf : ∀ k, δ ≤ k → w.frozen? ⟨b, k, none⟩ = false := by
      intro k hk'
      simp only [World.frozen?, e1]
      obtain ⟨lo, hi⟩ := fr
      simp only at hfr ⊢
      rw [Bool.and_eq_false_iff]
      right
      simp; omega
    refine (hk.shift b (δ + off) len cap i vb voff m vc olds vs w hil hm0 hroom (by simp [big40] at hbig; omega) hol hvl (fun j v hj => hcell _ _ (hold j v hj).2) (fun j hj => ?_) (fun j hj => hnf _ (by omega))
      (fun j v hj => (hvs j v hj).1) hone honev tA el kA bc.size hsa hsb hkA (by omega) (hnf _ (by omega)) (fun j hj hbb => ?_)).mono ?_
    · have : δ + off + j < bc.size := by omega
      rw [hcell _ _ (Array.getElem?_eq_getElem this)]
      rfl
    · subst hbb
      have hSj := (hvs j _ (List.getElem?_eq_getElem (by omega))).2.1
      rcases Nat.lt_or_ge (voff + j) δ with q | q
      · omega
      · exact absurd hSj (hfree _ q).1
    · rintro _ w' ⟨rfl, hw'⟩
      obtain ⟨BC, hBC⟩ : ∃ BC, BC = setArr (setArr bc (δ + off + (i + m)) (olds.drop i)) (δ + off + i) vs := ⟨_, rfl⟩
      have hw2 : w' = { w.drew with heap := w.heap.setIfInBounds b (.cells BC el fr) } := by
        rw [hw', setCells_eq b (olds.drop i) _ w.drew bc el fr e1, setCells_eq b vs _ _ (setArr bc (δ + off + (i + m)) (olds.drop i)) el fr (by
          show (w.heap.setIfInBounds b _)[b]? = _
          simp [hbl])]
        rw [hBC]
        simp only [Array.setIfInBounds_setIfInBounds]
        rfl
      have hBs : BC.size = bc.size := by rw [hBC, setArr_size, setArr_size]
      have hBg : ∀ k, BC[k]? = if δ + off ≤ k ∧ k < δ + off + (len + m) then (olds.take i ++ vs ++ olds.drop i)[k - (δ + off)]? else bc[k]? := by
        intro k
        rw [hBC, setArr_get _ _ _ (by rw [setArr_size]; omega), setArr_get _ _ _ (by rw [hdl]; omega), hvl, hdl]
        by_cases c0 : δ + off ≤ k ∧ k < δ + off + (len + m)
        · rw [if_pos c0, ins_get _ _ _ (by omega), hvl]
          by_cases c1 : k - (δ + off) < i
          · rw [if_pos c1, if_neg (by omega), if_neg (by omega)]
            obtain ⟨q1, q2⟩ := hold (k - (δ + off)) _ (List.getElem?_eq_getElem (by omega))
            rw [show δ + off + (k - (δ + off)) = k from by omega] at q2
            rw [q2]
            simp
          · rw [if_neg c1]
            by_cases c2 : k - (δ + off) < i + m
            · rw [if_pos c2, if_pos (by omega)]
              congr 1
              omega
            · rw [if_neg c2, if_neg (by omega), if_pos (by omega), List.getElem?_drop]
              congr 1
              omega
        · rw [if_neg c0, if_neg (by omega), if_neg (by omega)]
      have hW : Wrote w.drew w' b (δ + off) (δ + off + (len + m)) bc BC el fr fr := by
        subst hw2
        refine ⟨e1, ?_, hBs, fun k hk' => ?_, fun k hk' => ?_, ?_, rfl, rfl, rfl⟩
        · show (w.heap.setIfInBounds b _)[b]? = _
          simp [hbl]
        · rw [hBg, if_neg hk']
        · show (w.heap.setIfInBounds b _)[k]? = _
          rw [Array.getElem?_setIfInBounds_ne (Ne.symm hk')]
          rfl
        · show (w.heap.setIfInBounds b _).size = _
          simp
      have hlook := lookBox_look hlb
      obtain ⟨x1, x2⟩ := inv.drew.write (ver' := ver + 1) (δ' := δ + off) (bo := .box noTy (oldD.take i ++ l.map D.v ++ oldD.drop i) 0) (S' := g.S) hmx hlook hbk hW (fun k q1 q2 => hfree k (by omega)) (.inr rfl) (fun a ha => .inl ha) (fun a ha => ha) (fun hE => by
        refine ⟨BC, el, fr, hW.is, fun h => absurd rfl h, by rw [hnewL, hBs]; omega, fun k v y hv hy => ?_, fun k _ => ?_, fun k hk' => by omega, Nat.zero_le _, fun k v hk' hv => ?_⟩
        · have hkl : k < len + m := by rw [← hnewL]; exact (List.getElem?_eq_some_iff.1 hy).1
          rw [hBg, if_pos (by omega), show δ + off + k - (δ + off) = k from by omega] at hv
          exact ((hnewR k v y hv hy).ext (Ext.drew g w)).ext hE
        · obtain ⟨q1, q2⟩ := hfree (δ + off + k) (by omega)
          exact ⟨q1, q2, by omega⟩
        · rw [hnewL] at hk'
          rw [hBg, if_pos (by omega), show δ + off + k - (δ + off) = k from by omega] at hv
          exact hnewO v (List.mem_of_getElem? hv))
      refine ⟨_, (Ext.drew g w).trans x1, x2, ?_⟩
      refine .arr _ _ _ _ _ b (δ + off) (δ + off) cap (Gh.put_self _ _ _ _) hroom (Nat.le_refl _) (fun _ => rfl) ⟨BC, el, fr, hW.is, by rw [hBs]; omega⟩
  · -- into a new row
    obtain ⟨G, hG, hcalls⟩ := hk.grow b (δ + off) len cap i vb voff m vc olds vs w hil hm0 hlc (by omega) (by simp [big40] at hbig; omega) hol hvl (fun j v hj => hcell _ _ (hold j v hj).2) (fun j v hj => (hvs j v hj).1) hone honev
    refine hcalls.mono ?_
    rintro _ w' ⟨rfl, hw'⟩
    obtain ⟨R0, hR0⟩ : ∃ R0 : Array Value, R0 = (olds.take i).toArray ++ Builtin.zeroCells zs (len + m - i) ++ Builtin.zeroCells zs (G - (len + m)) := ⟨_, rfl⟩
    have hz : ∀ n, (Builtin.zeroCells zs n).size = n := by
      intro n
      have := hk.zs1
      simp [Builtin.zeroCells, this]
    have hR0s : R0.size = G := by
      rw [hR0]
      simp only [Array.size_append, List.size_toArray, List.length_take, hz, hol]
      omega
    have hR0g : ∀ k, k < i → R0[k]? = olds[k]? := by
      intro k hk'
      rw [hR0, Array.getElem?_append_left (by simp; omega), Array.getElem?_append_left (by simp; omega), List.getElem?_toArray, List.getElem?_take, if_pos hk']
    rw [← hR0] at hw'
    obtain ⟨R, hR⟩ : ∃ R, R = setArr (setArr R0 i vs) (i + m) (olds.drop i) := ⟨_, rfl⟩
    have hw2 : w' = w.drew.drew.alloc (.cells R te) := by
      rw [hw', hR]
      have q1 : (w.alloc (.cells R0 te)).drew = w.drew.alloc (.cells R0 te) := rfl
      rw [q1]
      have q2 := setCells_alloc w.drew R0 te i vs
      have q3 : w.drew.heap.size = w.heap.size := rfl
      rw [q3] at q2
      rw [q2]
      have q4 : (w.drew.alloc (.cells (setArr R0 i vs) te)).drew = w.drew.drew.alloc (.cells (setArr R0 i vs) te) := rfl
      rw [q4]
      exact setCells_alloc w.drew.drew (setArr R0 i vs) te (i + m) (olds.drop i)
    have hRs : R.size = G := by rw [hR, setArr_size, setArr_size, hR0s]
    have hRg : ∀ k, k < len + m → R[k]? = (olds.take i ++ vs ++ olds.drop i)[k]? := by
      intro k hk'
      rw [hR, setArr_get _ _ _ (by rw [setArr_size, hdl]; omega), setArr_get _ _ _ (by omega), hvl, hdl, ins_get _ _ _ (by omega), hvl]
      by_cases c1 : k < i
      · rw [if_pos c1, if_neg (by omega), if_neg (by omega), hR0g k c1]
      · rw [if_neg c1]
        by_cases c2 : k < i + m
        · rw [if_pos c2, if_neg (by omega), if_pos (by omega)]
        · rw [if_neg c2, if_pos (by omega), List.getElem?_drop]
          congr 1
          omega
    have hver : verS st.sites a = ver := by
      obtain ⟨r, q1, q2, _⟩ := look_of (lookBox_look hlb)
      simp [verS, q1, q2]
    have hE2 : Ext g w g w.drew.drew := (Ext.drew g w).trans (Ext.drew g w.drew)
    obtain ⟨g', x1, x2, x3⟩ := inv.drew.drew.newFz (s := a) (ver := ver + 1) hmx (by omega) te noTy (fun h => absurd rfl h) (cells := R) (ds := oldD.take i ++ l.map D.v ++ oldD.drop i) (fz := 0) (by rw [hnewL, hRs]; exact hG) (Nat.zero_le _)
      (fun k v y hv hy => by
        have hkl : k < len + m := by rw [← hnewL]; exact (List.getElem?_eq_some_iff.1 hy).1
        rw [hRg k hkl] at hv
        exact (hnewR k v y hv hy).ext hE2)
      (fun k v hk' hv => by
        rw [hnewL] at hk'
        rw [hRg k hk'] at hv
        exact hnewO v (List.mem_of_getElem? hv))
    subst hw2
    refine ⟨g', hE2.trans x1, x2, ?_⟩
    refine .arr _ _ _ _ _ w.heap.size 0 0 G x3 hG (Nat.le_refl _) (fun _ => rfl) ⟨R, te, (0, 0), alloc_new _ _, by rw [hRs]; omega⟩

end Go.BI
/- FROM A SEAT's TABLES TO 'ParOk'; FROM WHAT THE ROW LAYS TO 'GlobOk'; calls shown once, kept as a table; a law's call. -/
set_option linter.unusedVariables false
set_option linter.unusedSimpArgs false
namespace Go.BI
open Go Go.RowKit

/-! ### Tables -/
inductive Tab.All {α : Type} (p : Nat → α → Prop) : Tab α → Prop
  | leaf : Tab.All p .leaf
  | node {k : Nat} {v : α} {l r : Tab α} : p k v → Tab.All p l → Tab.All p r → Tab.All p (.node k v l r)

theorem Tab.All.get {α : Type} {p : Nat → α → Prop} {t : Tab α} (h : t.All p) (d : α) (n : Nat) : t.get d n = d ∨ p n (t.get d n) := by
  induction h with
  | leaf => exact .inl rfl
  | node hv _ _ il ir =>
    simp only [Tab.get]
    split
    · rename_i hn
      subst hn
      exact .inr hv
    · split
      · exact il
      · exact ir

/-! ### Types -/
def subB (T : Tys) : TypeDesc → Bool
  | .struct fs => fs.toList.all fun f => (T f.type).isSome
  | .array _ e => (T e).isSome
  | _ => true

structure TypeOk (P : Program) (T : Tys) (t : TypeId) (i : TInf) : Prop where
  info : ∃ inf, P.info? t = some inf ∧ P.underlying t = some i.desc ∧ inf.size = i.size ∧ inf.bytes = i.bytes ∧ ∀ z, i.zero = some z → ∃ v, inf.zero = some v ∧ constV v = some z
  feq : ∀ es, i.feq = some es → flatEqP P t es = true
  sub : subB T i.desc = true

theorem TOk.of_all {P : Program} {T : Tys} (h : ∀ t i, T t = some i → TypeOk P T t i) : TOk P T := by
  refine ⟨fun t i e => (h t i e).info, fun t i es e => (h t i e).feq es, fun t i e => ?_⟩
  have hs := (h t i e).sub
  refine ⟨fun fs hd f hf => ?_, fun n el hd => ?_⟩
  · rw [hd] at hs
    simp only [subB, List.all_eq_true] at hs
    exact hs f hf
  · rw [hd] at hs
    exact hs

theorem TypeOk.plain {P : Program} {T : Tys} {t : TypeId} {i : TInf} {inf : TypeInfo} (h1 : P.info? t = some inf) (h2 : P.underlying t = some i.desc) (h3 : inf.size = i.size) (h4 : inf.bytes = i.bytes) (h5 : i.zero = none) (h6 : i.feq = none) (h7 : subB T i.desc = true) : TypeOk P T t i :=
  ⟨⟨inf, h1, h2, h3, h4, fun z e => (by rw [h5] at e; cases e)⟩, fun es e => (by rw [h6] at e; cases e), h7⟩

theorem TypeOk.zeroed {P : Program} {T : Tys} {t : TypeId} {i : TInf} {inf : TypeInfo} (h1 : P.info? t = some inf) (h2 : P.underlying t = some i.desc) (h3 : inf.size = i.size) (h4 : inf.bytes = i.bytes) (v : Value) (z : V) (h5 : i.zero = some z) (h5' : inf.zero = some v) (h5'' : constV v = some z)
    (h6 : i.feq = none) (h7 : subB T i.desc = true) : TypeOk P T t i :=
  ⟨⟨inf, h1, h2, h3, h4, fun z' e => (by rw [h5] at e; cases e; exact ⟨v, h5', h5''⟩)⟩, fun es e => (by rw [h6] at e; cases e), h7⟩

theorem TypeOk.flat {P : Program} {T : Tys} {t : TypeId} {i : TInf} {inf : TypeInfo} (h1 : P.info? t = some inf) (h2 : P.underlying t = some i.desc) (h3 : inf.size = i.size) (h4 : inf.bytes = i.bytes) (v : Value) (z : V) (h5 : i.zero = some z) (h5' : inf.zero = some v) (h5'' : constV v = some z)
    (es : List EK) (h6 : i.feq = some es) (h6' : flatEqP P t es = true) (h7 : subB T i.desc = true) : TypeOk P T t i :=
  ⟨⟨inf, h1, h2, h3, h4, fun z' e => (by rw [h5] at e; cases e; exact ⟨v, h5', h5''⟩)⟩, fun es' e => (by rw [h6] at e; cases e; exact h6'), h7⟩

theorem TypeOk.flat0 {P : Program} {T : Tys} {t : TypeId} {i : TInf} {inf : TypeInfo} (h1 : P.info? t = some inf) (h2 : P.underlying t = some i.desc) (h3 : inf.size = i.size) (h4 : inf.bytes = i.bytes) (h5 : i.zero = none)
    (es : List EK) (h6 : i.feq = some es) (h6' : flatEqP P t es = true) (h7 : subB T i.desc = true) : TypeOk P T t i :=
  ⟨⟨inf, h1, h2, h3, h4, fun z' e => (by rw [h5] at e; cases e)⟩, fun es' e => (by rw [h6] at e; cases e; exact h6'), h7⟩

theorem tys_of_tab {P : Program} {tab : Tab (Option TInf)} (h : tab.All fun t o => ∀ i, o = some i → TypeOk P (fun t => tab.get none t) t i) : TOk P (fun t => tab.get none t) := by
  refine TOk.of_all fun t i e => ?_
  rcases h.get none t with q | q
  · simp only [q] at e
    cases e
  · exact q i e

/-! ### Functions -/
def fnB (fn : Func) : Bool := !(fn.name == "runtime.NumGoroutine") && match fn.body with | some c => codeOk fn.ntmps c && Nat.ble fn.ntmps 4000 | none => true

def FnOk (P : Program) (f : FuncId) (fn : Func) : Prop := P.funcs[f]? = some fn ∧ fn.name ≠ "runtime.NumGoroutine" ∧ ∀ c, fn.body = some c → codeOk fn.ntmps c = true ∧ fn.ntmps ≤ 4000

theorem FnOk.mk {P : Program} {f : FuncId} {fn : Func} (h1 : P.funcs[f]? = some fn) (h2 : fnB fn = true) : FnOk P f fn := by
  simp only [fnB, Bool.and_eq_true, Bool.not_eq_true', beq_eq_false_iff_ne] at h2
  refine ⟨h1, h2.1, fun c hc => ?_⟩
  have := h2.2
  rw [hc] at this
  simp only [Bool.and_eq_true] at this
  exact ⟨this.1, Nat.le_of_ble_eq_true this.2⟩

theorem fns_of_tab {P : Program} {tab : Tab (Option Func)} (h : tab.All fun f o => ∀ fn, o = some fn → FnOk P f fn) : ∀ f fn, tab.get none f = some fn → FnOk P f fn := by
  intro f fn e
  rcases h.get none f with q | q
  · rw [q] at e
    cases e
  · exact q fn e

def SpecK (par : Par) (f : FuncId) : Kind → Prop
  | .nat gf => NatOk par f gf
  | .ident => SemOk par f identB
  | .bytes => SemOk par f (mkBytes par f)
  | .insert => SemOk par f (insRow par f)
  | _ => True

theorem SpecK.refs {par : Par} {f : FuncId} : SpecK par f .refs := trivial
theorem SpecK.keeps {par : Par} {f : FuncId} : SpecK par f .keeps := trivial
theorem SpecK.nat {par : Par} {f : FuncId} {gf : List V → Option V} (h : NatOk par f gf) : SpecK par f (.nat gf) := h
theorem SpecK.ident {par : Par} {f : FuncId} (h : SemOk par f identB) : SpecK par f .ident := h
theorem SpecK.bytes {par : Par} {f : FuncId} (h : SemOk par f (mkBytes par f)) : SpecK par f .bytes := h
theorem SpecK.insert {par : Par} {f : FuncId} (h : SemOk par f (insRow par f)) : SpecK par f .insert := h

theorem SpecOk.iff {par : Par} {f : FuncId} : SpecOk par f ↔ SpecK par f (par.spec f) := by
  unfold SpecOk SpecK
  cases par.spec f <;> exact Iff.rfl

theorem parOk_of {par : Par} {tab : Tab Kind} (hs : par.spec = fun f => tab.get .plain f) (hT : TOk par.P par.T) (hf : ∀ f fn, par.fn f = some fn → FnOk par.P f fn) (hk : tab.All fun f k => SpecK par f k) : ParOk par where
  T := hT
  fn := hf
  spec := fun f => SpecOk.iff.2 (by
    rw [hs]
    rcases hk.get .plain f with h | h
    · simp only [h]
      trivial
    · exact h)

/-! ### Data are equal -/
mutual
def sameV : V → V → Bool
  | .undef, .undef => true
  | .bool a, .bool b => a == b
  | .int k n, .int k' n' => decide (k = k') && decide (n = n')
  | .str s, .str s' => decide (s = s')
  | .nilp, .nilp => true
  | .nilfn, .nilfn => true
  | .nilif, .nilif => true
  | .iface t x, .iface t' x' => Nat.beq t t' && sameV x x'
  | .ifany, .ifany => true
  | .slice n s xs, .slice n' s' xs' => n == n' && Nat.beq s s' && sameVs xs xs'
  | .agg xs, .agg xs' => sameVs xs xs'
  | .tup xs, .tup xs' => sameVs xs xs'
  | _, _ => false
def sameVs : List V → List V → Bool
  | [], [] => true
  | x :: xs, y :: ys => sameV x y && sameVs xs ys
  | _, _ => false
end

mutual
theorem sameV_eq : ∀ a b : V, sameV a b = true → a = b := by
  intro a b h
  cases a <;> cases b <;> simp only [sameV, Bool.and_eq_true, beq_iff_eq, decide_eq_true_eq, Bool.false_eq_true] at h <;> first
    | rfl
    | exact h.elim
    | (rw [h])
    | (rw [h.1, h.2])
    | (rename_i t x t' x'; rw [Nat.eq_of_beq_eq_true h.1, sameV_eq x x' h.2])
    | (rename_i n s xs n' s' xs'; rw [h.1.1, Nat.eq_of_beq_eq_true h.1.2, sameVs_eq xs xs' h.2])
    | (rename_i xs xs'; rw [sameVs_eq xs xs' h])
theorem sameVs_eq : ∀ a b : List V, sameVs a b = true → a = b := by
  intro a b h
  cases a <;> cases b <;> simp only [sameVs, Bool.and_eq_true, Bool.false_eq_true] at h <;> first
    | rfl
    | exact h.elim
    | (rename_i x xs y ys; rw [sameV_eq x y h.1, sameVs_eq xs ys h.2])
end

/-! ### Calls shown once -/
/-- One call with an empty store: what it gives. -/
def NatAt (par : Par) (f : FuncId) (l : List V) (x : V) : Prop :=
  ∀ (w : World) (S : Addr → Prop) (vals : Array Value), (∀ a, S a → a.spot = none ∧ ∃ v, w.cell? a = some v) → GlobOk par w (Gh.shut w S) → vals.size = l.length →
    (∀ (i : Nat) v y, vals[i]? = some v → l[i]? = some y → RelV w S v y) → NextOk par.P (callFunc f vals) w fun v w' => Closed w S x v w'

theorem NatAt.of_eval {par : Par} (hP : ParOk par) {n : Nat} {f : FuncId} {l : List V} {x : V} (h : callT par (exec par n) f (l.map .v) = some x) : NatAt par f l x := by
  intro w S vals hS hG hl hr
  refine callT_ok hP (exec_ok hP n) h hS hG (by simpa using hl) (fun i v y hv hy => ?_)
  simp only [List.getElem?_map, Option.map_eq_some_iff] at hy
  obtain ⟨y', hy', rfl⟩ := hy
  exact RelC.of_v (hr i v y' hv hy')

/-- The calls shown; else the text. -/
noncomputable def memoF (par : Par) (n : Nat) (f : FuncId) : List (List V × V) → List V → Option V
  | [], l => callT par (exec par n) f (l.map .v)
  | (a, x) :: r, l => match sameVs a l with
    | true => some x
    | false => memoF par n f r l

theorem memoF_ok {par : Par} (hP : ParOk par) {n : Nat} {f : FuncId} : ∀ {tab : List (List V × V)}, (∀ p ∈ tab, NatAt par f p.1 p.2) → NatOk par f (memoF par n f tab) := by
  intro tab
  induction tab with
  | nil => intro _ w S vals l x hS hG hl hr h; exact NatAt.of_eval hP h w S vals hS hG hl hr
  | cons p r ih =>
    obtain ⟨a, x0⟩ := p
    intro h w S vals l x hS hG hl hr he
    simp only [memoF] at he
    split at he
    · rename_i hq
      cases he
      obtain rfl := sameVs_eq _ _ hq
      exact h (a, x0) (by simp) w S vals hS hG hl hr
    · exact ih (fun p hp => h p (by simp [hp])) w S vals l x hS hG hl hr he

/-- The same seat, one function's calls kept as a table. -/
noncomputable def Par.with (par : Par) (f : FuncId) (gf : List V → Option V) : Par := { par with spec := fun g => match Nat.beq g f with | true => .nat gf | false => par.spec g }

theorem ParOk.with {par : Par} (h : ParOk par) {f : FuncId} {gf : List V → Option V} (hg : NatOk par f gf) : ParOk (par.with f gf) := by
  refine ⟨h.T, h.fn, fun g => ?_⟩
  rw [SpecOk.iff]
  have hs := SpecOk.iff.1 (h.spec g)
  show SpecK (par.with f gf) g (match Nat.beq g f with | true => Kind.nat gf | false => par.spec g)
  cases hb : Nat.beq g f with
  | true =>
    obtain rfl := Nat.eq_of_beq_eq_true hb
    exact hg
  | false =>
    simp only
    cases hk : par.spec g <;> rw [hk] at hs <;> exact hs

theorem NatAt.base {par par' : Par} (hP : par'.P = par.P) (hG : par'.G = par.G) {f : FuncId} {l : List V} {x : V} (h : NatAt par' f l x) : NatAt par f l x := by
  intro w S vals hS hg hl hr
  have := h w S vals hS (fun i => by rw [hG]; exact hg i) hl hr
  rwa [hP] at this

/-- Each entry is right. -/
inductive MemoOk (par : Par) (f : FuncId) : List (List V × V) → Prop
  | nil : MemoOk par f []
  | cons {p : List V × V} {r : List (List V × V)} : NatAt par f p.1 p.2 → MemoOk par f r → MemoOk par f (p :: r)

theorem MemoOk.all {par : Par} {f : FuncId} {t : List (List V × V)} (h : MemoOk par f t) : ∀ p ∈ t, NatAt par f p.1 p.2 := by
  induction h with
  | nil => intro p hp; cases hp
  | cons h1 _ ih =>
    intro p hp
    rcases List.mem_cons.1 hp with rfl | hp
    · exact h1
    · exact ih p hp

theorem memo_with {base par0 par1 : Par} (h0 : ParOk par0) (e0P : par0.P = base.P) (e0G : par0.G = base.G) (h1 : ParOk par1) (e1P : par1.P = base.P) (e1G : par1.G = base.G) {f : FuncId} {n : Nat} {tab : List (List V × V)}
    (ht : MemoOk base f tab) : ParOk (par1.with f (memoF par0 n f tab)) := by
  refine h1.with ?_
  have h := memoF_ok h0 (n := n) (f := f) (tab := tab) (fun p hp => (ht.all p hp).base e0P.symm e0G.symm)
  intro w S vals l x hS hg hl hr he
  have := h w S vals l x hS (fun i => by rw [e0G, ← e1G]; exact hg i) hl hr he
  rwa [e0P, ← e1P] at this

/-! ### What the row lays -/
section
variable {H : Type}

def fitFs (T : Tys) (rec : TypeId → DataW H → Option (List V)) : Nat → List Field → List (DataW H) → Option (List V)
  | _, [], [] => some []
  | off, f :: fs, d :: ds => match rec f.type d with
    | some xs => match Nat.beq f.offset off, Nat.beq xs.length (cel T f.type), Nat.beq xs.length 0 with
      | true, true, false => match fitFs T rec (off + xs.length) fs ds with
        | some ys => some (xs ++ ys)
        | none => none
      | _, _, _ => none
    | none => none
  | _, _, _ => none

def fitAll (rec : DataW H → Option (List V)) (sz : Nat) : List (DataW H) → Option (List V)
  | [] => some []
  | d :: ds => match rec d with
    | some xs => match Nat.beq xs.length sz with
      | true => match fitAll rec sz ds with
        | some ys => some (xs ++ ys)
        | none => none
      | _ => none
    | none => none

/-- The cells of a variable that reads as this. -/
def fits (T : Tys) : Nat → TypeId → DataW H → Option (List V)
  | 0, _, _ => none
  | n + 1, t, d => match und T t, d with
    | some (.int _), .lit (.int k x) => some [.int k x]
    | some .string, .lit (.string l) => some [.str l]
    | some (.interface _), .iface _ _ => some [.ifany]
    | some (.struct fs), .agg ds => match fitFs T (fits T n) 0 fs.toList ds with
      | some xs => match Nat.beq xs.length (cel T t), Nat.beq (cel T t) 0 with
        | true, false => some xs
        | _, _ => none
      | none => none
    | some (.array _ e), .agg ds => match fitAll (fits T n e) (cel T e) ds, Nat.beq (cel T e) 0 with
      | some xs, false => match Nat.beq xs.length (cel T t), Nat.beq (cel T t) 0 with
        | true, false => some xs
        | _, _ => none
      | _, _ => none
    | _, _ => none

/-- Cells that read as data with no cells behind them. -/
def Reads (cs : List Value) (xs : List V) : Prop := cs.length = xs.length ∧ ∀ (i : Nat) v x, cs[i]? = some v → xs[i]? = some x → (∀ (w : World) (S : Addr → Prop), RelV w S v x) ∧ v.oneCell' = true

theorem Reads.append {a b : List Value} {x y : List V} (h : Reads a x) (k : Reads b y) : Reads (a ++ b) (x ++ y) := by
  refine ⟨by simp [h.1, k.1], fun i v u hv hu => ?_⟩
  by_cases hi : i < a.length
  · rw [List.getElem?_append_left hi] at hv
    rw [List.getElem?_append_left (by rw [← h.1]; exact hi)] at hu
    exact h.2 i v u hv hu
  · rw [List.getElem?_append_right (by omega)] at hv
    rw [List.getElem?_append_right (by rw [← h.1]; omega), ← h.1] at hu
    exact k.2 _ v u hv hu

theorem mapM_cons {α β : Type} {f : α → Option β} {a : α} {l : List α} {ys : List β} (h : (a :: l).mapM f = some ys) : ∃ y r, ys = y :: r ∧ f a = some y ∧ l.mapM f = some r := by
  rw [List.mapM_cons] at h
  simp only [bind, Option.bind_eq_some_iff, pure, Option.some.injEq] at h
  obtain ⟨y, h1, r, h2, h3⟩ := h
  exact ⟨y, r, h3.symm, h1, h2⟩

theorem take_split {α : Type} (cs : List α) (o n m : Nat) : (cs.drop o).take (n + m) = (cs.drop o).take n ++ (cs.drop (o + n)).take m := by
  rw [List.take_add, List.drop_drop]

end

section
variable {P : Program} {T : Tys} {enc : TypeId × Value → Unit} {w : World} {base : Nat} {sp : Nat → Bool} {held : Bool}

theorem fits_reads (hT : TOk P T) : ∀ (n : Nat) (t : TypeId) (d : DataW Unit) (xs : List V), fits T n t d = some xs → ∀ (fuel : Nat) (cs : List Value) (p : List MemPlace), DataW.trod enc P w base sp held fuel t cs = some (d, p) → held = false → Reads cs xs := by
  intro n
  induction n with
  | zero => intro t d xs h; cases h
  | succ n ih =>
    intro t d xs h fuel cs p ht hh
    subst hh
    cases fuel with
    | zero => simp [DataW.trod] at ht
    | succ fuel =>
      simp only [fits] at h
      split at h
      · rename_i k k' x hu
        cases h
        have hu := hT.und hu
        match cs with
        | [] => simp [DataW.trod, hu] at ht
        | _ :: _ :: _ => simp [DataW.trod, hu] at ht
        | [c] =>
          cases c <;> simp [DataW.trod, hu] at ht
          obtain ⟨⟨rfl, _⟩, ⟨rfl, rfl⟩, _⟩ := ht
          refine ⟨rfl, fun i v y hv hy => ?_⟩
          cases i with
          | zero => cases hv; cases hy; exact ⟨fun _ _ => .int _ _, rfl⟩
          | succ i => cases hv
      · rename_i l hu
        cases h
        have hu := hT.und hu
        match cs with
        | [] => simp [DataW.trod, hu] at ht
        | _ :: _ :: _ => simp [DataW.trod, hu] at ht
        | [c] =>
          cases c <;> simp [DataW.trod, hu] at ht
          obtain ⟨_, rfl, _⟩ := ht
          refine ⟨rfl, fun i v y hv hy => ?_⟩
          cases i with
          | zero => cases hv; cases hy; exact ⟨fun _ _ => .str _, rfl⟩
          | succ i => cases hv
      · rename_i ms nm dd hu
        cases h
        have hu := hT.und hu
        match cs with
        | [] => simp [DataW.trod, hu] at ht
        | _ :: _ :: _ => simp [DataW.trod, hu] at ht
        | [c] =>
          cases c <;> simp [DataW.trod, hu] at ht
          refine ⟨rfl, fun i v y hv hy => ?_⟩
          cases i with
          | zero => cases hv; cases hy; exact ⟨fun _ _ => .ifany _ _, rfl⟩
          | succ i => cases hv
      · rename_i fs ds hu
        have hu' := hT.und hu
        split at h
        case h_2 => cases h
        rename_i xs' hf
        split at h
        case h_2 => cases h
        rename_i c1 c2
        cases h
        have hc0 : cel T t ≠ 0 := fun e => by rw [e] at c2; cases c2
        have hxl : xs.length = P.cellsOf t := by rw [hT.cel hc0]; exact Nat.eq_of_beq_eq_true c1
        obtain ⟨hlen, ys, hm, hys⟩ : cs.length = P.cellsOf t ∧ ∃ ys, (fs.toList.mapM fun f => DataW.trod enc P w base sp false fuel f.type ((cs.drop f.offset).take (P.cellsOf f.type))) = some ys ∧ ys.map (·.1) = ds := by
          simp only [DataW.trod, hu'] at ht
          split at ht
          · rename_i hl
            refine ⟨hl, ?_⟩
            simp only [Option.map_eq_some_iff, Prod.mk.injEq, DataW.agg.injEq] at ht
            obtain ⟨ys, h1, h2, _⟩ := ht
            exact ⟨ys, h1, h2⟩
          · cases ht
        have key : ∀ (fl : List Field) (dl : List (DataW Unit)) (yl : List (DataW Unit × List MemPlace)) (off : Nat) (xl : List V), fitFs T (fits T n) off fl dl = some xl →
            (fl.mapM fun f => DataW.trod enc P w base sp false fuel f.type ((cs.drop f.offset).take (P.cellsOf f.type))) = some yl → yl.map (·.1) = dl → Reads ((cs.drop off).take xl.length) xl := by
          intro fl
          induction fl with
          | nil =>
            intro dl yl off xl h1 h2 h3
            cases dl with
            | nil => simp only [fitFs] at h1; cases h1; exact ⟨by simp, fun i v x hv hx => by cases hx⟩
            | cons d dl => simp only [fitFs] at h1; cases h1
          | cons f fl ihf =>
            intro dl yl off xl h1 h2 h3
            cases dl with
            | nil => simp only [fitFs] at h1; cases h1
            | cons d dl =>
              simp only [fitFs] at h1
              split at h1
              case h_2 => cases h1
              rename_i x1 hx1
              split at h1
              case h_2 => cases h1
              rename_i b1 b2 b3
              split at h1 <;> cases h1
              rename_i x2 hx2
              have e1 := Nat.eq_of_beq_eq_true b1
              have e2 := Nat.eq_of_beq_eq_true b2
              have e3 : x1.length ≠ 0 := fun e => by rw [e] at b3; cases b3
              obtain ⟨y, yr, rfl, q1, q2⟩ := mapM_cons h2
              simp only [List.map_cons, List.cons.injEq] at h3
              have r1 := ih f.type d x1 hx1 fuel _ y.2 (by rw [q1, ← h3.1]) rfl
              rw [hT.cel (by rw [← e2]; exact e3), ← e2, e1] at r1
              have r2 := ihf dl yr (off + x1.length) x2 hx2 q2 h3.2
              rw [List.length_append, take_split]
              exact r1.append r2
        have := key fs.toList ds ys 0 xs hf hm hys
        rw [List.drop_zero, List.take_of_length_le (by omega)] at this
        exact this
      · rename_i m e ds hu
        have hu' := hT.und hu
        split at h
        case h_2 => cases h
        rename_i xs' hf c0
        split at h
        case h_2 => cases h
        rename_i c1 c2
        cases h
        have hc0 : cel T t ≠ 0 := fun e => by rw [e] at c2; cases c2
        have hce : cel T e ≠ 0 := fun e => by rw [e] at c0; cases c0
        have hxl : xs.length = P.cellsOf t := by rw [hT.cel hc0]; exact Nat.eq_of_beq_eq_true c1
        obtain ⟨hlen, ys, hm, hys⟩ : cs.length = P.cellsOf t ∧ ∃ ys, ((List.range m).mapM fun i => DataW.trod enc P w base sp false fuel e ((cs.drop (i * P.cellsOf e)).take (P.cellsOf e))) = some ys ∧ ys.map (·.1) = ds := by
          simp only [DataW.trod, hu'] at ht
          split at ht
          · rename_i hl
            refine ⟨hl, ?_⟩
            simp only [Option.map_eq_some_iff, Prod.mk.injEq, DataW.agg.injEq] at ht
            obtain ⟨ys, h1, h2, _⟩ := ht
            exact ⟨ys, h1, h2⟩
          · cases ht
        have key : ∀ (k j : Nat) (dl : List (DataW Unit)) (yl : List (DataW Unit × List MemPlace)) (xl : List V), fitAll (fits T n e) (cel T e) dl = some xl →
            ((List.range' j k).mapM fun i => DataW.trod enc P w base sp false fuel e ((cs.drop (i * P.cellsOf e)).take (P.cellsOf e))) = some yl → yl.map (·.1) = dl → Reads ((cs.drop (j * P.cellsOf e)).take xl.length) xl := by
          intro k
          induction k with
          | zero =>
            intro j dl yl xl h1 h2 h3
            simp only [List.range'_zero, List.mapM_nil, pure, Option.some.injEq] at h2
            subst h2
            simp only [List.map_nil] at h3
            subst h3
            simp only [fitAll] at h1
            cases h1
            exact ⟨by simp, fun i v x hv hx => by cases hx⟩
          | succ k ihk =>
            intro j dl yl xl h1 h2 h3
            rw [List.range'_succ] at h2
            obtain ⟨y, yr, rfl, q1, q2⟩ := mapM_cons h2
            cases dl with
            | nil => simp at h3
            | cons d dl =>
              simp only [fitAll] at h1
              split at h1
              case h_2 => cases h1
              rename_i x1 hx1
              split at h1
              case h_2 => cases h1
              rename_i b2
              split at h1 <;> cases h1
              rename_i x2 hx2
              have e2 := Nat.eq_of_beq_eq_true b2
              simp only [List.map_cons, List.cons.injEq] at h3
              have r1 := ih e d x1 hx1 fuel _ y.2 (by rw [q1, ← h3.1]) rfl
              have r2 := ihk (j + 1) dl yr x2 hx2 q2 h3.2
              have ece := hT.cel hce
              rw [ece, ← e2] at r1
              rw [ece, ← e2, Nat.add_mul, Nat.one_mul] at r2
              rw [ece, ← e2, List.length_append, take_split]
              exact r1.append r2
        have := key m 0 ds ys xs hf (by rw [← List.range_eq_range']; exact hm) hys
        rw [Nat.zero_mul, List.drop_zero, List.take_of_length_le (by omega)] at this
        exact this
      · cases h

/-- Each variable that the row lays, by its cells. -/
theorem laidVars_of {laid : List (String × DataW Unit)} : ∀ {ps : List MemPlace}, DataW.LaidVars P w laid ps → ∀ x ∈ laid, ∃ g t cs fuel p, P.globalNamed x.1 = some g ∧ (P.globals[g]?).map (·.type) = some t ∧ w.var? P x.1 = some cs ∧
    DataW.trod (fun _ => ()) P w 0 (fun _ => true) false fuel t cs.toList = some (x.2, p) := by
  induction laid with
  | nil => intro ps _ x hx; cases hx
  | cons y r ih =>
    intro ps h x hx
    obtain ⟨n, d⟩ := y
    obtain ⟨g, t, cs, fuel, p, q, h1, h2, h3, h4, h5, _⟩ := h
    rcases List.mem_cons.1 hx with rfl | hx
    · exact ⟨g, t, cs, fuel, p, h1, h2, h3, h4⟩
    · exact ih h5 x hx

/-- What is to be shown of a variable of the seat's table. -/
def LaidAt (P : Program) (T : Tys) (laid : List (String × DataW Unit)) (i : Nat) (xs : List V) : Prop :=
  ∃ x ∈ laid, P.globalNamed x.1 = some i ∧ ∃ t n, (P.globals[i]?).map (·.type) = some t ∧ fits T n t x.2 = some xs

/-- The cells of the package-level variables that are known. -/
def GlobS (par : Par) : Addr → Prop := fun a => a.spot = none ∧ a.off < (par.G a.block).length

theorem globOk_of_laid {par : Par} (hT : TOk par.P par.T) {laid : List (String × DataW Unit)} {w : World} (hL : laidMet par.P laid w) (hG : ∀ i, par.G i = [] ∨ LaidAt par.P par.T laid i (par.G i)) :
    GlobOk par w (Gh.shut w (GlobS par)) ∧ ∀ a, GlobS par a → a.spot = none ∧ ∃ v, w.cell? a = some v := by
  obtain ⟨ps, hV, _⟩ := hL
  have key : ∀ i, ∃ val : Nat → Value, ∀ (j : Nat) x, (par.G i)[j]? = some x → w.cell? ⟨i, j, none⟩ = some (val j) ∧ (∀ S, RelV w S (val j) x) ∧ (val j).oneCell' = true := by
    intro i
    rcases hG i with h0 | ⟨x, hx, hn, t, n, ht, hf⟩
    · exact ⟨fun _ => undef, fun j x hx => by rw [h0] at hx; cases hx⟩
    · obtain ⟨g, t', cs, fuel, p, h1, h2, h3, h4⟩ := laidVars_of hV x hx
      rw [hn] at h1
      cases h1
      rw [ht] at h2
      cases h2
      obtain ⟨r1, r2⟩ := fits_reads hT n t x.2 _ hf fuel cs.toList p h4 rfl
      refine ⟨fun j => cs.getD j undef, fun j y hy => ?_⟩
      have hj : j < cs.size := by
        have := (List.getElem?_eq_some_iff.1 hy).1
        rw [← r1] at this
        simpa using this
      have hv : cs.toList[j]? = some (cs.getD j undef) := by simp [Array.getD_eq_getD_getElem?, hj]
      obtain ⟨q1, q2⟩ := r2 j _ y hv hy
      refine ⟨?_, fun S => q1 w S, q2⟩
      simp only [World.var?, hn, Option.bind_some] at h3
      split at h3 <;> cases h3
      rename_i el fr hb
      simp only [World.cell?, hb]
      simpa using hv
  refine ⟨fun i => ?_, fun a ha => ?_⟩
  · obtain ⟨val, hval⟩ := key i
    refine .pin true _ _ val rfl fun j x hx => ?_
    obtain ⟨q1, q2, q3⟩ := hval j x hx
    rw [add_at, Nat.zero_add]
    exact ⟨q1, ⟨rfl, (List.getElem?_eq_some_iff.1 hx).1⟩, q2 _, q3⟩
  · obtain ⟨h1, h2⟩ := ha
    obtain ⟨val, hval⟩ := key a.block
    obtain ⟨q1, _⟩ := hval a.off _ (List.getElem?_eq_getElem h2)
    obtain ⟨x, y, z⟩ := a
    simp only at h1
    subst h1
    exact ⟨rfl, _, q1⟩

/-- A call with data, by the interpreter. -/
theorem calls_of_eval {par : Par} (hP : ParOk par) {n : Nat} {f : FuncId} {fn : Func} {c : Code} (hfn : par.fn f = some fn) (hb : fn.body = some c) {l : List V} {x : V} {vals : Array Value} {w : World} {S : Addr → Prop} (h : callT par (exec par n) f (l.map .v) = some x)
    (hS : ∀ a, S a → a.spot = none ∧ ∃ v, w.cell? a = some v) (hG : GlobOk par w (Gh.shut w S)) (hl : vals.size = l.length) (hr : ∀ (i : Nat) v y, vals[i]? = some v → l[i]? = some y → RelV w S v y) :
    Calls par.P f vals w fun e w' => ∃ v, e = .returned v ∧ Closed w S x v w' := by
  obtain ⟨h1, h2, _⟩ := hP.fn f fn hfn
  have := NatAt.of_eval hP h w S vals hS hG hl hr
  unfold NextOk at this
  rw [callFunc_enter h1 h2 hb] at this
  refine (callsIn_wide.1 this).mono fun e w' he => ?_
  cases e with
  | returned v => exact ⟨v, rfl, he⟩
  | _ => exact he.elim

end
end Go.BI
