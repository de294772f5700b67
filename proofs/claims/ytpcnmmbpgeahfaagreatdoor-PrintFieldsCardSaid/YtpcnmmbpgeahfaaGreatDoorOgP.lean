/- Soundness, second part: operations that hang on their operands alone. -/
import Derived.Test.YtpcnmmbpgeahfaaGreatDoorOgA
import Derived.Laws.BytesArg
import Derived.Laws.IdiomCopy
import Derived.Lib.ConvBytes
import Derived.IntWalk
set_option linter.unusedSimpArgs false
namespace Go.Og
variable {P : Program} {G : Nat → Bool} {R : Ren} {e : Env} {a : Act}

theorem run_sizeO {t : TypeId} {n : Nat} (h : sizeO P t = some n) (w : World) : (sizeOf t).run P w = .ok n w := by
  simp only [sizeO, Option.map_eq_some_iff] at h
  obtain ⟨i, hi, rfl⟩ := h
  simp [sizeOf, typeInfo, hi]
theorem run_zeroO {t : TypeId} {l : List V} (h : zeroO P t = some l) (w : World) : ∃ z, (zeroValue t).run P w = .ok z w ∧ concs R l = some z.cells.toList := by
  unfold zeroO at h
  cases hi : P.info? t with
  | none => rw [hi] at h; cases h
  | some i =>
    rw [hi] at h
    cases hz : i.zero with
    | none => simp only [hz] at h; cases h
    | some z =>
      simp only [hz] at h
      exact ⟨z, by simp [zeroValue, typeInfo, hi, hz], absZ_ok R h⟩
theorem run_isAgg {t : TypeId} {s : Option Nat} (h : shapeOf P t = some s) (w : World) :
    (isAgg t).run P w = .ok s.isSome w ∧ ∀ n, s = some n → (sizeOf t).run P w = .ok n w := by
  unfold shapeOf at h
  cases hu : P.underlying t with
  | none => rw [hu] at h; cases h
  | some d =>
    cases hi : P.info? t with
    | none => rw [hu, hi] at h; cases d <;> cases h
    | some i =>
      rw [hu, hi] at h
      cases d <;> (simp only [Option.some.injEq] at h; subst h; simp [isAgg, run_underlying hu, sizeOf, typeInfo, hi])

theorem places_ok : ∀ {fs : List Field} {pl : List (Nat × Nat)} (w : World), places P fs = some pl →
    (fs.mapM (m := Sem) fun f => do pure (f.offset, ← sizeOf f.type)).run P w = .ok pl w
  | [], pl, w, h => by simp only [places, Option.some.injEq] at h; subst h; rfl
  | f :: fs, pl, w, h => by
    simp only [places] at h
    cases hi : P.info? f.type with
    | none => rw [hi] at h; cases h
    | some i =>
      rw [hi] at h
      cases hr : places P fs with
      | none => rw [hr] at h; cases h
      | some r =>
        rw [hr] at h; simp only [Option.some.injEq] at h; subst h
        have ih := places_ok w hr
        rw [List.mapM_cons]
        simp only [Sem.run_bind, sizeOf, typeInfo, run_program, hi, Result.andThen_ok, Sem.run_pure]
        simp only [sizeOf, typeInfo, Sem.run_bind] at ih
        rw [ih]
        rfl

/-! ### bin -/
theorem run_eqGuard_plain (op : BinOp) (t : TypeId) (x y : Operand) (u v : Value) (w : World)
    (h : ∀ z, (u = .agg z → False)) (h' : u = .nilIface → v = .nilIface → False) : (eqGuard op t x y u v).run P w = .ok () w := by
  cases u with
  | agg z => exact (h z rfl).elim
  | nilIface =>
    cases v with
    | nilIface => exact (h' rfl rfl).elim
    | _ => cases op <;> rfl
  | _ => cases op <;> rfl

theorem intCmp_ok {op : BinOp} {x y : Int} {b : Bool} (h : cmpInt op x y = some b) (w : World) : (Op.intCmp op x y).run P w = .ok (.bool b) w := by
  unfold cmpInt at h
  split at h <;> first | (cases h; rfl) | (cases h)

theorem binV_int {op : BinOp} {t : ETag} {k k' : IntKind} {x y : Int} {v : V} (h : binV op t (.int k x) (.int k' y) = some v) (ty : TypeId) (w : World) :
    ∃ r, conc R v = some r ∧ (binOp op ty (.int k x) (.int k' y)).run P w = .ok r w := by
  cases op
  case shl =>
    simp only [binV, Option.map_eq_some_iff] at h
    obtain ⟨n, hn, rfl⟩ := h
    refine ⟨_, rfl, ?_⟩
    simp only [shiftI] at hn
    split at hn
    · cases hn
    · cases hn
      simp only [binOp, Op.shift]
      rw [if_neg (by omega)]
      rfl
  case shr =>
    simp only [binV, Option.map_eq_some_iff] at h
    obtain ⟨n, hn, rfl⟩ := h
    refine ⟨_, rfl, ?_⟩
    simp only [shiftI] at hn
    split at hn
    · cases hn
    · cases hn
      simp only [binOp, Op.shift]
      rw [if_neg (by omega)]
      rfl
  all_goals
    simp only [binV] at h
    split at h
    · rename_i hk
      subst hk
      simp only [Option.map_eq_some_iff] at h
      obtain ⟨n, hn, rfl⟩ := h
      refine ⟨_, rfl, ?_⟩
      simp only [binOp, ne_eq, not_true_eq_false, if_false]
      first
        | exact intCmp_ok hn w
        | (simp only [arith] at hn
           first
             | (cases hn; rfl)
             | (split at hn
                · cases hn
                · rename_i h0
                  cases hn
                  simp only [Op.intDiv]
                  rw [if_neg h0]
                  rfl))
    · cases h

theorem binV_str {op : BinOp} {t : ETag} {a b : BS} {v : V} (h : binV op t (.str a) (.str b) = some v) (ty : TypeId) (w : World) :
    ∃ r, conc R v = some r ∧ (binOp op ty (.string ⟨a.toList.toArray⟩) (.string ⟨b.toList.toArray⟩)).run P w = .ok r w := by
  have hq : a.beq b = (a.toList == b.toList) := by rw [BS.beq_eq]; by_cases h : a.toList = b.toList <;> simp [h]
  have hca := BS.toList_cat a b
  have hla := BS.length_toList a
  have hlb := BS.length_toList b
  simp only [binV] at h
  cases op <;> simp only [strOp, hq] at h
  all_goals
    generalize hx0 : a.toList = x at *
    generalize hy0 : b.toList = y at *
    have hx : (ByteArray.mk x.toArray).toList = x := by rw [ByteArray.toList_eq]
    have hy : (ByteArray.mk y.toArray).toList = y := by rw [ByteArray.toList_eq]
  case add =>
    split at h
    · rename_i hl
      cases h
      refine ⟨_, rfl, ?_⟩
      rw [hca]
      simp only [Nat.ble_eq, Nat.add_eq] at hl
      have h1 : (ByteArray.mk x.toArray).size = x.length := by simp [ByteArray.size]
      have h2 : (ByteArray.mk y.toArray).size = y.length := by simp [ByteArray.size]
      simp only [binOp, Op.stringOp, h1, h2]
      rw [if_neg (by simp [IntKind.max, IntKind.signed, IntKind.bits]; omega)]
      have h3 : (ByteArray.mk x.toArray) ++ (ByteArray.mk y.toArray) = ⟨(x ++ y).toArray⟩ := by
        apply ByteArray.ext
        simp [ByteArray.data_append]
      rw [h3]
      rfl
    · cases h
  all_goals first
    | (cases h; refine ⟨_, rfl, ?_⟩; simp only [binOp, Op.stringOp, hx, hy]; rfl)
    | cases h


theorem conc_ptr_inv {b off : Nat} {x : Value} (h : conc R (.ptr b off) = some x) : ∃ i, R b = some i ∧ x = .pointer (some ⟨i.blk, i.shift + off, none⟩) := by
  simp only [conc, Option.map_eq_some_iff] at h
  obtain ⟨i, hi, hx⟩ := h
  exact ⟨i, hi, hx.symm⟩
theorem conc_sl_inv {b off n : Nat} {c : Cap} {x : Value} (h : conc R (.sl b off n c) = some x) :
    ∃ i m, R b = some i ∧ x = .slice (some ⟨i.blk, i.shift + off, none⟩) n m ∧ (∀ k, c = .ex k → m = k) ∧ (∀ k, c = .op k → m = i.cap k off ∧ n ≤ m) := by
  cases c with
  | ex k =>
    simp only [conc, Option.map_eq_some_iff] at h
    obtain ⟨i, hi, hx⟩ := h
    exact ⟨i, k, hi, hx.symm, fun _ e => by cases e; rfl, fun _ e => by cases e⟩
  | op k =>
    simp only [conc, Option.bind_eq_some_iff] at h
    obtain ⟨i, hi, hx⟩ := h
    by_cases hc : n ≤ i.cap k off
    · rw [if_pos hc] at hx; cases hx
      exact ⟨i, _, hi, rfl, (fun _ e => by cases e), (fun _ e => by cases e; exact ⟨rfl, hc⟩)⟩
    · rw [if_neg hc] at hx; cases hx
theorem conc_sle_inv {b off k z : Nat} {x : Value} (h : conc R (.sle b off k z) = some x) :
    ∃ i, R b = some i ∧ k ≤ i.cap z off ∧ x = .slice (some (if i.cap z off = k then ⟨i.blk, i.shift + off, none⟩ else (⟨i.blk, i.shift + off, none⟩ : Addr).add (k * z))) 0 (i.cap z off - k) := by
  simp only [conc, Option.bind_eq_some_iff] at h
  obtain ⟨i, hi, hx⟩ := h
  by_cases hc : k ≤ i.cap z off
  · rw [if_pos hc] at hx; cases hx; exact ⟨i, hi, hc, rfl⟩
  · rw [if_neg hc] at hx; cases hx
theorem conc_ifc_inv {t : TypeId} {v : V} {x : Value} (h : conc R (.ifc t v) = some x) : ∃ y, conc R v = some y ∧ x = .iface t y := by
  simp only [conc] at h
  cases hv : conc R v with
  | none => rw [hv] at h; cases h
  | some y => rw [hv] at h; cases h; exact ⟨y, rfl, rfl⟩
theorem conc_mp_inv {b : Nat} {x : Value} (h : conc R (.mp b) = some x) : ∃ i, R b = some i ∧ x = .map (some i.blk) := by
  simp only [conc, Option.map_eq_some_iff] at h
  obtain ⟨i, hi, hx⟩ := h
  exact ⟨i, hi, hx.symm⟩
theorem conc_fn_inv {f : FuncId} {l m : List V} {x : Value} (h : conc R (.fn f l m) = some x) : ∃ y z, concs R l = some y ∧ concs R m = some z ∧ x = .func (.func f) y.toArray z.toArray := by
  simp only [conc] at h
  cases hl : concs R l with
  | none => simp only [hl] at h; cases h
  | some y =>
    cases hm : concs R m with
    | none => simp only [hl, hm] at h; cases h
    | some z => simp only [hl, hm] at h; cases h; exact ⟨y, z, rfl, rfl, rfl⟩

/-- The comparisons that need no more than the type's kind. -/
theorem equal_of {t : TypeId} {u v : Value} {b : Bool} (w : World)
    (h : ∀ n, (Op.equalIn (n + 1) t u v).run P w = .ok b w) : (Op.equal t u v).run P w = .ok b w := h 9999

theorem cellAt_get : ∀ {xs : List V} {o : Nat} {v : V}, cellAt xs o = v → v.live = true → xs[o]? = some v
  | [], _, v, h, hl => by subst h; cases hl
  | a :: l, 0, v, h, _ => by subst h; rfl
  | a :: l, n + 1, v, h, hl => by simpa using cellAt_get (xs := l) (o := n) h hl
def fkOf : TypeDesc → FK → Bool
  | .int _, .int => true
  | .bool, .bool => true
  | .string, .str => true
  | _, _ => false
theorem part_cell {t : TypeId} {d : TypeDesc} {k : FK} (hu : P.underlying t = some d) (hd : fkOf d k = true)
    {xs : List V} {X : List Value} (hX : concs R xs = some X) {o : Nat} {v : V} (hv : cellAt xs o = v) (hl : v.live = true) (w : World) :
    ∃ x, conc R v = some x ∧ (part t X.toArray o).run P w = .ok x w := by
  obtain ⟨x, hx, hg⟩ := concs_get hX (cellAt_get hv hl)
  refine ⟨x, hx, ?_⟩
  have hg' : X.toArray[o]? = some x := by simpa using hg
  have ha : (isAgg t).run P w = .ok false w := by
    cases d <;> first | (cases k <;> cases hd; done) | simp [isAgg, run_underlying hu]
  simp only [part, Sem.run_bind, ha, Result.andThen_ok, Bool.false_eq_true, if_false, hg', Sem.run_pure]
theorem eqCell_ok {t : TypeId} {d : TypeDesc} {k : FK} (hu : P.underlying t = some d) (hk : fkOf d k = true)
    {u v : V} {b : Bool} (h : eqCell k u v = some b) {x y : Value} (hx : conc R u = some x) (hy : conc R v = some y) (n : Nat) (w : World) : (Op.equalIn (n + 1) t x y).run P w = .ok b w := by
  unfold eqCell at h
  split at h <;> (try (cases h; done)) <;> (cases hx; cases hy) <;> (cases d <;> first | (cases hk; done) | skip)
  · split at h
    · rename_i he
      simp only [Option.some.injEq] at h; subst h; subst he
      rw [eqF_eq]; simp [Op.equalIn, run_underlying hu]
    · cases h
  · simp only [Option.some.injEq] at h; subst h
    simp [Op.equalIn, run_underlying hu]
  · simp only [Option.some.injEq] at h; subst h
    rename_i p q
    rw [run_equalIn_string w n t _ _ hu, ByteArray.toList_eq, ByteArray.toList_eq, BS.beq_eq]
    by_cases e : p.toList = q.toList <;> simp [e]
theorem eqCell_live {k : FK} {u v : V} {b : Bool} (h : eqCell k u v = some b) : u.live = true ∧ v.live = true := by
  unfold eqCell at h
  split at h <;> first | exact ⟨rfl, rfl⟩ | cases h
theorem eqFlat_ok {xs ys : List V} {X Y : List Value} (hX : concs R xs = some X) (hY : concs R ys = some Y) (n : Nat) (w : World) : ∀ {fs : List Field} {l : List (Nat × FK)} {b : Bool},
    flatOf P fs = some l → eqFlat l xs ys = some b → (Op.eqFields (n + 1) X.toArray Y.toArray fs).run P w = .ok b w
  | [], l, b, hl, h => by
    simp only [flatOf, Option.some.injEq] at hl; subst hl
    simp only [eqFlat, Option.some.injEq] at h; subst h
    rfl
  | f :: fs, l, b, hl, h => by
    simp only [flatOf] at hl
    by_cases hn : f.name = "_"
    · have hb : (f.name == "_") = true := by simp [hn]
      rw [hb] at hl
      simp only [Op.eqFields]
      rw [if_neg (by simp [hn])]
      exact eqFlat_ok hX hY n w hl h
    · have hb : (f.name == "_") = false := by simp [hn]
      rw [hb] at hl
      cases hr : flatOf P fs with
      | none => rw [hr] at hl; cases hl
      | some r =>
        rw [hr] at hl
        cases hu : P.underlying f.type with
        | none => simp only [hu] at hl; cases hl
        | some d =>
          simp only [hu] at hl
          have hk : ∃ k, l = (f.offset, k) :: r ∧ fkOf d k = true := by
            cases d <;> simp only [Option.some.injEq, reduceCtorEq] at hl <;> subst hl <;> exact ⟨_, rfl, rfl⟩
          obtain ⟨k, rfl, hk⟩ := hk
          simp only [eqFlat] at h
          cases hc : eqCell k (cellAt xs f.offset) (cellAt ys f.offset) with
          | none => simp only [hc] at h; cases h
          | some a =>
            simp only [hc] at h
            cases hf : eqFlat r xs ys with
            | none => simp only [hf] at h; cases h
            | some b' =>
              simp only [hf, Option.some.injEq] at h; subst h
              obtain ⟨hlu, hlv⟩ := eqCell_live hc
              obtain ⟨x, hx, hpx⟩ := part_cell (P := P) hu hk hX rfl hlu w
              obtain ⟨y, hy, hpy⟩ := part_cell (P := P) hu hk hY rfl hlv w
              simp only [Op.eqFields]
              rw [if_pos hn]
              simp only [Sem.run_bind, hpx, hpy, Result.andThen_ok, eqCell_ok hu hk hc hx hy n w]
              cases a
              · simp
              · simpa using eqFlat_ok hX hY n w hr hf
theorem eqFlat_run {op : BinOp} (hop : op = .eql ∨ op = .neq) {t : TypeId} {ox oy : Operand} {fs : Array Field} (hut : P.underlying t = some (.struct fs)) {l : List (Nat × FK)} (htg : etagFlat P t fs.toList = .flat l)
    {xs ys : List V} {b : Bool} (h : eqFlat l xs ys = some b) {u v : Value} (hu : conc R (.agg xs) = some u) (hv : conc R (.agg ys) = some v) (w : World) :
    (do eqGuard op t ox oy u v; binOp op t u v : Sem Value).run P w = .ok (.bool (if op = .eql then b else !b)) w := by
  obtain ⟨X, hX, rfl⟩ := conc_agg hu
  obtain ⟨Y, hY, rfl⟩ := conc_agg hv
  have hfo : P.fieldsOf t = fs := by simp [Program.fieldsOf, hut]
  unfold etagFlat at htg
  cases hs : (P.stoodInHeld t || P.eqGuardType P.depth t) with
  | true => rw [hs] at htg; cases htg
  | false =>
    rw [hs] at htg
    simp only [Bool.or_eq_false_iff] at hs
    cases hfl : flatOf P fs.toList with
    | none => rw [hfl] at htg; cases htg
    | some l' =>
      rw [hfl] at htg
      simp only [ETag.flat.injEq] at htg; subst htg
      have he : (Op.equalIn 10000 t (.agg X.toArray) (.agg Y.toArray)).run P w = .ok b w := by
        rw [run_equalIn_agg w 9999 t _ _ (by rw [hfo]; exact hut) hs.1, hfo]
        exact eqFlat_ok hX hY 9998 w hfl h
      rw [Sem.run_bind, run_eqGuard_agg w op t ox oy _ _ hs.2, Result.andThen_ok]
      rcases hop with rfl | rfl
      · rw [run_eql_struct, he]; rfl
      · rw [run_neq_struct, he]; rfl

theorem etagFlat_cases (t : TypeId) (fs : List Field) : etagFlat P t fs = .none ∨ ∃ l, etagFlat P t fs = .flat l := by
  unfold etagFlat
  split
  · exact .inr ⟨_, rfl⟩
  · exact .inl rfl
set_option maxHeartbeats 2000000 in
theorem eqTag_ok {op : BinOp} (hop : op = .eql ∨ op = .neq) {t : TypeId} {ox oy : Operand} {x y : V} {b : Bool} (h : eqTag (etag P op t ox oy) x y = some b)
    {u v : Value} (hu : conc R x = some u) (hv : conc R y = some v) (w : World) : (do eqGuard op t ox oy u v; binOp op t u v : Sem Value).run P w = .ok (.bool (if op = .eql then b else !b)) w := by
  have htag : etag P op t ox oy = (match P.underlying t with
    | some .bool => .bool
    | some (.struct fs) => etagFlat P t fs.toList
    | some (.pointer _) => .ptr
    | some (.slice _) => .slice
    | some (.map _ _) => .map
    | some (.func _ _ _) => .func
    | some (.interface _) => .iface (isLit ox || isLit oy)
    | _ => .none) := by rcases hop with rfl | rfl <;> rfl
  rw [htag] at h
  clear htag
  generalize htg : (match P.underlying t with
    | some .bool => ETag.bool
    | some (.struct fs) => etagFlat P t fs.toList
    | some (.pointer _) => .ptr
    | some (.slice _) => .slice
    | some (.map _ _) => .map
    | some (.func _ _ _) => .func
    | some (.interface _) => .iface (isLit ox || isLit oy)
    | _ => .none) = tg at h
  have hd : ∃ d, P.underlying t = some d := by
    cases hut : P.underlying t with
    | none => rw [hut] at htg; subst htg; cases h
    | some d => exact ⟨d, rfl⟩
  obtain ⟨d, hut⟩ := hd
  rw [hut] at htg
  have hfin : (eqGuard op t ox oy u v).run P w = .ok () w → (Op.equal t u v).run P w = .ok b w →
      binOp .eql t u v = (do pure (.bool (← Op.equal t u v))) → binOp .neq t u v = (do pure (.bool (!(← Op.equal t u v)))) →
      (do eqGuard op t ox oy u v; binOp op t u v : Sem Value).run P w = .ok (.bool (if op = .eql then b else !b)) w := fun h1 h2 h3 h4 => by
    rcases hop with rfl | rfl
    · rw [Sem.run_bind, h1, Result.andThen_ok, h3, Sem.run_bind, h2]; rfl
    · rw [Sem.run_bind, h1, Result.andThen_ok, h4, Sem.run_bind, h2]; rfl
  have hplain : ∀ (hn : ∀ z, u = .agg z → False) (hm : u = .nilIface → v = .nilIface → False) (hb : ∀ n, (Op.equalIn (n + 1) t u v).run P w = .ok b w),
      binOp .eql t u v = (do pure (.bool (← Op.equal t u v))) → binOp .neq t u v = (do pure (.bool (!(← Op.equal t u v)))) →
      (do eqGuard op t ox oy u v; binOp op t u v : Sem Value).run P w = .ok (.bool (if op = .eql then b else !b)) w := fun hn hm hb h3 h4 =>
    hfin (run_eqGuard_plain op t ox oy u v w hn hm) (equal_of w hb) h3 h4
  by_cases hst : ∃ fs, d = .struct fs
  · obtain ⟨fs, rfl⟩ := hst
    simp only at htg
    rcases etagFlat_cases (P := P) t fs.toList with h0 | ⟨l, h0⟩
    · rw [h0] at htg; subst htg; cases h
    · rw [h0] at htg; subst htg
      cases x <;> cases y <;> first
        | (exact eqFlat_run hop hut h0 h hu hv w)
        | cases h
  unfold eqTag at h
  split at h <;> (try (cases h; done)) <;> (try (simp only [Option.some.injEq] at h; subst h))
  all_goals (cases d <;> first | exact (hst ⟨_, rfl⟩).elim | simp only [reduceCtorEq] at htg)
  -- bool
  · cases hu; cases hv
    exact hplain (fun _ e => by cases e) (fun e => by cases e) (fun n => by simp [Op.equalIn, run_underlying hut]) rfl rfl
  -- ptr
  · cases hu; cases hv
    exact hplain (fun _ e => by cases e) (fun e => by cases e) (fun n => by simp [Op.equalIn, run_underlying hut]) rfl rfl
  · cases hu; obtain ⟨i, _, rfl⟩ := conc_ptr_inv hv
    exact hplain (fun _ e => by cases e) (fun e => by cases e) (fun n => by simp [Op.equalIn, run_underlying hut]) rfl rfl
  · cases hv; obtain ⟨i, _, rfl⟩ := conc_ptr_inv hu
    exact hplain (fun _ e => by cases e) (fun e => by cases e) (fun n => by simp [Op.equalIn, run_underlying hut]) rfl rfl
  -- slice
  · cases hu; cases hv
    exact hplain (fun _ e => by cases e) (fun e => by cases e) (fun n => by simp [Op.equalIn, run_underlying hut]) rfl rfl
  · cases hu; obtain ⟨i, m, _, rfl, _⟩ := conc_sl_inv hv
    exact hplain (fun _ e => by cases e) (fun e => by cases e) (fun n => by simp [Op.equalIn, run_underlying hut]) rfl rfl
  · cases hv; obtain ⟨i, m, _, rfl, _⟩ := conc_sl_inv hu
    exact hplain (fun _ e => by cases e) (fun e => by cases e) (fun n => by simp [Op.equalIn, run_underlying hut]) rfl rfl
  · cases hu; obtain ⟨i, _, _, rfl⟩ := conc_sle_inv hv
    exact hplain (fun _ e => by cases e) (fun e => by cases e) (fun n => by simp [Op.equalIn, run_underlying hut]) rfl rfl
  · cases hv; obtain ⟨i, _, _, rfl⟩ := conc_sle_inv hu
    exact hplain (fun _ e => by cases e) (fun e => by cases e) (fun n => by simp [Op.equalIn, run_underlying hut]) rfl rfl
  -- map
  · cases hu; cases hv
    exact hplain (fun _ e => by cases e) (fun e => by cases e) (fun n => by simp [Op.equalIn, run_underlying hut]) rfl rfl
  · cases hu; obtain ⟨i, _, rfl⟩ := conc_mp_inv hv
    exact hplain (fun _ e => by cases e) (fun e => by cases e) (fun n => by simp [Op.equalIn, run_underlying hut]) rfl rfl
  · cases hv; obtain ⟨i, _, rfl⟩ := conc_mp_inv hu
    exact hplain (fun _ e => by cases e) (fun e => by cases e) (fun n => by simp [Op.equalIn, run_underlying hut]) rfl rfl
  -- func
  · cases hu; cases hv
    exact hplain (fun _ e => by cases e) (fun e => by cases e) (fun n => by simp [Op.equalIn, run_underlying hut]) rfl rfl
  · cases hu; obtain ⟨y, z, _, _, rfl⟩ := conc_fn_inv hv
    exact hplain (fun _ e => by cases e) (fun e => by cases e) (fun n => by simp [Op.equalIn, run_underlying hut]) rfl rfl
  · cases hv; obtain ⟨y, z, _, _, rfl⟩ := conc_fn_inv hu
    exact hplain (fun _ e => by cases e) (fun e => by cases e) (fun n => by simp [Op.equalIn, run_underlying hut]) rfl rfl
  -- iface
  · cases hu; cases hv
    refine hfin ?_ (equal_of w (fun n => by simp [Op.equalIn, run_underlying hut])) rfl rfl
    have hl : (isLit ox || isLit oy) = true := by simpa using htg
    rcases hop with rfl | rfl <;> cases ox <;> cases oy <;> first | rfl | (exfalso; simp [isLit] at hl)
  · cases hu; obtain ⟨y, _, rfl⟩ := conc_ifc_inv hv
    exact hplain (fun _ e => by cases e) (fun _ e => by cases e) (fun n => by simp [Op.equalIn, run_underlying hut]) rfl rfl
  · cases hv; obtain ⟨y, _, rfl⟩ := conc_ifc_inv hu
    exact hplain (fun _ e => by cases e) (fun e => by cases e) (fun n => by simp [Op.equalIn, run_underlying hut]) rfl rfl

theorem binV_eq {t : TypeId} {ox oy : Operand} {x y : V} {v : V} {op : BinOp} (hi : ∀ k n k' m, x = .int k n → y = .int k' m → False) (hs : ∀ l m, x = .str l → y = .str m → False)
    (h : binV op (etag P op t ox oy) x y = some v) : (op = .eql ∨ op = .neq) ∧ ∃ b, eqTag (etag P op t ox oy) x y = some b ∧ v = .bool (if op = .eql then b else !b) := by
  unfold binV at h
  split at h
  · exact (hi _ _ _ _ rfl rfl).elim
  · exact (hs _ _ rfl rfl).elim
  · cases op <;> simp only [Option.map_eq_some_iff] at h <;> first
      | (obtain ⟨b, hb, rfl⟩ := h; exact ⟨.inl rfl, b, hb, by simp⟩)
      | (obtain ⟨b, hb, rfl⟩ := h; exact ⟨.inr rfl, b, hb, by simp⟩)
      | cases h

theorem eqTag_live {tg : ETag} {x y : V} {b : Bool} (h : eqTag tg x y = some b) : x.live = true ∧ y.live = true := by
  unfold eqTag at h
  split at h <;> first | exact ⟨rfl, rfl⟩ | cases h

theorem binV_ok {o : BinOp} {t : TypeId} {ox oy : Operand} {v : V} (he : EnvOk R e a.tmps) (hg : GlobOk G R)
    (h : binV o (etag P o t ox oy) (opv e (compO G ox)) (opv e (compO G oy)) = some v) (w : World) :
    ∃ x, conc R v = some x ∧ (do eqGuard o t ox oy (a.eval ox) (a.eval oy); binOp o t (a.eval ox) (a.eval oy) : Sem Value).run P w = .ok x w := by
  by_cases hi : ∃ k n k' m, opv e (compO G ox) = .int k n ∧ opv e (compO G oy) = .int k' m
  · obtain ⟨k, n, k', m, hx, hy⟩ := hi
    rw [hx, hy] at h
    rw [ev_int he hg hx, ev_int he hg hy]
    obtain ⟨r, hr, hrun⟩ := binV_int (R := R) (P := P) h t w
    exact ⟨r, hr, by rw [Sem.run_bind, run_eqGuard_plain _ _ _ _ _ _ _ (fun _ e => by cases e) (fun e => by cases e)]; exact hrun⟩
  · by_cases hs : ∃ l m, opv e (compO G ox) = .str l ∧ opv e (compO G oy) = .str m
    · obtain ⟨l, m, hx, hy⟩ := hs
      rw [hx, hy] at h
      rw [ev_str he hg hx, ev_str he hg hy]
      obtain ⟨r, hr, hrun⟩ := binV_str (R := R) (P := P) h t w
      exact ⟨r, hr, by rw [Sem.run_bind, run_eqGuard_plain _ _ _ _ _ _ _ (fun _ e => by cases e) (fun e => by cases e)]; exact hrun⟩
    · obtain ⟨hop, b, hb, rfl⟩ := binV_eq (fun k n k' m hx hy => hi ⟨k, n, k', m, hx, hy⟩) (fun l m hx hy => hs ⟨l, m, hx, hy⟩) h
      obtain ⟨hlx, hly⟩ := eqTag_live hb
      have hu := ev (a := a) he hg rfl hlx
      have hv := ev (a := a) he hg rfl hly
      exact ⟨_, rfl, eqTag_ok hop hb hu hv w⟩
end Go.Og

set_option linter.unusedSimpArgs false
namespace Go.Og
variable {P : Program} {G : Nat → Bool} {R : Ren} {e : Env} {a : Act}

theorem beq_false {m l : Nat} (h : ¬ m = l) : Nat.beq m l = false := Bool.eq_false_iff.2 (by rw [ne_eq, Nat.beq_eq]; exact h)
theorem bnd_some (x : V) (d d' : Nat) : bnd (some x) d = bnd (some x) d' := by cases x <;> rfl

/-- What an optional operand is. -/
theorem bnd_ok (he : EnvOk R e a.tmps) (hg : GlobOk G R) {o : Option Operand} {d n : Nat} (h : bnd (opvo e (o.map (compO G))) d = some n) (y : Nat) (hy : n ≤ y) (code : BoundsCode) (w : World) :
    (o = none ∧ n = d) ∨ ∃ x, o = some x ∧ (Instr.sliceBound (a.eval x) y code).run P w = .ok n w := by
  cases o with
  | none => simp only [Option.map_none, opvo, bnd, Option.some.injEq] at h; exact .inl ⟨rfl, h.symm⟩
  | some x =>
    right
    refine ⟨x, rfl, ?_⟩
    simp only [Option.map_some, opvo] at h
    unfold bnd at h
    split at h
    · rename_i heq; cases heq
    · rename_i k m heq
      simp only [Option.some.injEq] at heq
      split at h
      · rename_i h0
        simp only [Option.some.injEq] at h
        subst h
        rw [ev_int he hg heq]
        exact run_sliceBound w k m y code h0 (by omega)
      · cases h
    · cases h

theorem bounds_ok (he : EnvOk R e a.tmps) (hg : GlobOk G R) {lo hi mx : Option Operand} {len cap l h m : Nat} (isSlice : Bool)
    (hm : bnd (opvo e (mx.map (compO G))) cap = some m) (hh : bnd (opvo e (hi.map (compO G))) len = some h) (hl : bnd (opvo e (lo.map (compO G))) 0 = some l)
    (h1 : l ≤ h) (h2 : h ≤ m) (h3 : m ≤ cap) (hmx : mx.isSome = true → hi.isSome = true) (w : World) :
    (Instr.sliceBounds isSlice len cap (lo.map a.eval) (hi.map a.eval) (mx.map a.eval)).run P w = .ok (l, h, m) w := by
  unfold Instr.sliceBounds
  rcases bnd_ok (P := P) he hg hm cap h3 (if isSlice then .slice3Acap else .slice3Alen) w with ⟨rfl, rfl⟩ | ⟨x, rfl, hx⟩
  · rcases bnd_ok (P := P) he hg hh m h2 (if isSlice then .sliceAcap else .sliceAlen) w with ⟨rfl, rfl⟩ | ⟨y, rfl, hy⟩
    · rcases bnd_ok (P := P) he hg hl h h1 .sliceB w with ⟨rfl, rfl⟩ | ⟨z, rfl, hz⟩
      · rfl
      · simp [hz]
    · rcases bnd_ok (P := P) he hg hl h h1 .sliceB w with ⟨rfl, rfl⟩ | ⟨z, rfl, hz⟩
      · simp [hy]
      · simp [hy, hz]
  · rcases bnd_ok (P := P) he hg hh m h2 .slice3B w with ⟨rfl, rfl⟩ | ⟨y, rfl, hy⟩
    · simp at hmx
    · rcases bnd_ok (P := P) he hg hl h h1 .slice3C w with ⟨rfl, rfl⟩ | ⟨z, rfl, hz⟩
      · simp [hx, hy]
      · simp [hx, hy, hz]

theorem add_eq (b o n : Nat) : (⟨b, o, none⟩ : Addr).add n = ⟨b, o + n, none⟩ := by
  unfold Addr.add
  split
  · rename_i h; subst h; rfl
  · rfl

theorem cap_sub {i : BI} {z off l : Nat} : i.cap z (off + l * z) = i.cap z off - l := by
  unfold BI.cap
  rw [← Nat.sub_sub, Nat.mul_comm l z]
  by_cases h : z * l ≤ i.endc - off
  · exact Nat.sub_mul_div_of_le (i.endc - off) z l h
  · have hz : i.endc - off < z * l := by omega
    rw [Nat.sub_eq_zero_of_le (by omega), Nat.zero_div]
    have := Nat.div_le_of_le_mul (m := i.endc - off) (n := l) (k := z) (by omega)
    omega

theorem sliceV_ok (he : EnvOk R e a.tmps) (hg : GlobOk G R) {t el : TypeId} {esz : Nat} (hu : P.underlying t = some (.slice el)) (hs : sizeO P el = some esz)
    {x : Operand} {lo hi mx : Option Operand} (hmx : mx.isSome = true → hi.isSome = true) {v : V}
    (h : sliceV esz (opv e (compO G x)) (opvo e (lo.map (compO G))) (opvo e (hi.map (compO G))) (opvo e (mx.map (compO G))) = some v) (w : World) :
    ∃ r, conc R v = some r ∧ (Instr.sliceAt t (a.eval x) (lo.map a.eval) (hi.map a.eval) (mx.map a.eval)).run P w = .ok r w := by
  have hat : ∀ u, (Instr.sliceAt t u (lo.map a.eval) (hi.map a.eval) (mx.map a.eval)).run P w = (Instr.slice t u (lo.map a.eval) (hi.map a.eval) (mx.map a.eval)).run P w := fun u => by
    unfold Instr.sliceAt; simp [run_underlying hu]
  rw [hat]
  have hsl : ∀ (b : Option Addr) (len cap l hh m : Nat), (Instr.sliceBounds true len cap (lo.map a.eval) (hi.map a.eval) (mx.map a.eval)).run P w = .ok (l, hh, m) w →
      (Instr.slice t (.slice b len cap) (lo.map a.eval) (hi.map a.eval) (mx.map a.eval)).run P w = .ok (.slice (if m = l then b else b.map (·.add (l * esz))) (hh - l) (m - l)) w := fun b len cap l hh m hb => by
    unfold Instr.slice; simp [run_underlying hu, hb, run_sizeO hs w]
  cases hx : opv e (compO G x) with
  | nils =>
    rw [hx] at h
    have hc := ev (a := a) he hg hx rfl
    simp only [conc, Option.some.injEq] at hc
    rw [← hc]
    simp only [sliceV] at h
    cases hm : bnd (opvo e (mx.map (compO G))) 0 <;> simp only [hm] at h
    · cases h
    rename_i m
    cases hh : bnd (opvo e (hi.map (compO G))) 0 <;> simp only [hh] at h
    · cases h
    rename_i h'
    cases hl : bnd (opvo e (lo.map (compO G))) 0 <;> simp only [hl] at h
    · cases h
    rename_i l
    split at h
    · rename_i hcond
      simp only [Bool.and_eq_true, Nat.ble_eq, Nat.beq_eq] at hcond
      obtain ⟨⟨h1, h2⟩, h3⟩ := hcond
      cases h
      refine ⟨_, rfl, ?_⟩
      rw [hsl none 0 0 l h' m (bounds_ok he hg true hm hh hl h1 h2 (by omega) hmx w)]
      have : m = 0 := h3
      have : h' = 0 := by omega
      have : l = 0 := by omega
      subst_vars; rfl
    · cases h
  | sl b off len c =>
    rw [hx] at h
    have hc := ev (a := a) he hg hx rfl
    obtain ⟨i, cap, hi', hev, hex, hop⟩ := conc_sl_inv hc
    rw [hev]
    cases c with
    | ex c =>
      obtain rfl := hex c rfl
      simp only [sliceV] at h
      cases hm : bnd (opvo e (mx.map (compO G))) cap <;> simp only [hm] at h
      · cases h
      rename_i m
      cases hh : bnd (opvo e (hi.map (compO G))) len <;> simp only [hh] at h
      · cases h
      rename_i h'
      cases hl : bnd (opvo e (lo.map (compO G))) 0 <;> simp only [hl] at h
      · cases h
      rename_i l
      split at h
      · rename_i hcond
        simp only [Bool.and_eq_true, Nat.ble_eq, Nat.beq_eq] at hcond
        obtain ⟨⟨h1, h2⟩, h3⟩ := hcond
        cases h
        refine ⟨_, ?_, hsl _ len cap l h' m (bounds_ok he hg true hm hh hl h1 h2 h3 hmx w)⟩
        simp only [conc, hi', Option.map_some]
        by_cases hml : m = l
        · simp [hml]
        · have : Nat.beq m l = false := beq_false hml
          simp [hml, this, add_eq, Nat.add_assoc]
      · cases h
    | op z =>
      obtain ⟨hcap, hlen⟩ := hop z rfl
      simp only [sliceV] at h
      cases hh : bnd (opvo e (hi.map (compO G))) len
      · rw [hh] at h; cases h
      rename_i h'
      cases hl : bnd (opvo e (lo.map (compO G))) 0
      · rw [hh, hl] at h; cases h
      rename_i l
      rw [hh, hl] at h
      simp only at h
      cases hmo : mx with
      | none =>
        subst hmo
        simp only [Option.map_none, opvo] at h
        split at h
        · rename_i hcond
          simp only [Bool.and_eq_true, Nat.ble_eq, Nat.beq_eq] at hcond
          obtain ⟨⟨h1, h2⟩, h3⟩ := hcond
          subst h3
          have hb := bounds_ok (a := a) (P := P) (cap := cap) (mx := none) he hg true (by simp [opvo, bnd]) hh hl h1 (Nat.le_trans h2 hlen) (Nat.le_refl _) hmx w
          refine ⟨_, ?_, hsl _ len cap l h' cap hb⟩
          split at h
          · rename_i hll
            simp only [Nat.beq_eq] at hll
            have hhl : h' = l := by omega
            subst hhl
            split at h
            · rename_i hl0
              simp only [Nat.beq_eq] at hl0
              cases h
              subst hl0
              simp only [conc, hi', Option.bind_some, ← hcap, hlen, if_true, Nat.sub_zero, Nat.zero_mul, Option.map_some, add_eq, Nat.add_zero, ite_self, ← hll, Nat.zero_le]
            · cases h
              simp only [conc, hi', Option.bind_some, ← hcap, Nat.sub_self, Option.map_some, if_pos (show h' ≤ cap by omega)]
              by_cases hcl : cap = h' <;> simp [hcl]
          · rename_i hll
            simp only [Nat.beq_eq] at hll
            cases h
            have hne : cap ≠ l := by omega
            simp only [conc, hi', Option.bind_some, cap_sub, ← hcap, if_neg hne, Option.map_some, add_eq, Nat.add_assoc, if_pos (show h' - l ≤ cap - l by omega)]
        · cases h
      | some mo =>
        subst hmo
        cases hm : bnd (opvo e ((some mo).map (compO G))) 0 <;> simp only [Option.map_some, opvo] at h hm <;> simp only [hm] at h
        · cases h
        rename_i m
        split at h
        · rename_i hcond
          simp only [Bool.and_eq_true, Nat.ble_eq, Nat.beq_eq] at hcond
          obtain ⟨⟨h1, h2⟩, h3⟩ := hcond
          cases h
          have hm' : bnd (opvo e ((some mo).map (compO G))) cap = some m := by
            simp only [Option.map_some, opvo]
            rw [bnd_some _ cap 0]; exact hm
          refine ⟨_, ?_, hsl _ len cap l h' m (bounds_ok he hg true hm' hh hl h1 h2 (by omega) hmx w)⟩
          simp only [conc, hi', Option.map_some]
          by_cases hml : m = l
          · simp [hml]
          · have : Nat.beq m l = false := beq_false hml
            simp [hml, this, add_eq, Nat.add_assoc]
        · cases h
  | sle b off k z =>
    rw [hx] at h
    have hc := ev (a := a) he hg hx rfl
    obtain ⟨i, hi', hk, hev⟩ := conc_sle_inv hc
    simp only [sliceV] at h
    cases hh : bnd (opvo e (hi.map (compO G))) 0
    · rw [hh] at h; cases h
    rename_i h'
    cases hl : bnd (opvo e (lo.map (compO G))) 0
    · rw [hh, hl] at h; cases h
    rename_i l
    rw [hh, hl] at h
    cases hmo : mx with
    | some mo => subst hmo; simp only [Option.map_some, opvo] at h; cases h
    | none =>
      subst hmo
      simp only [Option.map_none, opvo] at h
      split at h
      · rename_i hcond
        simp only [Bool.and_eq_true, Nat.beq_eq] at hcond
        obtain ⟨rfl, rfl⟩ := hcond
        cases h
        refine ⟨_, hc, ?_⟩
        rw [hev]
        have hb := bounds_ok (a := a) (P := P) (len := 0) (cap := i.cap z off - k) (m := i.cap z off - k) (mx := none) he hg true (by simp [opvo, bnd]) hh hl (Nat.le_refl 0) (Nat.zero_le _) (Nat.le_refl _) hmx w
        rw [hsl _ 0 _ 0 0 _ hb]
        simp only [Nat.zero_mul, Nat.sub_zero, Option.map_some]
        split <;> split <;> simp [Addr.add]
      · cases h
  | _ => rw [hx] at h; simp only [sliceV] at h; cases h

end Go.Og

set_option linter.unusedSimpArgs false
namespace Go.Og
variable {P : Program} {G : Nat → Bool} {R : Ren} {e : Env} {a : Act}

theorem sliceArrV_ok (he : EnvOk R e a.tmps) (hg : GlobOk G R) {t el : TypeId} {n esz : Nat} (hu : P.underlying t = some (.array n el)) (hs : sizeO P el = some esz)
    {x : Operand} {lo hi mx : Option Operand} (hmx : mx.isSome = true → hi.isSome = true) {v : V}
    (h : sliceArrV n esz (opv e (compO G x)) (opvo e (lo.map (compO G))) (opvo e (hi.map (compO G))) (opvo e (mx.map (compO G))) = some v) (w : World) :
    ∃ r, conc R v = some r ∧ (Instr.sliceAt t (a.eval x) (lo.map a.eval) (hi.map a.eval) (mx.map a.eval)).run P w = .ok r w := by
  cases hx : opv e (compO G x) with
  | ptr b off =>
    rw [hx] at h
    obtain ⟨i, hi', hev⟩ := ev_ptr (a := a) he hg hx
    simp only [sliceArrV] at h
    cases hm : bnd (opvo e (mx.map (compO G))) n
    · rw [hm] at h; cases h
    rename_i m
    cases hh : bnd (opvo e (hi.map (compO G))) n
    · rw [hm, hh] at h; cases h
    rename_i h'
    cases hl : bnd (opvo e (lo.map (compO G))) 0
    · rw [hm, hh, hl] at h; cases h
    rename_i l
    rw [hm, hh, hl] at h
    simp only at h
    split at h
    · rename_i hcond
      simp only [Bool.and_eq_true, Nat.ble_eq, Nat.beq_eq] at hcond
      obtain ⟨⟨h1, h2⟩, h3⟩ := hcond
      cases h
      have hb := bounds_ok (P := P) (a := a) he hg false hm hh hl h1 h2 h3 hmx w
      refine ⟨.slice (some (if m = l then ⟨i.blk, i.shift + off, none⟩ else (⟨i.blk, i.shift + off, none⟩ : Addr).add (l * esz))) (h' - l) (m - l), ?_, ?_⟩
      · simp only [conc, hi', Option.map_some]
        by_cases hml : m = l
        · simp [hml]
        · have : Nat.beq m l = false := beq_false hml
          simp [hml, this, add_eq, Nat.add_assoc]
      · rw [hev]
        unfold Instr.sliceAt
        simp [run_underlying hu, Instr.sureAddr, hb, run_sizeO hs w]
    · cases h
  | _ => rw [hx] at h; simp only [sliceArrV] at h; cases h

theorem sliceStrV_ok (he : EnvOk R e a.tmps) (hg : GlobOk G R) {t : TypeId} (hu : P.underlying t = some .string)
    {x : Operand} {lo hi : Option Operand} {v : V}
    (h : sliceStrV (opv e (compO G x)) (opvo e (lo.map (compO G))) (opvo e (hi.map (compO G))) = some v) (w : World) :
    ∃ r, conc R v = some r ∧ (Instr.sliceAt t (a.eval x) (lo.map a.eval) (hi.map a.eval) none).run P w = .ok r w := by
  cases hx : opv e (compO G x) with
  | str s =>
    rw [hx] at h
    have hev := ev_str (a := a) he hg hx
    simp only [sliceStrV] at h
    cases hh : bnd (opvo e (hi.map (compO G))) s.len
    · rw [hh] at h; cases h
    rename_i h'
    cases hl : bnd (opvo e (lo.map (compO G))) 0
    · rw [hh, hl] at h; cases h
    rename_i l
    rw [hh, hl] at h
    simp only at h
    split at h
    · rename_i hcond
      simp only [Bool.and_eq_true, Nat.ble_eq, Nat.beq_eq] at hcond
      obtain ⟨h1, h2⟩ := hcond
      cases h
      have hsz : (ByteArray.mk s.toList.toArray).size = s.len := by simp [ByteArray.size, BS.length_toList]
      have hb := bounds_ok (P := P) (a := a) (mx := none) (cap := s.len) (m := s.len) he hg false (by simp [opvo, bnd]) hh hl h1 h2 (Nat.le_refl _) (fun e => by cases e) w
      refine ⟨_, rfl, ?_⟩
      rw [hev]
      unfold Instr.sliceAt Instr.slice
      simp only [Option.map_none] at hb
      simp only [Sem.run_bind, run_underlying hu, Result.andThen_ok, Option.isSome_none, Bool.false_eq_true, if_false, hsz, hb, Sem.run_pure]
      congr 2
      rw [BS.toList_sub h2]
      apply ByteArray.ext
      rw [ByteArray.data_extract]
      apply Array.ext'
      simp [List.drop_take]
    · cases h
  | _ => rw [hx] at h; simp only [sliceStrV] at h; cases h

theorem conc_ptr_mk {b off : Nat} {i : BI} (h : R b = some i) : conc R (.ptr b off) = some (.pointer (some ⟨i.blk, i.shift + off, none⟩)) := by simp only [conc, h, Option.map_some]
theorem conc_fn_mk {f : FuncId} {l m : List V} {y z : List Value} (h : concs R l = some y) (k : concs R m = some z) : conc R (.fn f l m) = some (.func (.func f) y.toArray z.toArray) := by simp only [conc, h, k]

theorem minI_ok : ∀ (l : List Operand) (x : V) (u : Value) {k : IntKind} {n : Int} (_ : EnvOk R e a.tmps) (_ : GlobOk G R) (_ : conc R x = some u) (_ : ∃ k n, x = .int k n)
    (_ : minI x (opvs e (l.map (compO G))) = some (.int k n)) (w : World), ((l.map a.eval).foldlM (m := Sem) Builtin.min2 u).run P w = .ok (.int k n) w
  | [], x, u, k, n, _, _, hu, _, h, w => by
    simp only [opvs, List.map_nil, minI, Option.some.injEq] at h
    subst h; cases hu; rfl
  | o :: l, x, u, k, n, he, hg, hu, ⟨k1, n1, hx⟩, h, w => by
    subst hx
    simp only [opvs, List.map_cons] at h
    unfold minI at h
    split at h
    · rename_i heq; cases heq
    · rename_i heq1 heq
      cases heq1
      rename_i k2 n2 l2 _
      simp only [List.cons.injEq] at heq
      obtain ⟨ho, hl⟩ := heq
      split at h
      · rename_i hk
        subst hk
        subst hl
        cases hu
        rw [List.map_cons, List.foldlM_cons, ev_int he hg ho]
        simp only [Builtin.min2, Sem.run_bind, Sem.run_pure, Result.andThen_ok]
        exact minI_ok l _ _ he hg rfl ⟨_, _, rfl⟩ h w
      · cases h
    · cases h
theorem maxI_ok : ∀ (l : List Operand) (x : V) (u : Value) {k : IntKind} {n : Int} (_ : EnvOk R e a.tmps) (_ : GlobOk G R) (_ : conc R x = some u) (_ : ∃ k n, x = .int k n)
    (_ : maxI x (opvs e (l.map (compO G))) = some (.int k n)) (w : World), ((l.map a.eval).foldlM (m := Sem) Builtin.max2 u).run P w = .ok (.int k n) w
  | [], x, u, k, n, _, _, hu, _, h, w => by
    simp only [opvs, List.map_nil, maxI, Option.some.injEq] at h
    subst h; cases hu; rfl
  | o :: l, x, u, k, n, he, hg, hu, ⟨k1, n1, hx⟩, h, w => by
    subst hx
    simp only [opvs, List.map_cons] at h
    unfold maxI at h
    split at h
    · rename_i heq; cases heq
    · rename_i heq1 heq
      cases heq1
      rename_i k2 n2 l2 _
      simp only [List.cons.injEq] at heq
      obtain ⟨ho, hl⟩ := heq
      split at h
      · rename_i hk
        subst hk
        subst hl
        cases hu
        rw [List.map_cons, List.foldlM_cons, ev_int he hg ho]
        simp only [Builtin.max2, Sem.run_bind, Sem.run_pure, Result.andThen_ok]
        exact maxI_ok l _ _ he hg rfl ⟨_, _, rfl⟩ h w
      · cases h
    · cases h

theorem part_ok {t : TypeId} {s : Option Nat} (hs : shapeOf P t = some s) {l : List V} {x : List Value} (hx : concs R l = some x) {off : Nat} {v : V}
    (h : fieldV l off s = some v) (w : World) :
    ∃ r, conc R v = some r ∧ (part t x.toArray off).run P w = .ok r w := by
  obtain ⟨h1, h2⟩ := run_isAgg (P := P) hs w
  cases s with
  | none =>
    obtain ⟨r, hr, hk⟩ := concs_get hx h
    refine ⟨r, hr, ?_⟩
    unfold part
    simp [h1, hk]
  | some n =>
    simp only [fieldV] at h
    split at h
    · cases h
      refine ⟨_, conc_agg_mk (concs_take (concs_drop hx off) n), ?_⟩
      unfold part
      simp only [Sem.run_bind, h1, Result.andThen_ok, Option.isSome_some, if_true, h2 n rfl, Sem.run_pure]
      congr 2
      apply Array.ext'
      simp [List.drop_take]
    · cases h

theorem compB_ok (he : EnvOk R e a.tmps) (hg : GlobOk G R) (b : Builtin) (ts : Array TypeId) (ty : TypeId) (lits : Array Bool) (args : Array Operand) {v : V}
    (h : aopP (compB P G b ts args) e = some v) (w : World) : ∃ x, conc R v = some x ∧ (builtin b ts ty lits (args.map a.eval)).run P w = .ok (.value x) w := by
  have val : ∀ {s : Sem Value} {x : Value}, s.run P w = .ok x w → (do pure (Next.value (← s)) : Sem Next).run P w = .ok (.value x) w := fun hs => by simp [hs]
  obtain ⟨ts⟩ := ts
  obtain ⟨args⟩ := args
  unfold compB at h
  split at h
  · -- len
    rename_i t x hts has
    simp only at hts has
    subst hts has
    split at h
    · rename_i hu
      simp only [aopP] at h
      split at h
      · rename_i s hx; cases h
        refine ⟨_, rfl, ?_⟩
        simp only [builtin]
        have hsz : (ByteArray.mk s.toList.toArray).size = s.len := by simp [ByteArray.size, BS.length_toList]
        exact val (by rw [show Array.map a.eval ⟨[x]⟩ = #[a.eval x] from by simp]; rw [ev_str (a := a) he hg hx]; unfold Builtin.len_; simp [run_underlying hu, goInt, hsz])
      · cases h
    · rename_i el hu
      simp only [aopP] at h
      split at h
      · rename_i hx; cases h
        have hc := ev (a := a) he hg hx rfl
        simp only [conc, Option.some.injEq] at hc
        refine ⟨_, rfl, ?_⟩
        simp only [builtin]
        exact val (by rw [show Array.map a.eval ⟨[x]⟩ = #[a.eval x] from by simp]; rw [← hc]; unfold Builtin.len_; simp [run_underlying hu, goInt])
      · rename_i b off n c hx; cases h
        obtain ⟨i, m, _, hev, _⟩ := conc_sl_inv (ev (a := a) he hg hx rfl)
        refine ⟨_, rfl, ?_⟩
        simp only [builtin]
        exact val (by unfold Builtin.len_; simp [run_underlying hu, hev, goInt])
      · rename_i b off n c hx; cases h
        obtain ⟨i, _, _, hev⟩ := conc_sle_inv (ev (a := a) he hg hx rfl)
        refine ⟨_, rfl, ?_⟩
        simp only [builtin]
        exact val (by unfold Builtin.len_; simp [run_underlying hu, hev, goInt])
      · cases h
    · rename_i n el hu
      simp only [aopP, Option.some.injEq] at h
      subst h
      refine ⟨_, rfl, ?_⟩
      simp only [builtin]
      exact val (by unfold Builtin.len_; simp [run_underlying hu, goInt])
    · rename_i el hu
      split at h
      · rename_i n el' hu'
        simp only [aopP, Option.some.injEq] at h
        subst h
        refine ⟨_, rfl, ?_⟩
        simp only [builtin]
        exact val (by unfold Builtin.len_; simp [run_underlying hu, run_underlying hu', goInt])
      · cases h
    · cases h
  · -- cap
    rename_i t x hts has
    simp only at hts has
    subst hts has
    split at h
    · rename_i el hu
      simp only [aopP] at h
      split at h
      · rename_i hx; cases h
        have hc := ev (a := a) he hg hx rfl
        simp only [conc, Option.some.injEq] at hc
        refine ⟨_, rfl, ?_⟩
        simp only [builtin]
        exact val (by rw [show Array.map a.eval ⟨[x]⟩ = #[a.eval x] from by simp]; rw [← hc]; unfold Builtin.cap_; simp [run_underlying hu, goInt])
      · rename_i b off n c hx; cases h
        obtain ⟨i, m, _, hev, hex, _⟩ := conc_sl_inv (ev (a := a) he hg hx rfl)
        obtain rfl := hex _ rfl
        refine ⟨_, rfl, ?_⟩
        simp only [builtin]
        exact val (by unfold Builtin.cap_; simp [run_underlying hu, hev, goInt])
      · cases h
    · cases h
  · -- append
    split at h
    · split at h
      · split at h
        · have hno : ∀ (q : Bool) (e1 : TypeId) (n m : Nat) (x y : AO), aopP (if q = true then AOp.bad else AOp.append e1 n m x y) e ≠ some v := by
            intro q e1 n m x y; cases q <;> simp [aopP]
          exact (hno _ _ _ _ _ _ h).elim
        · cases h
      · cases h
    · cases h
  · -- copy
    split at h
    · split at h
      · simp only [aopP] at h; cases h
      · cases h
    · cases h
  · -- min
    rename_i x l has
    simp only at has
    subst has
    simp only [aopP] at h
    split at h
    · rename_i k n hm; cases h
      refine ⟨_, rfl, ?_⟩
      simp only [builtin]
      refine val ?_
      have hx : ∃ k n, opv e (compO G x) = .int k n := by
        cases l with
        | nil => simp only [opvs, List.map_nil, minI, Option.some.injEq] at hm; exact ⟨k, n, hm⟩
        | cons y l =>
          simp only [opvs, List.map_cons] at hm
          unfold minI at hm
          split at hm
          · rename_i heq; cases heq
          · rename_i heq _; exact ⟨_, _, heq⟩
          · cases hm
      obtain ⟨k1, n1, hx1⟩ := hx
      have := minI_ok (P := P) l _ _ he hg (ev (a := a) he hg hx1 rfl) ⟨k1, n1, rfl⟩ (hx1 ▸ hm) w
      simpa [Builtin.min_] using this
    · cases h
  · -- max
    rename_i x l has
    simp only at has
    subst has
    simp only [aopP] at h
    split at h
    · rename_i k n hm; cases h
      refine ⟨_, rfl, ?_⟩
      simp only [builtin]
      refine val ?_
      have hx : ∃ k n, opv e (compO G x) = .int k n := by
        cases l with
        | nil => simp only [opvs, List.map_nil, maxI, Option.some.injEq] at hm; exact ⟨k, n, hm⟩
        | cons y l =>
          simp only [opvs, List.map_cons] at hm
          unfold maxI at hm
          split at hm
          · rename_i heq; cases heq
          · rename_i heq _; exact ⟨_, _, heq⟩
          · cases hm
      obtain ⟨k1, n1, hx1⟩ := hx
      have := maxI_ok (P := P) l _ _ he hg (ev (a := a) he hg hx1 rfl) ⟨k1, n1, rfl⟩ (hx1 ▸ hm) w
      simpa [Builtin.max_] using this
    · cases h
  · cases h

/-- The great table of the operations that hang on their operands alone. -/
theorem aopP_ok (he : EnvOk R e a.tmps) (hg : GlobOk G R) (o : Oper) {v : V} (h : aopP (compOp P G o.op) e = some v) (w : World) :
    ∃ x, conc R v = some x ∧ (execOp a.eval o).run P w = .ok (.value x) w := by
  have val : ∀ {s : Sem Value} {x : Value}, s.run P w = .ok x w → (do pure (Next.value (← s)) : Sem Next).run P w = .ok (.value x) w := fun hs => by simp [hs]
  obtain ⟨dst, op, ty, pos, after, guard⟩ := o
  simp only at h
  cases op with
  | move x =>
    simp only [compOp, aopP] at h
    split at h
    · rename_i hl; cases h
      exact ⟨_, ev he hg rfl hl, rfl⟩
    · cases h
  | assign x =>
    simp only [compOp, aopP] at h
    split at h
    · rename_i hl; cases h
      exact ⟨_, ev he hg rfl hl, rfl⟩
    · cases h
  | pick c x y =>
    simp only [compOp, aopP] at h
    split at h
    · rename_i hc
      split at h
      · rename_i hl; cases h
        exact ⟨_, ev he hg rfl hl, by simp [execOp, ev_bool (a := a) he hg hc, asBool]⟩
      · cases h
    · rename_i hc
      split at h
      · rename_i hl; cases h
        exact ⟨_, ev he hg rfl hl, by simp [execOp, ev_bool (a := a) he hg hc, asBool]⟩
      · cases h
    · cases h
  | build t ps =>
    simp only [compOp] at h
    have hmap : ∀ (q : Array (Nat × Operand)), (q.map (fun (x : Nat × Operand) => (x.1, a.eval x.2))).toList = q.toList.map (fun (x : Nat × Operand) => (x.1, a.eval x.2)) := fun q => Array.toList_map
    split at h
    · rename_i fs z hu hz
      cases hp : places P fs.toList with
      | none => rw [hp] at h; cases h
      | some pl =>
        rw [hp] at h
        simp only at h
        cases hc : compParts G (pl[·]?) ps.toList with
        | none => rw [hc] at h; cases h
        | some l =>
          rw [hc] at h
          simp only [aopP] at h
          cases hf : fillA (parts e l) z with
          | none => rw [hf] at h; cases h
          | some r =>
            rw [hf] at h; cases h
            obtain ⟨zv, hzr, hzc⟩ := run_zeroO (P := P) (R := R) hz w
            obtain ⟨out, h1, h2, _⟩ := fill_ok (a := a) he hg ps.toList l z r zv.cells hc hzc hf
            refine ⟨_, conc_agg_mk h2, val ?_⟩
            unfold Instr.build
            simp only [Sem.run_bind, hzr, Result.andThen_ok, run_underlying hu, Array.mapM_eq_mapM_toList, Sem.run_map, places_ok w hp, Sem.run_pure, hmap]
            have : (fun (x : Nat) => (pl.toArray)[x]?) = (fun x => pl[x]?) := by funext x; simp
            simp only [this, h1, Sem.run_pure, Array.toArray_toList]
    · rename_i n el z hu hz
      cases hp : sizeO P el with
      | none => rw [hp] at h; cases h
      | some s =>
        rw [hp] at h
        simp only at h
        cases hc : compParts G (fun i => some (i * s, s)) ps.toList with
        | none => rw [hc] at h; cases h
        | some l =>
          rw [hc] at h
          simp only [aopP] at h
          cases hf : fillA (parts e l) z with
          | none => rw [hf] at h; cases h
          | some r =>
            rw [hf] at h; cases h
            obtain ⟨zv, hzr, hzc⟩ := run_zeroO (P := P) (R := R) hz w
            obtain ⟨out, h1, h2, _⟩ := fill_ok (a := a) he hg ps.toList l z r zv.cells hc hzc hf
            refine ⟨_, conc_agg_mk h2, val ?_⟩
            unfold Instr.build
            simp only [Sem.run_bind, hzr, Result.andThen_ok, run_underlying hu, run_sizeO hp w, hmap, h1, Sem.run_pure, Array.toArray_toList]
    · cases h
  | nilCheck x =>
    simp only [compOp, aopP] at h
    split at h
    · rename_i b off hx
      cases h
      obtain ⟨i, hi, hev⟩ := ev_ptr (a := a) he hg hx
      refine ⟨_, conc_ptr_mk hi, ?_⟩
      simp [execOp, hev]
    · cases h
  | binOp op t x y t' =>
    simp only [compOp, aopP] at h
    obtain ⟨r, hr, hrun⟩ := binV_ok (a := a) (P := P) he hg h w
    exact ⟨r, hr, val hrun⟩
  | unOp op t x =>
    simp only [compOp, aopP] at h
    unfold unV at h
    split at h
    · rename_i k n hx; cases h
      refine ⟨_, rfl, val ?_⟩
      rw [ev_int he hg hx]; rfl
    · rename_i k n hx; cases h
      refine ⟨_, rfl, val ?_⟩
      rw [ev_int he hg hx]; rfl
    · rename_i b hx; cases h
      refine ⟨_, rfl, val ?_⟩
      rw [ev_bool he hg hx]; rfl
    · cases h
  | convert s d x =>
    simp only [compOp] at h
    unfold ctag at h
    split at h
    · rename_i ds k hs hd
      simp only [aopP] at h
      split at h
      · rename_i k' n hx; cases h
        refine ⟨_, rfl, val ?_⟩
        rw [ev_int he hg hx]
        simp [convert, run_underlying hs, run_underlying hd, Conv.intToInt]
      · cases h
    · rename_i hs hd
      simp only [aopP] at h
      split at h
      · rename_i l hx; cases h
        refine ⟨_, rfl, val ?_⟩
        rw [ev_str he hg hx]
        simp [convert, run_underlying hs, run_underlying hd]
      · cases h
    · split at h <;> (simp only [aopP] at h; cases h)
    · split at h <;> (simp only [aopP] at h; cases h)
    · simp only [aopP] at h; cases h
  | makeInterface t x =>
    simp only [compOp] at h
    split at h
    · cases h
    · rename_i d hni hu
      simp only [aopP] at h
      split at h
      · rename_i hl; cases h
        have hc := ev (a := a) he hg rfl hl
        refine ⟨.iface t (a.eval x), by simp only [conc, hc], val ?_⟩
        unfold Instr.makeInterface
        rw [Sem.run_bind, run_underlying hu, Result.andThen_ok]
        split
        · rename_i m; exact (hni m rfl).elim
        · rfl
      · cases h
    · cases h
  | makeFunc fn f c =>
    cases fn with
    | func f' =>
      simp only [compOp, aopP] at h
      split at h
      · rename_i hl
        simp only [Bool.and_eq_true] at hl
        cases h
        have h1 := evs (a := a) he hg f.toList hl.1
        have h2 := evs (a := a) he hg c.toList hl.2
        refine ⟨_, conc_fn_mk h1 h2, val ?_⟩
        have e1 : ∀ q : Array Operand, Array.map a.eval q = (List.map a.eval q.toList).toArray := fun q => by apply Array.ext'; simp
        simp [Instr.makeFunc, e1]
      · cases h
    | _ => simp only [compOp, aopP] at h; cases h
  | slice t x lo hi mx =>
    simp only [compOp] at h
    split at h
    · cases h
    · rename_i hmx
      have hmx' : mx.isSome = true → hi.isSome = true := by
        intro hm; cases hh : hi.isSome <;> simp_all
      split at h
      · rename_i hu
        split at h
        · obtain ⟨r, hr, hrun⟩ := sliceStrV_ok (a := a) (P := P) he hg hu h w
          exact ⟨r, hr, val hrun⟩
        · cases h
      · rename_i el hu
        cases hs : sizeO P el with
        | none => rw [hs] at h; cases h
        | some s =>
          rw [hs] at h
          obtain ⟨r, hr, hrun⟩ := sliceV_ok (a := a) (P := P) he hg hu hs hmx' h w
          exact ⟨r, hr, val hrun⟩
      · rename_i n el hu
        cases hs : sizeO P el with
        | none => rw [hs] at h; cases h
        | some s =>
          rw [hs] at h
          obtain ⟨r, hr, hrun⟩ := sliceArrV_ok (a := a) (P := P) he hg hu hs hmx' h w
          exact ⟨r, hr, val hrun⟩
      · cases h
  | fieldAddr s x f =>
    simp only [compOp] at h
    split at h
    · rename_i fs hu
      split at h
      · rename_i fd hf
        split at h
        · split at h <;> (simp only [aopP] at h; cases h)
        · rename_i n hn hs
          simp only [aopP] at h
          split at h
          · rename_i b off hx; cases h
            obtain ⟨i, hi, hev⟩ := ev_ptr (a := a) he hg hx
            refine ⟨_, conc_ptr_mk hi, val ?_⟩
            unfold Instr.fieldAt fieldPlace
            have hn' : n ≠ 0 := fun e => hn (e ▸ rfl)
            simp [run_underlying hu, hf, Instr.sureAddr, hev, run_sizeO hs w, hn', add_eq, Nat.add_assoc]
          · cases h
        · cases h
      · cases h
    · cases h
  | field s x f =>
    simp only [compOp] at h
    split at h
    · rename_i fs hu
      split at h
      · rename_i fd hf
        split at h
        · rename_i n hs
          cases hx : opv e (compO G x) with
          | agg l =>
            obtain ⟨y, hy, hev⟩ := ev_agg (a := a) he hg hx
            have h' : fieldV l fd.offset n = some v := by
              cases n <;> simpa only [aopP, hx, fieldV] using h
            obtain ⟨r, hr, hrun⟩ := part_ok hs hy h' w
            refine ⟨r, hr, val ?_⟩
            unfold Instr.field
            simp [run_underlying hu, hf, asAgg, hev, hrun]
          | _ => cases n <;> (simp only [aopP, hx] at h; cases h)
        · cases h
      · cases h
    · cases h
  | indexAddr t x i =>
    simp only [compOp] at h
    split at h
    · rename_i el hu
      split at h
      · rename_i s hs
        simp only [aopP] at h
        split at h
        · rename_i b off len c k n hx hi
          split at h
          · rename_i hb; cases h
            have hc := ev (a := a) he hg hx rfl
            obtain ⟨j, m, hj, hev, _⟩ := conc_sl_inv hc
            refine ⟨_, conc_ptr_mk hj, val ?_⟩
            unfold Instr.indexAt
            simp [asIntOf, ev_int (a := a) he hg hi, run_underlying hu, hev, hb, run_sizeO hs w, add_eq, Nat.add_assoc]
          · cases h
        · cases h
      · cases h
    · rename_i len el hu
      split at h
      · rename_i s hs
        simp only [aopP] at h
        split at h
        · rename_i b off k n hx hi
          split at h
          · rename_i hb; cases h
            obtain ⟨j, hj, hev⟩ := ev_ptr (a := a) he hg hx
            refine ⟨_, conc_ptr_mk hj, val ?_⟩
            unfold Instr.indexAt
            simp [asIntOf, ev_int (a := a) he hg hi, run_underlying hu, hev, Instr.sureAddr, hb, run_sizeO hs w, add_eq, Nat.add_assoc]
          · cases h
        · cases h
      · cases h
    · cases h
  | index t x i =>
    simp only [compOp] at h
    split at h
    · rename_i hu
      simp only [aopP] at h
      split at h
      · rename_i s k n hx hi
        split at h
        · rename_i h0
          split at h
          · rename_i hc; cases h
            simp only [Nat.blt_eq] at hc
            refine ⟨_, rfl, val ?_⟩
            unfold Instr.index
            have hb : (ByteArray.mk s.toList.toArray)[n.toNat]? = some (UInt8.ofNat (s.get n.toNat)) := by
              have hlt : n.toNat < s.toList.length := by rw [BS.length_toList]; exact hc
              have hsz : (ByteArray.mk s.toList.toArray).size = s.toList.length := by simp [ByteArray.size]
              have hcc := BS.getElem?_toList s n.toNat
              rw [if_pos hc] at hcc
              rw [getElem?_pos (ByteArray.mk s.toList.toArray) n.toNat (by omega)]
              rw [List.getElem?_eq_getElem hlt] at hcc
              simp only [Option.some.injEq] at hcc ⊢
              rw [← hcc]
              rfl
            have hgl : s.get n.toNat % 256 = s.get n.toNat := Nat.mod_eq_of_lt (s.get_lt _)
            simp [asIntOf, ev_int (a := a) he hg hi, run_underlying hu, ev_str (a := a) he hg hx, h0, hb, hgl]
          · cases h
        · cases h
      · cases h
    · rename_i n el hu
      split at h
      · rename_i z s hz hs
        simp only [aopP] at h
        split at h
        · rename_i l k m hx hi
          split at h
          · rename_i hc
            obtain ⟨y, hy, hev⟩ := ev_agg (a := a) he hg hx
            obtain ⟨r, hr, hrun⟩ := part_ok hs hy h w
            refine ⟨r, hr, val ?_⟩
            unfold Instr.index
            simp [asIntOf, ev_int (a := a) he hg hi, run_underlying hu, hev, hc, run_sizeO hz w, hrun]
          · cases h
        · cases h
      · simp only [aopP] at h; cases h
    · simp only [aopP] at h; cases h
  | extract x i =>
    simp only [compOp, aopP] at h
    split at h
    · rename_i l hx
      obtain ⟨y, hy, hev⟩ := ev_tup (a := a) he hg hx
      obtain ⟨r, hr, hk⟩ := concs_get hy h
      refine ⟨r, hr, val ?_⟩
      unfold Instr.extract
      rw [hev]
      simp [hk]
    · cases h
  | call c =>
    obtain ⟨callee, args, argTypes⟩ := c
    cases callee with
    | value f => cases f <;> (simp only [compOp, aopP] at h; cases h)
    | invoke r m => simp only [compOp, aopP] at h; cases h
    | builtin b =>
      simp only [compOp] at h
      obtain ⟨r, hr, hrun⟩ := compB_ok (a := a) (P := P) he hg b argTypes ty (args.map fun | .const _ => true | _ => false) args h w
      refine ⟨r, hr, ?_⟩
      simp only [execOp, resolve, Sem.run_bind, Sem.run_pure, Result.andThen_ok, invoke]
      exact hrun
  | buildSlice t n ps => simp only [compOp] at h; (repeat' split at h) <;> (simp only [aopP] at h; cases h)
  | makeSlice t l c => simp only [compOp] at h; (repeat' split at h) <;> (simp only [aopP] at h; cases h)
  | alloc t => simp only [compOp] at h; (repeat' split at h) <;> (simp only [aopP] at h; cases h)
  | load t x =>
    simp only [compOp] at h
    split at h
    · rename_i hs
      simp only [aopP] at h
      split at h
      · rename_i b off hx
        simp only [Option.some.injEq] at h; subst h
        obtain ⟨i, hi, hev⟩ := ev_ptr (a := a) he hg hx
        obtain ⟨h1, h2⟩ := run_isAgg (P := P) hs w
        refine ⟨_, conc_agg_mk (x := []) rfl, val ?_⟩
        unfold Instr.loadAt loadVar
        have h0 : ∀ b : Addr, (loadCells b 0).run P w = .ok #[] w := fun b => rfl
        simp [Instr.sureAddr, hev, h1, h2 0 rfl, h0]
      · cases h
    · simp only [aopP] at h; cases h
    · simp only [aopP] at h; cases h
  | store t x y => simp only [compOp] at h; (repeat' split at h) <;> (simp only [aopP] at h; cases h)
  | box t x => simp only [compOp] at h; (repeat' split at h) <;> (simp only [aopP] at h; cases h)
  | makeMap t r => cases r <;> (simp only [compOp, aopP] at h; cases h)
  | lookup t x y ok => cases ok <;> simp only [compOp] at h <;> first | (simp only [aopP] at h; cases h; done) | ((repeat' split at h) <;> (simp only [aopP] at h; cases h))
  | mapUpdate t x y z => simp only [compOp] at h; (repeat' split at h) <;> (simp only [aopP] at h; cases h)
  | _ => simp only [compOp, aopP] at h; cases h
end Go.Og

set_option linter.unusedSimpArgs false
namespace Go.Og
variable {P : Program} {G : Nat → Bool} {R : Ren} {e : Env} {a : Act} {C : Cx} {σ : H} {w : World}

theorem Rel.globOk (h : Rel C R σ w) : GlobOk C.G R := h.glob

theorem cell_at {b k : Nat} {arr : Array Value} {el : TypeId} {fr : Nat × Nat} (h : w.heap[b]? = some (.cells arr el fr)) : w.cell? ⟨b, k, none⟩ = arr[k]? := by
  simp [World.cell?, h]

/-- The cells of a block, from a place on. -/
theorem Holds.cells {l : List V} {s off n : Nat} {arr : Array Value} (h : Holds R s l arr) (hn : off + n ≤ l.length) :
    ∃ xs, concs R ((l.drop off).take n) = some xs ∧ (∀ x ∈ xs, x.oneCell' = true) ∧ ∀ j v, xs[j]? = some v → arr[s + off + j]? = some v := by
  induction n generalizing off with
  | zero => exact ⟨[], by simp [concs], by simp, by simp⟩
  | succ n ih =>
    obtain ⟨xs, h1, h2, h3⟩ := ih (off := off + 1) (by omega)
    have hlt : off < l.length := by omega
    obtain ⟨x, hx, hone, hax⟩ := h off l[off] (List.getElem?_eq_getElem hlt)
    refine ⟨x :: xs, ?_, ?_, ?_⟩
    · rw [List.drop_eq_getElem_cons hlt, List.take_succ_cons]
      exact concs_cons.2 ⟨x, xs, hx, h1, rfl⟩
    · intro y hy
      rcases List.mem_cons.1 hy with rfl | hy
      · exact hone
      · exact h2 y hy
    · intro j v hj
      cases j with
      | zero => simp at hj; subst hj; simpa using hax
      | succ j => simp at hj; have := h3 j v hj; rw [show s + off + (j + 1) = s + (off + 1) + j by omega]; exact this

theorem Rel.readN (h : Rel C R σ w) {id off n : Nat} {l : List V} (hl : rdN C.E σ id off n = some l) :
    ∃ i xs, R id = some i ∧ concs R l = some xs ∧ (∀ x ∈ xs, x.oneCell' = true) ∧ xs.length = n ∧ l.length = n ∧ ∀ j v, xs[j]? = some v → w.cell? ((⟨i.blk, i.shift + off, none⟩ : Addr).add j) = some v := by
  unfold rdN at hl
  cases hr : rd C.E σ id with
  | none => rw [hr] at hl; cases hl
  | some m =>
    rw [hr] at hl
    simp only at hl
    split at hl
    · rename_i hb
      simp only [Nat.ble_eq] at hb
      cases hl
      obtain ⟨i, arr, el, fr, hi, hblk, hold⟩ := h.read hr
      obtain ⟨xs, h1, h2, h3⟩ := hold.cells hb
      have hlen : ((m.drop off).take n).length = n := by simp; omega
      refine ⟨i, xs, hi, h1, h2, by rw [concs_length h1, hlen], hlen, fun j v hj => ?_⟩
      rw [add_eq, cell_at hblk]
      exact h3 j v hj
    · cases hl

theorem bytesOf_ok : ∀ {l : List V} {s : List UInt8} {xs : List Value}, bytesOf l = some s → concs R l = some xs →
    ∃ ns : List Int, xs = ns.map (Value.int .u8) ∧ s = ns.map fun n => UInt8.ofNat n.toNat
  | [], s, xs, h, hc => by
    simp only [bytesOf, Option.some.injEq] at h; subst h
    simp only [concs, Option.some.injEq] at hc; subst hc
    exact ⟨[], rfl, rfl⟩
  | v :: l, s, xs, h, hc => by
    unfold bytesOf at h
    split at h
    · rename_i heq; cases heq
    · rename_i n l' heq
      cases heq
      simp only [Option.map_eq_some_iff] at h
      obtain ⟨r, hr, rfl⟩ := h
      obtain ⟨x, ys, hx, hy, rfl⟩ := concs_cons.1 hc
      cases hx
      obtain ⟨ns, h1, h2⟩ := bytesOf_ok hr hy
      exact ⟨n :: ns, by rw [h1]; rfl, by rw [h2]; rfl⟩
    · cases h

/-! ### maps -/
theorem ktag_flat {t : TypeId} {l : List (Nat × FK)} (h : ktag P t = .flat l) : ∃ fs : Array Field, P.underlying t = some (.struct fs) ∧ P.stoodInHeld t = false ∧ flatOf P fs.toList = some l := by
  unfold ktag at h
  split at h
  · rename_i fs hu
    refine ⟨fs, hu, ?_⟩
    unfold etagFlat at h
    cases hs : (P.stoodInHeld t || P.eqGuardType P.depth t) with
    | true => rw [hs] at h; cases h
    | false =>
      rw [hs] at h
      simp only [Bool.or_eq_false_iff] at hs
      cases hf : flatOf P fs.toList with
      | none => rw [hf] at h; cases h
      | some l' =>
        rw [hf] at h
        simp only [ETag.flat.injEq] at h; subst h
        exact ⟨hs.1, rfl⟩
  · cases h
theorem eqM_cases {tg : ETag} {x y : V} {b : Bool} (h : eqM tg x y = some b) : ∃ l xs ys, tg = .flat l ∧ x = .agg xs ∧ y = .agg ys ∧ eqFlat l xs ys = some b := by
  unfold eqM at h
  split at h
  · exact ⟨_, _, _, rfl, rfl, rfl, h⟩
  · cases h
theorem eqM_ok {t : TypeId} {x y : V} {b : Bool} (h : eqM (ktag P t) x y = some b) {u v : Value} (hu : conc R x = some u) (hv : conc R y = some v) (w : World) :
    (Op.equal t u v).run P w = .ok b w := by
  obtain ⟨l, xs, ys, htg, rfl, rfl, he⟩ := eqM_cases h
  obtain ⟨fs, hut, hs, hfl⟩ := ktag_flat htg
  obtain ⟨X, hX, rfl⟩ := conc_agg hu
  obtain ⟨Y, hY, rfl⟩ := conc_agg hv
  have hfo : P.fieldsOf t = fs := by simp [Program.fieldsOf, hut]
  show (Op.equalIn 10000 t (.agg X.toArray) (.agg Y.toArray)).run P w = .ok b w
  rw [run_equalIn_agg w 9999 t _ _ (by rw [hfo]; exact hut) hs, hfo]
  exact eqFlat_ok hX hY 9998 w hfl he
theorem fk_check {t : TypeId} {d : TypeDesc} {k : FK} (hu : P.underlying t = some d) (hd : fkOf d k = true) (em : Bool) (n : Nat) (x : Value) (w : World) :
    (Instr.checkKey em (n + 1) t x).run P w = .ok () w := by
  unfold Instr.checkKey
  simp only [Sem.run_bind, run_underlying hu, Result.andThen_ok]
  cases d <;> first | (cases k <;> cases hd; done) | simp
theorem fields_ok {xs ys : List V} {X Y : List Value} (hX : concs R xs = some X) (hY : concs R ys = some Y) : ∀ {fs : List Field} {l : List (Nat × FK)} {b : Bool},
    flatOf P fs = some l → eqFlat l xs ys = some b → ∀ (em : Bool) (w : World), ∀ f ∈ fs, f.name ≠ "_" → ∃ y, (part f.type X.toArray f.offset).run P w = .ok y w ∧ (Instr.checkKey em 9999 f.type y).run P w = .ok () w
  | [], l, b, hl, h, em, w, f, hf, _ => by cases hf
  | g :: fs, l, b, hl, h, em, w, f, hf, hn => by
    simp only [flatOf] at hl
    by_cases hg : g.name = "_"
    · have hb : (g.name == "_") = true := by simp [hg]
      rw [hb] at hl
      rcases List.mem_cons.1 hf with rfl | hf
      · exact absurd hg hn
      · exact fields_ok hX hY hl h em w f hf hn
    · have hb : (g.name == "_") = false := by simp [hg]
      rw [hb] at hl
      cases hr : flatOf P fs with
      | none => rw [hr] at hl; cases hl
      | some r =>
        rw [hr] at hl
        cases hu : P.underlying g.type with
        | none => simp only [hu] at hl; cases hl
        | some d =>
          simp only [hu] at hl
          have hk : ∃ k, l = (g.offset, k) :: r ∧ fkOf d k = true := by
            cases d <;> simp only [Option.some.injEq, reduceCtorEq] at hl <;> subst hl <;> exact ⟨_, rfl, rfl⟩
          obtain ⟨k, rfl, hk⟩ := hk
          simp only [eqFlat] at h
          cases hc : eqCell k (cellAt xs g.offset) (cellAt ys g.offset) with
          | none => simp only [hc] at h; cases h
          | some a =>
            simp only [hc] at h
            cases hf' : eqFlat r xs ys with
            | none => simp only [hf'] at h; cases h
            | some b' =>
              obtain ⟨hlu, hlv⟩ := eqCell_live hc
              rcases List.mem_cons.1 hf with rfl | hf
              · obtain ⟨x, hx, hpx⟩ := part_cell (P := P) hu hk hX rfl hlu w
                exact ⟨x, hpx, fk_check hu hk em 9998 x w⟩
              · exact fields_ok hX hY hr hf' em w f hf hn
theorem checkKey_ok {t : TypeId} {x : V} (h : keyOk (ktag P t) x = true) {u : Value} (hu : conc R x = some u) (em : Bool) (w : World) :
    (Instr.checkKey em 10000 t u).run P w = .ok () w := by
  unfold keyOk at h
  split at h
  · rename_i b hb
    obtain ⟨l, xs, ys, htg, rfl, hy, he⟩ := eqM_cases hb
    cases hy
    obtain ⟨fs, hut, hs, hfl⟩ := ktag_flat htg
    obtain ⟨X, hX, rfl⟩ := conc_agg hu
    have hut' := hut
    clear htg hb h hut hs hu
    have key : (Instr.checkKey em (9999 + 1) t (.agg X.toArray)).run P w = .ok () w := by
      unfold Instr.checkKey
      simp only [Sem.run_bind, run_underlying hut', Result.andThen_ok]
      rw [← Array.forIn_toList]
      have hall : ∀ f ∈ fs.toList, f.name ≠ "_" → ∃ y, (part f.type X.toArray f.offset).run P w = .ok y w ∧ (Instr.checkKey em 9999 f.type y).run P w = .ok () w := fields_ok hX hX hfl he em w
      generalize fs.toList = L at hall
      induction L with
      | nil => simp
      | cons f L ih =>
        have ih := ih (fun y hy => hall y (by simp [hy]))
        by_cases hn : f.name = "_"
        · simp only [List.forIn_cons, Sem.run_bind, hn, ne_eq, not_true_eq_false, if_false, Result.andThen_ok, Sem.run_pure]
          exact ih
        · obtain ⟨y, p1, p2⟩ := hall f (by simp) hn
          simp only [List.forIn_cons, Sem.run_bind, hn, ne_eq, not_false_eq_true, if_true, Result.andThen_ok, p1, p2, Sem.run_pure]
          exact ih
    exact key
  · cases h
theorem findM_ok {t : TypeId} {fs : Array Field} (hut : P.underlying t = some (.struct fs)) {k : V} {u : Value} (hu : conc R k = some u) (w : World) : ∀ {l : List (V × V)} {es : List MapEntry} {r : Option V} (i : Nat),
    findM (ktag P t) k l = some r → MapHolds R l es →
    (match r with
      | none => (Instr.findAsking t u es i).run P w = .ok none w
      | some v => ∃ j x, conc R v = some x ∧ (Instr.findAsking t u es i).run P w = .ok (some (j, x)) w)
  | [], [], r, i, h, _ => by
    simp only [findM, Option.some.injEq] at h; subst h
    simp [Instr.findAsking]
  | (q, v) :: l, e :: es, r, i, h, hm => by
    obtain ⟨hq, hv, hm⟩ := hm
    simp only [findM] at h
    cases hb : eqM (ktag P t) k q with
    | none => rw [hb] at h; cases h
    | some b =>
      rw [hb] at h
      have he := eqM_ok (P := P) hb hu hq w
      cases b with
      | true =>
        simp only [Option.some.injEq] at h; subst h
        exact ⟨i, e.val, hv, by simp [Instr.findAsking, he]⟩
      | false =>
        simp only at h
        have ih := findM_ok hut hu w (i + 1) h hm
        cases r with
        | none => simpa [Instr.findAsking, he] using ih
        | some v' => simpa [Instr.findAsking, he] using ih
  | [], _ :: _, _, _, _, hm => hm.elim
  | _ :: _, [], _, _, _, hm => hm.elim
theorem findKey_eq {t : TypeId} {fs : Array Field} (hut : P.underlying t = some (.struct fs)) (x : Value) (es : List MapEntry) (w : World) :
    (Instr.findKey t x es).run P w = (Instr.findAsking t x es).run P w := by
  cases es with
  | nil => simp [Instr.findKey, run_underlying hut, Instr.findNow, Instr.findAsking]
  | cons e es => simp [Instr.findKey, run_underlying hut, Instr.findNow, Instr.sameNow]
theorem keyOk_flat {t : TypeId} {x : V} (h : keyOk (ktag P t) x = true) : x.live = true ∧ ∃ fs : Array Field, P.underlying t = some (.struct fs) := by
  unfold keyOk at h
  split at h
  · rename_i b hb
    obtain ⟨l, xs, ys, htg, rfl, hy, he⟩ := eqM_cases hb
    obtain ⟨fs, hut, _⟩ := ktag_flat htg
    exact ⟨rfl, fs, hut⟩
  · cases h
theorem zeroVV_ok {t : TypeId} (h : (zeroVV P t).live = true) (w : World) : ∃ z, (zeroValue t).run P w = .ok z w ∧ conc R (zeroVV P t) = some z := by
  unfold zeroVV at h ⊢
  cases hi : P.info? t with
  | none => rw [hi] at h; cases h
  | some i =>
    rw [hi] at h
    cases hz : i.zero with
    | none => simp only [hz] at h; cases h
    | some z =>
      simp only [hz] at h
      exact ⟨z, by simp [zeroValue, typeInfo, hi, hz], by simpa only [hz] using absV_ok R z h⟩
theorem Rel.mapAt (h : Rel C R σ w) {b : Nat} {l : List (V × V)} (hl : look σ.bl b = some (.map l)) : ∃ i es clock, R b = some i ∧ w.heap[i.blk]? = some (.map es clock) ∧ MapHolds R l es.toList := by
  obtain ⟨i, hi, _, es, clock, hw, hm⟩ := h.own b _ hl
  exact ⟨i, es, clock, hi, hw, hm⟩
theorem lookup_ok (hrel : Rel C R σ w) {t k el : TypeId} (hut : P.underlying t = some (.map k el)) {m x v : V} (h : lookupV (ktag P k) (zeroVV P el) m x σ = some v)
    {mv xv : Value} (hm : m.live = true → conc R m = some mv) (hx : x.live = true → conc R x = some xv) :
    ∃ y, conc R v = some y ∧ (Instr.lookup t mv xv true).run P w = .ok y w := by
  unfold lookupV at h
  split at h
  · rename_i b
    split at h
    · rename_i l hl
      split at h
      · rename_i hk
        obtain ⟨hlx, fs, hfs⟩ := keyOk_flat hk
        have hxv := hx hlx
        obtain ⟨i, es, clock, hi, hw, hmh⟩ := hrel.mapAt hl
        obtain ⟨j, hj, hmv⟩ := conc_mp_inv (hm rfl)
        rw [hi] at hj; cases hj
        subst hmv
        have hget : (getObj i.blk).run P w = .ok (.map es clock) w := by simp [getObj, Sem.run, hw]
        have hck := checkKey_ok (P := P) hk hxv es.isEmpty w
        unfold Instr.lookup
        split at h
        · rename_i u hf
          simp only [Option.some.injEq] at h; subst h
          obtain ⟨j, y, hy, hfa⟩ := findM_ok hfs hxv w 0 hf hmh
          refine ⟨_, conc_tup_mk (concs_cons.2 ⟨y, _, hy, concs_cons.2 ⟨.bool true, [], rfl, rfl, rfl⟩, rfl⟩), ?_⟩
          simp [run_underlying hut, hget, hck, findKey_eq hfs, hfa]
        · rename_i hf
          split at h
          · rename_i hz
            simp only [Option.some.injEq] at h; subst h
            obtain ⟨z, hzr, hzc⟩ := zeroVV_ok (P := P) (R := R) hz w
            have hfa := findM_ok hfs hxv w 0 hf hmh
            simp only at hfa
            refine ⟨_, conc_tup_mk (concs_cons.2 ⟨z, _, hzc, concs_cons.2 ⟨.bool false, [], rfl, rfl, rfl⟩, rfl⟩), ?_⟩
            simp [run_underlying hut, hget, hck, findKey_eq hfs, hfa, hzr]
          · cases h
        · cases h
      · cases h
    · cases h
  · cases h

theorem fieldAt0_ok {s : TypeId} {fs : Array Field} {f : Nat} {fd : Field} (hu : P.underlying s = some (.struct fs)) (hf : fs[f]? = some fd) (hz : sizeO P fd.type = some 0)
    (ho : fd.offset = 0) (hb : fd.byteOffset = 0) (hc : P.cellsOf s = 0) {v : Value} {blk sh : Nat} (hv : v = .pointer (some ⟨blk, sh, none⟩)) {fr : Nat × Nat} (hblk : w.heap[blk]? = some (.cells #[] s fr)) :
    (Instr.fieldAt s v f).run P w = .ok (.pointer (some ⟨blk, sh, none⟩)) w := by
  subst hv
  have hby : ∀ o, (byteOf ⟨blk, o, none⟩).run P w = .ok 0 w := fun o => by
    have hsh : w.shape? blk = some (s, 0) := by simp [World.shape?, hblk]
    unfold byteOf noView viewAt
    simp [hsh, hc]
  unfold Instr.fieldAt fieldPlace partAt
  simp [run_underlying hu, hf, Instr.sureAddr, run_sizeO hz w, ho, hb, hby]
theorem aopL_ok (hrel : Rel C R σ w) (he : EnvOk R e a.tmps) (o : Oper) {v : V} (h : aopL C.E (compOp P C.G o.op) e σ = some v) :
    ∃ x, conc R v = some x ∧ (execOp a.eval o).run P w = .ok (.value x) w := by
  have hg := hrel.globOk
  have val : ∀ {s : Sem Value} {x : Value}, s.run P w = .ok x w → (do pure (Next.value (← s)) : Sem Next).run P w = .ok (.value x) w := fun hs => by simp [hs]
  obtain ⟨dst, op, ty, pos, after, guard⟩ := o
  simp only at h
  cases op with
  | load t x =>
    simp only [compOp] at h
    cases hs : shapeOf P t with
    | none => rw [hs] at h; cases h
    | some s =>
      rw [hs] at h
      have h : aopL C.E (match s with | some 0 => AOp.load0 (compO C.G x) | s => AOp.load s (compO C.G x)) e σ = some v := by
        cases s with
        | none => exact h
        | some n => cases n <;> exact h
      obtain ⟨h1, h2⟩ := run_isAgg (P := P) hs w
      cases s with
      | none =>
        simp only [aopL] at h
        split at h
        · rename_i b off hx
          split at h
          · rename_i l hr
            obtain ⟨j, hj, hev⟩ := ev_ptr (a := a) he hg hx
            obtain ⟨i, arr, el, fr, hi, hblk, hold⟩ := hrel.read hr
            rw [hj] at hi; cases hi
            obtain ⟨y, hy, hone, hay⟩ := hold off v h
            refine ⟨y, hy, val ?_⟩
            have hc : w.cell? ⟨j.blk, j.shift + off, none⟩ = some y := by rw [cell_at hblk]; exact hay
            unfold Instr.loadAt loadVar
            simp [Instr.sureAddr, hev, h1, hc]
          · cases h
        · cases h
      | some n =>
        cases n with
        | zero => simp only [aopL] at h; cases h
        | succ n =>
        simp only [aopL] at h
        split at h
        · rename_i b off hx
          split at h
          · rename_i l hr; cases h
            obtain ⟨j, hj, hev⟩ := ev_ptr (a := a) he hg hx
            obtain ⟨i, xs, hi, hc, _, hlen, _, hcell⟩ := hrel.readN hr
            rw [hj] at hi; cases hi
            refine ⟨_, conc_agg_mk hc, val ?_⟩
            have hl := run_loadCells_list (P := P) w ⟨j.blk, j.shift + off, none⟩ xs hcell
            rw [hlen] at hl
            unfold Instr.loadAt loadVar
            simp [Instr.sureAddr, hev, h1, h2 _ rfl, hl]
          · cases h
        · cases h
  | convert s d x =>
    simp only [compOp] at h
    unfold ctag at h
    split at h
    · simp only [aopL] at h; cases h
    · simp only [aopL] at h; cases h
    · split at h <;> (simp only [aopL] at h; cases h)
    · rename_i el hs hd
      split at h
      · rename_i hel
        simp only [aopL] at h
        split at h
        · cases h
        rename_i hnostr
        split at h
        · rename_i q l hsrc
          split at h
          · rename_i str hb
            cases h
            refine ⟨_, rfl, val ?_⟩
            unfold srcCells at hsrc
            split at hsrc
            · rename_i hx
              have hc := ev (a := a) he hg hx rfl
              simp only [conc, Option.some.injEq] at hc
              cases hsrc
              simp only [bytesOf, Option.some.injEq] at hb; subst hb
              rw [← hc, run_convert_bytes_nil w s el hs hel 0 0 d hd]; rfl
            · rename_i b off k z hx
              obtain ⟨i, _, _, hev⟩ := conc_sle_inv (ev (a := a) he hg hx rfl)
              cases hsrc
              simp only [bytesOf, Option.some.injEq] at hb; subst hb
              rw [hev, run_convert_bytes_string w s d el _ 0 _ hs hel hd, run_bytesToString w _ 0 _ [] (by simp [loadCells, loadCellsFrom])]
              rfl
            · rename_i b off len c hx
              simp only [Option.map_eq_some_iff] at hsrc
              obtain ⟨l', hrd, heq⟩ := hsrc
              cases heq
              obtain ⟨i, m, hi, hev, _⟩ := conc_sl_inv (ev (a := a) he hg hx rfl)
              obtain ⟨i', xs, hi', hc, _, hlen, _, hcell⟩ := hrel.readN hrd
              rw [hi] at hi'; cases hi'
              obtain ⟨ns, rfl, rfl⟩ := bytesOf_ok hb hc
              have hl := run_loadCells_list (P := P) w ⟨i.blk, i.shift + off, none⟩ _ hcell
              rw [hlen, Nat.mul_one] at hl
              rw [hev, run_convert_bytes_string w s d el _ _ _ hs hel hd, run_bytesToString w _ _ _ ns hl, foldl_push_bytes]
              congr 2
              apply ByteArray.ext
              show #[] ++ _ = _
              simp [BS.toList_ofList]
            · rename_i l' hx
              exact (hnostr (by rw [hx]; rfl)).elim
            · cases hsrc
          · cases h
        · cases h
      · simp only [aopL] at h; cases h
    · simp only [aopL] at h; cases h
  | call c =>
    obtain ⟨callee, args, argTypes⟩ := c
    cases callee with
    | value f => cases f <;> (simp only [compOp, aopL] at h; cases h)
    | invoke r m => simp only [compOp, aopL] at h; cases h
    | builtin b =>
      simp only [compOp, compB] at h
      have hno : ∀ (q : Bool) (e1 : TypeId) (n m : Nat) (x y : AO), aopL C.E (if q = true then AOp.bad else AOp.append e1 n m x y) e σ ≠ some v := by
        intro q e1 n m x y; cases q <;> simp [aopL]
      split at h
      · (repeat' split at h) <;> (simp only [aopL] at h; cases h)
      · (repeat' split at h) <;> (simp only [aopL] at h; cases h)
      · split at h
        · split at h
          · split at h
            · exact (hno _ _ _ _ _ _ h).elim
            · simp only [aopL] at h; cases h
          · simp only [aopL] at h; cases h
        · simp only [aopL] at h; cases h
      · (repeat' split at h) <;> (simp only [aopL] at h; cases h)
      · simp only [aopL] at h; cases h
      · simp only [aopL] at h; cases h
      · simp only [aopL] at h; cases h
  | fieldAddr st x f =>
    simp only [compOp] at h
    split at h
    · rename_i fs hu
      split at h
      · rename_i fd hf
        split at h
        · rename_i hz
          split at h
          · rename_i hc
            simp only [Bool.and_eq_true, beq_iff_eq] at hc
            simp only [aopL] at h
            unfold faddr0V at h
            split at h
            · rename_i b hx
              split at h
              · rename_i t' hb
                split at h
                · rename_i ht
                  have ht := Nat.eq_of_beq_eq_true ht
                  subst ht
                  simp only [Option.some.injEq] at h; subst h
                  obtain ⟨i, hi, _, fr, hblk⟩ := hrel.own b _ hb
                  obtain ⟨j, hj, hev⟩ := ev_ptr (a := a) he hg hx
                  rw [hi] at hj; cases hj
                  refine ⟨_, conc_ptr_mk hi, val ?_⟩
                  exact fieldAt0_ok hu hf hz hc.1.1 hc.1.2 hc.2 hev hblk
                · cases h
              · cases h
            · cases h
          · simp only [aopL] at h; cases h
        · simp only [aopL] at h; cases h
        · simp only [aopL] at h; cases h
      · simp only [aopL] at h; cases h
    · simp only [aopL] at h; cases h
  | lookup t x y ok =>
    cases ok with
    | false => simp only [compOp, aopL] at h; cases h
    | true =>
      simp only [compOp] at h
      split at h
      · rename_i k el hut
        simp only [aopL] at h
        obtain ⟨z, hz, hrun⟩ := lookup_ok (P := P) hrel hut h (fun hl => ev (a := a) he hg rfl hl) (fun hl => ev (a := a) he hg rfl hl)
        exact ⟨z, hz, val hrun⟩
      · simp only [aopL] at h; cases h
  | makeMap t r => cases r <;> (simp only [compOp, aopL] at h; cases h)
  | move x => simp only [compOp, aopL] at h; cases h
  | assign x => simp only [compOp, aopL] at h; cases h
  | makeFunc f x y => cases f <;> (simp only [compOp, aopL] at h; cases h)
  | _ => simp only [compOp] at h; first | (simp only [aopL] at h; cases h; done) | ((repeat' split at h) <;> (simp only [aopL] at h; cases h))

/-! ### new blocks -/
theorem Holds.of_concs {l : List V} {xs : List Value} {arr : Array Value} (h : concs R l = some xs) (h1 : ∀ x ∈ xs, x.oneCell' = true) (ha : ∀ k, k < xs.length → arr[k]? = xs[k]?) : Holds R 0 l arr := by
  intro k v hk
  obtain ⟨x, hx, hkx⟩ := concs_get h hk
  have hlt : k < xs.length := by
    rcases Nat.lt_or_ge k xs.length with h | h
    · exact h
    · rw [List.getElem?_eq_none h] at hkx; cases hkx
  exact ⟨x, hx, h1 x (List.mem_of_getElem? hkx), by rw [Nat.zero_add, ha k hlt]; exact hkx⟩

theorem allOne_ok : ∀ {l : List V} {xs : List Value}, allOne l = true → concs R l = some xs → ∀ x ∈ xs, x.oneCell' = true
  | [], xs, _, hc => by simp only [concs, Option.some.injEq] at hc; subst hc; simp
  | v :: l, xs, h, hc => by
    obtain ⟨x, ys, hx, hy, rfl⟩ := concs_cons.1 hc
    simp only [allOne, Bool.and_eq_true] at h
    intro y hm
    rcases List.mem_cons.1 hm with rfl | hm
    · exact (conc_one h.1 hx).2
    · exact allOne_ok h.2 hy y hm

/-- A row of cells that a call makes. -/
theorem own_alloc {w' : World} {l : List V} {xs : List Value} {arr : Array Value} {el : TypeId} {lo hi endc n : Nat} (hb : w'.heap[n]? = some (.cells arr el (lo, hi)))
    (h : concs R l = some xs) (h1 : ∀ x ∈ xs, x.oneCell' = true) (ha : ∀ k, k < xs.length → arr[k]? = xs[k]?) (he : endc ≤ arr.size) (hl : l.length ≤ endc)
    (hf : ∀ off, off < arr.size → ¬ (lo ≤ off ∧ off < hi)) : OwnOk R ⟨n, 0, endc⟩ (.cells l) w' :=
  ⟨arr, el, lo, hi, hb, Holds.of_concs h h1 ha, by simpa using he, hl, hf⟩

theorem absCell_one {x : Value} (h : (absCell x).live = true) : (absCell x).one = true := by
  unfold absCell at h ⊢
  split at h <;> first | rfl | (cases h)
theorem absZ_one {x : Value} {l : List V} (h : absZ x = some l) : allOne l = true := by
  unfold absZ at h
  split at h
  · rename_i hall
    cases h
    generalize x.cells.toList = m at hall ⊢
    induction m with
    | nil => rfl
    | cons y m ih =>
      simp only [List.map_cons, List.all_cons, Bool.and_eq_true, allOne] at hall ⊢
      exact ⟨absCell_one hall.1, ih hall.2⟩
  · cases h
theorem zeroO_one {t : TypeId} {l : List V} (h : zeroO P t = some l) : allOne l = true := by
  unfold zeroO at h
  cases hi : P.info? t with
  | none => rw [hi] at h; cases h
  | some i =>
    rw [hi] at h
    cases hz : i.zero with
    | none => simp only [hz] at h; cases h
    | some z => simp only [hz] at h; exact absZ_one h

theorem heap_alloc_at (w : World) (o : Obj) : (w.alloc o).heap[w.heap.size]? = some o := by simp [World.alloc, -World.alloc_eq]

theorem concs_flatten_replicate {z : List V} {zs : List Value} (h : concs R z = some zs) : ∀ n, concs R (List.replicate n z).flatten = some (List.replicate n zs).flatten
  | 0 => rfl
  | n + 1 => by simp only [List.replicate_succ, List.flatten_cons]; exact concs_append h (concs_flatten_replicate h n)
theorem allOne_append : ∀ {l m : List V}, allOne l = true → allOne m = true → allOne (l ++ m) = true
  | [], m, _, hm => hm
  | v :: l, m, hl, hm => by
    simp only [allOne, List.cons_append, Bool.and_eq_true] at hl ⊢
    exact ⟨hl.1, allOne_append hl.2 hm⟩
theorem allOne_flatten_replicate {z : List V} (h : allOne z = true) : ∀ n, allOne (List.replicate n z).flatten = true
  | 0 => rfl
  | n + 1 => by simp only [List.replicate_succ, List.flatten_cons]; exact allOne_append h (allOne_flatten_replicate h n)

/-- 'make' fills a row with a type's zero value, again and again. -/
theorem rep_get (zs : List Value) (n k : Nat) (hk : k < n * zs.length) : (List.replicate n zs).flatten[k]? = zs[k % zs.length]? := by
  induction n generalizing k with
  | zero => omega
  | succ n ih =>
    simp only [List.replicate_succ, List.flatten_cons]
    have hz : 0 < zs.length := by
      rcases Nat.eq_zero_or_pos zs.length with h | h
      · rw [h] at hk; omega
      · exact h
    by_cases h : k < zs.length
    · rw [List.getElem?_append_left h, Nat.mod_eq_of_lt h]
    · have hmul : (n + 1) * zs.length = n * zs.length + zs.length := Nat.succ_mul n zs.length
      rw [List.getElem?_append_right (by omega), ih _ (by omega)]
      congr 1
      exact (Nat.mod_eq_sub_mod (by omega)).symm
theorem range_rep (zs : Array Value) (n : Nat) : (Array.range (n * zs.size)).map (fun i => zs[i % zs.size]!) = (List.replicate n zs.toList).flatten.toArray := by
  apply Array.ext'
  apply List.ext_getElem?
  intro k
  simp only [Array.toList_map, Array.toList_range, List.getElem?_map]
  by_cases hk : k < n * zs.size
  · rw [List.getElem?_range hk, rep_get _ _ _ (by simpa using hk)]
    simp only [Option.map_some, Array.length_toList]
    have hz : 0 < zs.size := by
      rcases Nat.eq_zero_or_pos zs.size with h | h
      · rw [h] at hk; omega
      · exact h
    have hlt : k % zs.size < zs.size := Nat.mod_lt _ hz
    simp [hlt]
  · rw [List.getElem?_eq_none (by simp; omega), List.getElem?_eq_none (by simp; omega)]
    rfl
end Go.Og

set_option linter.unusedSimpArgs false
namespace Go.Og
variable {P : Program} {G : Nat → Bool} {R : Ren} {e : Env} {a : Act} {C : Cx} {σ : H} {w : World}

theorem NewBlk.drawn {w w' : World} (d : Nat) (h : NewBlk { w with drawn := d } w') : NewBlk w w' := ⟨h.old, h.size, h.os, h.tape, h.output⟩

theorem NewBlk.bytes (w : World) (el : TypeId) (s : ByteArray) : NewBlk w (Lib.bytesWorld w el s) :=
  ⟨fun k hk => Lib.bytesWorld_at_old w el s k hk, Lib.bytesWorld_size w el s, by simp [Lib.bytesWorld, World.freeze, World.alloc, World.drew, -World.alloc_eq, -World.drew_eq], by simp [Lib.bytesWorld, World.freeze, World.alloc, World.drew, -World.alloc_eq, -World.drew_eq], by simp [Lib.bytesWorld, World.freeze, World.alloc, World.drew, -World.alloc_eq, -World.drew_eq]⟩

theorem ints_concs (R : Ren) : ∀ l : List UInt8, concs R (ints l) = some (l.map fun b => Value.int .u8 b.toNat)
  | [] => rfl
  | _ :: l => concs_cons.2 ⟨_, _, rfl, ints_concs R l, rfl⟩

theorem conc_sl_ex {b off n c : Nat} {i : BI} (h : R b = some i) : conc R (.sl b off n (.ex c)) = some (.slice (some ⟨i.blk, i.shift + off, none⟩) n c) := by
  simp only [conc, h, Option.map_some]
theorem conc_sl_op {b off n z : Nat} {i : BI} (h : R b = some i) (hn : n ≤ i.cap z off) : conc R (.sl b off n (.op z)) = some (.slice (some ⟨i.blk, i.shift + off, none⟩) n (i.cap z off)) := by
  simp only [conc, h, Option.bind_some, if_pos hn]

theorem le_cut (need old : Nat) (el : TypeId) (t : Nat) : need ≤ (Question.appendCap need old el).cut t := by simp [Question.cut]

theorem aopA_ok (he : EnvOk R e a.tmps) (hg : GlobOk G R) (o : Oper) {id : Nat} {v : V} {b : Blk} (h : aopA (compOp P G o.op) e id = some (v, b)) (hid : R id = none) (w : World) :
    ∃ x w' i, (execOp a.eval o).run P w = .ok (.value x) w' ∧ NewBlk w w' ∧ i.blk = w.heap.size ∧ conc (upd R id i) v = some x ∧ OwnOk (upd R id i) i b w' := by
  have val : ∀ {s : Sem Value} {x : Value} {w' : World}, s.run P w = .ok x w' → (do pure (Next.value (← s)) : Sem Next).run P w = .ok (.value x) w' := fun hs => by simp [hs]
  have hle : ∀ i, Le R (upd R id i) := fun i k j hk => by
    by_cases he : k = id
    · subst he; rw [hid] at hk; cases hk
    · rw [upd_other he]; exact hk
  obtain ⟨dst, op, ty, pos, after, guard⟩ := o
  simp only at h
  cases op with
  | alloc t =>
    simp only [compOp] at h
    cases hz : zeroO P t with
    | none => rw [hz] at h; simp only [aopA] at h; cases h
    | some z =>
      rw [hz] at h
      cases z with
      | nil =>
        simp only [aopA, Option.some.injEq, Prod.mk.injEq] at h
        obtain ⟨rfl, rfl⟩ := h
        obtain ⟨zv, hzr, hzc⟩ := run_zeroO (P := P) (R := R) hz w
        have hz0 : zv.cells = #[] := by
          have := concs_length hzc
          simp at this; simpa using this
        refine ⟨_, _, ⟨w.heap.size, 0, 0⟩, val ?_, NewBlk.of_alloc w (.cells zv.cells t), rfl, conc_ptr_mk (upd_same _ _ _), ?_⟩
        · unfold Instr.alloc
          simp [hzr, newVar, newRow]
        · exact ⟨(0, 0), by rw [heap_alloc_at, hz0]⟩
      | cons z0 z =>
      simp only [aopA, Option.some.injEq, Prod.mk.injEq] at h
      obtain ⟨rfl, rfl⟩ := h
      obtain ⟨zv, hzr, _⟩ := run_zeroO (P := P) (R := R) hz w
      obtain ⟨zv', hzr', hzc⟩ := run_zeroO (P := P) (R := upd R id ⟨w.heap.size, 0, zv.cells.size⟩) hz w
      rw [hzr] at hzr'; cases hzr'
      refine ⟨_, _, ⟨w.heap.size, 0, zv.cells.size⟩, val ?_, NewBlk.of_alloc w (.cells zv.cells t), rfl, conc_ptr_mk (upd_same _ _ _), ?_⟩
      · unfold Instr.alloc
        simp [hzr, newVar, newRow]
      · refine own_alloc (heap_alloc_at w _) hzc (allOne_ok (zeroO_one hz) hzc) (fun k _ => by simp) (Nat.le_refl _) ?_ (fun _ _ h => by omega)
        have := concs_length hzc
        simp at this ⊢; omega
  | box t x =>
    simp only [compOp] at h
    split at h
    · simp only [aopA] at h
      split at h
      · rename_i hx
        simp only [Option.some.injEq, Prod.mk.injEq] at h
        obtain ⟨rfl, rfl⟩ := h
        obtain ⟨l, hl, hev⟩ := ev_agg (a := a) he hg hx
        simp only [concs, Option.some.injEq] at hl; subst hl
        refine ⟨_, _, ⟨w.heap.size, 0, 0⟩, val ?_, NewBlk.of_alloc w (.cells #[] t), rfl, conc_ptr_mk (upd_same _ _ _), ?_⟩
        · unfold Instr.box
          simp [hev, newVar, newRow, Value.cells]
        · exact ⟨(0, 0), by rw [heap_alloc_at]⟩
      · cases h
    · simp only [aopA] at h
      split at h
      · rename_i hl
        simp only [Bool.and_eq_true] at hl
        simp only [Option.some.injEq, Prod.mk.injEq] at h
        obtain ⟨rfl, rfl⟩ := h
        have hc := ev (a := a) he hg rfl hl.1
        have hcs := conc_cells hc
        refine ⟨_, _, ⟨w.heap.size, 0, (a.eval x).cells.size⟩, val ?_, NewBlk.of_alloc w (.cells (a.eval x).cells t), rfl, conc_ptr_mk (upd_same _ _ _), ?_⟩
        · unfold Instr.box
          simp [newVar, newRow]
        · have hcs' := concs_mono (hle ⟨w.heap.size, 0, (a.eval x).cells.size⟩) _ _ hcs
          refine own_alloc (heap_alloc_at w _) hcs' (allOne_ok hl.2 hcs') (fun k _ => by simp) (Nat.le_refl _) ?_ (fun _ _ h => by omega)
          have := concs_length hcs
          simp at this; omega
      · cases h
  | buildSlice t n ps =>
    simp only [compOp] at h
    split at h
    · rename_i el hu
      split at h
      · rename_i s z hs hz
        cases hc : compParts G (fun i => some (i * s, s)) ps.toList with
        | none => rw [hc] at h; simp only [aopA] at h; cases h
        | some l =>
          rw [hc] at h
          simp only at h
          split at h
          · simp only [aopA] at h; cases h
          · rename_i hcond
            simp only [Bool.not_eq_true, Bool.or_eq_false_iff, decide_eq_false_iff_not, bne_eq_false_iff_eq] at hcond
            obtain ⟨hsmall, hzl⟩ := hcond
            simp only [aopA] at h
            cases hf : fillA (parts e l) (List.replicate n z).flatten with
            | none => rw [hf] at h; cases h
            | some r =>
              rw [hf] at h
              simp only at h
              split at h
              · rename_i hone
                simp only [Option.some.injEq, Prod.mk.injEq] at h
                obtain ⟨rfl, rfl⟩ := h
                obtain ⟨zv, hzr, hzc⟩ := run_zeroO (P := P) (R := R) hz w
                have hzlen : zv.cells.size = s := by have := concs_length hzc; simp at this; omega
                have hzz := concs_flatten_replicate hzc n
                obtain ⟨out, h1, h2, h3⟩ := fill_ok (a := a) he hg ps.toList l _ r (List.replicate n zv.cells.toList).flatten.toArray hc (by simpa using hzz) hf
                have hrun : (Instr.buildSlice t n (ps.map fun (i, x) => (i, a.eval x))).run P w = .ok (.slice (some ⟨w.heap.size, 0, none⟩) n n) (w.alloc (.cells out el)) := by
                  have hmap : (ps.map (fun (x : Nat × Operand) => (x.1, a.eval x.2))).toList = ps.toList.map (fun (x : Nat × Operand) => (x.1, a.eval x.2)) := Array.toList_map
                  unfold Instr.buildSlice
                  simp only [Sem.run_bind, run_underlying hu, Result.andThen_ok, run_sizeO hs w]
                  rw [if_neg (by simpa using hsmall)]
                  by_cases h0 : n * s = 0
                  · rw [if_pos h0]
                    simp only [Sem.run_pure, Result.andThen_ok, hmap]
                    have hemp : (List.replicate n zv.cells.toList).flatten.toArray = #[] := by
                      apply Array.ext'
                      apply List.eq_nil_of_length_eq_zero
                      simp [hzlen, h0]
                    rw [hemp] at h1
                    have hr0 : ∀ f : Nat → Value, (Array.range (n * s)).map f = #[] := fun f => by rw [h0]; apply Array.ext'; simp
                    simp only [Sem.run_pure, Result.andThen_ok, hmap, hr0, h1, Sem.run_bind, newRow, run_newObj]
                    rfl
                  · rw [if_neg h0]
                    simp only [Sem.run_bind, hzr, Result.andThen_ok, Sem.run_pure, hmap]
                    have hr := range_rep zv.cells n
                    rw [hzlen] at hr
                    simp only [hzlen, hr, h1, Sem.run_bind, newRow, run_newObj, Result.andThen_ok, Sem.run_pure]
                    rfl
                refine ⟨_, _, ⟨w.heap.size, 0, out.size⟩, val hrun, NewBlk.of_alloc w _, rfl, ?_, ?_⟩
                · exact conc_sl_ex (upd_same _ _ _)
                · have hcs' := concs_mono (hle ⟨w.heap.size, 0, out.size⟩) _ _ h2
                  refine own_alloc (heap_alloc_at w _) hcs' (allOne_ok hone hcs') (fun k _ => by simp) (Nat.le_refl _) ?_ (fun _ _ h => by omega)
                  have := concs_length h2
                  simp at this; omega
              · cases h
      · simp only [aopA] at h; cases h
    · simp only [aopA] at h; cases h
  | convert s d x =>
    simp only [compOp] at h
    unfold ctag at h
    split at h
    · simp only [aopA] at h; cases h
    · simp only [aopA] at h; cases h
    · rename_i el hs hd
      split at h
      · rename_i hel
        simp only [aopA] at h
        split at h
        · rename_i l hx
          split at h
          · simp only [Option.some.injEq, Prod.mk.injEq] at h
            obtain ⟨rfl, rfl⟩ := h
            have hev := ev_str (a := a) he hg hx
            rw [← BS.length_toList]
            generalize l.toList = l at *
            have hsz : (ByteArray.mk l.toArray).size = l.length := by simp [ByteArray.size]
            have hcap : l.length ≤ grownCap w l.length 0 el := le_cut _ _ _ _
            have hcells : (Lib.bytesCells w el ⟨l.toArray⟩).size = grownCap w l.length 0 el := by
              simp [Lib.bytesCells, hsz]; omega
            refine ⟨_, _, ⟨w.heap.size, 0, (Lib.bytesCells w el ⟨l.toArray⟩).size⟩, val (by rw [hev]; exact Lib.run_convert_string_bytes w s d el _ hs hd hel), NewBlk.bytes w el _, rfl, ?_, ?_⟩
            · rw [conc_sl_op (upd_same _ _ _) (by simp [BI.cap, hcells]; exact hcap)]
              simp [BI.cap, hcells, hsz]
            · refine own_alloc (Lib.bytesWorld_at_new w el _) (ints_concs _ l) (by simp; intro x _; rfl) (fun k hk => ?_) (Nat.le_refl _) (by rw [hcells]; simpa [ints] using hcap) (fun off h1 h2 => by omega)
              simp only [List.length_map] at hk
              simp [Lib.bytesCells, Array.getElem?_append, hk]
          · cases h
        · cases h
      · simp only [aopA] at h; cases h
    · split at h <;> (simp only [aopA] at h; cases h)
    · simp only [aopA] at h; cases h
  | makeMap t r =>
    cases r with
    | some r => simp only [compOp, aopA] at h; cases h
    | none =>
      simp only [compOp, aopA, Option.some.injEq, Prod.mk.injEq] at h
      obtain ⟨rfl, rfl⟩ := h
      refine ⟨.map (some w.heap.size), w.alloc (.map #[] 0), ⟨w.heap.size, 0, 0⟩, val ?_, NewBlk.of_alloc w (.map #[] 0), rfl, by simp only [conc, upd_same, Option.map_some], ⟨#[], 0, heap_alloc_at w _, trivial⟩⟩
      simp [Instr.makeMap]
  | makeSlice t ln cp =>
    simp only [compOp] at h
    split at h
    · rename_i el hu
      split at h
      · rename_i i z hi hz
        split at h
        · simp only [aopA] at h; cases h
        · rename_i hzl
          simp only [Bool.not_eq_true, bne_eq_false_iff_eq] at hzl
          simp only [aopA] at h
          split at h
          · rename_i n c hn hc
            split at h
            · rename_i hcond
              obtain ⟨h0, h1, h2, h3⟩ := hcond
              simp only [Option.some.injEq, Prod.mk.injEq] at h
              obtain ⟨rfl, rfl⟩ := h
              obtain ⟨zv, hzr, hzc⟩ := run_zeroO (P := P) (R := R) hz w
              have hzlen : zv.cells.size = i.size := by have := concs_length hzc; simp at this; omega
              have hzz := concs_flatten_replicate hzc c.toNat
              have hwn : IntKind.i64.wrap n = n := IntWalk.i64_in n ⟨by omega, by omega⟩
              have hwc : IntKind.i64.wrap c = c := IntWalk.i64_in c ⟨by omega, by omega⟩
              have hrun : (Instr.makeSlice t (a.eval ln) (a.eval cp)).run P w = .ok (.slice (some ⟨w.heap.size, 0, none⟩) n.toNat c.toNat) (w.alloc (.cells (List.replicate c.toNat zv.cells.toList).flatten.toArray el)) := by
                rw [ev_int (a := a) he hg hn, ev_int (a := a) he hg hc]
                unfold Instr.makeSlice
                have hti : (typeInfo el).run P w = .ok i w := by simp [typeInfo, hi]
                have hsz : (sizeOf el).run P w = .ok i.size w := by simp [sizeOf, typeInfo, hi]
                simp only [Sem.run_bind, run_underlying hu, Result.andThen_ok, asInt, asIntOf, Sem.run_pure, hti, hwn, hwc]
                have ht1 : (decide (c < 0) || decide ((i.bytes : Int) * c > 2 ^ 48)) = false := by
                  rw [Int.mul_comm] at h2
                  simp; omega
                have ht2 : decide (n < 0) = false := by simp; omega
                have ht3 : decide (n > c) = false := by simp; omega
                simp only [ht1, ht2, ht3, Bool.or_false, Bool.false_or, Bool.false_eq_true, if_false, Sem.run_bind, run_askRoom, Result.andThen_ok, hsz]
                by_cases hz0 : c.toNat * i.size = 0
                · rw [if_pos hz0]
                  simp only [Sem.run_pure, Result.andThen_ok, newRow, Sem.run_bind, run_newObj, hz0]
                  have hemp : (List.replicate c.toNat zv.cells.toList).flatten.toArray = #[] := by
                    apply Array.ext'
                    apply List.eq_nil_of_length_eq_zero
                    simp [hzlen, hz0]
                  rw [hemp]
                  have hr0 : ∀ f : Nat → Value, (Array.range 0).map f = #[] := fun f => by apply Array.ext'; simp
                  rw [hr0]; rfl
                · rw [if_neg hz0]
                  have hr := range_rep zv.cells c.toNat
                  rw [hzlen] at hr
                  simp only [Sem.run_bind, hzr, Result.andThen_ok, Sem.run_pure, newRow, run_newObj, hzlen, hr]
                  rfl
              refine ⟨_, _, ⟨w.heap.size, 0, (List.replicate c.toNat zv.cells.toList).flatten.length⟩, val hrun, NewBlk.of_alloc w _, rfl, conc_sl_ex (upd_same _ _ _), ?_⟩
              have hcs' := concs_mono (hle ⟨w.heap.size, 0, (List.replicate c.toNat zv.cells.toList).flatten.length⟩) _ _ hzz
              refine own_alloc (heap_alloc_at w _) hcs' (allOne_ok (allOne_flatten_replicate (zeroO_one hz) _) hcs') (fun k _ => by simp) (by simp) ?_ (fun _ _ h => by omega)
              have := concs_length hzz
              omega
            · cases h
          · cases h
      · simp only [aopA] at h; cases h
    · simp only [aopA] at h; cases h
  | call c =>
    obtain ⟨callee, args, argTypes⟩ := c
    cases callee with
    | value f => cases f <;> (simp only [compOp, aopA] at h; cases h)
    | invoke r m => simp only [compOp, aopA] at h; cases h
    | builtin b' =>
      simp only [compOp, compB] at h
      have hno : ∀ (q : Bool) (e1 : TypeId) (n m : Nat) (x y : AO), aopA (if q = true then AOp.bad else AOp.append e1 n m x y) e id ≠ some (v, b) := by
        intro q e1 n m x y; cases q <;> simp [aopA]
      split at h
      · (repeat' split at h) <;> (simp only [aopA] at h; cases h)
      · (repeat' split at h) <;> (simp only [aopA] at h; cases h)
      · split at h
        · split at h
          · split at h
            · exact (hno _ _ _ _ _ _ h).elim
            · simp only [aopA] at h; cases h
          · simp only [aopA] at h; cases h
        · simp only [aopA] at h; cases h
      · (repeat' split at h) <;> (simp only [aopA] at h; cases h)
      · simp only [aopA] at h; cases h
      · simp only [aopA] at h; cases h
      · simp only [aopA] at h; cases h
  | lookup t x y ok => cases ok <;> simp only [compOp] at h <;> first | (simp only [aopA] at h; cases h; done) | ((repeat' split at h) <;> (simp only [aopA] at h; cases h))
  | move x => simp only [compOp, aopA] at h; cases h
  | assign x => simp only [compOp, aopA] at h; cases h
  | makeFunc f x y => cases f <;> (simp only [compOp, aopA] at h; cases h)
  | _ => simp only [compOp] at h; first | (simp only [aopA] at h; cases h; done) | ((repeat' split at h) <;> (simp only [aopA] at h; cases h))
end Go.Og
