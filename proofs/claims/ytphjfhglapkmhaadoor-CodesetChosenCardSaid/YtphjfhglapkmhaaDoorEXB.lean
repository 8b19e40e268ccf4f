/- It is proved of operations that are written once more, as functions that go on with a rest, that they are the evaluator's. No condition beyond the lemmas' own. -/
import Derived.Test.YtphjfhglapkmhaaDoorEXA
namespace Go.Proofs.YtphjfhglapkmhaaDoor.E
open Go
section
variable (P : Program) (H : Hints)

def loadK (f : FuncId) (dst : Nat) (t : TypeId) (p : V) (st : St) (K : (V × Tag) × St → R) : R :=
  match p with
  | .obj id off => ck (P.underlying t).isSome <|
    bif isAggB P t then rdN st.s id off (P.cellsOf t) fun cs => goodK cs (K ((.agg cs, .no), st))
    else ck (P.cellsOf t == 1) <| bif H.take f dst then rdT st.s id off (fun v => K ((v, .no), st)) (fun v s' => K ((v, .tok st.g), { st with g := st.g + 1, l := st.g :: st.l, s := s' }))
    else rd1 st.s id off fun v => K ((v, .no), st)
  | p => (loadV P H f dst t p st).bind K
def storeK (t : TypeId) (p : V) (v : V × Tag) (st : St) (K : (V × Tag) × St → R) : R :=
  match p with
  | .obj id off => ck (v.1.cells.length == P.cellsOf t && goods v.1.cells && P.cellsOf t != 0) <|
    match v.2 with
    | .tok g => bif v.1.good && st.l.contains g then wrO st.s id off [(v.1, true)] fun s' => K ((.undef, .no), { st with l := st.l.filter (· != g), s := s' })
      else wrO st.s id off (v.1.cells.map fun c => (c, nilB c)) fun s' => K ((.undef, .no), { st with s := s' })
    | _ => wrO st.s id off (v.1.cells.map fun c => (c, nilB c)) fun s' => K ((.undef, .no), { st with s := s' })
  | p => ((storeV P t p v st).map fun st => ((.undef, .no), st)).bind K
def sliceLK (nn : Bool) (k : Nat) (es : List V) (tag : Tag) (lo hi mx : Option V) (K : V × Tag → R) : R :=
  match mx with
  | some m => (intOf? m).bind fun m => (hi.bind intOf?).bind fun h => (optInt 0 lo).bind fun l =>
    ck (decide (0 ≤ l) && (decide (l ≤ h) && (decide (h ≤ m) && decide (m ≤ es.length)))) (K (.list nn k ((es.take h.toNat).drop l.toNat), if h = m then .full else .no))
  | none => (optInt es.length hi).bind fun h => (optInt 0 lo).bind fun l =>
    ck (decide (0 ≤ l) && (decide (l ≤ h) && decide (h ≤ es.length))) (K (.list nn k ((es.take h.toNat).drop l.toNat), match hi with | none => tag | _ => .no))
def sliceSK (s : ByteArray) (lo hi : Option V) (K : V → R) : R :=
  (optInt s.size hi).bind fun h => (optInt 0 lo).bind fun l => ck (decide (0 ≤ l) && (decide (l ≤ h) && decide (h ≤ s.size))) (K (.str (s.extract l.toNat h.toNat)))
def sliceK (t : TypeId) (x : V × Tag) (lo hi mx : Option V) (st : St) (K : (V × Tag) × St → R) : R :=
  match P.underlying t, x with
  | some .string, (.str s, _) => match mx with | none => sliceSK s lo hi fun v => K ((v, .no), st) | _ => none
  | some (.slice e), (.list nn k es, tag) => ck ((k == P.cellsOf e || !nn) && (P.info? e).isSome) <| sliceLK nn k es tag lo hi mx fun v => K (v, st)
  | _, _ => none
def idxAddrK (t : TypeId) (x i : V) (K : V → R) : R :=
  match P.underlying t, x, i with
  | some (.slice e), .list _ k es, .int _ i => ck (k == P.cellsOf e && P.cellsOf e != 0) <| idxK es i fun v => K (.ref v.cells)
  | _, x, i => (indexAddrV P t x i).bind K
def indexK (t : TypeId) (x i : V) (K : V → R) : R :=
  match P.underlying t, x, i with
  | some .string, .str s, .int _ i => byteK s i fun n => K (.int .u8 n)
  | some (.array n e), .agg cs, .int _ i => ck ((P.underlying e).isSome && !isAggB P e && P.cellsOf e == 1 && decide (i < n)) <| idxK cs i fun v => goodK [v] (K v)
  | _, x, i => (indexV P t x i).bind K
def tyK (x : V) (KI : TypeId → V → R) (KN : R) : R := match x with | .iface t v => KI t v | .nilif => KN | _ => none
def assertK (x : V) (t : TypeId) (ok : Bool) (K : V → R) : R :=
  match P.underlying t with
  | some (.interface _) | none => none
  | _ => tyK x (fun t' v => bif t' == t then K (if ok then .tup [v, .bool true] else v) else bif ok then (zeroV P t).bind fun z => ck (isDef z) (K (.tup [z, .bool false])) else none)
      (bif ok then (zeroV P t).bind fun z => ck (isDef z) (K (.tup [z, .bool false])) else none)
def appendK (e : TypeId) (s : V × Tag) (x : V) (st : St) (K : (V × Tag) × St → R) : R :=
  match s.1 with
  | .list nn k es =>
    (srcOf (P.cellsOf e) x).bind fun xs =>
    ck (k == P.cellsOf e || !nn) <| ck (Nat.blt 0 (P.cellsOf e)) <|
    (zeroV P e).bind fun z => ck (z.cells.length == P.cellsOf e && goods z.cells) <|
    ck (Nat.ble ((es.length + xs.length) * P.bytesOf e) 140737488355328 && Nat.ble (es.length + xs.length) 140737488355328) <|
      match s.2 with
      | .tok g => ck (st.l.contains g) (K (fresh (.list (nn || !xs.isEmpty) (P.cellsOf e) (es ++ xs)) { st with l := st.l.filter (· != g) }))
      | .full => K (fresh (.list (nn || !xs.isEmpty) (P.cellsOf e) (es ++ xs)) st)
      | .no => ck (!nn) (K (fresh (.list (!xs.isEmpty) (P.cellsOf e) (es ++ xs)) st))
  | _ => none
def lenK (st : St) (t : TypeId) (x : V) (K : V → R) : R :=
  match P.underlying t, x with
  | some (.map _ _), .map id => mapK st.s id fun es _ => K (.int .i64 es.length)
  | _, x => (lenV P st t x).bind K
def lookupK (t : TypeId) (m key : V) (ok : Bool) (st : St) (K : V → R) : R :=
  match P.underlying t with
  | some (.map kt e) => ck (keyOk P kt key) <| (zeroV P e).bind fun z => ck (isDef z) <|
    match m with
    | .nilmap => K (if ok then .tup [z, .bool false] else z)
    | .map id => mapK st.s id fun es _ => findK key es fun r => K (if ok then .tup [r.getD z, .bool r.isSome] else r.getD z)
    | _ => none
  | _ => none
def mapSetK (t : TypeId) (m key x : V) (st : St) (K : (V × Tag) × St → R) : R :=
  match P.underlying t, m with
  | some (.map kt _), .map id => ck (keyOk P kt key && (match x with | .undef | .loc _ _ | .tup _ => false | _ => true)) <| mapK st.s id fun es c => putK key x es fun es' =>
    K ((.undef, .no), { st with s := st.s.set id (.map es' (if es'.length = es.length then c else c + 1)) })
  | _, _ => none
def bytesK (es : List V) (K : List UInt8 → R) : R := match es.mapM byteOf? with | some l => K l | none => none
def convK (src dst : TypeId) (x : V) (K : V → R) : R :=
  match P.underlying src, P.underlying dst, x with
  | some (.slice e), some .string, .list _ _ es => match P.underlying e with | some (.int .u8) => bytesK es fun l => K (.str ⟨l.toArray⟩) | _ => none
  | _, _, x => (convV P src dst x).bind K
def makeSliceK (t : TypeId) (l c : V) (st : St) (K : (V × Tag) × St → R) : R :=
  match P.underlying t with
  | some (.slice e) => (intOf? l).bind fun l => (intOf? c).bind fun c => (zeroV P e).bind fun z =>
    ck (Nat.blt 0 (P.cellsOf e) && z.cells.length == P.cellsOf e && goods z.cells) <|
    ck (decide (0 ≤ l) && (decide (l ≤ c) && (decide (c * P.bytesOf e ≤ 140737488355328) && decide (c ≤ 140737488355328)))) (K (fresh (.list true (P.cellsOf e) (List.replicate l.toNat z)) st))
  | _ => none

def opK (f : FuncId) (dst : Nat) (op : Op) (st : St) (K : (V × Tag) × St → R) : R :=
  match op with
  | .load t p => loadK P H f dst t (ev H st p).1 st K
  | .store t p x => storeK P t (ev H st p).1 (ev H st x) st K
  | .binOp op t x y _ => binOK P op t (ev H st x).1 (ev H st y).1 y fun v => K ((v, .no), st)
  | .nilCheck x => match (ev H st x).1 with
    | .loc i o => K ((.loc i o, .no), st) | .ref cs => K ((.ref cs, .no), st) | v => asObj v fun i o => K ((.obj i o, .no), st)
  | .convert s d x => convK P s d (ev H st x).1 fun v => K ((v, .no), st)
  | .slice t x lo hi mx => sliceK P t (ev H st x) (lo.map fun o => (ev H st o).1) (hi.map fun o => (ev H st o).1) (mx.map fun o => (ev H st o).1) st K
  | .indexAddr t x i => idxAddrK P t (ev H st x).1 (ev H st i).1 fun v => K ((v, .no), st)
  | .index t x i => indexK P t (ev H st x).1 (ev H st i).1 fun v => K ((v, .no), st)
  | .lookup t m k ok => lookupK P t (ev H st m).1 (ev H st k).1 ok st fun v => K ((v, .no), st)
  | .mapUpdate t m k x => mapSetK P t (ev H st m).1 (ev H st k).1 (ev H st x).1 st K
  | .insert t m k x => mapSetK P t (ev H st m).1 (ev H st k).1 (ev H st x).1 st K
  | .typeAssert x _ t ok => assertK P (ev H st x).1 t ok fun v => K ((v, .no), st)
  | .makeSlice t l c => makeSliceK P t (ev H st l).1 (ev H st c).1 st K
  | .call c => match c.callee, c.args.toList with
    | .builtin .append, [s, x] => (c.argTypes[0]?).bind fun t => (c.argTypes[1]?).bind fun t2 => match P.underlying t, P.underlying t2 with | some (.slice e), some (.slice _) | some (.slice e), some .string => appendK P e (ev H st s) (ev H st x).1 st K | _, _ => none
    | .builtin .len, [x] => (c.argTypes[0]?).bind fun t => lenK P st t (ev H st x).1 fun v => K ((v, .no), st)
    | _, _ => (opV P H f dst (.call c) st).bind K
  | op => (opV P H f dst op st).bind K
end

section
variable {P : Program} {H : Hints}

theorem loadK_s (f : FuncId) (dst : Nat) (t : TypeId) (p : V) (st : St) : Steps1 (loadV P H f dst t p st) (loadK P H f dst t p st) := by
  cases p with
  | obj id off =>
    intro K o h
    unfold loadK at h
    simp only at h
    obtain ⟨h1, h⟩ := ck_some h
    cases ha : isAggB P t with
    | true =>
      rw [ha] at h
      simp only [cond_true, rdN] at h
      cases hs : st.s[id]? with
      | none => rw [hs] at h; cases h
      | some ob => cases ob with
        | map _ _ => rw [hs] at h; cases h
        | box cs =>
          rw [hs] at h
          simp only at h
          cases ht : taken (P.cellsOf t) (cs.drop off) with
          | none => rw [ht] at h; cases h
          | some c =>
            rw [ht] at h
            simp only [goodK] at h
            cases hg : goods (c.map (·.1)) with
            | false => rw [hg] at h; cases h
            | true =>
              refine ⟨((.agg (c.map (·.1)), .no), st), ?_, fun K' => ?_⟩
              · simp only [loadV, ck, h1, hs, ht, ha, cond_true, Option.bind_some, asVar, hg, if_true, Option.map_some]
              · simp only [loadK, ck, h1, ha, cond_true, rdN, hs, ht, goodK, hg]
    | false =>
      rw [ha] at h
      simp only [cond_false] at h
      obtain ⟨h2, h⟩ := ck_some h
      have hn : P.cellsOf t = 1 := by simpa using h2
      have one : ∀ (cs : List (V × Bool)) (x : V × Bool), cs[off]? = some x → taken 1 (cs.drop off) = some [x] := by
        intro cs x hx
        have hlt := (List.getElem?_eq_some_iff.1 hx).1
        unfold taken
        rw [if_pos (by simp; omega)]
        congr 1
        apply List.ext_getElem?
        intro j
        rw [List.getElem?_take]
        cases j with
        | zero => simpa using hx
        | succ j => simp
      cases htk : H.take f dst with
      | true =>
        rw [htk] at h
        simp only [cond_true, rdT] at h
        cases hs : st.s[id]? with
        | none => rw [hs] at h; cases h
        | some ob => cases ob with
          | map _ _ => rw [hs] at h; cases h
          | box cs =>
            rw [hs] at h
            simp only at h
            cases hx : cs[off]? with
            | none => rw [hx] at h; cases h
            | some x =>
              rw [hx] at h
              simp only at h
              cases hf : x.2 with
              | true =>
                refine ⟨((x.1, .tok st.g), { st with g := st.g + 1, l := st.g :: st.l, s := st.s.set id (.box (cs.set off (x.1, false))) }), ?_, fun K' => ?_⟩
                · simp only [loadV, ck, h1, hs, hn, one cs x hx, ha, cond_true, Option.bind_some]
                  rw [if_pos (by simp [hf, htk])]
                · simp only [loadK, ck, h1, ha, cond_true, cond_false, h2, htk, rdT, hs, hx, hf]
              | false =>
                refine ⟨((x.1, .no), st), ?_, fun K' => ?_⟩
                · simp only [loadV, ck, h1, hs, hn, one cs x hx, ha, cond_true, Option.bind_some]
                  rw [if_neg (by simp [hf])]
                · simp only [loadK, ck, h1, ha, cond_true, cond_false, h2, htk, rdT, hs, hx, hf]
      | false =>
        rw [htk] at h
        simp only [cond_false, rd1] at h
        cases hs : st.s[id]? with
        | none => rw [hs] at h; cases h
        | some ob => cases ob with
          | map _ _ => rw [hs] at h; cases h
          | box cs =>
            rw [hs] at h
            simp only at h
            cases hx : cs[off]? with
            | none => rw [hx] at h; cases h
            | some x =>
              refine ⟨((x.1, .no), st), ?_, fun K' => ?_⟩
              · simp only [loadV, ck, h1, hs, hn, one cs x hx, ha, cond_true, Option.bind_some]
                rw [if_neg (by simp [htk])]
              · simp only [loadK, ck, h1, ha, cond_true, cond_false, h2, htk, rd1, hs, hx]
  | _ => exact Steps1.bind _

theorem wrO_s (s : List O) (id off : Nat) (new : List (V × Bool)) (K : List O → R) (o : Out) (h : wrO s id off new K = some o) : ∃ old, s[id]? = some (.box old) ∧ off + new.length ≤ old.length ∧ ∀ K' : List O → R, wrO s id off new K' = K' (s.set id (.box (splice old off new))) := by
  unfold wrO at h
  split at h
  · rename_i old hs
    cases hb : Nat.ble (off + new.length) old.length with
    | false => rw [hb] at h; cases h
    | true =>
      have h2 := hb
      rw [Nat.ble_eq] at hb
      exact ⟨old, hs, hb, fun K' => by unfold wrO; rw [hs]; simp only [h2, cond_true]⟩
  · cases h

theorem storeK_s (t : TypeId) (p : V) (v : V × Tag) (st : St) : Steps1 ((storeV P t p v st).map fun st => ((V.undef, Tag.no), st)) (storeK P t p v st) := by
  cases p with
  | obj id off =>
    intro K o h
    unfold storeK at h
    simp only at h
    obtain ⟨h1, h⟩ := ck_some h
    have hlen : v.1.cells.length = P.cellsOf t := by simp only [Bool.and_eq_true, beq_iff_eq] at h1; exact h1.1.1
    have plain : ∀ (h : wrO st.s id off (v.1.cells.map fun c => (c, nilB c)) (fun s' => K ((V.undef, Tag.no), { st with s := s' })) = some o) (hv : ∀ g, v.2 = .tok g → (v.1.good && st.l.contains g) = false), ∃ r, ((storeV P t (.obj id off) v st).map fun st => ((V.undef, Tag.no), st)) = some r ∧ ∀ K', storeK P t (.obj id off) v st K' = K' r := by
      intro h hv
      obtain ⟨old, hs, hle, hK⟩ := wrO_s _ _ _ _ _ _ h
      rw [List.length_map, hlen] at hle
      refine ⟨((.undef, .no), { st with s := st.s.set id (.box (splice old off (v.1.cells.map fun c => (c, nilB c)))) }), ?_, fun K' => ?_⟩
      · simp only [storeV, ck, h1, cond_true, hs, decide_eq_true hle]
        cases ht : v.2 with
        | tok g => simp only; rw [if_neg (by rw [hv g ht]; simp)]; rfl
        | no => rfl
        | full => rfl
      · simp only [storeK, ck, h1, cond_true]
        cases ht : v.2 with
        | tok g => simp only [hv g ht, cond_false]; exact hK _
        | no => exact hK _
        | full => exact hK _
    cases ht : v.2 with
    | tok g =>
      rw [ht] at h
      simp only at h
      cases hc : (v.1.good && st.l.contains g) with
      | true =>
        rw [hc] at h
        simp only [cond_true] at h
        obtain ⟨old, hs, hle, hK⟩ := wrO_s _ _ _ _ _ _ h
        have hg : v.1.good = true := by rw [Bool.and_eq_true] at hc; exact hc.1
        have h1n : P.cellsOf t = 1 := by rw [← hlen, cells_one hg]; rfl
        have hle' : off + P.cellsOf t ≤ old.length := by rw [h1n]; simpa using hle
        refine ⟨((.undef, .no), { st with l := st.l.filter (· != g), s := st.s.set id (.box (splice old off [(v.1, true)])) }), ?_, fun K' => ?_⟩
        · simp only [storeV, ck, h1, cond_true, hs, decide_eq_true hle', ht]; rw [if_pos hc]; rfl
        · simp only [storeK, ck, h1, cond_true, ht, hc]; exact hK _
      | false =>
        rw [hc] at h
        exact plain h (fun g' e => by rw [ht] at e; injection e with e; subst e; exact hc)
    | no => rw [ht] at h; exact plain h (fun g' e => by rw [ht] at e; cases e)
    | full => rw [ht] at h; exact plain h (fun g' e => by rw [ht] at e; cases e)
  | _ => exact Steps1.bind _

theorem sliceLK_s (nn : Bool) (k : Nat) (es : List V) (tag : Tag) (lo hi mx : Option V) : Steps1 (sliceL nn k es tag lo hi mx) (sliceLK nn k es tag lo hi mx) := by
  unfold sliceL sliceLK
  cases mx with
  | some m =>
    refine Steps1.then (Steps1.bind _) fun m => Steps1.then (Steps1.bind _) fun h => Steps1.then (Steps1.bind _) fun l => ?_
    refine (Steps1.ck _ (Steps1.some _)).weak fun r e => ?_
    obtain ⟨e1, e2⟩ := ck_some e
    simp only [Bool.and_eq_true, decide_eq_true_eq] at e1
    rw [if_pos e1]; exact e2
  | none =>
    refine Steps1.then (Steps1.bind _) fun h => Steps1.then (Steps1.bind _) fun l => ?_
    refine (Steps1.ck _ (Steps1.some _)).weak fun r e => ?_
    obtain ⟨e1, e2⟩ := ck_some e
    simp only [Bool.and_eq_true, decide_eq_true_eq] at e1
    rw [if_pos e1]; exact e2
theorem sliceSK_s (s : ByteArray) (lo hi : Option V) : Steps1 (sliceS s lo hi) (sliceSK s lo hi) := by
  unfold sliceS sliceSK
  refine Steps1.then (Steps1.bind _) fun h => Steps1.then (Steps1.bind _) fun l => ?_
  refine (Steps1.ck _ (Steps1.some _)).weak fun r e => ?_
  obtain ⟨e1, e2⟩ := ck_some e
  simp only [Bool.and_eq_true, decide_eq_true_eq] at e1
  rw [if_pos e1]; exact e2
theorem idxK_s (es : List V) (i : Int) : Steps1 (if 0 ≤ i then es[i.toNat]? else none) (idxK es i) := by
  intro K o h
  unfold idxK at h ⊢
  split at h
  · rename_i hi
    split at h
    · rename_i v hv
      exact ⟨v, by rw [if_pos hi]; exact hv, fun K' => by simp only [if_pos hi]⟩
    · cases h
  · cases h
theorem idxAddrK_s (t : TypeId) (x i : V) : Steps1 (indexAddrV P t x i) (idxAddrK P t x i) := by
  unfold idxAddrK
  split
  · rename_i e nn k es ki i hu
    refine (Steps1.ck _ (Steps1.map (fun v : V => V.ref v.cells) (idxK_s es i))).weak fun r e => ?_
    obtain ⟨e1, e2⟩ := ck_some e
    obtain ⟨v, hv, rfl⟩ := Option.map_eq_some_iff.1 e2
    split at hv
    · rename_i hi
      have hlt := (List.getElem?_eq_some_iff.1 hv).1
      simp only [indexAddrV, intOf?, Option.bind_some, hu, ck, e1, cond_true]
      rw [if_pos ⟨hi, by omega⟩, hv]
      rfl
    · cases hv
  · exact Steps1.bind _
theorem indexK_s (t : TypeId) (x i : V) : Steps1 (indexV P t x i) (indexK P t x i) := by
  unfold indexK
  split
  · rename_i s ki i hu
    intro K o h
    unfold byteK at h ⊢
    split at h
    · rename_i hi
      split at h
      · rename_i c hc
        have hlt : i.toNat < s.size := by
          rcases Nat.lt_or_ge i.toNat s.size with q | q
          · exact q
          · rw [getElem?_neg s _ (by omega)] at hc; cases hc
        have hce : s[i.toNat]'hlt = c := by rw [getElem?_pos s _ hlt] at hc; injection hc
        refine ⟨.int .u8 c.toNat, ?_, fun K' => by simp only [if_pos hi]⟩
        simp only [indexV, intOf?, Option.bind_some, hu]
        rw [dif_pos ⟨hi, hlt⟩, hce]
      · cases h
    · cases h
  · rename_i n e cs ki i hu
    intro K o h
    obtain ⟨h1, h⟩ := ck_some h
    unfold idxK at h
    split at h
    · rename_i hi
      split at h
      · rename_i v hv
        simp only [goodK] at h
        cases hg : goods [v] with
        | false => rw [hg] at h; cases h
        | true =>
          simp only [Bool.and_eq_true, decide_eq_true_eq, beq_iff_eq, Bool.not_eq_true'] at h1
          obtain ⟨⟨⟨u1, u2⟩, u3⟩, u4⟩ := h1
          refine ⟨v, ?_, fun K' => ?_⟩
          · simp only [indexV, intOf?, Option.bind_some, hu, ck, u3]
            have hd : (cs.drop (i.toNat * 1)).take 1 = [v] := by
              apply List.ext_getElem?
              intro j
              rw [List.getElem?_take]
              cases j with
              | zero => simpa using hv
              | succ j => simp
            rw [if_pos ⟨hi, u4⟩, hd]
            simp only [goods, Bool.and_true] at hg
            simp [asVar, ck, u1, u2, hg]
          · simp only [ck, idxK, goodK, if_pos hi, hv, hg, u1, u2, u3, decide_eq_true u4]
            rfl
      · cases h
    · cases h
  · exact Steps1.bind _
theorem mapK_s (s : List O) (id : Nat) (K : List (V × V) → Nat → R) (o : Out) (h : mapK s id K = some o) : ∃ es c, s[id]? = some (.map es c) ∧ ∀ K', mapK s id K' = K' es c := by
  unfold mapK at h
  split at h
  · rename_i es c hs; exact ⟨es, c, hs, fun K' => by unfold mapK; rw [hs]⟩
  · cases h
end
end Go.Proofs.YtphjfhglapkmhaaDoor.E
