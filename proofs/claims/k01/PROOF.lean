import PyProof.Rows.All
import HandS.ForMost
import HandS.Deep
import HandS.Flow
import HandS.IsInst
import HandS.TupAny
import HandS.DictComp
import HandS.SetFor
import HandS.Text
import KE.KDictPairs
import HandS.Base
import HandS.Defaults
import HandS.Head0
import HandS.Head1
import HandS.Head2
import HandS.HeadEnd
import HandS.HeadHook1
import HandS.HeadHook2
import PySem.Challenge.RW_cellmoments_k01_faults_of_nets
section
set_option Elab.async false
set_option linter.all false
set_option maxRecDepth 100000
/-! PvPrim: what the hand layer lacks: tuples whose object is known (so that dict(t) can be asked of them), dict(t), a list's remove of a text, a name bound to a dict that a comprehension makes, in over tuples of data. -/
namespace PV
open PySem PySem.Spec PyProof.Rows L2
/-- a tuple's object bs1 it is made here -/
def FT (o : PySem.Obj) : Prop := o.cls = .type "tuple" ∧ o.dict = none
theorem ft_new (uvs : List Value) : FT { cls := .type "tuple", data := .seq uvs.toArray } := ⟨rfl, rfl⟩
section
variable {X : Cx} {pn : List (Addr × PySem.Obj)} {τ : L2.St} {H : Hp} {s : Shared} {xs ys : List V} {es : List Expr} {t : TA} {pos : Pos}
theorem inv_newT {uvs : List Value} {t' : Nat} (I : Inv X pn τ H s) (z : xs.length ≤ sizeLine) (r : Vals xs uvs) :
    Inv X pn τ (upd H s.heap.objs.size (.frz { cls := .type "tuple", data := .seq uvs.toArray } (.tup xs))) { s with heap := s.heap.push { cls := .type "tuple", data := .seq uvs.toArray }, toks := t' } :=
  I.laid (t' := t') (fun b u e => Heap.get?_push_of_some _ e) (Nat.le_refl _) ⟨Heap.get?_push_size _ rfl, z, uvs, r, ⟨_, Heap.get?_push_size _ rfl, rfl, _, rfl⟩⟩
def tTupF (t : TA) : TE := fun τ H Q => t τ H fun xs H1 => xs.length ≤ sizeLine ∧ ∀ p o, H1 p = none → FT o → Q (.ref p) (upd H1 p (.frz o (.tup xs)))
theorem pe_tupF {x1} (h : PA X es t) : PE X (.Tuple es x1 pos) (tTupF t) := by
  refine ⟨fun pn s τ H Q I hat => ?_⟩
  refine wpAny_Tuple_spliced (thn (h.run pos pn s τ H _ I hat) fun uvs s1 ⟨xs, H1, J1, r, z, q⟩ => ⟨by rw [← r.length]; exact z, ?_⟩)
  exact ⟨.ref s1.heap.objs.size, _, inv_newT (t' := s1.toks) J1 z r, rfl, q _ _ (J1.hok.fresh (Nat.le_refl _)) (ft_new uvs)⟩
/-- tuple(l), tuple(t) -/
theorem call_tupleF : CallR X (.type "tuple") (fun xs H Q => ∃ p ys, xs = [.ref p] ∧ ((SqL X.K H p ys ∧ ∀ l o, H l = none → FT o → Q (.ref l) (upd H l (.frz o (.tup ys)))) ∨ (SqT X.K H p ys ∧ Q (.ref p) H))) := by
  intro pn s τ H xs uvs Q I r h
  obtain ⟨p, ys, rfl, h⟩ := h
  obtain ⟨u, rfl, rlx⟩ := vals1 r
  cases rlx
  rcases h with ⟨hat, q⟩ | ⟨hat, q⟩
  · obtain ⟨ws, r', pla, hsz⟩ := I.list hat
    have hle := r'.length
    refine call_tuple_list pla.isList (fun h' kp => ?_) (by simp only [List.size_toArray] <;> omega)
    have J1 : Inv X pn τ H { s with heap := h' } := I.kept (t' := s.toks) kp
    exact ⟨.ref h'.objs.size, _, inv_newT (t' := s.toks) J1 hsz r', rfl, q _ _ (J1.hok.fresh (Nat.le_refl _)) (ft_new ws)⟩
  · obtain ⟨ws, r', pla, hsz⟩ := I.tuple hat
    exact call_tuple_same pla ⟨.ref p, H, I, rfl, q⟩
/-- t + u -/
def rCatF (K : PySem.W.Frag) : R2 := fun x y H Q => ∃ a b xs ys, x = .ref a ∧ y = .ref b ∧ SqT K H a xs ∧ SqT K H b ys ∧ xs.length + ys.length ≤ sizeLine ∧
  (xs = [] → Q (.ref b) H) ∧ (xs ≠ [] → ys = [] → Q (.ref a) H) ∧ (xs ≠ [] → ys ≠ [] → ∀ p o, H p = none → FT o → Q (.ref p) (upd H p (.frz o (.tup (xs ++ ys)))))
theorem op_catF : OpR X (binaryOp .Add) (rCatF X.K) := by
  intro pn s τ H x y v u Q I rlx rly h
  obtain ⟨a, b, xs, ys, rfl, rfl, ha, hbk, hsz, c0, c1, c2⟩ := h
  cases rlx
  cases rly
  obtain ⟨ws, ra, pa, _⟩ := I.tuple ha
  obtain ⟨ws2, rb2, pb, _⟩ := I.tuple hbk
  by_cases hxe : xs = []
  · subst hxe
    cases ra
    exact cat_tup0 pa pb ⟨.ref b, H, I, rfl, c0 rfl⟩
  · refine HT.cat_tup pa pb (fun z => hxe (ra.nil_iff.mp z)) (fun z => ⟨.ref a, H, I, rfl, c1 hxe (rb2.nil_iff.mp z)⟩) (fun z => ?_) (by rw [← ra.length, ← rb2.length]; exact hsz)
    exact ⟨.ref s.heap.objs.size, _, inv_newT (t' := s.toks) I (by rw [List.length_append]; exact hsz) (ra.append rb2), rfl, c2 hxe (fun w => z (rb2.nil_iff.mpr w)) _ _ (I.hok.fresh (Nat.le_refl _)) (ft_new _)⟩
/-- t[lo:hi] -/
def rSlF (K : PySem.W.Frag) : V → Option Int → Option Int → Hp → VK → Prop := fun x lo hi H Q => ∃ a xs, x = .ref a ∧ SqT K H a xs ∧
  (HT.sIx xs.length 0 lo = 0 ∧ HT.sIx xs.length xs.length hi = xs.length → Q (.ref a) H) ∧ (¬ (HT.sIx xs.length 0 lo = 0 ∧ HT.sIx xs.length xs.length hi = xs.length) → ∀ p o, H p = none → FT o → Q (.ref p) (upd H p (.frz o (.tup (L2.cutV xs lo hi)))))
theorem sl_tupF : SlR X (rSlF X.K) := by
  intro pn s τ H x v vl vu lo hi sl Q I rlx hsl pla pup h
  obtain ⟨a, xs, rfl, hxe, c1, c2⟩ := h
  cases rlx
  obtain ⟨ws, r, ht, hsz⟩ := I.tuple hxe
  have hle : ws.toArray.size = xs.length := by rw [List.size_toArray]; exact r.length.symm
  refine ⟨"tuple", _, PyProof.Rows.slot_tuple_getitem.lookup, ht.typeIs, ?_⟩
  by_cases hwh : HT.sIx xs.length 0 lo = 0 ∧ HT.sIx xs.length xs.length hi = xs.length
  · exact getItem_tuple_whole ht hsl pla pup (by rw [hle]; exact hwh) ⟨.ref a, H, I, rfl, c1 hwh⟩
  · refine HT.getItem_tuple_cut ht hsl pla pup (by rw [hle]; exact hwh) ?_ (by rw [hle]; exact hsz)
    rw [hle]
    exact ⟨.ref s.heap.objs.size, _, inv_newT (t' := s.toks) I (Nat.le_trans (cutV_length xs lo hi) hsz) ((r.drop (HT.sIx xs.length 0 lo)).take (HT.sIx xs.length xs.length hi - HT.sIx xs.length 0 lo)), rfl, c2 hwh _ _ (I.hok.fresh (Nat.le_refl _)) (ft_new _)⟩
/-- x in t, x not in t, of data -/
def rInTD (K : PySem.W.Frag) : R2 := fun x y H Q => ∃ d ds, Dp K H x d ∧ Dp K H y (.tuple ds) ∧ SeqAt.shaped d = true ∧ SeqAt.shaped (.tuple ds) = true ∧ Q (.bl (ds.any fun z => PyData.eqv z d)) H
def rNotInTD (K : PySem.W.Frag) : R2 := fun x y H Q => ∃ d ds, Dp K H x d ∧ Dp K H y (.tuple ds) ∧ SeqAt.shaped d = true ∧ SeqAt.shaped (.tuple ds) = true ∧ Q (.bl (!ds.any fun z => PyData.eqv z d)) H
theorem op_inTD (huu : X.A.units + 65 < cLine) : OpR X (compareOp .In) (rInTD X.K) := by
  intro pn s τ H x y v u Q I rlx rly h
  obtain ⟨d, ds, hda, hea, sda, sea, q⟩ := h
  obtain ⟨bs1, ra⟩ := Dp.reads I d x v hda rlx
  obtain ⟨bs2, rb2⟩ := Dp.reads I (.tuple ds) y u hea rly
  exact SeqAt.in_tuple_reads rb2 ra (SeqAt.canLay_of_shaped sea) (SeqAt.canLay_of_shaped sda) (room_in_shaped sda huu) ⟨.bl _, H, I, rfl, q⟩
theorem op_notInTD (huu : X.A.units + 65 < cLine) : OpR X (compareOp .NotIn) (rNotInTD X.K) := by
  intro pn s τ H x y v u Q I rlx rly h
  obtain ⟨d, ds, hda, hea, sda, sea, q⟩ := h
  obtain ⟨bs1, ra⟩ := Dp.reads I d x v hda rlx
  obtain ⟨bs2, rb2⟩ := Dp.reads I (.tuple ds) y u hea rly
  exact SeqAt.notIn_tuple_reads rb2 ra (SeqAt.canLay_of_shaped sea) (SeqAt.canLay_of_shaped sda) (room_in_shaped sda huu) ⟨.bl _, H, I, rfl, q⟩
/-- l.remove(text) -/
def eqs (k : Str) (v : Value) : Bool := match v with
  | .str n _ => n == k
  | _ => false
theorem eqs_gives {k : Str} {t : Tok} : ∀ {uvs : List Value} {ns : List Str}, Vals (ns.map V.str) uvs → ∀ y ∈ uvs, MeetsSeq.EqGives y (.str k t) (eqs k y)
  | _, [], r => fun y hy => by
    cases r
    cases hy
  | _, n :: ns, r => fun y hy => by
    cases r with
    | cons h r =>
      obtain ⟨t', rfl⟩ := h
      rcases List.mem_cons.mp hy with e | e
      · rw [e]
        exact fun _ _ _ _ _ _ h => wpAny_eqBool_str (by
          have eb : eqs k (.str n t') = decide (n = k) := by rw [Bool.eq_iff_iff]; simp [eqs]
          rw [eb] at h
          exact h)
      · exact eqs_gives r y e
theorem erase_mapS : ∀ (l : List Str) (j : Nat), (l.map V.str).eraseIdx j = (l.eraseIdx j).map V.str
  | [], j => by simp
  | a :: r, 0 => by simp
  | a :: r, j + 1 => by
    have ih := erase_mapS r j
    simp [ih]
theorem valS_get : ∀ {uvs : List Value} {ns : List Str} {i : Nat} {n : Str}, Vals (ns.map V.str) uvs → ns[i]? = some n → ∃ t, uvs[i]? = some (.str n t) := fun {uvs ns i n} r e => by
  obtain ⟨u, h1, t, rfl⟩ := r.get (i := i) (x := V.str n) (by rw [List.getElem?_map, e]; rfl)
  exact ⟨t, h1⟩
def rRemS : V → List V → Hp → VK → Prop := fun x xs H Q => ∃ (l : Addr) (ns : List Str) (k : Str) (j : Nat), x = .ref l ∧ xs = [.str k] ∧ H l = some (.lst (ns.map V.str)) ∧ ns[j]? = some k ∧ (∀ m : Nat, m < j → ns[m]? ≠ some k) ∧ Q .non (upd H l (.lst ((ns.eraseIdx j).map V.str)))
theorem mt_removeS : MtM X "list.remove" rRemS := by
  intro pn s τ H x xs v uvs Q I rlx rlxs h
  obtain ⟨l, ns, k, j, rfl, rfl, hH, hj, hnone, q⟩ := h
  cases rlx
  obtain ⟨u, rfl, ru⟩ := rlxs.one
  obtain ⟨t, rfl⟩ := ru
  obtain ⟨z, ws, n, r, hlg, e⟩ := I.lstM hH
  rw [List.length_map] at hlg z
  have hjb : j < ns.length := (List.getElem?_eq_some_iff.mp hj).1
  have hjw : j < ws.toArray.size := by rw [List.size_toArray]; omega
  refine call_meets PySem.F.slot_list_remove ⟨_, e, rfl⟩ PySem.F.entry_list_remove (PySem.F.args_list_remove_2 _ _)
    (MeetsSeq.list_remove l ws.toArray n (.str k t) (eqs k) (fun y hy => eqs_gives r y (by simpa using hy)) j hjw ?_ ?_ (by rw [List.size_toArray]; omega)) ⟨e, ?_⟩
  · obtain ⟨tj, hjt⟩ := valS_get r hj
    obtain ⟨h1, h2⟩ := List.getElem?_eq_some_iff.mp hjt
    have ea : ws.toArray[j] = .str k tj := by simpa using h2
    rw [ea]
    exact beq_self_eq_true k
  · intro m hms hmj
    have hmb : m < ns.length := by omega
    obtain ⟨tm, hmt⟩ := valS_get r (List.getElem?_eq_getElem hmb)
    obtain ⟨h1, h2⟩ := List.getElem?_eq_some_iff.mp hmt
    have ea : ws.toArray[m] = .str ns[m] tm := by simpa using h2
    rw [ea]
    refine beq_eq_false_iff_ne.mpr fun eb => hnone m hmj ?_
    rw [List.getElem?_eq_getElem hmb, eb]
  · have rr := r.eraseIdx j
    rw [erase_mapS] at rr
    refine ⟨.non, _, I.lset (its' := ws.eraseIdx j) (t' := s.toks) hH e ?_ rr ?_, rfl, q⟩
    · show ws.toArray.eraseIdxIfInBounds j = (ws.eraseIdx j).toArray
      rw [List.eraseIdxIfInBounds_toArray]
    · have z2 := len_erase (ns.map V.str) j
      rw [erase_mapS] at z2
      rw [List.length_map] at z2 ⊢
      rw [List.length_map] at z2
      omega
/-- dict(t) of a tuple of pairs -/
theorem call_dictT (hcalm : X.calm = true) : CallR X (.type "dict") (fun xs H Q => ∃ (a : Addr) (ps : List Addr) (kvs : List (Key × V)), xs = [.ref a] ∧
    ((∃ o, H a = some (.frz o (.tup (ps.map V.ref))) ∧ FT o) ∨ ∃ (o : PySem.Obj) (ws : Array Value) (n : Nat), X.K.lookup a = some o ∧ o.cls = .type "tuple" ∧ o.dict = none ∧ o.data = .seq ws n ∧ ws.size ≤ sizeLine ∧ Vals (ps.map V.ref) ws.toList) ∧
    Paired (fun p kv => SqT X.K H p [kV kv.1, kv.2]) ps kvs ∧ ∀ p, H p = none → Q (.ref p) (upd H p (.dK (mergeK [] kvs)))) := by
  intro pn s τ H xs uvs Q I r q
  obtain ⟨a, ps, kvs, ex, hat, hp, q⟩ := q
  subst ex
  obtain ⟨u, eu, rlx⟩ := vals1 r
  subst eu
  cases rlx
  have key : ∃ (o : PySem.Obj) (n : Nat), s.heap.get? a = some o ∧ o.cls = .type "tuple" ∧ o.dict = none ∧ o.data = .seq (ps.map Value.ref).toArray n ∧ ps.length ≤ sizeLine := by
    rcases hat with ⟨o, hob, fo⟩ | ⟨o, ws, n, hob, hcm, hda, hdat, hsz, rvs⟩
    · obtain ⟨e, z, ws, rvs, o', e', c', n, d'⟩ := I.hok a _ hob
      rw [e] at e'
      cases e'
      have ei := refs_at rvs
      subst ei
      rw [List.length_map] at z
      exact ⟨o, n, e, fo.1, fo.2, d', z⟩
    · have ei := refs_at rvs
      have eb : ws = (ps.map Value.ref).toArray := by rw [← ei]
      subst eb
      exact ⟨o, n, I.kIn _ _ hob, hcm, hda, hdat, by simpa using hsz⟩
  obtain ⟨o, n, hob, hcm, hda, hdat, hsz⟩ := key
  obtain ⟨pairs, rkv, hlg, hpairs⟩ := pairs_of I hp
  -- the keys bs1 values
  have keys : ∀ (j : Nat) (q : Key × Value), pairs[j]? = some q → ∃ u : Value, IsTup s.heap (ps.getD j 0) #[u, q.2] ∧ keyIs q.1 u = true := fun j q' e => by
    obtain ⟨b, u, ea, eb, ec⟩ := hpairs j q' e
    exact ⟨u, by rw [List.getD_eq_getElem?_getD, ea]; exact eb, ec⟩
  have pv : ∃ pv : List (Value × Value), pv.length = pairs.length ∧ ∀ (j : Nat) (k v : Value), pv[j]? = some (k, v) → ∃ q, pairs[j]? = some q ∧ q.2 = v ∧ keyIs q.1 k = true ∧ IsTup s.heap (ps.getD j 0) #[k, v] := by
    clear hpairs rkv hlg q
    have : ∀ (l : List (Key × Value)) (f : Nat → Addr), (∀ (j : Nat) (q : Key × Value), l[j]? = some q → ∃ u : Value, IsTup s.heap (f j) #[u, q.2] ∧ keyIs q.1 u = true) →
        ∃ pv : List (Value × Value), pv.length = l.length ∧ ∀ (j : Nat) (k v : Value), pv[j]? = some (k, v) → ∃ q, l[j]? = some q ∧ q.2 = v ∧ keyIs q.1 k = true ∧ IsTup s.heap (f j) #[k, v] := by
      intro l
      induction l with
      | nil => exact fun f _ => ⟨[], rfl, fun j k v e => by simp at e⟩
      | cons a l ih =>
        intro f hf
        obtain ⟨u, t1, t2⟩ := hf 0 a rfl
        obtain ⟨pv, ea, eb⟩ := ih (fun j => f (j + 1)) fun j q e => hf (j + 1) q (by simpa using e)
        refine ⟨(u, a.2) :: pv, by simp [ea], fun j k v e => ?_⟩
        cases j with
        | zero =>
          cases e
          exact ⟨a, rfl, rfl, t2, t1⟩
        | succ j =>
          obtain ⟨q, h1, h2⟩ := eb j k v (by simpa using e)
          exact ⟨q, by simpa using h1, h2⟩
    exact this pairs (fun j => ps.getD j 0) keys
  obtain ⟨pv, epv, hpv⟩ := pv
  have ok : PlainSeq "tuple" s.heap a (ps.map Value.ref).toArray ∧ PairItems s.heap (ps.map Value.ref).toArray (fun j => ps.getD j 0) pv := by
    refine ⟨⟨o, n, hob, hcm, hda, hdat⟩, by simp [epv, hlg], fun j k v e => ?_⟩
    obtain ⟨q', h1, h2, h3, o2, g1, g2, n2, g3⟩ := hpv j k v e
    have hj : j < ps.length := by
      rw [← hlg]
      exact (List.getElem?_eq_some_iff.mp h1).1
    refine ⟨by simp [List.getElem?_eq_getElem hj, List.getD_eq_getElem?_getD], .inl ⟨o2, g1, g2, n2, g3⟩⟩
  refine PySem.call_dict_pairs (knd := mixKind X.prog X.w) (kvs := pairs) (PairArg.tuple a (ps.map Value.ref).toArray (fun j => ps.getD j 0) pv) (I.ok.hd hcalm) ok ⟨epv.symm, fun i k v e => ?_⟩ (by rw [epv, hlg]; exact hsz) fun h' tk hd' k => ?_
  · obtain ⟨q', h1, h2, h3, _⟩ := hpv i k v e
    obtain ⟨c1, c2⟩ := q'
    cases h2
    exact ⟨c1, h1, h3⟩
  · have hms : (s.heap.objs.size == sysModules) = false := beq_eq_false_iff_ne.mpr (Nat.ne_of_gt I.big)
    have hle : (mergeK [] kvs).length ≤ sizeLine := by
      refine Nat.le_trans (length_mergeK kvs []) ?_
      rw [List.length_nil, Nat.zero_add, rkv.length, hlg]
      exact hsz
    exact ⟨.ref s.heap.objs.size, upd H s.heap.objs.size (.dK (mergeK [] kvs)), I.laid (t' := tk) (fun b o e => k b o (fun w => by cases w) e) (Nat.le_refl _) (show ObjOk X.prog X.w _ _ _ (.dK (mergeK [] kvs)) from ⟨hle, hms, merged [] pairs, KV.merge rkv .nil, hd'⟩), rfl, q _ (I.hok.fresh (Nat.le_refl _))⟩
/-- len of a dict -/
theorem call_lenDR : CallR X (.builtin "len") (fun xs H Q => ∃ a kvs, xs = [V.ref a] ∧ Rd H a (.dK kvs) ∧ Q (.int kvs.length) H) := by
  intro pn s τ H xs uvs Q I r h
  obtain ⟨a, kvs, rfl, e, q⟩ := h
  rw [Vals.ref1 r]
  exact d_len I e fun t s' J' => ⟨.int kvs.length, H, J', ⟨t, rfl⟩, q⟩
end
section
variable {X : Cx}
/-- name = {..} on one line, the name a local -/
theorem ps_setDc {i : Nat} {y : Str} {py : Pos} {kx vx tg iter : Expr} {ifs : List Expr} {scope : Scope} {own : List (Str × Nat)} {pos spos : Pos} {wi : TI} {g : TG} {tt : TT} {tk tv : TE} (hcm : X.calm = true) (hN : X.N.Nodup) (hy : X.N[i]? = some y) (hyl : X.env.scope.names.lookup y = some .local)
    (hsw : swapsWith (.DictComp kx vx [⟨tg, iter, ifs, 0⟩] scope pos) (some (.Name y py)) spos.line X.env = pure true) (hi : PI X tg iter wi) (ok : BlkOk X.N X.env.scope scope own)
    (hg : ∀ (s : Shared) (H : Hp) (C : Addr) (cl : List (Str × Addr)) (fp : List Addr), PG (X.blk s H scope (compEnvC scope cl C X.env) fp) tg g) (ht : ∀ (s : Shared) (H : Hp) (C : Addr) (cl : List (Str × Addr)) (fp : List Addr), PTs (X.blk s H scope (compEnvC scope cl C X.env) fp) ifs tt)
    (hk : ∀ (s : Shared) (H : Hp) (C : Addr) (cl : List (Str × Addr)) (fp : List Addr), PE (X.blk s H scope (compEnvC scope cl C X.env) fp) kx tk)
    (hea : ∀ (s : Shared) (H : Hp) (C : Addr) (cl : List (Str × Addr)) (fp : List Addr), PE (X.blk s H scope (compEnvC scope cl C X.env) fp) vx tv) (hsl : ∀ x, foldedSetIterable iter X.env x = pure x := by intro _; rfl) :
    PS X (.Assign [.Name y py] (.DictComp kx vx [⟨tg, iter, ifs, 0⟩] scope pos) spos) (tAsg (tDc wi g tt tk tv (own.map (·.2))) (gName i)) := by
  refine ⟨fun pn s τ H D I h => ?_⟩
  rw [exec_Assign_Name_used _ _ _ _ hsw]
  refine wpAny_bind (wpAny_standAt (wpAny_bind ?_))
  show wpAny _ X.A (do let _ ← comprehension (.DictComp kx vx [⟨tg, iter, ifs, 0⟩] scope pos) scope X.env (firstIterPos [⟨tg, iter, ifs, 0⟩] pos) newDict false (eval iter X.env) (some (assign (.Name y py) X.env))) _ _ s
  have h : tDc wi g tt tk tv (own.map (·.2)) τ H (fun x H1 => gName i x τ H1 D.nx) := h
  refine wpAny_bind (thn (dc_core (Qf := fun _ s' => SP X pn D .next s') hcm hN I hi ok hg ht hk hea hsl h fun L C s' m H' J' q hn f => ?_) fun _ s' hat => wpAny_pure (wpAny_pure hat))
  show wpAny _ _ (assign (.Name y py) X.env (.ref L)) _ _ _
  refine wpAny_assign_Name (store_ok2 (v := V.ref L) J' hN hy (.inl hyl) rfl (fun s2 J2 ⟨a, sbt, ha⟩ => ?_) (.inr hyl))
  obtain ⟨w0, w1, w2, w3, w4, w5⟩ := f
  have hCa : C ≠ a := by
    rcases ha with z | z
    · rw [z]; exact w1
    · exact fun e => w4 y a z e.symm
  refine ⟨m, hn.sameBut sbt hCa, fun h3 sbt3 => ?_⟩
  exact ⟨_, H', J2.turned (t' := s2.toks) (fun b o hbk e => (sbt3.2 b hbk).trans e) w0 w1 w3 w4 w5, q⟩
theorem sw_trueD {kx vx : Expr} {gs : List Comprehension} {scope : Scope} {pos py : Pos} {y : Str} {l : Nat} {env : Env} (hk : env.scope.kind = .function) (hy : env.scope.names.lookup y = some .local) (hlg : (py.line == pos.line) = true)
    (ha : (scope.names.any fun (n, k) => n == y && (k == .local || k == .cell)) = false) : swapsWith (.DictComp kx vx gs scope pos) (some (.Name y py)) l env = pure true := by
  have kyy : env.kindOf y = some .local := hy
  have hbk : env.blockKind = .function := by unfold Env.blockKind; rw [hk]; rfl
  unfold swapsWith
  simp only [hbk, kyy, ha, Expr.pos, hlg]
  rfl
end
end PV
end

section
set_option linter.all false
set_option maxRecDepth 100000
/-! PvEval: a small language of statements over pure values, and what its programs do. Values are told as they are (tuples, and
lists and dicts that nobody changes any more, too); a list or a dict that is changed stands in a store. -/
namespace PV
open PySem (Str)
abbrev Key := L2.Key

inductive Val where
  | non | bl (b : Bool) | int (i : Int) | str (s : Str) | tup (xs : List Val) | ls (xs : List Val) | sc (xs : List Val) | dc (kvs : List (Key × Val)) | ref (a : Nat)
  deriving Inhabited

inductive Obj where
  | lst (xs : List Val) | dK (kvs : List (Key × Val)) | dT (kvs : List (List Key × Val)) | dead
  deriving Inhabited

abbrev Store := List Obj
abbrev Env := List (Option Val)

/-- what comes of a step -/
inductive R (α : Type) where
  | ok (a : α) (st : Store)
  | exc (c : Str) (fs : List Val) (st : Store)
  | bad

def R.bind {α β : Type} (r : R α) (f : α → Store → R β) : R β := match r with
  | .ok a st => f a st
  | .exc c fs st => .exc c fs st
  | .bad => .bad
@[simp] theorem R.bind_ok {α β : Type} (a : α) (st : Store) (f : α → Store → R β) : (R.ok a st).bind f = f a st := rfl
@[simp] theorem R.bind_bad {α β : Type} (f : α → Store → R β) : (R.bad : R α).bind f = .bad := rfl
@[simp] theorem R.bind_exc {α β : Type} (c : Str) (fs : List Val) (st : Store) (f : α → Store → R β) : (R.exc c fs st : R α).bind f = .exc c fs st := rfl

/-- a partial answer that leaves the store -/
def ofO {α : Type} (o : Option α) (st : Store) : R α := match o with
  | some a => .ok a st
  | none => .bad
@[simp] theorem ofO_some {α : Type} (a : α) (st : Store) : ofO (some a) st = .ok a st := rfl
@[simp] theorem ofO_none {α : Type} (st : Store) : ofO (none : Option α) st = .bad := rfl

/-! ### values -/
mutual
/-- no name of the store stands in it -/
def Val.pure : Val → Bool
  | .tup xs => pureAll xs
  | .ls xs => pureAll xs
  | .sc xs => pureAll xs
  | .dc kvs => pureKV kvs
  | .ref _ => false
  | _ => true
def pureAll : List Val → Bool
  | [] => true
  | x :: xs => x.pure && pureAll xs
def pureKV : List (Key × Val) → Bool
  | [] => true
  | (_, v) :: r => v.pure && pureKV r
end
mutual
/-- all names of the store in it are less than n -/
def Val.under (n : Nat) : Val → Bool
  | .tup xs => underAll n xs
  | .ls xs => underAll n xs
  | .sc xs => underAll n xs
  | .dc kvs => underKV n kvs
  | .ref a => decide (a < n)
  | _ => true
def underAll (n : Nat) : List Val → Bool
  | [] => true
  | x :: xs => x.under n && underAll n xs
def underKV (n : Nat) : List (Key × Val) → Bool
  | [] => true
  | (_, v) :: r => v.under n && underKV n r
end
def underT (n : Nat) : List (List Key × Val) → Bool
  | [] => true
  | (_, v) :: r => v.under n && underT n r
def Obj.under (n : Nat) : Obj → Bool
  | .lst xs => underAll n xs
  | .dK kvs => underKV n kvs
  | .dT kvs => underT n kvs
  | .dead => true

mutual
/-- a value as data: none, boolsOf, intsOf, texts, tuples, lists -/
def Val.data (st : Store) : Val → Option PySem.PyData
  | .non => some .none
  | .bl b => some (.bool b)
  | .int i => some (.int i)
  | .str s => some (.str s)
  | .tup xs => (dataAll st xs).map .tuple
  | .ls xs => (dataAll st xs).map .list
  | .sc _ => none
  | .dc _ => none
  | .ref _ => none
def dataAll (st : Store) : List Val → Option (List PySem.PyData)
  | [] => some []
  | x :: xs => match x.data st, dataAll st xs with
    | some d, some ds => some (d :: ds)
    | _, _ => none
end
/-- .. also a list of the store whose items are such -/
def dataOf (st : Store) (v : Val) : Option PySem.PyData := match v with
  | .ref a => (match st[a]? with
    | some (.lst xs) => (dataAll st xs).map .list
    | _ => none)
  | v => v.data st

/-- the items of a list that can be read and joined -/
def lstOf (st : Store) : Val → Option (List Val)
  | .ls xs => some xs
  | .ref a => (match st[a]? with
    | some (.lst xs) => some xs
    | _ => none)
  | _ => none
def isLst (st : Store) (x : Val) : Bool := (lstOf st x).isSome
/-- the items of a list or a tuple -/
def seqOf (st : Store) : Val → Option (List Val)
  | .tup xs => some xs
  | .ls xs => some xs
  | .sc xs => some xs
  | .ref a => (match st[a]? with
    | some (.lst xs) => some xs
    | _ => none)
  | _ => none

mutual
/-- the same value, asked by going through it -/
def Val.same : Val → Val → Bool
  | .non, .non => true
  | .bl a, .bl b => a == b
  | .int a, .int b => a == b
  | .str a, .str b => decide (a = b)
  | .tup a, .tup b => sameL a b
  | .ls a, .ls b => sameL a b
  | .sc a, .sc b => sameL a b
  | .dc a, .dc b => sameKV a b
  | .ref a, .ref b => a == b
  | _, _ => false
def sameL : List Val → List Val → Bool
  | [], [] => true
  | x :: xs, y :: ys => x.same y && sameL xs ys
  | _, _ => false
def sameKV : List (Key × Val) → List (Key × Val) → Bool
  | [], [] => true
  | (k, x) :: xs, (l, y) :: ys => decide (k = l) && x.same y && sameKV xs ys
  | _, _ => false
end
mutual
theorem Val.same_self : ∀ x : Val, x.same x = true
  | .non => by simp [Val.same]
  | .bl _ => by simp [Val.same]
  | .int _ => by simp [Val.same]
  | .str _ => by simp [Val.same]
  | .tup a => by simp [Val.same, sameL_self a]
  | .ls a => by simp [Val.same, sameL_self a]
  | .sc a => by simp [Val.same, sameL_self a]
  | .dc a => by simp [Val.same, sameKV_self a]
  | .ref _ => by simp [Val.same]
theorem sameL_self : ∀ x : List Val, sameL x x = true
  | [] => by simp [sameL]
  | x :: xs => by simp [sameL, Val.same_self x, sameL_self xs]
theorem sameKV_self : ∀ x : List (Key × Val), sameKV x x = true
  | [] => by simp [sameKV]
  | (k, x) :: xs => by simp [sameKV, Val.same_self x, sameKV_self xs]
end
mutual
theorem Val.same_eq : ∀ x y : Val, x.same y = true → x = y
  | .non, y, h => by cases y <;> simp [Val.same] at h ⊢
  | .bl _, y, h => by cases y <;> simp [Val.same] at h ⊢; exact h
  | .int _, y, h => by cases y <;> simp [Val.same] at h ⊢; exact h
  | .str _, y, h => by cases y <;> simp [Val.same] at h ⊢; exact h
  | .tup a, y, h => by cases y <;> simp [Val.same] at h ⊢; exact sameL_eq _ _ h
  | .ls a, y, h => by cases y <;> simp [Val.same] at h ⊢; exact sameL_eq _ _ h
  | .sc a, y, h => by cases y <;> simp [Val.same] at h ⊢; exact sameL_eq _ _ h
  | .dc a, y, h => by cases y <;> simp [Val.same] at h ⊢; exact sameKV_eq _ _ h
  | .ref _, y, h => by cases y <;> simp [Val.same] at h ⊢; exact h
theorem sameL_eq : ∀ x y : List Val, sameL x y = true → x = y
  | [], y, h => by cases y <;> simp [sameL] at h ⊢
  | x :: xs, y, h => by
    cases y with
    | nil => simp [sameL] at h
    | cons z zs =>
      simp [sameL] at h
      rw [Val.same_eq x z h.1, sameL_eq xs zs h.2]
theorem sameKV_eq : ∀ x y : List (Key × Val), sameKV x y = true → x = y
  | [], y, h => by cases y <;> simp [sameKV] at h ⊢
  | (k, x) :: xs, y, h => by
    cases y with
    | nil => simp [sameKV] at h
    | cons z zs =>
      obtain ⟨l, z⟩ := z
      simp [sameKV] at h
      rw [h.1.1, Val.same_eq x z h.1.2, sameKV_eq xs zs h.2]
end
/-- the items of a list -/
def seqL (st : Store) : Val → Option (List Val)
  | .tup _ => none
  | x => seqOf st x
theorem seqL_seq {st : Store} {x : Val} {xs : List Val} (h : seqL st x = some xs) : seqOf st x = some xs ∧ ∀ l, x ≠ .tup l := by
  cases x with
  | tup l => cases h
  | _ => exact ⟨h, fun l => by simp⟩
def look {κ : Type} [DecidableEq κ] (kvs : List (κ × Val)) (k : κ) : Option Val := (kvs.find? fun kv => decide (kv.1 = k)).map (·.2)
def put {κ : Type} [DecidableEq κ] (kvs : List (κ × Val)) (k : κ) (v : Val) : List (κ × Val) :=
  if (kvs.any fun kv => decide (kv.1 = k)) then kvs.map fun kv => if kv.1 = k then (kv.1, v) else kv else kvs ++ [(k, v)]
def keyOf : Val → Option Key
  | .int i => some (.inl i)
  | .str s => some (.inr s)
  | _ => none
def keysOf : List Val → Option (List Key)
  | [] => some []
  | x :: xs => match keyOf x, keysOf xs with
    | some k, some ks => some (k :: ks)
    | _, _ => none
/-- what a dict has under a value: none where the value is no key of such a dict, or the thing no dict -/
def dictGet (st : Store) (d k : Val) : Option (Option Val) := match d with
  | .dc kvs => (keyOf k).map (look kvs)
  | .ref a => (match st[a]? with
    | some (.dK kvs) => (keyOf k).map (look kvs)
    | _ => none)
  | _ => none
def isDict (st : Store) : Val → Bool
  | .dc _ => true
  | .ref a => (match st[a]? with
    | some (.dK _) => true
    | _ => false)
  | _ => false
def kvVal : Key → Val
  | .inl i => .int i
  | .inr s => .str s

/-! ### the language -/
inductive Op where
  | add | sub | mul | fdiv | mod | pow
  deriving DecidableEq
inductive Co where
  | eq | ne | lt | le | gt | ge | isin | notin
  deriving DecidableEq
inductive Ty where
  | int | bool | str | tuple | list
  deriving DecidableEq
/-- built-ins of one, two arguments -/
inductive B1 where
  | len | int | tuple | list | dict | all | any | sum | sorted | enum | range
  deriving DecidableEq
inductive B2 where
  | min | max | zip
  deriving DecidableEq
inductive Tg where
  | nm (i : Nat) | tp (is : List Nat)
  deriving DecidableEq
/-- what is walked: a thing itself, or the answer of a built-in that is walked at once -/
inductive Wk where
  | of | range | enum | zip
  deriving DecidableEq

inductive E where
  | var (i : Nat)
  | cst (v : Val)
  | glo (x : Str) (v : Val)
  | bin (o : Op) (a b : E)
  | neg (a : E)
  | not (a : E)
  | and (a b : E)
  | or (a b : E)
  | cmp (o : Co) (a b : E)
  | isN (a : E)
  | notN (a : E)
  | chn (o p : Co) (a b c : E)
  | ite (c a b : E)
  | tup (es : List E)
  | lst (es : List E)
  | dct (ks : List Key) (es : List E)
  | own (e : E)
  | ownC (f : Str) (es : List E)
  | newT
  | ix (a i : E)
  | sl (a : E) (lo hi : List E)
  | rev (a : E)
  | call (f : Str) (es : List E)
  | isi (a : E) (t : Ty)
  | b1 (f : B1) (a : E)
  | b2 (f : B2) (a b : E)
  | get (d k x : E)
  | join (s a : E)
  | index (l x : E)
  | pop (l i : E)
  | popD (d k x : E)
  | lc (elt : E) (tg : Tg) (w : Wk) (src : List E) (cond : List E)
  | dcm (k v : E) (tg : Tg) (w : Wk) (src : List E)

inductive S where
  | asg (tg : Tg) (e : E)
  | par (i j : Nat) (a b : E)
  | set (o i e : E)
  | aug (i : Nat) (o : Op) (e : E)
  | app (l e : E)
  | ext (l e : E)
  | rem (l e : E)
  | upd (d e : E)
  | ex (e : E)
  | ret (e : E)
  | ifs (c : E) (a b : List S)
  | for (tg : Tg) (w : Wk) (src : List E) (body : List S)
  | whl (c : E) (body : List S)
  | brk | cnt | pss

structure Fn where
  params : Nat
  slots : Nat
  body : List S

/-! ### operators -/
def two64 : Int := 18446744073709551616
def opV (o : Op) (x y : Val) : Option Val := match o, x, y with
  | .add, .int i, .int j => some (.int (i + j))
  | .sub, .int i, .int j => some (.int (i - j))
  | .mul, .int i, .int j => if (-two64 < i ∧ i < two64) ∨ (-two64 < j ∧ j < two64) then some (.int (i * j)) else none
  | .fdiv, .int i, .int j => if 0 < j ∧ j < 1073741824 then some (.int (i / j)) else none
  | .mod, .int i, .int j => if 0 < j then some (.int (i % j)) else none
  | .pow, .int i, .int j => if 0 ≤ j ∧ j ≤ 1000000 ∧ i.natAbs < 18446744073709551616 then some (.int (i ^ j.toNat)) else none
  | .add, .str a, .str b => if a.length + b.length ≤ 100000 then some (.str (a ++ b)) else none
  | .add, .tup a, .tup b => if a.length + b.length ≤ 100000 then some (.tup (a ++ b)) else none
  | _, _, _ => none
/-- list + list, lists of the store too -/
def opS (st : Store) (o : Op) (x y : Val) : Option Val := match o, lstOf st x, lstOf st y with
  | .add, some a, some b => if a.length + b.length ≤ 100000 then some (.ls (a ++ b)) else none
  | o, none, none => opV o x y
  | _, _, _ => none
def shapedD (d : PySem.PyData) : Bool := PySem.SeqAt.shaped d
def eqV (st : Store) (x y : Val) : Option Bool := match dataOf st x, dataOf st y with
  | some d, some e => if shapedD d && shapedD e then some (PySem.PyData.eqv d e) else none
  | _, _ => none
/-- x in y -/
def inV (st : Store) (x y : Val) : Option Bool := match isDict st y with
  | true => (dictGet st y x).map (·.isSome)
  | false => (match dataOf st x, dataOf st y with
    | some d, some (.list ds) => if shapedD d && shapedD (.list ds) then some (ds.any fun z => PySem.PyData.eqv z d) else none
    | some d, some (.tuple ds) => if shapedD d && shapedD (.tuple ds) then some (ds.any fun z => PySem.PyData.eqv z d) else none
    | _, _ => none)
def cmpV (st : Store) (o : Co) (x y : Val) : Option Bool := match o with
  | .eq => eqV st x y
  | .ne => (eqV st x y).map not
  | .isin => inV st x y
  | .notin => (inV st x y).map not
  | .lt => (match x, y with
    | .int i, .int j => some (decide (i < j))
    | .str a, .str b => some (decide (a.cps.toList < b.cps.toList))
    | _, _ => none)
  | .le => (match x, y with
    | .int i, .int j => some (decide (i ≤ j))
    | .str a, .str b => some (!decide (b.cps.toList < a.cps.toList))
    | _, _ => none)
  | .gt => (match x, y with
    | .int i, .int j => some (decide (j < i))
    | _, _ => none)
  | .ge => (match x, y with
    | .int i, .int j => some (decide (j ≤ i))
    | _, _ => none)
def isNon : Val → Bool
  | .non => true
  | _ => false
def truV (st : Store) : Val → Option Bool
  | .non => some false
  | .bl b => some b
  | .int i => some (i != 0)
  | .str s => if s.length ≤ 100000 then some ((s.length : Int) != 0) else none
  | .tup xs => some (!xs.isEmpty)
  | .ls xs => some (!xs.isEmpty)
  | .sc xs => some (!xs.isEmpty)
  | .dc _ => none
  | .ref a => (match st[a]? with
    | some (.lst xs) => some (!xs.isEmpty)
    | some (.dK kvs) => some (!kvs.isEmpty)
    | _ => none)
/-- the place of an index in a row of n -/
def ixAt (n : Nat) (i : Int) : Option Nat := if 0 ≤ i then (if i < n then some i.toNat else none) else (if 0 ≤ i + n then some (i + n).toNat else none)
def itemV (st : Store) (x i : Val) : Option Val := match isDict st x with
  | true => (dictGet st x i).bind id
  | false => (match x, i with
    | .str s, .int j => (match ixAt s.length j with
      | some k => if s.length ≤ 100000 then (s.cps.toList[k]?).map fun c => .str ⟨#[c]⟩ else none
      | none => none)
    | _, .int j => (match seqOf st x with
      | some xs => (ixAt xs.length j).bind fun k => xs[k]?
      | none => none)
    | _, _ => none)
/-- the bounds of a slice -/
def clip (n : Nat) (d : Nat) : Option Int → Nat
  | none => d
  | some i => if 0 ≤ i then min i.toNat n else (i + n).toNat
def cut {α : Type} (xs : List α) (lo hi : Option Int) : List α := (xs.take (clip xs.length xs.length hi)).drop (clip xs.length 0 lo)
def cutV (st : Store) (x : Val) (lo hi : Option Int) : Option Val := match x with
  | .str s => if s.length ≤ 100000 then some (.str ⟨(cut s.cps.toList lo hi).toArray⟩) else none
  | .tup xs => some (.tup (cut xs lo hi))
  | x => (seqOf st x).map fun xs => .ls (cut xs lo hi)
def tyOf (st : Store) : Val → Option Ty
  | .bl _ => some .bool
  | .int _ => some .int
  | .str _ => some .str
  | .tup _ => some .tuple
  | .ls _ => some .list
  | .sc _ => some .list
  | .ref a => (match st[a]? with
    | some (.lst _) => some .list
    | _ => none)
  | _ => none
def isiV (st : Store) (x : Val) (t : Ty) : Option Bool := match x with
  | .non => some false
  | .dc _ => none
  | x => match tyOf st x with
    | some u => some (decide (u = t) || (decide (u = .bool) && decide (t = .int)))
    | none => none
def boolsOf : List Val → Option (List Bool)
  | [] => some []
  | .bl b :: r => (boolsOf r).map (b :: ·)
  | _ :: _ => none
def intsOf : List Val → Option (List Int)
  | [] => some []
  | .int b :: r => (intsOf r).map (b :: ·)
  | _ :: _ => none
def strsOf : List Val → Option (List Str)
  | [] => some []
  | .str b :: r => (strsOf r).map (b :: ·)
  | _ :: _ => none
def leS (a b : Str) : Bool := !decide (b.cps.toList < a.cps.toList)
def insS (x : Str) : List Str → List Str
  | [] => [x]
  | y :: r => if leS x y then x :: y :: r else y :: insS x r
def sortS : List Str → List Str
  | [] => []
  | x :: r => insS x (sortS r)
def rangeV (n : Int) : List Val := (List.range n.toNat).map fun (k : Nat) => .int (k : Int)
/-- pairs of a key and a value -/
def pairsKV (st : Store) : List Val → Option (List (Key × Val))
  | [] => some []
  | x :: r => match x with
    | .tup [k, v] => (match keyOf k, pairsKV st r with
      | some k, some l => some ((k, v) :: l)
      | _, _ => none)
    | _ => none
def putAll (kvs more : List (Key × Val)) : List (Key × Val) := more.foldl (fun acc kv => put acc kv.1 kv.2) kvs
def small : Nat := 100000
def b1V (st : Store) (f : B1) (x : Val) : Option Val := match f with
  | .len => (match x with
    | .str s => if s.length ≤ small then some (.int s.length) else none
    | .dc kvs => some (.int kvs.length)
    | .ref a => (match st[a]? with
      | some (.lst xs) => some (.int xs.length)
      | some (.dK kvs) => some (.int kvs.length)
      | _ => none)
    | x => (seqOf st x).map fun xs => .int xs.length)
  | .int => (match x with
    | .int i => some (.int i)
    | .bl b => some (.int (if b then 1 else 0))
    | _ => none)
  | .tuple => (seqOf st x).map .tup
  | .list => (match x with
    | .dc kvs => some (.ls (kvs.map fun kv => kvVal kv.1))
    | .ref a => (match st[a]? with
      | some (.lst xs) => some (.ls xs)
      | some (.dK kvs) => some (.ls (kvs.map fun kv => kvVal kv.1))
      | _ => none)
    | x => (seqOf st x).map .ls)
  | .dict => (match x with
    | .tup xs => (pairsKV st xs).map fun l => .dc (putAll [] l)
    | .ls xs => (pairsKV st xs).map fun l => .dc (putAll [] l)
    | .ref a => (match st[a]? with
      | some (.dK kvs) => some (.dc kvs)
      | _ => none)
    | .dc kvs => some (.dc kvs)
    | _ => none)
  | .all => (match x with
    | .ls xs => (boolsOf xs).map fun l => .bl (l.all id)
    | _ => none)
  | .any => (match x with
    | .ls xs => (boolsOf xs).map fun l => .bl (l.any id)
    | _ => none)
  | .sum => (match x with
    | .ls xs => (intsOf xs).map fun l => .int l.sum
    | _ => none)
  | .sorted => (match lstOf st x with
    | some xs => (strsOf xs).bind fun l => if l.length < 64 then some (.ls ((sortS l).map .str)) else none
    | none => none)
  | .enum => none
  | .range => none
def b2V (st : Store) (f : B2) (x y : Val) : Option Val := match f, x, y with
  | .min, .int i, .int j => some (.int (if j < i then j else i))
  | .max, .int i, .int j => some (.int (if j > i then j else i))
  | _, _, _ => none
def enumV (k : Nat) : List Val → List Val
  | [] => []
  | x :: xs => .tup [.int k, x] :: enumV (k + 1) xs
def zipV : List Val → List Val → List Val
  | x :: xs, y :: ys => .tup [x, y] :: zipV xs ys
  | _, _ => []
/-- what is walked -/
def walk1 (st : Store) (x : Val) : Option (List Val) := match x with
  | .str s => if s.length ≤ small then some (s.cps.toList.map fun c => .str ⟨#[c]⟩) else none
  | x => seqOf st x
def inSpan (n : Int) : Bool := decide (-4611686018427387904 ≤ n) && decide (n < 4611686018427387904)
def walkR (vs : List Val) : Option (List Val) := match vs with
  | [.int n] => if inSpan n then some (rangeV n) else none
  | [.int m, .int n] => if inSpan m && inSpan n then some ((List.range (n - m).toNat).map fun (k : Nat) => .int (m + (k : Int))) else none
  | _ => none
def walkV (st : Store) (w : Wk) (vs : List Val) : Option (List Val) := match w with
  | .of => (match vs with
    | [x] => walk1 st x
    | _ => none)
  | .range => walkR vs
  | .enum => (match vs with
    | [x] => (seqL st x).map (enumV 0)
    | _ => none)
  | .zip => (match vs with
    | [x, y] => (match seqL st x, seqL st y with
      | some a, some b => some (zipV a b)
      | _, _ => none)
    | _ => none)
/-- what is walked is not of the store -/
def noRef : List Val → Bool
  | [] => true
  | .ref _ :: _ => false
  | _ :: r => noRef r
/-- what is walked stands as it stood -/
def keepW (w : Wk) (vs xs : List Val) (st : Store) : Bool := noRef vs || (match walkV st w vs with
  | some ys => sameL ys xs
  | none => false)
def setAll {α : Type} (e : List (Option α)) (is : List Nat) (xs : List α) : List (Option α) := match is, xs with
  | i :: is, x :: xs => setAll (e.set i (some x)) is xs
  | _, _ => e
def bindT (t : Tg) (v : Val) (env : Env) : Option Env := match t with
  | .nm i => some (setAll env [i] [v])
  | .tp is => (match v with
    | .tup xs => if xs.length = is.length then some (setAll env is xs) else none
    | _ => none)

/-! ### expressions -/
abbrev CallF := Str → List Val → Store → R Val
mutual
/-- the names from n on give way to what stands there -/
def thaw (fuel : Nat) (st : Store) (n : Nat) (v : Val) : Option Val := match fuel with
  | 0 => none
  | fuel + 1 => if v.under n then some v else match v with
    | .tup xs => (thawAll fuel st n xs).map .tup
    | .ls xs => (thawAll fuel st n xs).map .ls
    | .sc xs => none
    | .ref a => (match st[a]? with
      | some (.lst xs) => (thawAll fuel st n xs).map .ls
      | some (.dK kvs) => (thawKV fuel st n kvs).map .dc
      | _ => none)
    | _ => none
def thawAll (fuel : Nat) (st : Store) (n : Nat) (vs : List Val) : Option (List Val) := match fuel with
  | 0 => none
  | fuel + 1 => match vs with
    | [] => some []
    | x :: xs => match thaw fuel st n x, thawAll fuel st n xs with
      | some y, some ys => some (y :: ys)
      | _, _ => none
def thawKV (fuel : Nat) (st : Store) (n : Nat) (vs : List (Key × Val)) : Option (List (Key × Val)) := match fuel with
  | 0 => none
  | fuel + 1 => match vs with
    | [] => some []
    | (k, x) :: xs => match thaw fuel st n x, thawKV fuel st n xs with
      | some y, some ys => some ((k, y) :: ys)
      | _, _ => none
end
def allUnder (n : Nat) (st : Store) : Bool := (st.take n).all (Obj.under n)
/-- the end of a call: what came in the meantime is no more, but what is given back stands by itself -/
def leave (n : Nat) (r : R Val) : R Val := match r with
  | .ok v st => if st.length = n then .ok v st else if allUnder n st && decide (n ≤ st.length) then (match thaw 100000 st n v with
    | some v' => .ok v' (st.take n)
    | none => .bad) else .bad
  | .exc c fs st => .exc c fs st
  | .bad => .bad
/-- .. and a list or a dict that the call has made stays with the caller -/
def leaveOwn (n : Nat) (r : R Val) : R Val := match r with
  | .ok (.ref a) st => if n ≤ a ∧ allUnder n st = true ∧ n ≤ st.length then (match st[a]? with
    | some (.lst xs) => if underAll n xs then .ok (.ref n) (st.take n ++ [.lst xs]) else .bad
    | some (.dK kvs) => if underKV n kvs then .ok (.ref n) (st.take n ++ [.dK kvs]) else .bad
    | _ => .bad) else .bad
  | .exc c fs st => .exc c fs st
  | _ => .bad

/-- a call: where no argument names a thing of the store, the def starts with an empty one -/
def callV (cf : CallF) (f : Str) (vs : List Val) (st : Store) : R Val := match pureAll vs with
  | true => (match leave 0 (cf f vs []) with
    | .ok v _ => .ok v st
    | .exc c fs _ => .exc c fs st
    | .bad => .bad)
  | false => leave st.length (cf f vs st)
def lcL (f : Env → Store → R Val) (t : Option (Env → Store → R Val)) (tg : Tg) (keep : Store → Bool) (env : Env) : List Val → List Val → Store → R (List Val)
  | [], acc, st => if keep st then .ok acc st else .bad
  | x :: xs, acc, st => match keep st with
    | false => .bad
    | true => match bindT tg x env with
      | none => .bad
      | some e => match t with
        | none => (f e st).bind fun y st => if acc.length < small then lcL f t tg keep env xs (acc ++ [y]) st else .bad
        | some t => (t e st).bind fun b st => (ofO (truV st b) st).bind fun b st => match b with
          | true => (f e st).bind fun y st => if acc.length < small then lcL f (some t) tg keep env xs (acc ++ [y]) st else .bad
          | false => lcL f (some t) tg keep env xs acc st
def dcL (f g : Env → Store → R Val) (tg : Tg) (keep : Store → Bool) (env : Env) : List Val → List (Key × Val) → Store → R (List (Key × Val))
  | [], acc, st => if keep st then .ok acc st else .bad
  | x :: xs, acc, st => match keep st with
    | false => .bad
    | true => match bindT tg x env with
      | none => .bad
      | some e => (f e st).bind fun k st => (g e st).bind fun v st => match keyOf k with
        | some k => if acc.length < small then dcL f g tg keep env xs (put acc k v) st else .bad
        | none => .bad

def optInt : List Val → Option (Option Int)
  | [] => some none
  | [.int i] => some (some i)
  | _ => none
def ownV (v : Val) (st : Store) : R Val := match v with
  | .ls xs => .ok (.ref st.length) (st ++ [.lst xs])
  | .dc kvs => .ok (.ref st.length) (st ++ [.dK kvs])
  | _ => .bad
def popV (st : Store) (l i : Val) : R Val := match l, i with
  | .ref a, .int j => (match st[a]? with
    | some (.lst xs) => (match ixAt xs.length j with
      | some k => (match xs[k]? with
        | some x => if xs.length ≤ small then .ok x (st.set a (.lst (xs.eraseIdx k))) else .bad
        | none => .bad)
      | none => .bad)
    | _ => .bad)
  | _, _ => .bad
def popDV (st : Store) (d k x : Val) : R Val := match d with
  | .ref a => (match st[a]?, keyOf k with
    | some (.dK kvs), some k => (match look kvs k with
      | some v => .ok v (st.set a (.dK (kvs.filter fun kv => decide (kv.1 ≠ k))))
      | none => .ok x st)
    | _, _ => .bad)
  | _ => .bad
def joinV (st : Store) (s a : Val) : Option Val := match s with
  | .str z => (match seqOf st a with
    | some xs => (strsOf xs).bind fun l => if (z.length + 1) * (l.length + 1) + (l.map (·.length)).sum ≤ small then some (.str (PySem.Str.join z l)) else none
    | none => none)
  | _ => none
/-- the first place of an equal item -/
def firstEq (d : PySem.PyData) : List PySem.PyData → Option Nat
  | [] => none
  | z :: r => if PySem.PyData.eqv z d then some 0 else (firstEq d r).map (· + 1)
def indexV (st : Store) (l x : Val) : Option Val := match dataOf st l, dataOf st x with
  | some (.list ds), some d => if shapedD (.list ds) && shapedD d then (firstEq d ds).map fun (k : Nat) => .int (k : Int) else none
  | _, _ => none

mutual
def evE (cf : CallF) : E → Env → Store → R Val
  | .var i, env, st => (match env[i]? with
    | some (some v) => .ok v st
    | _ => .bad)
  | .cst v, _, st => .ok v st
  | .glo _ v, _, st => .ok v st
  | .bin o a b, env, st => (evE cf a env st).bind fun x st => (evE cf b env st).bind fun y st => ofO (opS st o x y) st
  | .neg a, env, st => (evE cf a env st).bind fun x st => (match x with
    | .int i => .ok (.int (-i)) st
    | _ => .bad)
  | .not a, env, st => (evE cf a env st).bind fun x st => (ofO (truV st x) st).bind fun b st => .ok (.bl (!b)) st
  | .and a b, env, st => (evE cf a env st).bind fun x st => (ofO (truV st x) st).bind fun c st => (match c with
    | true => evE cf b env st
    | false => .ok x st)
  | .or a b, env, st => (evE cf a env st).bind fun x st => (ofO (truV st x) st).bind fun c st => (match c with
    | true => .ok x st
    | false => evE cf b env st)
  | .cmp o a b, env, st => (evE cf a env st).bind fun x st => (evE cf b env st).bind fun y st => (ofO (cmpV st o x y) st).bind fun c st => .ok (.bl c) st
  | .isN a, env, st => (evE cf a env st).bind fun x st => .ok (.bl (isNon x)) st
  | .notN a, env, st => (evE cf a env st).bind fun x st => .ok (.bl (!isNon x)) st
  | .chn o p a b c, env, st => (evE cf a env st).bind fun x st => (evE cf b env st).bind fun y st => (ofO (cmpV st o x y) st).bind fun k st => (match k with
    | true => (evE cf c env st).bind fun z st => (ofO (cmpV st p y z) st).bind fun k st => .ok (.bl k) st
    | false => .ok (.bl false) st)
  | .ite c a b, env, st => (evE cf c env st).bind fun x st => (ofO (truV st x) st).bind fun k st => (match k with
    | true => evE cf a env st
    | false => evE cf b env st)
  | .tup es, env, st => (evEs cf es env st).bind fun vs st => if vs.length ≤ small then .ok (.tup vs) st else .bad
  | .lst es, env, st => (evEs cf es env st).bind fun vs st => if vs.length ≤ small then .ok (.ls vs) st else .bad
  | .dct ks es, env, st => (evEs cf es env st).bind fun vs st => if ks.length = vs.length ∧ ks.length ≤ 15 then .ok (.dc (putAll [] (ks.zip vs))) st else .bad
  | .own e, env, st => (evE cf e env st).bind ownV
  | .ownC f es, env, st => (evEs cf es env st).bind fun vs st => leaveOwn st.length (cf f vs st)
  | .newT, _, _ => .bad
  | .ix a i, env, st => (evE cf a env st).bind fun x st => (evE cf i env st).bind fun y st => ofO (itemV st x y) st
  | .sl a lo hi, env, st => (evE cf a env st).bind fun x st => (evEs cf lo env st).bind fun l st => (evEs cf hi env st).bind fun h st => (match optInt l, optInt h with
    | some l, some h => ofO (cutV st x l h) st
    | _, _ => .bad)
  | .rev a, env, st => (evE cf a env st).bind fun x st => (match x with
    | .tup xs => .ok (.tup xs.reverse) st
    | .ls xs => .ok (.ls xs.reverse) st
    | .ref r => (match st[r]? with
      | some (.lst xs) => .ok (.ls xs.reverse) st
      | _ => .bad)
    | _ => .bad)
  | .call f es, env, st => (evEs cf es env st).bind fun vs st => callV cf f vs st
  | .isi a t, env, st => (evE cf a env st).bind fun x st => (ofO (isiV st x t) st).bind fun k st => .ok (.bl k) st
  | .b1 f a, env, st => (evE cf a env st).bind fun x st => ofO (b1V st f x) st
  | .b2 f a b, env, st => (evE cf a env st).bind fun x st => (evE cf b env st).bind fun y st => ofO (b2V st f x y) st
  | .get d k x, env, st => (evE cf d env st).bind fun d st => (match isDict st d with
    | true => (evE cf k env st).bind fun k st => (evE cf x env st).bind fun x st => (ofO (dictGet st d k) st).bind fun o st => .ok (o.getD x) st
    | false => .bad)
  | .join s a, env, st => (evE cf s env st).bind fun x st => (evE cf a env st).bind fun y st => ofO (joinV st x y) st
  | .index l x, env, st => (evE cf l env st).bind fun l st => (match isLst st l with
    | true => (evE cf x env st).bind fun x st => ofO (indexV st l x) st
    | false => .bad)
  | .pop l i, env, st => (evE cf l env st).bind fun l st => (match isLst st l with
    | true => (evE cf i env st).bind fun i st => popV st l i
    | false => .bad)
  | .popD d k x, env, st => (evE cf d env st).bind fun d st => (match isDict st d with
    | true => (evE cf k env st).bind fun k st => (evE cf x env st).bind fun x st => popDV st d k x
    | false => .bad)
  | .lc elt tg w src cond, env, st => (evEs cf src env st).bind fun vs st => (ofO (walkV st w vs) st).bind fun xs st =>
      (lcL (evE cf elt) (match cond with
        | [] => none
        | c :: _ => some (evE cf c)) tg (keepW w vs xs) env xs [] st).bind fun ys st => .ok (.ls ys) st
  | .dcm k v tg w src, env, st => (evEs cf src env st).bind fun vs st => (ofO (walkV st w vs) st).bind fun xs st =>
      (dcL (evE cf k) (evE cf v) tg (keepW w vs xs) env xs [] st).bind fun kvs st => .ok (.dc kvs) st
def evEs (cf : CallF) : List E → Env → Store → R (List Val)
  | [], _, st => .ok [] st
  | e :: es, env, st => (evE cf e env st).bind fun x st => (evEs cf es env st).bind fun xs st => .ok (x :: xs) st
end
end PV

namespace PV
open PySem (Str)
/-! ### statements -/
inductive Flow where
  | nx | br | ct | rt (v : Val)

def setV (st : Store) (o i v : Val) : R Unit := match o with
  | .ref a => (match st[a]? with
    | some (.lst xs) => (match i with
      | .int j => (match ixAt xs.length j with
        | some k => .ok () (st.set a (.lst (xs.set k v)))
        | none => .bad)
      | _ => .bad)
    | some (.dK kvs) => (match keyOf i with
      | some k => if kvs.length < small then .ok () (st.set a (.dK (put kvs k v))) else .bad
      | none => .bad)
    | _ => .bad)
  | _ => .bad
def augV (o : Op) (x y : Val) : Option Val := match o, x, y with
  | .add, .int i, .int j => some (.int (i + j))
  | .sub, .int i, .int j => some (.int (i - j))
  | _, _, _ => none
def appV (st : Store) (l v : Val) : R Unit := match l with
  | .ref a => (match st[a]? with
    | some (.lst xs) => if xs.length < small then .ok () (st.set a (.lst (xs ++ [v]))) else .bad
    | _ => .bad)
  | _ => .bad
def extV (st : Store) (l v : Val) : R Unit := match l with
  | .ref a => (match st[a]?, v with
    | some (.lst xs), .ls ys => if xs.length + ys.length ≤ small then .ok () (st.set a (.lst (xs ++ ys))) else .bad
    | _, _ => .bad)
  | _ => .bad
/-- list.remove of a text -/
def remV (st : Store) (l v : Val) : R Unit := match l, v with
  | .ref a, .str s => (match st[a]? with
    | some (.lst xs) => (match strsOf xs with
      | some l => if s ∈ l then .ok () (st.set a (.lst ((l.erase s).map .str))) else .bad
      | none => .bad)
    | _ => .bad)
  | _, _ => .bad
def updV (st : Store) (d v : Val) : R Unit := match d, v with
  | .ref a, .dc more => (match st[a]? with
    | some (.dK kvs) => if kvs.length + more.length ≤ small then .ok () (st.set a (.dK (putAll kvs more))) else .bad
    | _ => .bad)
  | _, _ => .bad

def forL (body : Env → Store → R (Flow × Env)) (tg : Tg) (keep : Store → Bool) : List Val → Env → Store → R (Flow × Env)
  | [], env, st => if keep st then .ok (.nx, env) st else .bad
  | x :: xs, env, st => match keep st with
    | false => .bad
    | true => match bindT tg x env with
      | none => .bad
      | some e => (body e st).bind fun r st => match r.1 with
        | .nx => forL body tg keep xs r.2 st
        | .ct => forL body tg keep xs r.2 st
        | .br => .ok (.nx, r.2) st
        | .rt v => .ok (.rt v, r.2) st
def whlL (c : Env → Store → R Val) (body : Env → Store → R (Flow × Env)) : Nat → Env → Store → R (Flow × Env)
  | 0, _, _ => .bad
  | n + 1, env, st => (c env st).bind fun x st => (ofO (truV st x) st).bind fun b st => match b with
    | false => .ok (.nx, env) st
    | true => (body env st).bind fun r st => match r.1 with
      | .nx => whlL c body n r.2 st
      | .ct => whlL c body n r.2 st
      | .br => .ok (.nx, r.2) st
      | .rt v => .ok (.rt v, r.2) st
def turns : Nat := 100000
mutual
def exS (cf : CallF) : S → Env → Store → R (Flow × Env)
  | .asg tg e, env, st => (evE cf e env st).bind fun x st => (ofO (bindT tg x env) st).bind fun env st => .ok (.nx, env) st
  | .par i j a b, env, st => (evE cf a env st).bind fun x st => (evE cf b env st).bind fun y st =>
      if i < env.length ∧ j < env.length then .ok (.nx, (env.set i (some x)).set j (some y)) st else .bad
  | .set o i e, env, st => (evE cf e env st).bind fun v st => (evE cf o env st).bind fun o st => (evE cf i env st).bind fun i st => (setV st o i v).bind fun _ st => .ok (.nx, env) st
  | .aug i o e, env, st => (match env[i]? with
    | some (some x) => (evE cf e env st).bind fun y st => (ofO (augV o x y) st).bind fun z st => .ok (.nx, env.set i (some z)) st
    | _ => .bad)
  | .app l e, env, st => (evE cf l env st).bind fun l st => (match isLst st l with
    | true => (evE cf e env st).bind fun v st => (appV st l v).bind fun _ st => .ok (.nx, env) st
    | false => .bad)
  | .ext l e, env, st => (evE cf l env st).bind fun l st => (match isLst st l with
    | true => (evE cf e env st).bind fun v st => (extV st l v).bind fun _ st => .ok (.nx, env) st
    | false => .bad)
  | .rem l e, env, st => (evE cf l env st).bind fun l st => (match isLst st l with
    | true => (evE cf e env st).bind fun v st => (remV st l v).bind fun _ st => .ok (.nx, env) st
    | false => .bad)
  | .upd l e, env, st => (evE cf l env st).bind fun l st => (evE cf e env st).bind fun v st => (updV st l v).bind fun _ st => .ok (.nx, env) st
  | .ex e, env, st => (evE cf e env st).bind fun _ st => .ok (.nx, env) st
  | .ret e, env, st => (evE cf e env st).bind fun v st => .ok (.rt v, env) st
  | .ifs c a b, env, st => (evE cf c env st).bind fun x st => (ofO (truV st x) st).bind fun k st => (match k with
    | true => exSs cf a env st
    | false => exSs cf b env st)
  | .for tg w src body, env, st => (evEs cf src env st).bind fun vs st => (ofO (walkV st w vs) st).bind fun xs st =>
      forL (exSs cf body) tg (keepW w vs xs) xs env st
  | .whl c body, env, st => whlL (evE cf c) (exSs cf body) turns env st
  | .brk, env, st => .ok (.br, env) st
  | .cnt, env, st => .ok (.ct, env) st
  | .pss, env, st => .ok (.nx, env) st
def exSs (cf : CallF) : List S → Env → Store → R (Flow × Env)
  | [], env, st => .ok (.nx, env) st
  | s :: ss, env, st => (exS cf s env st).bind fun r st => match r.1 with
    | .nx => exSs cf ss r.2 st
    | .br => .ok (.br, r.2) st
    | .ct => .ok (.ct, r.2) st
    | .rt v => .ok (.rt v, r.2) st
end
/-- a def's run -/
def runF (cf : CallF) (fn : Fn) (vs : List Val) (st : Store) : R Val :=
  if vs.length = fn.params ∧ fn.params ≤ fn.slots then (exSs cf fn.body (vs.map some ++ List.replicate (fn.slots - fn.params) none) st).bind fun r st => match r.1 with
    | .rt v => .ok v st
    | .nx => .ok .non st
    | _ => .bad
  else .bad
abbrev Prog := List (Str × Fn)
/-- the program's defs, calls nested to a depth -/
def callN (prog : Prog) : Nat → CallF
  | 0, _, _, _ => .bad
  | n + 1, f, vs, st => match prog.lookup f with
    | none => .bad
    | some fn => runF (callN prog n) fn vs st
end PV
end

section
set_option Elab.async false
set_option linter.all false
set_option maxRecDepth 100000
/-! PvRel: how pure values and stores lie in the hand layer's values and heaps. -/
namespace PV
open PySem L2

/-- a tuple, a list of the written part -/
def KTup (K : PySem.W.Frag) (a : Addr) (vs : List V) : Prop :=
  ∃ (o : PySem.Obj) (its : Array Value) (n : Nat), K.lookup a = some o ∧ o.cls = .type "tuple" ∧ o.dict = none ∧ o.data = .seq its n ∧ its.size ≤ sizeLine ∧ Vals vs its.toList
def KLst (K : PySem.W.Frag) (a : Addr) (vs : List V) : Prop :=
  ∃ (o : PySem.Obj) (its : Array Value) (n : Nat), K.lookup a = some o ∧ o.cls = .type "list" ∧ o.dict = none ∧ o.data = .seq its n ∧ its.size ≤ sizeLine ∧ Vals vs its.toList
/-- it stands at a and nobody changes it -/
def Fix (φ Z : List Addr) (H : Hp) (a : Addr) (u : HO) : Prop := Rd H a u ∧ a ∉ φ ∧ a ∉ Z
/-- .. and it is not locked -/
def FixD (φ Z : List Addr) (H : Hp) (a : Addr) (u : HO) : Prop := H a = some u ∧ a ∉ φ ∧ a ∉ Z
def isDK : HO → Bool := fun _ => false
def FixT (K : PySem.W.Frag) (φ Z : List Addr) (H : Hp) (a : Addr) (vs : List V) : Prop := (∃ o, FixD φ Z H a (.frz o (.tup vs)) ∧ FT o) ∨ KTup K a vs
def FixS (K : PySem.W.Frag) (φ Z : List Addr) (H : Hp) (a : Addr) (vs : List V) : Prop := Fix φ Z H a (.lst vs) ∨ KLst K a vs

mutual
inductive Is (K : PySem.W.Frag) (φ Z : List Addr) (H : Hp) : V → Val → Prop
  | non : Is K φ Z H .non .non
  | bl (b : Bool) : Is K φ Z H (.bl b) (.bl b)
  | int (i : Int) : Is K φ Z H (.int i) (.int i)
  | str (x : Str) : Is K φ Z H (.str x) (.str x)
  | tup {a : Addr} {vs : List V} {xs : List Val} : FixT K φ Z H a vs → IsL K φ Z H vs xs → Is K φ Z H (.ref a) (.tup xs)
  | ls {a : Addr} {vs : List V} {xs : List Val} : FixD φ Z H a (.lst vs) → IsL K φ Z H vs xs → Is K φ Z H (.ref a) (.ls xs)
  | sc {a : Addr} {vs : List V} {xs : List Val} : FixS K φ Z H a vs → IsL K φ Z H vs xs → Is K φ Z H (.ref a) (.sc xs)
  | dc {a : Addr} {vs : List (Key × V)} {xs : List (Key × Val)} : Fix φ Z H a (.dK vs) → IsKV K φ Z H vs xs → Is K φ Z H (.ref a) (.dc xs)
  | ref {n : Nat} {a : Addr} : φ[n]? = some a → Is K φ Z H (.ref a) (.ref n)
inductive IsL (K : PySem.W.Frag) (φ Z : List Addr) (H : Hp) : List V → List Val → Prop
  | nil : IsL K φ Z H [] []
  | cons {v : V} {x : Val} {vs : List V} {xs : List Val} : Is K φ Z H v x → IsL K φ Z H vs xs → IsL K φ Z H (v :: vs) (x :: xs)
inductive IsKV (K : PySem.W.Frag) (φ Z : List Addr) (H : Hp) : List (Key × V) → List (Key × Val) → Prop
  | nil : IsKV K φ Z H [] []
  | cons {k : Key} {v : V} {x : Val} {vs : List (Key × V)} {xs : List (Key × Val)} : Is K φ Z H v x → IsKV K φ Z H vs xs → IsKV K φ Z H ((k, v) :: vs) ((k, x) :: xs)
end
inductive IsTV (K : PySem.W.Frag) (φ Z : List Addr) (H : Hp) : List (List Key × V) → List (List Key × Val) → Prop
  | nil : IsTV K φ Z H [] []
  | cons {k : List Key} {v : V} {x : Val} {vs : List (List Key × V)} {xs : List (List Key × Val)} : Is K φ Z H v x → IsTV K φ Z H vs xs → IsTV K φ Z H ((k, v) :: vs) ((k, x) :: xs)

def ObjIs (K : PySem.W.Frag) (φ Z : List Addr) (H : Hp) (a : Addr) : Obj → Prop
  | .lst xs => ∃ vs, H a = some (.lst vs) ∧ IsL K φ Z H vs xs
  | .dK kvs => ∃ vs, H a = some (.dK vs) ∧ IsKV K φ Z H vs kvs
  | .dT kvs => ∃ vs, H a = some (.dT vs) ∧ IsTV K φ Z H vs kvs
  | .dead => True
structure RelS (K : PySem.W.Frag) (φ Z : List Addr) (H : Hp) (st : Store) : Prop where
  len : φ.length = st.length
  nd : φ.Nodup
  there : ∀ a ∈ φ, H a ≠ none
  zin : ∀ a ∈ Z, H a ≠ none ∧ a ∉ φ
  at_ : ∀ (n : Nat) (a : Addr) (o : Obj), φ[n]? = some a → st[n]? = some o → ObjIs K φ Z H a o
structure RelE (K : PySem.W.Frag) (φ Z : List Addr) (H : Hp) (σ : St) (env : Env) : Prop where
  len : σ.length = env.length
  at_ : ∀ (i : Nat) (x : Val), env[i]? = some (some x) → ∃ v, σ[i]? = some (some v) ∧ Is K φ Z H v x
/-- time goes on -/
structure Ext (φ Y : List Addr) (H : Hp) (φ' : List Addr) (H' : Hp) : Prop where
  pre : φ <+: φ'
  keep : ∀ a u, a ∉ φ → a ∉ Y → Rd H a u → Rd H' a u
  keepD : ∀ a u, a ∉ φ → a ∉ Y → isDK u = false → H a = some u → H' a = some u
  news : ∀ a, a ∉ φ → H a ≠ none → a ∉ φ' ∧ H' a ≠ none

theorem rd_some {H : Hp} {a : Addr} {u : HO} (h : Rd H a u) : H a ≠ none := by
  rcases h with h | ⟨o, h⟩ <;> rw [h] <;> intro z <;> cases z
section
variable {K : PySem.W.Frag} {φ φ' φ2 Y Z : List Addr} {H H' H2 : Hp} {σ : St} {env : Env} {st st' : Store}
theorem Ext.refl : Ext φ Y H φ H := ⟨List.prefix_refl _, fun _ _ _ _ h => h, fun _ _ _ _ _ h => h, fun _ h1 h2 => ⟨h1, h2⟩⟩
theorem Ext.wide {Y' : List Addr} (h : ∀ a ∈ Y, a ∈ Y') (e : Ext φ Y H φ' H') : Ext φ Y' H φ' H' :=
  ⟨e.pre, fun a u h1 h2 => e.keep a u h1 fun q => h2 (h a q), fun a u h1 h2 => e.keepD a u h1 fun q => h2 (h a q), e.news⟩
theorem Ext.trans (a : Ext φ Y H φ' H') (b : Ext φ' Y H' φ2 H2) : Ext φ Y H φ2 H2 where
  pre := a.pre.trans b.pre
  keep := fun x u h1 h2 h3 => b.keep x u (a.news x h1 (rd_some h3)).1 h2 (a.keep x u h1 h2 h3)
  keepD := fun x u h1 h2 hd h3 => b.keepD x u (a.news x h1 (rd_some (.inl h3))).1 h2 hd (a.keepD x u h1 h2 hd h3)
  news := fun x h1 h2 => let z := a.news x h1 h2; b.news x z.1 z.2
theorem Fix.mono {a : Addr} {u : HO} (hy : ∀ a ∈ Y, a ∈ Z) (e : Ext φ Y H φ' H') (h : Fix φ Z H a u) : Fix φ' Z H' a u :=
  ⟨e.keep a u h.2.1 (fun q => h.2.2 (hy a q)) h.1, (e.news a h.2.1 (rd_some h.1)).1, h.2.2⟩
theorem FixD.mono {a : Addr} {u : HO} (hy : ∀ a ∈ Y, a ∈ Z) (e : Ext φ Y H φ' H') (hd : isDK u = false) (h : FixD φ Z H a u) : FixD φ' Z H' a u :=
  ⟨e.keepD a u h.2.1 (fun q => h.2.2 (hy a q)) hd h.1, (e.news a h.2.1 (rd_some (.inl h.1))).1, h.2.2⟩
theorem FixT.mono {a : Addr} {vs : List V} (hy : ∀ a ∈ Y, a ∈ Z) (e : Ext φ Y H φ' H') (h : FixT K φ Z H a vs) : FixT K φ' Z H' a vs := h.imp (fun ⟨o, f, t⟩ => ⟨o, f.mono hy e rfl, t⟩) id
theorem FixS.mono {a : Addr} {vs : List V} (hy : ∀ a ∈ Y, a ∈ Z) (e : Ext φ Y H φ' H') (h : FixS K φ Z H a vs) : FixS K φ' Z H' a vs := h.imp (Fix.mono hy e) id
theorem FixT.seq {a : Addr} {vs : List V} (h : FixT K φ Z H a vs) : SqT K H a vs := h.imp (fun ⟨o, f, _⟩ => .inr ⟨o, f.1⟩) fun ⟨o, its, n, a, b, _, c⟩ => ⟨o, its, n, a, b, c⟩
theorem FixD.seq {a : Addr} {vs : List V} (h : FixD φ Z H a (.lst vs)) : SqL K H a vs := .inl (.inl h.1)
theorem FixS.seq {a : Addr} {vs : List V} (h : FixS K φ Z H a vs) : SqL K H a vs := h.imp (fun h => h.1) id
mutual
theorem Is.monoY (hy : ∀ a ∈ Y, a ∈ Z) (e : Ext φ Y H φ' H') : ∀ {v : V} {x : Val}, Is K φ Z H v x → Is K φ' Z H' v x
  | _, _, .non => .non
  | _, _, .bl b => .bl b
  | _, _, .int b => .int b
  | _, _, .str b => .str b
  | _, _, .tup h r => .tup (h.mono hy e) (IsL.monoY hy e r)
  | _, _, .ls h r => .ls (h.mono hy e rfl) (IsL.monoY hy e r)
  | _, _, .sc h r => .sc (h.mono hy e) (IsL.monoY hy e r)
  | _, _, .dc h r => .dc (h.mono hy e) (IsKV.monoY hy e r)
  | _, _, .ref h => .ref (by
    obtain ⟨t, rfl⟩ := e.pre
    rw [List.getElem?_append_left (List.getElem?_eq_some_iff.mp h).1]
    exact h)
theorem IsL.monoY (hy : ∀ a ∈ Y, a ∈ Z) (e : Ext φ Y H φ' H') : ∀ {vs : List V} {xs : List Val}, IsL K φ Z H vs xs → IsL K φ' Z H' vs xs
  | _, _, .nil => .nil
  | _, _, .cons h r => .cons (Is.monoY hy e h) (IsL.monoY hy e r)
theorem IsKV.monoY (hy : ∀ a ∈ Y, a ∈ Z) (e : Ext φ Y H φ' H') : ∀ {vs : List (Key × V)} {xs : List (Key × Val)}, IsKV K φ Z H vs xs → IsKV K φ' Z H' vs xs
  | _, _, .nil => .nil
  | _, _, .cons h r => .cons (Is.monoY hy e h) (IsKV.monoY hy e r)
end
theorem IsTV.monoY (hy : ∀ a ∈ Y, a ∈ Z) (e : Ext φ Y H φ' H') : ∀ {vs : List (List Key × V)} {xs : List (List Key × Val)}, IsTV K φ Z H vs xs → IsTV K φ' Z H' vs xs
  | _, _, .nil => .nil
  | _, _, .cons h r => .cons (Is.monoY hy e h) (IsTV.monoY hy e r)
theorem RelE.monoY (hy : ∀ a ∈ Y, a ∈ Z) (e : Ext φ Y H φ' H') (h : RelE K φ Z H σ env) : RelE K φ' Z H' σ env :=
  ⟨h.len, fun i x q => let ⟨v, a, b⟩ := h.at_ i x q; ⟨v, a, b.monoY hy e⟩⟩
theorem nilZ : ∀ a ∈ ([] : List Addr), a ∈ Z := fun a h => by cases h
theorem Is.mono (e : Ext φ [] H φ' H') {v : V} {x : Val} (h : Is K φ Z H v x) : Is K φ' Z H' v x := h.monoY nilZ e
theorem IsL.mono (e : Ext φ [] H φ' H') {v : List V} {x : List Val} (h : IsL K φ Z H v x) : IsL K φ' Z H' v x := h.monoY nilZ e
theorem IsKV.mono (e : Ext φ [] H φ' H') {v : List (Key × V)} {x : List (Key × Val)} (h : IsKV K φ Z H v x) : IsKV K φ' Z H' v x := h.monoY nilZ e
theorem RelE.mono (e : Ext φ [] H φ' H') (h : RelE K φ Z H σ env) : RelE K φ' Z H' σ env := h.monoY nilZ e
theorem IsL.length : ∀ {vs : List V} {xs : List Val}, IsL K φ Z H vs xs → vs.length = xs.length
  | _, _, .nil => rfl
  | _, _, .cons _ r => congrArg (· + 1) r.length
theorem IsKV.length : ∀ {vs : List (Key × V)} {xs : List (Key × Val)}, IsKV K φ Z H vs xs → vs.length = xs.length
  | _, _, .nil => rfl
  | _, _, .cons _ r => congrArg (· + 1) r.length
theorem IsTV.length : ∀ {vs : List (List Key × V)} {xs : List (List Key × Val)}, IsTV K φ Z H vs xs → vs.length = xs.length
  | _, _, .nil => rfl
  | _, _, .cons _ r => congrArg (· + 1) r.length
theorem IsL.append : ∀ {vs ws : List V} {xs ys : List Val}, IsL K φ Z H vs xs → IsL K φ Z H ws ys → IsL K φ Z H (vs ++ ws) (xs ++ ys)
  | _, _, _, _, .nil, s => s
  | _, _, _, _, .cons h r, s => .cons h (r.append s)
theorem IsL.get : ∀ {vs : List V} {xs : List Val} {i : Nat} {x : Val}, IsL K φ Z H vs xs → xs[i]? = some x → ∃ v, vs[i]? = some v ∧ Is K φ Z H v x
  | _, _, _, _, .nil, e => by simp at e
  | _, _, 0, _, .cons h _, e => by
    simp at e
    subst e
    exact ⟨_, by simp, h⟩
  | _, _, i + 1, _, .cons _ r, e => by
    obtain ⟨v, h1, h2⟩ := IsL.get (i := i) r (by simpa using e)
    exact ⟨v, by simpa using h1, h2⟩
theorem IsL.getV : ∀ {vs : List V} {xs : List Val} {i : Nat} {v : V}, IsL K φ Z H vs xs → vs[i]? = some v → ∃ x, xs[i]? = some x ∧ Is K φ Z H v x
  | _, _, _, _, .nil, e => by simp at e
  | _, _, 0, _, .cons h _, e => by
    simp at e
    subst e
    exact ⟨_, by simp, h⟩
  | _, _, i + 1, _, .cons _ r, e => by
    obtain ⟨v, h1, h2⟩ := IsL.getV (i := i) r (by simpa using e)
    exact ⟨v, by simpa using h1, h2⟩
theorem IsL.set {v : V} {x : Val} (h : Is K φ Z H v x) : ∀ {vs : List V} {xs : List Val} (i : Nat), IsL K φ Z H vs xs → IsL K φ Z H (vs.set i v) (xs.set i x)
  | _, _, _, .nil => .nil
  | _, _, 0, .cons _ r => .cons h r
  | _, _, i + 1, .cons a r => .cons a (r.set h i)
theorem IsL.erase : ∀ {vs : List V} {xs : List Val} (i : Nat), IsL K φ Z H vs xs → IsL K φ Z H (vs.eraseIdx i) (xs.eraseIdx i)
  | _, _, _, .nil => .nil
  | _, _, 0, .cons _ r => r
  | _, _, i + 1, .cons a r => .cons a (r.erase i)
theorem IsL.take : ∀ {vs : List V} {xs : List Val} (i : Nat), IsL K φ Z H vs xs → IsL K φ Z H (vs.take i) (xs.take i)
  | _, _, 0, _ => .nil
  | _, _, _ + 1, .nil => .nil
  | _, _, i + 1, .cons a r => .cons a (r.take i)
theorem IsL.drop : ∀ {vs : List V} {xs : List Val} (i : Nat), IsL K φ Z H vs xs → IsL K φ Z H (vs.drop i) (xs.drop i)
  | _, _, 0, r => r
  | _, _, _ + 1, .nil => .nil
  | _, _, i + 1, .cons _ r => r.drop i
theorem IsL.reverse : ∀ {vs : List V} {xs : List Val}, IsL K φ Z H vs xs → IsL K φ Z H vs.reverse xs.reverse
  | _, _, .nil => .nil
  | _, _, .cons a r => by
    rw [List.reverse_cons, List.reverse_cons]
    exact r.reverse.append (.cons a .nil)
/-! ### the store -/
theorem RelS.obj (s : RelS K φ Z H st) {n : Nat} {o : Obj} (h : st[n]? = some o) : ∃ a, φ[n]? = some a ∧ ObjIs K φ Z H a o := by
  have hl : n < φ.length := by
    rw [s.len]
    exact (List.getElem?_eq_some_iff.mp h).1
  exact ⟨φ[n], List.getElem?_eq_getElem hl, s.at_ n _ o (List.getElem?_eq_getElem hl) h⟩
theorem ObjIs.monoY {a : Addr} {o : Obj} (hy : ∀ a ∈ Y, a ∈ Z) (e : Ext φ Y H φ' H') (ha : H' a = H a) (h : ObjIs K φ Z H a o) : ObjIs K φ' Z H' a o := by
  cases o with
  | lst xs => obtain ⟨vs, h1, h2⟩ := h; exact ⟨vs, ha.trans h1, h2.monoY hy e⟩
  | dK xs => obtain ⟨vs, h1, h2⟩ := h; exact ⟨vs, ha.trans h1, h2.monoY hy e⟩
  | dT xs => obtain ⟨vs, h1, h2⟩ := h; exact ⟨vs, ha.trans h1, h2.monoY hy e⟩
  | dead => trivial
theorem ObjIs.mono {a : Addr} {o : Obj} (e : Ext φ [] H φ' H') (ha : H' a = H a) (h : ObjIs K φ Z H a o) : ObjIs K φ' Z H' a o := h.monoY nilZ e ha
/-- a new thing that nobody changes -/
theorem Ext.fresh {p : Addr} {o : HO} (s : RelS K φ Z H st) (h : H p = none) : Ext φ [] H φ (upd H p o) := by
  refine ⟨List.prefix_refl _, fun a u _ _ r => ?_, fun a u _ _ _ r => (upd_ne fun z => by rw [z, h] at r; cases r).trans r, fun a h1 h2 => ⟨h1, ?_⟩⟩
  · have ne : a ≠ p := fun z => rd_some r (by rw [z]; exact h)
    rcases r with r | ⟨ob, r⟩
    · exact .inl (by rw [upd_ne ne]; exact r)
    · exact .inr ⟨ob, by rw [upd_ne ne]; exact r⟩
  · have ne : a ≠ p := fun z => h2 (by rw [z]; exact h)
    rw [upd_ne ne]
    exact h2
theorem RelS.fresh {p : Addr} {o : HO} (s : RelS K φ Z H st) (h : H p = none) : RelS K φ Z (upd H p o) st := by
  have ne : ∀ a ∈ φ, a ≠ p := fun a ha z => s.there a ha (by rw [z]; exact h)
  refine ⟨s.len, s.nd, fun a ha => ?_, fun a ha => ?_, fun n a ob h1 h2 => ?_⟩
  · rw [upd_ne (ne a ha)]
    exact s.there a ha
  · have z := s.zin a ha
    exact ⟨by rw [upd_ne (fun q => z.1 (by rw [q]; exact h))]; exact z.1, z.2⟩
  · exact (s.at_ n a ob h1 h2).mono (Ext.fresh s h) (upd_ne (ne a (List.mem_of_getElem? h1)))
theorem FixD.fresh {p : Addr} {o : HO} (s : RelS K φ Z H st) (h : H p = none) : FixD φ Z (upd H p o) p o :=
  ⟨upd_same, fun z => s.there p z h, fun z => (s.zin p z).1 h⟩
/-- a new thing of the store -/
theorem Ext.alloc {p : Addr} {o : HO} (s : RelS K φ Z H st) (h : H p = none) : Ext φ [] H (φ ++ [p]) (upd H p o) := by
  have e := Ext.fresh (o := o) s h
  refine ⟨List.prefix_append _ _, e.keep, e.keepD, fun a h1 h2 => ⟨?_, (e.news a h1 h2).2⟩⟩
  rw [List.mem_append, List.mem_singleton]
  rintro (z | z)
  · exact h1 z
  · exact h2 (by rw [z]; exact h)
theorem RelS.alloc {p : Addr} {o : HO} {ob : Obj} (s : RelS K φ Z H st) (h : H p = none) (hob : ObjIs K (φ ++ [p]) Z (upd H p o) p ob) : RelS K (φ ++ [p]) Z (upd H p o) (st ++ [ob]) := by
  have f := RelS.fresh (o := o) s h
  have hp : p ∉ φ := fun z => s.there p z h
  refine ⟨by simp [s.len], ?_, fun a ha => ?_, fun a ha => ⟨(f.zin a ha).1, ?_⟩, fun n a o' h1 h2 => ?_⟩
  · rw [List.nodup_append]
    refine ⟨s.nd, by simp, fun a ha b hb => ?_⟩
    rw [List.mem_singleton] at hb
    subst hb
    exact fun z => hp (z ▸ ha)
  · rcases List.mem_append.mp ha with ha | ha
    · exact f.there a ha
    · rw [List.mem_singleton] at ha
      subst ha
      rw [upd_same]
      intro z
      cases z
  · rw [List.mem_append, List.mem_singleton]
    rintro (z | z)
    · exact (s.zin a ha).2 z
    · exact (s.zin a ha).1 (by rw [z]; exact h)
  · by_cases hn : n < φ.length
    · rw [List.getElem?_append_left hn] at h1
      rw [List.getElem?_append_left (by rw [← s.len]; exact hn)] at h2
      have ha : a ∈ φ := List.mem_of_getElem? h1
      exact (s.at_ n a o' h1 h2).mono (Ext.alloc s h) (upd_ne fun z => hp (z ▸ ha))
    · have e1 := (List.getElem?_eq_some_iff.mp h1).1
      rw [List.length_append, List.length_singleton] at e1
      have en : n = φ.length := by omega
      subst en
      rw [List.getElem?_append_right (Nat.le_refl _), Nat.sub_self] at h1
      rw [List.getElem?_append_right (by rw [s.len]; exact Nat.le_refl _), s.len, Nat.sub_self] at h2
      cases h1
      cases h2
      exact hob
/-- a thing of the store changes -/
theorem Ext.write {a : Addr} {o : HO} (ha : a ∈ φ) : Ext φ [] H φ (upd H a o) := by
  refine ⟨List.prefix_refl _, fun b u h1 _ r => ?_, fun b u h1 _ _ r => (upd_ne fun z => h1 (by rw [z]; exact ha)).trans r, fun b h1 h2 => ⟨h1, ?_⟩⟩
  · have ne : b ≠ a := fun z => h1 (z ▸ ha)
    rcases r with r | ⟨ob, r⟩
    · exact .inl (by rw [upd_ne ne]; exact r)
    · exact .inr ⟨ob, by rw [upd_ne ne]; exact r⟩
  · have ne : b ≠ a := fun z => h1 (z ▸ ha)
    rw [upd_ne ne]
    exact h2
theorem RelS.write {n : Nat} {a : Addr} {o : HO} {ob : Obj} (s : RelS K φ Z H st) (hn : φ[n]? = some a) (hob : ObjIs K φ Z (upd H a o) a ob) : RelS K φ Z (upd H a o) (st.set n ob) := by
  have ha : a ∈ φ := List.mem_of_getElem? hn
  refine ⟨by rw [List.length_set]; exact s.len, s.nd, fun b hb => ?_, fun b hb => ?_, fun m b o' h1 h2 => ?_⟩
  · by_cases z : b = a
    · subst z
      rw [upd_same]
      intro q
      cases q
    · rw [upd_ne z]
      exact s.there b hb
  · have z := s.zin b hb
    have ne : b ≠ a := fun q => z.2 (q ▸ ha)
    exact ⟨by rw [upd_ne ne]; exact z.1, z.2⟩
  · have hl : n < st.length := by
      rw [← s.len]
      exact (List.getElem?_eq_some_iff.mp hn).1
    by_cases z : m = n
    · subst z
      rw [hn] at h1
      cases h1
      rw [List.getElem?_set_self hl] at h2
      cases h2
      exact hob
    · rw [List.getElem?_set_ne (Ne.symm z)] at h2
      refine (s.at_ m b o' h1 h2).mono (Ext.write ha) (upd_ne fun q => ?_)
      subst q
      obtain ⟨l1, e1⟩ := List.getElem?_eq_some_iff.mp hn
      obtain ⟨l2, e2⟩ := List.getElem?_eq_some_iff.mp h1
      exact z ((List.getElem_inj s.nd).mp (e2.trans e1.symm))
end

/-! ### what a step's answer gives -/
section
variable {K : PySem.W.Frag} {φ φ' Y Z : List Addr} {H H' : Hp} {σ : St} {env : Env} {st : Store}
def PstY (K : PySem.W.Frag) (φ Y Z : List Addr) (H : Hp) {α : Type} (r : R α) (k : α → Store → List Addr → Hp → Prop) : Prop := match r with
  | .ok x st' => ∀ φ' H', Ext φ Y H φ' H' → RelS K φ' Z H' st' → k x st' φ' H'
  | _ => False
theorem PstY.mono {α : Type} {r : R α} {k : α → Store → List Addr → Hp → Prop} (e : Ext φ Y H φ' H') (h : PstY K φ Y Z H r k) : PstY K φ' Y Z H' r k := by
  cases r with
  | ok x st' => exact fun φ2 H2 e2 s2 => h φ2 H2 (e.trans e2) s2
  | exc c fs st' => exact h
  | bad => exact h
theorem PstY.bind {α β : Type} {r : R α} {f : α → Store → R β} {k : β → Store → List Addr → Hp → Prop} (h : PstY K φ Y Z H (r.bind f) k) :
    PstY K φ Y Z H r fun x st1 φ1 H1 => Ext φ Y H φ1 H1 ∧ RelS K φ1 Z H1 st1 ∧ PstY K φ1 Y Z H1 (f x st1) k := by
  cases r with
  | ok x st' => exact fun φ1 H1 e1 s1 => ⟨e1, s1, PstY.mono e1 (show PstY K φ Y Z H (f x st') k from h)⟩
  | exc c fs st' => exact h
  | bad => exact h
theorem PstY.imp {α : Type} {r : R α} {k k' : α → Store → List Addr → Hp → Prop} (h : PstY K φ Y Z H r k) (i : ∀ x st' φ' H', Ext φ Y H φ' H' → RelS K φ' Z H' st' → k x st' φ' H' → k' x st' φ' H') : PstY K φ Y Z H r k' := by
  cases r with
  | ok x st' => exact fun φ1 H1 e1 s1 => i x st' φ1 H1 e1 s1 (h φ1 H1 e1 s1)
  | exc c fs st' => exact h
  | bad => exact h
/-- a partial answer -/
theorem PstY.got {α β : Type} {o : Option α} {f : α → Store → R β} {k : β → Store → List Addr → Hp → Prop} (h : PstY K φ Y Z H ((ofO o st).bind f) k) : ∃ x, o = some x ∧ PstY K φ Y Z H (f x st) k := by
  cases o with
  | none => exact h.elim
  | some x => exact ⟨x, rfl, h⟩
theorem PstY.now {α : Type} {x : α} {k : α → Store → List Addr → Hp → Prop} (h : PstY K φ Y Z H (.ok x st) k) (s : RelS K φ Z H st) : k x st φ H := h φ H Ext.refl s
theorem PstY.now' {α : Type} {x : α} {k : α → Store → List Addr → Hp → Prop} (h : PstY K φ Y Z H (.ok x st) k) (s : RelS K φ Z H st) : k x st φ H := h φ H Ext.refl s
theorem PstY.get {α : Type} {o : Option α} {k : α → Store → List Addr → Hp → Prop} (h : PstY K φ Y Z H (ofO o st) k) : ∃ x, o = some x ∧ PstY K φ Y Z H (.ok x st) k := by
  cases o with
  | none => exact h.elim
  | some x => exact ⟨x, rfl, h⟩

abbrev Pst (K : PySem.W.Frag) (φ Z : List Addr) (H : Hp) {α : Type} (r : R α) (k : α → Store → List Addr → Hp → Prop) : Prop := PstY K φ [] Z H r k
/-- what is wanted of more heaps is wanted of fewer -/
theorem PstY.narrow {α : Type} {r : R α} {k : α → Store → List Addr → Hp → Prop} (h : PstY K φ Y Z H r k) : Pst K φ Z H r k := by
  cases r with
  | ok x st' => exact fun φ1 H1 e1 s1 => h φ1 H1 (e1.wide fun a q => by cases q) s1
  | exc c fs st' => exact h
  | bad => exact h
/-! ### readings -/
/-- a value is wanted -/
abbrev wV (K : PySem.W.Frag) (Z : List Addr) (Q : VK) : Val → Store → List Addr → Hp → Prop := fun x _ φ' H' => ∀ v, Is K φ' Z H' v x → Q v H'
abbrev wVs (K : PySem.W.Frag) (Z : List Addr) (Q : List V → Hp → Prop) : List Val → Store → List Addr → Hp → Prop := fun x _ φ' H' => ∀ v, IsL K φ' Z H' v x → Q v H'
abbrev wB (Q : Bool → Hp → Prop) : Bool → Store → List Addr → Hp → Prop := fun x _ _ H' => Q x H'
def tE (K : PySem.W.Frag) (cf : CallF) (p : E) : TE := fun σ H Q => ∃ φ Z env st, RelE K φ Z H σ env ∧ RelS K φ Z H st ∧ Pst K φ Z H (evE cf p env st) (wV K Z Q)
def tEs (K : PySem.W.Frag) (cf : CallF) (p : List E) : TA := fun σ H Q => ∃ φ Z env st, RelE K φ Z H σ env ∧ RelS K φ Z H st ∧ Pst K φ Z H (evEs cf p env st) (wVs K Z Q)
noncomputable def evT (cf : CallF) (p : E) (env : Env) (st : Store) : R Bool := (evE cf p env st).bind fun x st => ofO (truV st x) st
def tT (K : PySem.W.Frag) (cf : CallF) (p : E) : TT := fun σ H Q => ∃ φ Z env st, RelE K φ Z H σ env ∧ RelS K φ Z H st ∧ Pst K φ Z H (evT cf p env st) (wB Q)
variable {cf : CallF}
/-- use of a part's reading -/
theorem tE.of {p : E} {β : Type} {f : Val → Store → R β} {k : β → Store → List Addr → Hp → Prop} {Q : VK} (hE : RelE K φ Z H σ env) (hS : RelS K φ Z H st) (h : PstY K φ Y Z H ((evE cf p env st).bind f) k)
    (g : ∀ x st1 v φ1 H1, Ext φ [] H φ1 H1 → RelS K φ1 Z H1 st1 → RelE K φ1 Z H1 σ env → Is K φ1 Z H1 v x → PstY K φ1 Y Z H1 (f x st1) k → Q v H1) : tE K cf p σ H Q :=
  ⟨φ, Z, env, st, hE, hS, h.bind.narrow.imp fun x st1 φ1 H1 e1 s1 q v iv => g x st1 v φ1 H1 e1 s1 (hE.mono e1) iv q.2.2⟩
theorem tEs.of {p : List E} {β : Type} {f : List Val → Store → R β} {k : β → Store → List Addr → Hp → Prop} {Q : List V → Hp → Prop} (hE : RelE K φ Z H σ env) (hS : RelS K φ Z H st) (h : PstY K φ Y Z H ((evEs cf p env st).bind f) k)
    (g : ∀ x st1 v φ1 H1, Ext φ [] H φ1 H1 → RelS K φ1 Z H1 st1 → RelE K φ1 Z H1 σ env → IsL K φ1 Z H1 v x → PstY K φ1 Y Z H1 (f x st1) k → Q v H1) : tEs K cf p σ H Q :=
  ⟨φ, Z, env, st, hE, hS, h.bind.narrow.imp fun x st1 φ1 H1 e1 s1 q v iv => g x st1 v φ1 H1 e1 s1 (hE.mono e1) iv q.2.2⟩
theorem tT.of {p : E} {β : Type} {f : Bool → Store → R β} {k : β → Store → List Addr → Hp → Prop} {Q : Bool → Hp → Prop} (hE : RelE K φ Z H σ env) (hS : RelS K φ Z H st) (h : PstY K φ Y Z H ((evT cf p env st).bind f) k)
    (g : ∀ x st1 φ1 H1, Ext φ [] H φ1 H1 → RelS K φ1 Z H1 st1 → RelE K φ1 Z H1 σ env → PstY K φ1 Y Z H1 (f x st1) k → Q x H1) : tT K cf p σ H Q :=
  ⟨φ, Z, env, st, hE, hS, h.bind.narrow.imp fun x st1 φ1 H1 e1 s1 q => g x st1 φ1 H1 e1 s1 (hE.mono e1) q.2.2⟩
end
theorem peW {X : Cx} {e : Expr} {t t' : TE} (h : PE X e t) (w : ∀ σ H Q, t' σ H Q → t σ H Q) : PE X e t' := ⟨fun pins s σ H Q I q => h.run pins s σ H Q I (w σ H Q q)⟩
theorem ptW {X : Cx} {e : Expr} {t t' : TT} (h : PT X e t) (w : ∀ σ H Q, t' σ H Q → t σ H Q) : PT X e t' := ⟨fun pins s σ H Q I q => h.run pins s σ H Q I (w σ H Q q)⟩
theorem paW {X : Cx} {e : List Expr} {t t' : TA} (h : PA X e t) (w : ∀ σ H Q, t' σ H Q → t σ H Q) : PA X e t' := ⟨fun pos pins s σ H Q I q => h.run pos pins s σ H Q I (w σ H Q q)⟩
theorem psW {X : Cx} {e : Stmt} {t t' : TS} (h : PS X e t) (w : ∀ D σ H, t' D σ H → t D σ H) : PS X e t' := ⟨fun pins s σ H Q I q => h.run pins s σ H Q I (w Q σ H q)⟩
theorem pssW {X : Cx} {e : List Stmt} {t t' : TS} (h : PSs X e t) (w : ∀ D σ H, t' D σ H → t D σ H) : PSs X e t' := ⟨fun pins s σ H Q I q => h.run pins s σ H Q I (w Q σ H q)⟩
end PV
end

section
set_option Elab.async false
set_option linter.all false
set_option maxRecDepth 100000
/-! PvVal: the operations on pure values are those of the hand layer. -/
namespace PV
open PySem L2
section
variable {K : PySem.W.Frag} {φ φ' Z Z' : List Addr} {H : Hp}
def Chg (φ Z : List Addr) (H : Hp) (φ' Z' : List Addr) : Prop := (∀ a, a ∉ φ → a ∉ Z → H a ≠ none → a ∉ φ' ∧ a ∉ Z') ∧ ∀ (n : Nat) (a : Addr), φ[n]? = some a → φ'[n]? = some a
theorem Fix.chg {a : Addr} {u : HO} (c : Chg φ Z H φ' Z') (h : Fix φ Z H a u) : Fix φ' Z' H a u := ⟨h.1, c.1 a h.2.1 h.2.2 (rd_some h.1)⟩
theorem FixD.chg {a : Addr} {u : HO} (c : Chg φ Z H φ' Z') (h : FixD φ Z H a u) : FixD φ' Z' H a u := ⟨h.1, c.1 a h.2.1 h.2.2 (rd_some (.inl h.1))⟩
mutual
theorem Is.chg (c : Chg φ Z H φ' Z') : ∀ {v : V} {x : Val}, Is K φ Z H v x → Is K φ' Z' H v x
  | _, _, .non => .non
  | _, _, .bl b => .bl b
  | _, _, .int b => .int b
  | _, _, .str b => .str b
  | _, _, .tup h r => .tup (h.imp (fun ⟨o, f, t⟩ => ⟨o, f.chg c, t⟩) id) (IsL.chg c r)
  | _, _, .ls h r => .ls (h.chg c) (IsL.chg c r)
  | _, _, .sc h r => .sc (h.imp (Fix.chg c) id) (IsL.chg c r)
  | _, _, .dc h r => .dc (h.chg c) (IsKV.chg c r)
  | _, _, .ref h => .ref (c.2 _ _ h)
theorem IsL.chg (c : Chg φ Z H φ' Z') : ∀ {vs : List V} {xs : List Val}, IsL K φ Z H vs xs → IsL K φ' Z' H vs xs
  | _, _, .nil => .nil
  | _, _, .cons h r => .cons (Is.chg c h) (IsL.chg c r)
theorem IsKV.chg (c : Chg φ Z H φ' Z') : ∀ {vs : List (Key × V)} {xs : List (Key × Val)}, IsKV K φ Z H vs xs → IsKV K φ' Z' H vs xs
  | _, _, .nil => .nil
  | _, _, .cons h r => .cons (Is.chg c h) (IsKV.chg c r)
end
theorem IsTV.chg (c : Chg φ Z H φ' Z') : ∀ {vs : List (List Key × V)} {xs : List (List Key × Val)}, IsTV K φ Z H vs xs → IsTV K φ' Z' H vs xs
  | _, _, .nil => .nil
  | _, _, .cons h r => .cons (Is.chg c h) (IsTV.chg c r)
theorem ObjIs.chg {a : Addr} {o : Obj} (c : Chg φ Z H φ' Z') (h : ObjIs K φ Z H a o) : ObjIs K φ' Z' H a o := by
  cases o with
  | lst xs => obtain ⟨vs, h1, h2⟩ := h; exact ⟨vs, h1, h2.chg c⟩
  | dK xs => obtain ⟨vs, h1, h2⟩ := h; exact ⟨vs, h1, h2.chg c⟩
  | dT xs => obtain ⟨vs, h1, h2⟩ := h; exact ⟨vs, h1, h2.chg c⟩
  | dead => trivial
theorem chg_add {p : Addr} (h : H p = none) : Chg φ Z H φ (p :: Z) :=
  ⟨fun a h1 h2 h3 => ⟨h1, fun q => (List.mem_cons.mp q).elim (fun e => h3 (e ▸ h)) h2⟩, fun _ _ h => h⟩
theorem chg_drop {p : Addr} : Chg φ (p :: Z) H φ Z := ⟨fun a h1 h2 _ => ⟨h1, fun q => h2 (List.mem_cons_of_mem _ q)⟩, fun _ _ h => h⟩
theorem chg_store {p : Addr} : Chg φ (p :: Z) H (φ ++ [p]) Z := by
  refine ⟨fun a h1 h2 _ => ⟨?_, fun q => h2 (List.mem_cons_of_mem _ q)⟩, fun n a h => ?_⟩
  · rw [List.mem_append, List.mem_singleton]
    rintro (q | q)
    · exact h1 q
    · exact h2 (q ▸ List.mem_cons_self)
  · rw [List.getElem?_append_left (List.getElem?_eq_some_iff.mp h).1]
    exact h
variable {st : Store}
theorem RelS.drop {p : Addr} (s : RelS K φ (p :: Z) H st) : RelS K φ Z H st :=
  ⟨s.len, s.nd, s.there, fun a ha => s.zin a (List.mem_cons_of_mem _ ha), fun n a o h1 h2 => (s.at_ n a o h1 h2).chg chg_drop⟩
/-- a new thing, and nobody knows of it -/
theorem RelS.freshZ {p : Addr} {o : HO} (s : RelS K φ Z H st) (h : H p = none) : RelS K φ (p :: Z) (upd H p o) st := by
  have f := RelS.fresh (o := o) s h
  have hp : p ∉ φ := fun z => s.there p z h
  refine ⟨f.len, f.nd, f.there, fun a ha => ?_, fun n a ob h1 h2 => ?_⟩
  · rcases List.mem_cons.mp ha with e | ha
    · rw [e]
      exact ⟨(by rw [upd_same]; exact fun q => by cases q), hp⟩
    · exact f.zin a ha
  · have ne : a ≠ p := fun q => hp (q ▸ List.mem_of_getElem? h1)
    exact ((s.at_ n a ob h1 h2).chg (chg_add h)).mono (Ext.fresh s h) (upd_ne ne)
/-- a thing that nobody knows of becomes one of the store -/
theorem RelS.store {p : Addr} {o : Obj} (s : RelS K φ (p :: Z) H st) (hz : p ∉ Z) (ho : ObjIs K (φ ++ [p]) Z H p o) : RelS K (φ ++ [p]) Z H (st ++ [o]) := by
  obtain ⟨h1, hp⟩ := s.zin p List.mem_cons_self
  refine ⟨by simp [s.len], ?_, fun a ha => ?_, fun a ha => ⟨(s.zin a (List.mem_cons_of_mem _ ha)).1, ?_⟩, fun n a o' q1 q2 => ?_⟩
  · rw [List.nodup_append]
    refine ⟨s.nd, by simp, fun a ha b hb => ?_⟩
    rw [List.mem_singleton] at hb
    subst hb
    exact fun z => hp (z ▸ ha)
  · rcases List.mem_append.mp ha with ha | ha
    · exact s.there a ha
    · rw [List.mem_singleton] at ha
      subst ha
      exact h1
  · rw [List.mem_append, List.mem_singleton]
    rintro (q | q)
    · exact (s.zin a (List.mem_cons_of_mem _ ha)).2 q
    · exact hz (q ▸ ha)
  · by_cases hn : n < φ.length
    · rw [List.getElem?_append_left hn] at q1
      rw [List.getElem?_append_left (by rw [← s.len]; exact hn)] at q2
      exact (s.at_ n a o' q1 q2).chg chg_store
    · have el := (List.getElem?_eq_some_iff.mp q1).1
      rw [List.length_append, List.length_singleton] at el
      have en : n = φ.length := by omega
      subst en
      rw [List.getElem?_append_right (Nat.le_refl _), Nat.sub_self] at q1
      rw [List.getElem?_append_right (by rw [s.len]; exact Nat.le_refl _), s.len, Nat.sub_self] at q2
      cases q1
      cases q2
      exact ho
end
/-- what is wanted of a thing that is new, or of another -/
def wF (K : PySem.W.Frag) (Z : List Addr) (H0 : Hp) (Q : VK) : Val → Store → List Addr → Hp → Prop := fun x st φ' H' => match x with
  | .ls xs => ∀ p vs, H0 p = none → p ∉ φ' → H' p = some (.lst vs) → RelS K φ' (p :: Z) H' st → IsL K φ' (p :: Z) H' vs xs → Q (.ref p) H'
  | .dc xs => ∀ p vs, H0 p = none → p ∉ φ' → H' p = some (.dK vs) → RelS K φ' (p :: Z) H' st → IsKV K φ' (p :: Z) H' vs xs → Q (.ref p) H'
  | x => ∀ v, Is K φ' Z H' v x → Q v H'
section
variable {K : PySem.W.Frag} {φ φ0 φ' Z : List Addr} {H H0 H' : Hp} {st st0 : Store} {x y z : Val} {u v : V} {xs ys : List Val} {vs us : List V} {Q : VK}
abbrev Gv (K : PySem.W.Frag) (φ Z : List Addr) (H H0 : Hp) (z : Val) (st : Store) (Q : VK) : Prop := Pst K φ Z H (.ok z st) (wF K Z H0 Q)
theorem fresh0 (e : Ext φ0 [] H0 φ H) (s : RelS K φ Z H st) {p : Addr} (hp : H p = none) : H0 p = none := by
  cases q : H0 p with
  | none => rfl
  | some o =>
    by_cases hm : p ∈ φ0
    · obtain ⟨t, rfl⟩ := e.pre
      exact absurd hp (s.there p (List.mem_append_left _ hm))
    · exact absurd hp (e.news p hm (by rw [q]; intro w; cases w)).2
theorem IsL.new {p : Addr} {o : HO} (s : RelS K φ Z H st) (h : H p = none) (r : IsL K φ Z H vs xs) : IsL K φ (p :: Z) (upd H p o) vs xs := (r.chg (chg_add h)).mono (Ext.fresh s h)
theorem IsKV.new {p : Addr} {o : HO} {xs : List (Key × Val)} {vs : List (Key × V)} (s : RelS K φ Z H st) (h : H p = none) (r : IsKV K φ Z H vs xs) : IsKV K φ (p :: Z) (upd H p o) vs xs := (r.chg (chg_add h)).mono (Ext.fresh s h)
theorem Gv.lst (e : Ext φ0 [] H0 φ H) (s : RelS K φ Z H st) (g : Gv K φ Z H H0 (.ls xs) st Q) (hv : IsL K φ Z H vs xs) : ∀ p, H p = none → Q (.ref p) (upd H p (.lst vs)) := fun p hp =>
  g φ (upd H p (.lst vs)) (Ext.fresh s hp) (s.fresh hp) p vs (fresh0 e s hp) (fun w => s.there p w hp) upd_same (s.freshZ hp) (hv.new s hp)
theorem Gv.dct {xs : List (Key × Val)} {vs : List (Key × V)} (e : Ext φ0 [] H0 φ H) (s : RelS K φ Z H st) (g : Gv K φ Z H H0 (.dc xs) st Q) (hv : IsKV K φ Z H vs xs) : ∀ p, H p = none → Q (.ref p) (upd H p (.dK vs)) := fun p hp =>
  g φ (upd H p (.dK vs)) (Ext.fresh s hp) (s.fresh hp) p vs (fresh0 e s hp) (fun w => s.there p w hp) upd_same (s.freshZ hp) (hv.new s hp)
theorem Gv.tup (e : Ext φ0 [] H0 φ H) (s : RelS K φ Z H st) (g : Gv K φ Z H H0 (.tup xs) st Q) (hv : IsL K φ Z H vs xs) : ∀ p o, H p = none → FT o → Q (.ref p) (upd H p (.frz o (.tup vs))) := fun p o hp fo =>
  g φ (upd H p (.frz o (.tup vs))) (Ext.fresh s hp) (s.fresh hp) (.ref p) (.tup (.inl ⟨o, FixD.fresh s hp, fo⟩) (hv.mono (Ext.fresh s hp)))
theorem Gv.old (e : Ext φ0 [] H0 φ H) (s : RelS K φ Z H st) (g : Gv K φ Z H H0 z st Q) (hz : (match z with | .ls _ => False | .dc _ => False | _ => True)) (hv : Is K φ Z H v z) : Q v H := by
  have g' := g φ H Ext.refl s
  cases z <;> first | exact hz.elim | exact g' v hv
/-- what holds of any value holds of a new one -/
theorem wF_of (s0 : RelS K φ Z H st0) {x : Val} {st : Store} {φ' : List Addr} {H' : Hp} (h : wV K Z Q x st φ' H') : wF K Z H Q x st φ' H' := by
  have hz : ∀ p, H p = none → p ∉ Z := fun p hp hm => (s0.zin p hm).1 hp
  cases x with
  | ls xs => exact fun p vs h0 hp ho _ hv => h (.ref p) (.ls ⟨ho, hp, hz p h0⟩ (hv.chg chg_drop))
  | dc xs => exact fun p vs h0 hp ho _ hv => h (.ref p) (.dc ⟨.inl ho, hp, hz p h0⟩ (hv.chg chg_drop))
  | _ => exact h

/-! ### shapes -/
theorem Is.intI {i : Int} (h : Is K φ Z H v (.int i)) : v = .int i := by cases h; rfl
theorem Is.blI {i : Bool} (h : Is K φ Z H v (.bl i)) : v = .bl i := by cases h; rfl
theorem Is.strI {i : Str} (h : Is K φ Z H v (.str i)) : v = .str i := by cases h; rfl
theorem Is.nonI (h : Is K φ Z H v .non) : v = .non := by cases h; rfl
theorem RelS.lst {n : Nat} (s : RelS K φ Z H st) (h : st[n]? = some (.lst xs)) : ∃ a vs, φ[n]? = some a ∧ H a = some (.lst vs) ∧ IsL K φ Z H vs xs := by
  obtain ⟨a, ha, vs, h1, h2⟩ := s.obj h
  exact ⟨a, vs, ha, h1, h2⟩
theorem RelS.dK {n : Nat} {xs : List (Key × Val)} (s : RelS K φ Z H st) (h : st[n]? = some (.dK xs)) : ∃ a vs, φ[n]? = some a ∧ H a = some (.dK vs) ∧ IsKV K φ Z H vs xs := by
  obtain ⟨a, ha, vs, h1, h2⟩ := s.obj h
  exact ⟨a, vs, ha, h1, h2⟩
theorem Is.refI {n : Nat} (h : Is K φ Z H v (.ref n)) : ∃ a, v = .ref a ∧ φ[n]? = some a := by
  cases h with
  | ref e => exact ⟨_, rfl, e⟩
/-- a list that can be joined -/
theorem lst_of (s : RelS K φ Z H st) (h : Is K φ Z H v x) (e : lstOf st x = some xs) : ∃ a vs, v = .ref a ∧ H a = some (.lst vs) ∧ IsL K φ Z H vs xs := by
  cases x with
  | ls ys =>
    cases e
    cases h with
    | ls f r => exact ⟨_, _, rfl, f.1, r⟩
  | ref n =>
    obtain ⟨a, rfl, ha⟩ := h.refI
    simp only [lstOf] at e
    split at e
    · rename_i ys hs
      cases e
      obtain ⟨b, vs, h1, h2, h3⟩ := s.lst hs
      rw [ha] at h1
      cases h1
      exact ⟨_, _, rfl, h2, h3⟩
    · cases e
  | _ => cases e
/-- a list, a tuple -/
theorem seq_of (s : RelS K φ Z H st) (h : Is K φ Z H v x) (e : seqOf st x = some xs) : ∃ a vs, v = .ref a ∧ (SqL K H a vs ∨ SqT K H a vs) ∧ IsL K φ Z H vs xs := by
  cases x with
  | tup ys =>
    cases e
    cases h with
    | tup f r => exact ⟨_, _, rfl, .inr f.seq, r⟩
  | ls ys =>
    cases e
    cases h with
    | ls f r => exact ⟨_, _, rfl, .inl f.seq, r⟩
  | sc ys =>
    cases e
    cases h with
    | sc f r => exact ⟨_, _, rfl, .inl f.seq, r⟩
  | ref n =>
    have e' : lstOf st (.ref n) = some xs := e
    obtain ⟨a, vs, h1, h2, h3⟩ := lst_of s h e'
    exact ⟨a, vs, h1, .inl (.inl (.inl h2)), h3⟩
  | _ => cases e
theorem dict_of {kvs : List (Key × Val)} (s : RelS K φ Z H st) (h : Is K φ Z H v x) (e : x = .dc kvs ∨ ∃ n, x = .ref n ∧ st[n]? = some (.dK kvs)) : ∃ a vs, v = .ref a ∧ Rd H a (.dK vs) ∧ IsKV K φ Z H vs kvs := by
  rcases e with rfl | ⟨n, rfl, hs⟩
  · cases h with
    | dc f r => exact ⟨_, _, rfl, f.1, r⟩
  · obtain ⟨a, rfl, ha⟩ := h.refI
    obtain ⟨b, vs, h1, h2, h3⟩ := s.dK hs
    rw [ha] at h1
    cases h1
    exact ⟨_, _, rfl, .inl h2, h3⟩
theorem IsL.nil_iff (h : IsL K φ Z H vs xs) : vs = [] ↔ xs = [] := by
  cases h <;> simp
/-! ### data -/
mutual
theorem dp_of : ∀ {x : Val} {v : V} {d : PySem.PyData}, Is K φ Z H v x → x.data st = some d → Dp K H v d
  | .non, _, _, h, e => by cases h; cases e; exact .non
  | .bl b, _, _, h, e => by cases h; cases e; exact .bl b
  | .int b, _, _, h, e => by cases h; cases e; exact .int b
  | .str b, _, _, h, e => by cases h; cases e; exact .str b
  | .tup xs, _, _, h, e => by
    cases h with
    | tup f r =>
      simp only [Val.data] at e
      obtain ⟨ds, e1, rfl⟩ := Option.map_eq_some_iff.mp e
      exact .tup f.seq (dpAll_of r e1)
  | .ls xs, _, _, h, e => by
    cases h with
    | ls f r =>
      simp only [Val.data] at e
      obtain ⟨ds, e1, rfl⟩ := Option.map_eq_some_iff.mp e
      exact .lst f.seq (dpAll_of r e1)
  | .sc _, _, _, _, e => by cases e
  | .dc _, _, _, _, e => by cases e
  | .ref _, _, _, _, e => by cases e
theorem dpAll_of : ∀ {xs : List Val} {vs : List V} {ds : List PySem.PyData}, IsL K φ Z H vs xs → dataAll st xs = some ds → DpAll K H vs ds
  | [], _, _, h, e => by cases h; cases e; exact .nil
  | x :: xs, _, _, h, e => by
    cases h with
    | cons h r =>
      simp only [dataAll] at e
      split at e
      · rename_i d ds h1 h2
        cases e
        exact .cons (dp_of h h1) (dpAll_of r h2)
      · cases e
end
theorem dataOf_ok {d : PySem.PyData} (s : RelS K φ Z H st) (h : Is K φ Z H v x) (e : dataOf st x = some d) : Dp K H v d := by
  cases x with
  | ref n =>
    simp only [dataOf] at e
    split at e
    · rename_i xs hs
      obtain ⟨ds, e1, rfl⟩ := Option.map_eq_some_iff.mp e
      obtain ⟨a, rfl, ha⟩ := h.refI
      obtain ⟨b, vs, h1, h2, h3⟩ := s.lst hs
      rw [ha] at h1
      cases h1
      exact .lst (.inl (.inl h2)) (dpAll_of h3 e1)
    · cases e
  | _ => exact dp_of h (by simpa [dataOf] using e)
/-! ### dicts -/
theorem IsKV.look {kvs : List (Key × Val)} {ws : List (Key × V)} (h : IsKV K φ Z H ws kvs) (k : Key) : (∃ x v, look kvs k = some x ∧ valV ws k = some v ∧ Is K φ Z H v x) ∨ (look kvs k = none ∧ valV ws k = none) := by
  cases h with
  | nil => exact .inr ⟨rfl, rfl⟩
  | cons h r =>
    rename_i k' v x vs xs
    by_cases e : k' = k
    · exact .inl ⟨x, v, by simp [PV.look, e], by simp [valV, e], h⟩
    · have ih := r.look k
      rw [show PV.look ((k', x) :: xs) k = PV.look xs k by simp [PV.look, e], valV_neg (p := (k', v)) e]
      exact ih
termination_by kvs.length
decreasing_by all_goals (subst_vars; simp)
theorem IsKV.any {kvs : List (Key × Val)} {ws : List (Key × V)} (h : IsKV K φ Z H ws kvs) (k : Key) : (ws.any fun kv => decide (kv.1 = k)) = kvs.any fun kv => decide (kv.1 = k) := by
  cases h with
  | nil => rfl
  | cons h r => simp only [List.any_cons, r.any k]
termination_by kvs.length
decreasing_by all_goals (subst_vars; simp)
theorem IsKV.rep {kvs : List (Key × Val)} {ws : List (Key × V)} (h : IsKV K φ Z H ws kvs) (k : Key) (hv : Is K φ Z H v x) :
    IsKV K φ Z H (ws.map fun kv => if kv.1 = k then (kv.1, v) else kv) (kvs.map fun kv => if kv.1 = k then (kv.1, x) else kv) := by
  cases h with
  | nil => exact .nil
  | cons h r =>
    rename_i k' v' x' vs xs
    by_cases e : k' = k
    · subst e
      simp only [List.map_cons, if_true]
      exact .cons hv (r.rep k' hv)
    · simp only [List.map_cons, if_neg e]
      exact .cons h (r.rep k hv)
termination_by kvs.length
decreasing_by all_goals (subst_vars; simp)
theorem IsKV.snoc {kvs : List (Key × Val)} {ws : List (Key × V)} (h : IsKV K φ Z H ws kvs) (k : Key) (hv : Is K φ Z H v x) : IsKV K φ Z H (ws ++ [(k, v)]) (kvs ++ [(k, x)]) := by
  cases h with
  | nil => exact .cons hv .nil
  | cons h r => exact .cons h (r.snoc k hv)
termination_by kvs.length
decreasing_by all_goals (subst_vars; simp)
theorem IsKV.put {kvs : List (Key × Val)} {ws : List (Key × V)} (h : IsKV K φ Z H ws kvs) (k : Key) (hv : Is K φ Z H v x) : IsKV K φ Z H (putK ws k v) (put kvs k x) := by
  unfold putK PV.put
  rw [h.any k]
  split
  · exact h.rep k hv
  · exact h.snoc k hv
theorem IsKV.drop {kvs : List (Key × Val)} {ws : List (Key × V)} (h : IsKV K φ Z H ws kvs) (k : Key) : IsKV K φ Z H (dropK ws k) (kvs.filter fun kv => decide (kv.1 ≠ k)) := by
  cases h with
  | nil => exact .nil
  | cons h r =>
    rename_i k' v' x' vs xs
    have ih := r.drop k
    unfold dropK at ih ⊢
    by_cases e : k' = k
    · simpa [e] using ih
    · simpa [e] using IsKV.cons (k := k') h (by simpa using ih)
termination_by kvs.length
decreasing_by all_goals (subst_vars; simp)
theorem IsKV.putAll {more : List (Key × Val)} {mv : List (Key × V)} (hm : IsKV K φ Z H mv more) {kvs : List (Key × Val)} {ws : List (Key × V)} (h : IsKV K φ Z H ws kvs) : IsKV K φ Z H (mergeK ws mv) (putAll kvs more) := by
  cases hm with
  | nil => exact h
  | cons a r => exact r.putAll (h.put _ a)
termination_by more.length
decreasing_by all_goals (subst_vars; simp)
theorem IsKV.keys {kvs : List (Key × Val)} {ws : List (Key × V)} (h : IsKV K φ Z H ws kvs) : IsL K φ Z H (ws.map fun kv => kV kv.1) (kvs.map fun kv => kvVal kv.1) := by
  cases h with
  | nil => exact .nil
  | cons a r =>
    rename_i k v' x' vs xs
    refine .cons ?_ r.keys
    cases k with
    | inl i => exact .int i
    | inr i => exact .str i
termination_by kvs.length
decreasing_by all_goals (subst_vars; simp)
theorem key_ok {k : Key} (h : Is K φ Z H v x) (e : keyOf x = some k) : v = kV k := by
  cases x with
  | int i => cases e; cases h; rfl
  | str i => cases e; cases h; rfl
  | _ => cases e
theorem isDict_cases (h : isDict st x = true) : ∃ kvs, x = .dc kvs ∨ ∃ n, x = .ref n ∧ st[n]? = some (.dK kvs) := by
  cases x with
  | dc kvs => exact ⟨kvs, .inl rfl⟩
  | ref n =>
    simp only [isDict] at h
    split at h
    · rename_i kvs e
      exact ⟨kvs, .inr ⟨n, rfl, e⟩⟩
    · cases h
  | _ => cases h
theorem dictGet_ok {r : Option Val} (s : RelS K φ Z H st) (hv : Is K φ Z H v x) (hu : Is K φ Z H u y) (e : dictGet st x y = some r) : ∃ a o, v = .ref a ∧ DGet H a u o ∧ ((∃ w z, r = some z ∧ o = some w ∧ Is K φ Z H w z) ∨ (r = none ∧ o = none)) := by
  have key : ∀ (kvs : List (Key × Val)) (ws : List (Key × V)) (a : Addr), Rd H a (.dK ws) → IsKV K φ Z H ws kvs → (keyOf y).map (look kvs) = some r → ∃ o, DGet H a u o ∧ ((∃ w z, r = some z ∧ o = some w ∧ Is K φ Z H w z) ∨ (r = none ∧ o = none)) := by
    intro kvs ws a rd hk e
    obtain ⟨k, e1, e2⟩ := Option.map_eq_some_iff.mp e
    refine ⟨valV ws k, .inl ⟨ws, k, rd, key_ok hu e1, rfl⟩, ?_⟩
    rcases hk.look k with ⟨z, w, h1, h2, h3⟩ | ⟨h1, h2⟩
    · exact .inl ⟨w, z, by rw [← e2, h1], h2, h3⟩
    · exact .inr ⟨by rw [← e2, h1], h2⟩
  cases x with
  | dc kvs =>
    obtain ⟨a, ws, rfl, h2, h3⟩ := dict_of s hv (.inl rfl)
    obtain ⟨o, q⟩ := key kvs ws a h2 h3 e
    exact ⟨a, o, rfl, q⟩
  | ref n =>
    simp only [dictGet] at e
    split at e
    · rename_i kvs hs
      obtain ⟨a, ws, rfl, h2, h3⟩ := dict_of s hv (.inr ⟨n, rfl, hs⟩)
      obtain ⟨o, q⟩ := key kvs ws a h2 h3 e
      exact ⟨a, o, rfl, q⟩
    · cases e
  | _ => cases e
end
end PV
end

section
set_option Elab.async false
set_option linter.all false
set_option maxRecDepth 100000
/-! PvOp: operators, comparisons, items, slices, truth, built-ins, methods: the hand layer's rule for each, and that the pure answer is its answer. -/
namespace PV
open PySem L2
section
variable {K : PySem.W.Frag} {φ φ0 φ' Z : List Addr} {H H0 H' : Hp} {st st0 : Store} {x y z : Val} {u v : V} {xs ys : List Val} {vs us : List V} {Q : VK} {X : Cx}
theorem small_line {n : Nat} (h : n ≤ 100000) : n ≤ sizeLine := by rw [sizeLine_eq]; omega
/-- a list -/
theorem seqL_of (s : RelS K φ Z H st) (h : Is K φ Z H v x) (e : seqOf st x = some xs) (hx : ∀ l, x ≠ .tup l) : ∃ a vs, v = .ref a ∧ SqL K H a vs ∧ IsL K φ Z H vs xs := by
  cases x with
  | tup ys => exact absurd rfl (hx ys)
  | ls ys =>
    cases e
    cases h with
    | ls f r => exact ⟨_, _, rfl, f.seq, r⟩
  | sc ys =>
    cases e
    cases h with
    | sc f r => exact ⟨_, _, rfl, f.seq, r⟩
  | ref n =>
    have e' : lstOf st (.ref n) = some xs := e
    obtain ⟨a, vs, h1, h2, h3⟩ := lst_of s h e'
    exact ⟨a, vs, h1, .inl (.inl h2), h3⟩
  | _ => cases e
/-! ### operators -/
def opE : Op → Operator
  | .add => .Add | .sub => .Sub | .mul => .Mult | .fdiv => .FloorDiv | .mod => .Mod | .pow => .Pow
def rBin (K : PySem.W.Frag) : Op → R2
  | .add => fun x y H Q => rI0 (fun i j => .int (i + j)) x y H Q ∨ (∃ i j, x = .str i ∧ y = .str j ∧ i.length + j.length ≤ sizeLine ∧ Q (.str (i ++ j)) H) ∨ rCatF K x y H Q ∨ rCat x y H Q
  | .sub => rI0 fun i j => .int (i - j)
  | .mul => rI CMul fun i j => .int (i * j)
  | .fdiv => rI CDiv fun i j => .int (i / j)
  | .mod => rI (fun _ j => 0 < j) fun i j => .int (i % j)
  | .pow => rI CPow fun i j => .int (i ^ j.toNat)
theorem rBin_ok : ∀ o : Op, OpR X (binaryOp (opE o)) (rBin X.K o)
  | .add => op_add.or (op_add_str.or (op_catF.or op_cat))
  | .sub => op_sub
  | .mul => op_mul
  | .fdiv => op_fdiv
  | .mod => op_mod
  | .pow => op_pow
theorem two64_eq : (2 : Int) ^ 64 = two64 := by decide
theorem opV_lst {o : Op} (e : Ext φ0 [] H0 φ H) (s : RelS K φ Z H st) (hv : Is K φ Z H v x) (hu : Is K φ Z H u y) (h : opV o x y = some z) (g : Gv K φ Z H H0 z st Q) : rBin K o v u H Q := by
  unfold opV at h
  split at h
  · cases h; cases hv; cases hu; exact .inl ⟨_, _, rfl, rfl, g.old e s trivial (.int _)⟩
  · cases h; cases hv; cases hu; exact ⟨_, _, rfl, rfl, g.old e s trivial (.int _)⟩
  · split at h
    · rename_i hc
      cases h; cases hv; cases hu
      refine ⟨_, _, rfl, rfl, ?_, g.old e s trivial (.int _)⟩
      unfold CMul
      rw [two64_eq]
      exact hc
    · cases h
  · split at h
    · rename_i hc
      cases h; cases hv; cases hu
      exact ⟨_, _, rfl, rfl, hc, g.old e s trivial (.int _)⟩
    · cases h
  · split at h
    · rename_i hc
      cases h; cases hv; cases hu
      exact ⟨_, _, rfl, rfl, hc, g.old e s trivial (.int _)⟩
    · cases h
  · split at h
    · rename_i hc
      cases h; cases hv; cases hu
      refine ⟨_, _, rfl, rfl, ⟨hc.1, hc.2.1, ?_⟩, g.old e s trivial (.int _)⟩
      have q : (2 : Nat) ^ 64 = 18446744073709551616 := by decide
      rw [q]
      exact hc.2.2
    · cases h
  · split at h
    · rename_i hc
      cases h; cases hv; cases hu
      exact .inr (.inl ⟨_, _, rfl, rfl, small_line hc, g.old e s trivial (.str _)⟩)
    · cases h
  · split at h
    · rename_i a b hc
      cases h
      cases hv with
      | tup f1 r1 =>
        cases hu with
        | tup f2 r2 =>
          refine .inr (.inr (.inl ⟨_, _, _, _, rfl, rfl, f1.seq, f2.seq, by rw [r1.length, r2.length]; exact small_line hc, fun w => ?_, fun w1 w2 => ?_, fun _ _ => g.tup e s (r1.append r2)⟩))
          · have ea : a = [] := r1.nil_iff.mp w
            subst ea
            exact g.old e s trivial (.tup f2 (by simpa using r2))
          · have eb : b = [] := r2.nil_iff.mp w2
            subst eb
            exact g.old e s trivial (.tup f1 (by simpa using r1))
    · cases h
  · cases h
theorem bin_ok {o : Op} (e : Ext φ0 [] H0 φ H) (s : RelS K φ Z H st) (hv : Is K φ Z H v x) (hu : Is K φ Z H u y) (h : opS st o x y = some z) (g : Gv K φ Z H H0 z st Q) : rBin K o v u H Q := by
  unfold opS at h
  split at h
  · rename_i a b h1 h2
    split at h
    · rename_i hc
      cases h
      obtain ⟨p, ws, rfl, ha, ra⟩ := lst_of s hv h1
      obtain ⟨q, ts, rfl, hb, rb⟩ := lst_of s hu h2
      exact .inr (.inr (.inr ⟨_, _, _, _, rfl, rfl, ha, hb, by rw [ra.length, rb.length]; exact small_line hc, g.lst e s (ra.append rb)⟩))
    · cases h
  · exact opV_lst e s hv hu h g
  · cases h
/-! ### comparisons -/
def coE : Co → CmpOp
  | .eq => .Eq | .ne => .NotEq | .lt => .Lt | .le => .LtE | .gt => .Gt | .ge => .GtE | .isin => .In | .notin => .NotIn
def rDIn (neg : Bool) : R2 := fun x y H Q => ∃ a o, y = .ref a ∧ DGet H a x o ∧ Q (.bl (if neg then !o.isSome else o.isSome)) H
theorem op_dIn (hu : X.A.units + 1 < cLine) : OpR X (compareOp .In) (rDIn false) := by
  intro pins s σ H x y v u Q I rx ry h
  obtain ⟨a, o, rfl, g, q⟩ := h
  cases ry
  exact d_in hu I g rx fun s' I' => ⟨.bl o.isSome, H, I', rfl, q⟩
theorem op_dNotIn (hu : X.A.units + 1 < cLine) : OpR X (compareOp .NotIn) (rDIn true) := by
  intro pins s σ H x y v u Q I rx ry h
  obtain ⟨a, o, rfl, g, q⟩ := h
  cases ry
  exact d_notIn hu I g rx fun s' I' => ⟨.bl (!o.isSome), H, I', rfl, q⟩
def rCmp (K : PySem.W.Frag) : Co → R2
  | .eq => rEqD K
  | .ne => rNeD K
  | .isin => fun x y H Q => rInD K x y H Q ∨ rInTD K x y H Q ∨ rDIn false x y H Q
  | .notin => fun x y H Q => rNotInD K x y H Q ∨ rNotInTD K x y H Q ∨ rDIn true x y H Q
  | .lt => fun x y H Q => rI0 (fun i j => .bl (decide (i < j))) x y H Q ∨ ∃ i j, x = .str i ∧ y = .str j ∧ Q (.bl (decide (i.cps.toList < j.cps.toList))) H
  | .le => fun x y H Q => rI0 (fun i j => .bl (decide (i ≤ j))) x y H Q ∨ ∃ i j, x = .str i ∧ y = .str j ∧ Q (.bl (!decide (j.cps.toList < i.cps.toList))) H
  | .gt => rI0 fun i j => .bl (decide (j < i))
  | .ge => rI0 fun i j => .bl (decide (j ≤ i))
theorem rCmp_ok (hu : X.A.units + 65 < cLine) : ∀ o : Co, OpR X (compareOp (coE o)) (rCmp X.K o)
  | .eq => op_eqD (by omega)
  | .ne => op_neD (by omega)
  | .isin => (op_inD hu).or ((op_inTD hu).or (op_dIn (by omega)))
  | .notin => (op_notInD hu).or ((op_notInTD hu).or (op_dNotIn (by omega)))
  | .lt => op_lt.or op_lt_str
  | .le => op_le.or op_le_str
  | .gt => op_gt
  | .ge => op_ge
theorem eq_ok {b : Bool} (s : RelS K φ Z H st) (hv : Is K φ Z H v x) (hu : Is K φ Z H u y) (h : eqV st x y = some b) : ∃ d e, Dp K H v d ∧ Dp K H u e ∧ SeqAt.shaped d = true ∧ SeqAt.shaped e = true ∧ b = PyData.eqv d e := by
  unfold eqV at h
  split at h
  · rename_i d e h1 h2
    split at h
    · rename_i hs
      rw [Bool.and_eq_true] at hs
      cases h
      exact ⟨d, e, dataOf_ok s hv h1, dataOf_ok s hu h2, hs.1, hs.2, rfl⟩
    · cases h
  · cases h
theorem in_ok {b : Bool} (s : RelS K φ Z H st) (hv : Is K φ Z H v x) (hu : Is K φ Z H u y) (h : inV st x y = some b) :
    (∃ a o, u = .ref a ∧ DGet H a v o ∧ b = o.isSome) ∨ (∃ d ds, Dp K H v d ∧ Dp K H u (.list ds) ∧ SeqAt.shaped d = true ∧ SeqAt.shaped (.list ds) = true ∧ b = ds.any fun z => PyData.eqv z d) ∨
      ∃ d ds, Dp K H v d ∧ Dp K H u (.tuple ds) ∧ SeqAt.shaped d = true ∧ SeqAt.shaped (.tuple ds) = true ∧ b = ds.any fun z => PyData.eqv z d := by
  unfold inV at h
  split at h
  · obtain ⟨r, h1, rfl⟩ := Option.map_eq_some_iff.mp h
    obtain ⟨a, o, rfl, g, q⟩ := dictGet_ok s hu hv h1
    refine .inl ⟨a, o, rfl, g, ?_⟩
    rcases q with ⟨w, z, rfl, rfl, _⟩ | ⟨rfl, rfl⟩ <;> rfl
  · split at h
    · rename_i d ds h1 h2
      split at h
      · rename_i hs
        rw [Bool.and_eq_true] at hs
        cases h
        exact .inr (.inl ⟨d, ds, dataOf_ok s hv h1, dataOf_ok s hu h2, hs.1, hs.2, rfl⟩)
      · cases h
    · rename_i d ds h1 h2
      split at h
      · rename_i hs
        rw [Bool.and_eq_true] at hs
        cases h
        exact .inr (.inr ⟨d, ds, dataOf_ok s hv h1, dataOf_ok s hu h2, hs.1, hs.2, rfl⟩)
      · cases h
    · cases h
theorem cmp_ok {o : Co} {b : Bool} (s : RelS K φ Z H st) (hv : Is K φ Z H v x) (hu : Is K φ Z H u y) (h : cmpV st o x y = some b) (q : Q (.bl b) H) : rCmp K o v u H Q := by
  unfold cmpV at h
  cases o with
  | eq =>
    obtain ⟨d, e, h1, h2, h3, h4, rfl⟩ := eq_ok s hv hu h
    exact ⟨d, e, h1, h2, h3, h4, q⟩
  | ne =>
    obtain ⟨b', h', rfl⟩ := Option.map_eq_some_iff.mp h
    obtain ⟨d, e, h1, h2, h3, h4, rfl⟩ := eq_ok s hv hu h'
    exact ⟨d, e, h1, h2, h3, h4, q⟩
  | isin =>
    rcases in_ok s hv hu h with ⟨a, o, rfl, g, rfl⟩ | ⟨d, ds, h1, h2, h3, h4, rfl⟩ | ⟨d, ds, h1, h2, h3, h4, rfl⟩
    · exact .inr (.inr ⟨a, o, rfl, g, q⟩)
    · exact .inl ⟨d, ds, h1, h2, h3, h4, q⟩
    · exact .inr (.inl ⟨d, ds, h1, h2, h3, h4, q⟩)
  | notin =>
    obtain ⟨b', h', rfl⟩ := Option.map_eq_some_iff.mp h
    rcases in_ok s hv hu h' with ⟨a, o, rfl, g, rfl⟩ | ⟨d, ds, h1, h2, h3, h4, rfl⟩ | ⟨d, ds, h1, h2, h3, h4, rfl⟩
    · exact .inr (.inr ⟨a, o, rfl, g, q⟩)
    · exact .inl ⟨d, ds, h1, h2, h3, h4, q⟩
    · exact .inr (.inl ⟨d, ds, h1, h2, h3, h4, q⟩)
  | lt =>
    dsimp only at h
    split at h
    · cases h; cases hv; cases hu; exact .inl ⟨_, _, rfl, rfl, q⟩
    · cases h; cases hv; cases hu; exact .inr ⟨_, _, rfl, rfl, q⟩
    · cases h
  | le =>
    dsimp only at h
    split at h
    · cases h; cases hv; cases hu; exact .inl ⟨_, _, rfl, rfl, q⟩
    · cases h; cases hv; cases hu; exact .inr ⟨_, _, rfl, rfl, q⟩
    · cases h
  | gt =>
    dsimp only at h
    split at h
    · cases h; cases hv; cases hu; exact ⟨_, _, rfl, rfl, q⟩
    · cases h
  | ge =>
    dsimp only at h
    split at h
    · cases h; cases hv; cases hu; exact ⟨_, _, rfl, rfl, q⟩
    · cases h
theorem isN_ok (hv : Is K φ Z H v x) : decide (v = .non) = isNon x := by
  cases hv <;> simp [isNon]
/-! ### truth -/
theorem tru_of {b : Bool} (s : RelS K φ Z H st) (hv : Is K φ Z H v x) (h : truV st x = some b) : TruV K v H b := by
  unfold truV at h
  split at h
  · cases h; cases hv; rfl
  · cases h; cases hv; rfl
  · cases h; cases hv; rfl
  · split at h
    · rename_i hc
      cases h; cases hv
      exact ⟨small_line hc, rfl⟩
    · cases h
  · cases h
    cases hv with
    | tup f r =>
      refine .inr (.inl ⟨_, f.seq, ?_⟩)
      cases r <;> rfl
  · cases h
    cases hv with
    | ls f r =>
      refine .inl ⟨_, f.seq, ?_⟩
      cases r <;> rfl
  · cases h
    cases hv with
    | sc f r =>
      refine .inl ⟨_, f.seq, ?_⟩
      cases r <;> rfl
  · cases h
  · split at h
    · rename_i xs hs
      cases h
      obtain ⟨a, rfl, ha⟩ := hv.refI
      obtain ⟨c, ws, h1, h2, h3⟩ := s.lst hs
      rw [ha] at h1
      cases h1
      refine .inl ⟨_, .inl (.inl h2), ?_⟩
      cases h3 <;> rfl
    · rename_i kvs hs
      cases h
      obtain ⟨a, rfl, ha⟩ := hv.refI
      obtain ⟨c, ws, h1, h2, h3⟩ := s.dK hs
      rw [ha] at h1
      cases h1
      refine .inr (.inr ⟨_, h2, ?_⟩)
      cases h3 <;> rfl
    · cases h
/-! ### items -/
def rIxDk : R2 := fun x y H Q => ∃ a v, x = .ref a ∧ DGet H a y (some v) ∧ Q v H
theorem ix_dk (hu : X.A.units + 1 < cLine) : IxR X rIxDk := by
  intro value slice pins s σ H x y v u Q I rx ry h hs
  obtain ⟨a, w, rfl, g, q⟩ := h
  cases rx
  exact PyProof.Rows.tail_any (dict_typeIs I g) PySem.F.slot_dict_getitem.lookup (d_getItem hu I g ry fun w' s3 I3 rw' => ⟨w, H, I3, rw', q⟩) hs
def rItem (K : PySem.W.Frag) : R2 := fun x y H Q => rIx K x y H Q ∨ rIxDk x y H Q
theorem rItem_ok (hu : X.A.units + 1 < cLine) : IxR X (rItem X.K) := ix_seq.or (ix_dk hu)
theorem ixAt_eq (n : Nat) (i : Int) : ixAt n i = ixN n i := by
  unfold ixAt ixN
  split
  · rfl
  · by_cases h : 0 ≤ i + n
    · rw [if_pos h, if_pos (by omega)]
    · rw [if_neg h, if_neg (by omega)]
theorem ixAt_lt {n k : Nat} {i : Int} (h : ixAt n i = some k) : k < n := by
  rw [ixAt_eq] at h
  exact (ixN_seq h).2.1
theorem item_ok (s : RelS K φ Z H st) (hv : Is K φ Z H v x) (hu : Is K φ Z H u y) (h : itemV st x y = some z) (q : ∀ w, Is K φ Z H w z → Q w H) : rItem K v u H Q := by
  unfold itemV at h
  split at h
  · obtain ⟨r, h1, h2⟩ := Option.bind_eq_some_iff.mp h
    obtain ⟨a, o, rfl, g, c⟩ := dictGet_ok s hv hu h1
    rcases c with ⟨w, z', rfl, rfl, hw⟩ | ⟨rfl, rfl⟩
    · cases h2
      exact .inr ⟨a, w, rfl, g, q w hw⟩
    · cases h2
  · split at h
    · rename_i sx j hd0
      split at h
      · rename_i k hk
        split at h
        · rename_i hc
          obtain ⟨c, h1, rfl⟩ := Option.map_eq_some_iff.mp h
          cases hv; cases hu
          refine .inl (.inr (.inr ⟨_, _, c, rfl, rfl, small_line hc, ?_, q _ (.str _)⟩))
          unfold atI
          rw [show sx.cps.toList.length = sx.length by simp [Str.length], ← ixAt_eq, hk]
          exact h1
        · cases h
      · cases h
    · rename_i j hnot
      split at h
      · rename_i ws hs
        obtain ⟨k, h1, h2⟩ := Option.bind_eq_some_iff.mp h
        obtain ⟨a, vs, rfl, hq, r⟩ := seq_of s hv hs
        cases hu
        obtain ⟨w, hw, iw⟩ := r.get h2
        have e : atI vs j = some w := by
          unfold atI
          rw [r.length, ← ixAt_eq, h1]
          exact hw
        rcases hq with hq | hq
        · exact .inl (.inl ⟨a, vs, j, w, rfl, rfl, hq, e, q w iw⟩)
        · exact .inl (.inr (.inl ⟨a, vs, j, w, rfl, rfl, hq, e, q w iw⟩))
      · cases h
    · cases h
/-! ### slices -/
def rCut (K : PySem.W.Frag) : V → Option Int → Option Int → Hp → VK → Prop := fun x lo hi H Q => rSlF K x lo hi H Q ∨ rSlL K x lo hi H Q ∨ rSlS x lo hi H Q
theorem rCut_ok : SlR X (rCut X.K) := sl_tupF.or (sl_list.or sl_str)
theorem clip_sIx (n d : Nat) (o : Option Int) : clip n d o = HT.sIx n d o := by
  cases o with
  | none => rfl
  | some i =>
    show (if 0 ≤ i then min i.toNat n else (i + n).toNat) = if i < 0 then (i + (n : Int)).toNat else min i.toNat n
    by_cases h : 0 ≤ i
    · rw [if_pos h, if_neg (by omega)]
    · rw [if_neg h, if_pos (by omega)]
theorem cut_drop {α : Type} (xs : List α) (lo hi : Option Int) : cut xs lo hi = (xs.drop (HT.sIx xs.length 0 lo)).take (HT.sIx xs.length xs.length hi - HT.sIx xs.length 0 lo) := by
  unfold cut
  rw [clip_sIx, clip_sIx, List.drop_take]
theorem IsL.cut (r : IsL K φ Z H vs xs) (lo hi : Option Int) : IsL K φ Z H (L2.cutV vs lo hi) (cut xs lo hi) := by
  rw [cut_drop]
  unfold L2.cutV
  rw [r.length]
  exact (r.drop _).take _
theorem cut_ok {lo hi : Option Int} (e : Ext φ0 [] H0 φ H) (s : RelS K φ Z H st) (hv : Is K φ Z H v x) (h : cutV st x lo hi = some z) (g : Gv K φ Z H H0 z st Q) : rCut K v lo hi H Q := by
  unfold cutV at h
  split at h
  · split at h
    · rename_i sx hc
      cases h; cases hv
      refine .inr (.inr ⟨_, rfl, small_line hc, ?_⟩)
      have ez : cutS sx lo hi = ⟨(cut sx.cps.toList lo hi).toArray⟩ := by
        rw [cut_drop]
        unfold cutS
        simp [Str.length]
      rw [ez]
      exact g.old e s trivial (.str _)
    · cases h
  · rename_i ws
    cases h
    cases hv with
    | tup f r =>
      refine .inl ⟨_, _, rfl, f.seq, fun c => ?_, fun _ => g.tup e s (r.cut lo hi)⟩
      have e1 : PV.cut ws lo hi = ws := by
        rw [cut_drop, ← r.length, c.1, c.2]
        simp [r.length]
      rw [e1] at g
      exact g.old e s trivial (.tup f r)
  · rename_i hx hy
    obtain ⟨ws, h1, rfl⟩ := Option.map_eq_some_iff.mp h
    obtain ⟨a, vs, rfl, hq, r⟩ := seqL_of s hv h1 hy
    exact .inr (.inl ⟨a, vs, rfl, hq, g.lst e s (r.cut lo hi)⟩)
end
end PV
end

section
set_option Elab.async false
set_option linter.all false
set_option maxRecDepth 100000
/-! PvBlt: built-ins, isinstance, methods, a store into a list or a dict. -/
namespace PV
open PySem L2
/-! ### sorted -/
theorem ltN_irrefl : ∀ l : List Nat, ¬ l < l
  | [] => by simp
  | a :: l => by
    rw [List.cons_lt_cons_iff]
    rintro (h | ⟨_, h⟩)
    · exact Nat.lt_irrefl _ h
    · exact ltN_irrefl l h
theorem ltN_trans : ∀ {a b c : List Nat}, a < b → b < c → a < c
  | [], [], _, h, _ => absurd h (by simp)
  | [], _ :: _, [], _, h => absurd h (by simp)
  | [], _ :: _, _ :: _, _, _ => by simp
  | _ :: _, [], _, h, _ => absurd h (by simp)
  | _ :: _, _ :: _, [], _, h => absurd h (by simp)
  | a :: l, b :: m, c :: n, h1, h2 => by
    rw [List.cons_lt_cons_iff] at h1 h2 ⊢
    rcases h1 with h1 | ⟨rfl, h1⟩
    · rcases h2 with h2 | ⟨rfl, h2⟩
      · exact .inl (Nat.lt_trans h1 h2)
      · exact .inl h1
    · rcases h2 with h2 | ⟨rfl, h2⟩
      · exact .inl h2
      · exact .inr ⟨rfl, ltN_trans h1 h2⟩
theorem ltN_tri : ∀ a b : List Nat, a < b ∨ a = b ∨ b < a
  | [], [] => .inr (.inl rfl)
  | [], _ :: _ => .inl (by simp)
  | _ :: _, [] => .inr (.inr (by simp))
  | a :: l, b :: m => by
    rw [List.cons_lt_cons_iff, List.cons_lt_cons_iff]
    rcases Nat.lt_trichotomy a b with h | rfl | h
    · exact .inl (.inl h)
    · rcases ltN_tri l m with h | rfl | h
      · exact .inl (.inr ⟨rfl, h⟩)
      · exact .inr (.inl rfl)
      · exact .inr (.inr (.inr ⟨rfl, h⟩))
    · exact .inr (.inr (.inl h))
theorem str_ext {a b : Str} (h : a.cps.toList = b.cps.toList) : a = b := by
  cases a; cases b
  simpa using h
theorem leS_trans {a b c : Str} (h1 : leS a b = true) (h2 : leS b c = true) : leS a c = true := by
  simp only [leS, Bool.not_eq_true', decide_eq_false_iff_not] at *
  intro h
  rcases ltN_tri a.cps.toList b.cps.toList with q | q | q
  · exact h2 (ltN_trans h q)
  · rw [q] at h; exact h2 h
  · exact h1 q
theorem leS_anti {a b : Str} (h1 : leS a b = true) (h2 : leS b a = true) : a = b := by
  simp only [leS, Bool.not_eq_true', decide_eq_false_iff_not] at *
  rcases ltN_tri a.cps.toList b.cps.toList with q | q | q
  · exact absurd q h2
  · exact str_ext q
  · exact absurd q h1
theorem leS_total (a b : Str) : leS a b = true ∨ leS b a = true := by
  simp only [leS, Bool.not_eq_true', decide_eq_false_iff_not]
  rcases ltN_tri a.cps.toList b.cps.toList with q | q | q
  · exact .inl fun h => ltN_irrefl _ (ltN_trans h q)
  · exact .inl fun h => by rw [q] at h; exact ltN_irrefl _ h
  · exact .inr fun h => ltN_irrefl _ (ltN_trans h q)
theorem insS_perm (x : Str) : ∀ l : List Str, (insS x l).Perm (x :: l)
  | [] => List.Perm.refl _
  | y :: r => by
    unfold insS
    split
    · exact List.Perm.refl _
    · exact ((insS_perm x r).cons y).trans (List.Perm.swap x y r)
theorem sortS_perm : ∀ l : List Str, (sortS l).Perm l
  | [] => List.Perm.refl _
  | x :: r => (insS_perm x (sortS r)).trans ((sortS_perm r).cons x)
theorem insS_sorted (x : Str) : ∀ l : List Str, l.Pairwise (fun a b => leS a b = true) → (insS x l).Pairwise (fun a b => leS a b = true)
  | [], _ => by simp [insS]
  | y :: r, h => by
    rw [List.pairwise_cons] at h
    unfold insS
    split
    · rename_i hc
      rw [List.pairwise_cons, List.pairwise_cons]
      refine ⟨fun z hz => ?_, h⟩
      rcases List.mem_cons.mp hz with rfl | hz
      · exact hc
      · exact leS_trans hc (h.1 z hz)
    · rename_i hc
      rw [List.pairwise_cons]
      refine ⟨fun z hz => ?_, insS_sorted x r h.2⟩
      rcases List.mem_cons.mp ((insS_perm x r).subset hz) with rfl | hz
      · exact (leS_total z y).resolve_left hc
      · exact h.1 z hz
theorem sortS_sorted : ∀ l : List Str, (sortS l).Pairwise (fun a b => leS a b = true)
  | [] => List.Pairwise.nil
  | x :: r => insS_sorted x _ (sortS_sorted r)
theorem ltCps_iff : ∀ a b : List Nat, PySem.Spec.ltCps a b = true ↔ a < b
  | [], [] => by simp [PySem.Spec.ltCps]
  | [], _ :: _ => by simp [PySem.Spec.ltCps]
  | _ :: _, [] => by simp [PySem.Spec.ltCps]
  | a :: l, b :: m => by
    rw [List.cons_lt_cons_iff, ← ltCps_iff l m]
    simp [PySem.Spec.ltCps]
theorem rising_pw : ∀ (l : List Str) (p : Str), PyProof.Rows.risingS p l = true → (p :: l).Pairwise (fun a b => leS a b = true)
  | [], p, _ => by simp
  | x :: r, p, h => by
    simp only [PyProof.Rows.risingS, Bool.and_eq_true, Bool.not_eq_true'] at h
    have ih := rising_pw r x h.2
    have hp : leS p x = true := by
      simp only [leS, Bool.not_eq_true', decide_eq_false_iff_not]
      intro q
      rw [(ltCps_iff _ _).mpr q] at h
      exact absurd h.1 (by simp)
    rw [List.pairwise_cons]
    refine ⟨fun z hz => ?_, ih⟩
    rcases List.mem_cons.mp hz with rfl | hz
    · exact hp
    · rw [List.pairwise_cons] at ih
      exact leS_trans hp (ih.1 z hz)
theorem sortedS_pw {l : List Str} (h : PyProof.Rows.sortedS l = true) : l.Pairwise (fun a b => leS a b = true) := by
  cases l with
  | nil => exact List.Pairwise.nil
  | cons x r => exact rising_pw r x h
theorem pw_unique : ∀ {l m : List Str}, l.Perm m → l.Pairwise (fun a b => leS a b = true) → m.Pairwise (fun a b => leS a b = true) → l = m
  | [], m, p, _, _ => by rw [List.Perm.eq_nil p.symm]
  | a :: l, [], p, _, _ => absurd p.length_eq (by simp)
  | a :: l, b :: m, p, h1, h2 => by
    rw [List.pairwise_cons] at h1 h2
    have e : a = b := by
      rcases List.mem_cons.mp (p.subset (List.mem_cons_self (a := a))) with e | ha
      · exact e
      · rcases List.mem_cons.mp (p.symm.subset (List.mem_cons_self (a := b))) with e | hb
        · exact e.symm
        · exact leS_anti (h1.1 b hb) (h2.1 a ha)
    subst e
    rw [pw_unique ((List.perm_cons a).mp p) h1.2 h2.2]
section
variable {K : PySem.W.Frag} {φ φ0 φ' Z : List Addr} {H H0 H' : Hp} {st st0 : Store} {x y z : Val} {u v : V} {xs ys : List Val} {vs us : List V} {Q : VK} {X : Cx}
/-! ### flat rows -/
theorem bools_of : ∀ {xs : List Val} {vs : List V} {l : List Bool}, IsL K φ Z H vs xs → boolsOf xs = some l → vs = l.map V.bl
  | [], _, _, h, e => by cases h; cases e; rfl
  | .bl b :: r, _, _, h, e => by
    simp only [boolsOf] at e
    obtain ⟨m, e1, rfl⟩ := Option.map_eq_some_iff.mp e
    cases h with
    | cons h1 h2 =>
      cases h1
      rw [bools_of h2 e1]
      rfl
  | .non :: _, _, _, _, e => by cases e
  | .int _ :: _, _, _, _, e => by cases e
  | .str _ :: _, _, _, _, e => by cases e
  | .tup _ :: _, _, _, _, e => by cases e
  | .ls _ :: _, _, _, _, e => by cases e
  | .sc _ :: _, _, _, _, e => by cases e
  | .dc _ :: _, _, _, _, e => by cases e
  | .ref _ :: _, _, _, _, e => by cases e
theorem ints_of : ∀ {xs : List Val} {vs : List V} {l : List Int}, IsL K φ Z H vs xs → intsOf xs = some l → vs = l.map V.int
  | [], _, _, h, e => by cases h; cases e; rfl
  | .int b :: r, _, _, h, e => by
    simp only [intsOf] at e
    obtain ⟨m, e1, rfl⟩ := Option.map_eq_some_iff.mp e
    cases h with
    | cons h1 h2 =>
      cases h1
      rw [ints_of h2 e1]
      rfl
  | .non :: _, _, _, _, e => by cases e
  | .bl _ :: _, _, _, _, e => by cases e
  | .str _ :: _, _, _, _, e => by cases e
  | .tup _ :: _, _, _, _, e => by cases e
  | .ls _ :: _, _, _, _, e => by cases e
  | .sc _ :: _, _, _, _, e => by cases e
  | .dc _ :: _, _, _, _, e => by cases e
  | .ref _ :: _, _, _, _, e => by cases e
theorem strs_of : ∀ {xs : List Val} {vs : List V} {l : List Str}, IsL K φ Z H vs xs → strsOf xs = some l → vs = l.map V.str
  | [], _, _, h, e => by cases h; cases e; rfl
  | .str b :: r, _, _, h, e => by
    simp only [strsOf] at e
    obtain ⟨m, e1, rfl⟩ := Option.map_eq_some_iff.mp e
    cases h with
    | cons h1 h2 =>
      cases h1
      rw [strs_of h2 e1]
      rfl
  | .non :: _, _, _, _, e => by cases e
  | .bl _ :: _, _, _, _, e => by cases e
  | .int _ :: _, _, _, _, e => by cases e
  | .tup _ :: _, _, _, _, e => by cases e
  | .ls _ :: _, _, _, _, e => by cases e
  | .sc _ :: _, _, _, _, e => by cases e
  | .dc _ :: _, _, _, _, e => by cases e
  | .ref _ :: _, _, _, _, e => by cases e
theorem isL_strs : ∀ l : List Str, IsL K φ Z H (l.map V.str) (l.map Val.str)
  | [] => .nil
  | x :: r => .cons (.str x) (isL_strs r)
theorem pairs_ok : ∀ {xs : List Val} {vs : List V} {l : List (Key × Val)}, IsL K φ Z H vs xs → pairsKV st xs = some l →
    ∃ (ps : List Addr) (kvs : List (Key × V)), vs = ps.map V.ref ∧ Paired (fun p kv => SqT K H p [kV kv.1, kv.2]) ps kvs ∧ IsKV K φ Z H kvs l
  | [], _, _, h, e => by
    cases h; cases e
    exact ⟨[], [], rfl, .nil, .nil⟩
  | .tup ws :: r, _, l, h, e => by
    have key : ∃ k x m kk, ws = [k, x] ∧ keyOf k = some kk ∧ pairsKV st r = some m ∧ l = (kk, x) :: m := by
      match ws, e with
      | [], e => simp [pairsKV] at e
      | [_], e => simp [pairsKV] at e
      | [k, x], e =>
        simp only [pairsKV] at e
        split at e
        · rename_i kk m h1 h2
          cases e
          exact ⟨k, x, m, kk, rfl, h1, h2, rfl⟩
        · cases e
      | _ :: _ :: _ :: _, e => simp [pairsKV] at e
    obtain ⟨k, x, m, kk, rfl, h1, h2, rfl⟩ := key
    cases h with
    | cons a b =>
      cases a with
      | tup f rr =>
        obtain ⟨ps, kvs, rfl, p1, p2⟩ := pairs_ok b h2
        cases rr with
        | cons ik rr =>
          cases rr with
          | cons ix rr =>
            cases rr
            have e1 := key_ok ik h1
            subst e1
            exact ⟨_ :: ps, (kk, _) :: kvs, rfl, .cons f.seq p1, .cons ix p2⟩
  | .non :: _, _, _, _, e => by cases e
  | .bl _ :: _, _, _, _, e => by cases e
  | .int _ :: _, _, _, _, e => by cases e
  | .str _ :: _, _, _, _, e => by cases e
  | .ls _ :: _, _, _, _, e => by cases e
  | .sc _ :: _, _, _, _, e => by cases e
  | .dc _ :: _, _, _, _, e => by cases e
  | .ref _ :: _, _, _, _, e => by cases e
/-! ### one argument -/
def b1N : B1 → Str
  | .len => "len" | .int => "int" | .tuple => "tuple" | .list => "list" | .dict => "dict" | .all => "all" | .any => "any" | .sum => "sum" | .sorted => "sorted" | .enum => "enumerate" | .range => "range"
def rB1 (K : PySem.W.Frag) : B1 → List V → Hp → VK → Prop
  | .len => fun xs H Q => (∃ x n, xs = [x] ∧ LenV K x H n ∧ Q (.int n) H) ∨ ∃ a kvs, xs = [V.ref a] ∧ Rd H a (.dK kvs) ∧ Q (.int kvs.length) H
  | .int => fun xs H Q => (∃ i, xs = [.int i] ∧ Q (.int i) H) ∨ ∃ k, xs = [.bl k] ∧ Q (.int (if k then 1 else 0)) H
  | .tuple => fun xs H Q => ∃ p ys, xs = [.ref p] ∧ ((SqL K H p ys ∧ ∀ l o, H l = none → FT o → Q (.ref l) (upd H l (.frz o (.tup ys)))) ∨ (SqT K H p ys ∧ Q (.ref p) H))
  | .list => fun xs H Q => (∃ p ys, xs = [.ref p] ∧ (SqL K H p ys ∨ SqT K H p ys) ∧ ∀ l, H l = none → Q (.ref l) (upd H l (.lst ys))) ∨
      ∃ (a : Addr) (kvs : List (Key × V)), xs = [.ref a] ∧ Rd H a (.dK kvs) ∧ ∀ p, H p = none → Q (.ref p) (upd H p (.lst (kvs.map fun kv => kV kv.1)))
  | .dict => fun xs H Q => (∃ (a : Addr) (ps : List Addr) (kvs : List (Key × V)), xs = [.ref a] ∧
      ((∃ o, H a = some (.frz o (.tup (ps.map V.ref))) ∧ FT o) ∨ ∃ (o : PySem.Obj) (its : Array Value) (n : Nat), K.lookup a = some o ∧ o.cls = .type "tuple" ∧ o.dict = none ∧ o.data = .seq its n ∧ its.size ≤ sizeLine ∧ Vals (ps.map V.ref) its.toList) ∧
      Paired (fun p kv => SqT K H p [kV kv.1, kv.2]) ps kvs ∧ ∀ p, H p = none → Q (.ref p) (upd H p (.dK (mergeK [] kvs)))) ∨
      (∃ (a : Addr) (ps : List Addr) (kvs : List (Key × V)), xs = [.ref a] ∧ SqL K H a (ps.map V.ref) ∧ Paired (fun p kv => SqT K H p [kV kv.1, kv.2]) ps kvs ∧
        ∀ p, H p = none → Q (.ref p) (upd H p (.dK (mergeK [] kvs)))) ∨
      ∃ (a : Addr) (kvs : List (Key × V)), xs = [.ref a] ∧ Rd H a (.dK kvs) ∧ ∀ p, H p = none → Q (.ref p) (upd H p (.dK kvs))
  | .all => rAll K
  | .any => rAny K
  | .sum => rSum K
  | .sorted => rSortedS K
  | .enum => fun _ _ _ => False
  | .range => fun _ _ _ => False
/-- a built-in's rule by its name -/
structure Blt (X : Cx) (x : Str) (r : List V → Hp → VK → Prop) : Prop where
  ok : (∃ id, bootBuiltins x = some (.builtin id) ∧ CallR X (.builtin id) r) ∨ ∃ T, bootBuiltins x = some (.type T) ∧ CallR X (.type T) r
  nn : x ≠ "__name__"
  nd : (x == ("__debug__" : Str)) = false
theorem rB1_ok (hc : X.calm = true) : ∀ f : B1, f ≠ .enum → f ≠ .range → Blt X (b1N f) (rB1 X.K f)
  | .len, _, _ => ⟨.inl ⟨"len", by decide +kernel, call_len.or call_lenDR⟩, by decide, by decide⟩
  | .int, _, _ => ⟨.inr ⟨"int", by decide +kernel, call_int1⟩, by decide, by decide⟩
  | .tuple, _, _ => ⟨.inr ⟨"tuple", by decide +kernel, call_tupleF⟩, by decide, by decide⟩
  | .list, _, _ => ⟨.inr ⟨"list", by decide +kernel, call_list_of.or (call_listD hc)⟩, by decide, by decide⟩
  | .dict, _, _ => ⟨.inr ⟨"dict", by decide +kernel, (call_dictT hc).or ((call_dictP hc).or call_dictD)⟩, by decide, by decide⟩
  | .all, _, _ => ⟨.inl ⟨"all", by decide +kernel, cr_all hc⟩, by decide, by decide⟩
  | .any, _, _ => ⟨.inl ⟨"any", by decide +kernel, cr_any hc⟩, by decide, by decide⟩
  | .sum, _, _ => ⟨.inl ⟨"sum", by decide +kernel, cr_sum hc⟩, by decide, by decide⟩
  | .sorted, _, _ => ⟨.inl ⟨"sorted", by decide +kernel, cr_sortedS⟩, by decide, by decide⟩
  | .enum, h, _ => absurd rfl h
  | .range, _, h => absurd rfl h
theorem b1_ok {f : B1} (e : Ext φ0 [] H0 φ H) (s : RelS K φ Z H st) (hv : Is K φ Z H v x) (h : b1V st f x = some z) (g : Gv K φ Z H H0 z st Q) : rB1 K f [v] H Q := by
  cases f with
  | len =>
    simp only [b1V] at h
    split at h
    · split at h
      · rename_i hc
        cases h; cases hv
        exact .inl ⟨_, _, rfl, ⟨small_line hc, rfl⟩, g.old e s trivial (.int _)⟩
      · cases h
    · cases h
      obtain ⟨a, ws, rfl, h2, h3⟩ := dict_of s hv (.inl rfl)
      refine .inr ⟨a, ws, rfl, h2, ?_⟩
      rw [h3.length]
      exact g.old e s trivial (.int _)
    · split at h
      · rename_i ws hs
        cases h
        obtain ⟨a, rfl, ha⟩ := hv.refI
        obtain ⟨c, vs, h1, h2, h3⟩ := s.lst hs
        rw [ha] at h1
        cases h1
        refine .inl ⟨_, vs.length, rfl, .inl ⟨_, .inl (.inl h2), rfl⟩, ?_⟩
        rw [h3.length]
        exact g.old e s trivial (.int _)
      · rename_i kvs hs
        cases h
        obtain ⟨a, ws, rfl, h2, h3⟩ := dict_of s hv (.inr ⟨_, rfl, hs⟩)
        refine .inr ⟨a, ws, rfl, h2, ?_⟩
        rw [h3.length]
        exact g.old e s trivial (.int _)
      · cases h
    · obtain ⟨ws, h1, rfl⟩ := Option.map_eq_some_iff.mp h
      obtain ⟨a, vs, rfl, hq, r⟩ := seq_of s hv h1
      refine .inl ⟨_, vs.length, rfl, ?_, ?_⟩
      · rcases hq with hq | hq
        · exact .inl ⟨_, hq, rfl⟩
        · exact .inr ⟨_, hq, rfl⟩
      · rw [r.length]
        exact g.old e s trivial (.int _)
  | int =>
    simp only [b1V] at h
    split at h
    · cases h; cases hv; exact .inl ⟨_, rfl, g.old e s trivial (.int _)⟩
    · cases h; cases hv; exact .inr ⟨_, rfl, g.old e s trivial (.int _)⟩
    · cases h
  | tuple =>
    simp only [b1V] at h
    obtain ⟨ws, h1, rfl⟩ := Option.map_eq_some_iff.mp h
    by_cases hx : ∃ l, x = .tup l
    · obtain ⟨l, rfl⟩ := hx
      cases h1
      cases hv with
      | tup f r => exact ⟨_, _, rfl, .inr ⟨f.seq, g.old e s trivial (.tup f r)⟩⟩
    · obtain ⟨a, vs, rfl, hq, r⟩ := seqL_of s hv h1 fun l el => hx ⟨l, el⟩
      exact ⟨_, _, rfl, .inl ⟨hq, g.tup e s r⟩⟩
  | list =>
    simp only [b1V] at h
    split at h
    · cases h
      obtain ⟨a, ws, rfl, h2, h3⟩ := dict_of s hv (.inl rfl)
      exact .inr ⟨a, ws, rfl, h2, g.lst e s h3.keys⟩
    · split at h
      · rename_i ws hs
        cases h
        obtain ⟨a, rfl, ha⟩ := hv.refI
        obtain ⟨c, vs, h1, h2, h3⟩ := s.lst hs
        rw [ha] at h1
        cases h1
        exact .inl ⟨_, vs, rfl, .inl (.inl (.inl h2)), g.lst e s h3⟩
      · rename_i kvs hs
        cases h
        obtain ⟨a, ws, rfl, h2, h3⟩ := dict_of s hv (.inr ⟨_, rfl, hs⟩)
        exact .inr ⟨a, ws, rfl, h2, g.lst e s h3.keys⟩
      · cases h
    · obtain ⟨ws, h1, rfl⟩ := Option.map_eq_some_iff.mp h
      obtain ⟨a, vs, rfl, hq, r⟩ := seq_of s hv h1
      exact .inl ⟨_, vs, rfl, hq, g.lst e s r⟩
  | dict =>
    simp only [b1V] at h
    split at h
    · obtain ⟨l, h1, rfl⟩ := Option.map_eq_some_iff.mp h
      cases hv with
      | tup f r =>
        obtain ⟨ps, kvs, rfl, p1, p2⟩ := pairs_ok r h1
        refine .inl ⟨_, ps, kvs, rfl, ?_, p1, g.dct e s (p2.putAll .nil)⟩
        rcases f with ⟨o, f, t⟩ | ⟨o, its, n, a1, a2, a3, a4, a5, a6⟩
        · exact .inl ⟨o, f.1, t⟩
        · exact .inr ⟨o, its, n, a1, a2, a3, a4, a5, a6⟩
    · obtain ⟨l, h1, rfl⟩ := Option.map_eq_some_iff.mp h
      cases hv with
      | ls f r =>
        obtain ⟨ps, kvs, rfl, p1, p2⟩ := pairs_ok r h1
        exact .inr (.inl ⟨_, ps, kvs, rfl, f.seq, p1, g.dct e s (p2.putAll .nil)⟩)
    · split at h
      · rename_i kvs hs
        cases h
        obtain ⟨a, ws, rfl, h2, h3⟩ := dict_of s hv (.inr ⟨_, rfl, hs⟩)
        exact .inr (.inr ⟨a, ws, rfl, h2, g.dct e s h3⟩)
      · cases h
    · cases h
      obtain ⟨a, ws, rfl, h2, h3⟩ := dict_of s hv (.inl rfl)
      exact .inr (.inr ⟨a, ws, rfl, h2, g.dct e s h3⟩)
    · cases h
  | all =>
    simp only [b1V] at h
    split at h
    · obtain ⟨l, h1, rfl⟩ := Option.map_eq_some_iff.mp h
      cases hv with
      | ls f r =>
        have e1 := bools_of r h1
        subst e1
        exact ⟨_, l, rfl, f.seq, g.old e s trivial (.bl _)⟩
    · cases h
  | any =>
    simp only [b1V] at h
    split at h
    · obtain ⟨l, h1, rfl⟩ := Option.map_eq_some_iff.mp h
      cases hv with
      | ls f r =>
        have e1 := bools_of r h1
        subst e1
        exact ⟨_, l, rfl, f.seq, g.old e s trivial (.bl _)⟩
    · cases h
  | sum =>
    simp only [b1V] at h
    split at h
    · obtain ⟨l, h1, rfl⟩ := Option.map_eq_some_iff.mp h
      cases hv with
      | ls f r =>
        have e1 := ints_of r h1
        subst e1
        exact ⟨_, l, rfl, f.seq, g.old e s trivial (.int _)⟩
    · cases h
  | sorted =>
    simp only [b1V] at h
    split at h
    · rename_i ws h0
      obtain ⟨l, h1, h2⟩ := Option.bind_eq_some_iff.mp h
      split at h2
      · rename_i hc
        cases h2
        obtain ⟨a, vs, rfl, hq, r⟩ := lst_of s hv h0
        have e1 := strs_of r h1
        subst e1
        refine ⟨_, l, rfl, .inl (.inl hq), hc, fun m p pm sm hp => ?_⟩
        have em : m = sortS l := pw_unique (pm.trans (sortS_perm l).symm) (sortedS_pw sm) (sortS_sorted l)
        subst em
        exact g.lst e s (isL_strs _) p hp
      · cases h2
    · cases h
  | enum => cases h
  | range => cases h
/-! ### isinstance -/
def tyN : Ty → String
  | .int => "int" | .bool => "bool" | .str => "str" | .tuple => "tuple" | .list => "list"
def tyS : Ty → Str
  | .int => "int" | .bool => "bool" | .str => "str" | .tuple => "tuple" | .list => "list"
theorem ty_boot : ∀ t : Ty, bootBuiltins (tyS t) = some (.type (tyN t)) ∧ tyS t ≠ "__name__" ∧ (tyS t == ("__debug__" : Str)) = false := by
  intro t
  cases t <;> decide +kernel
theorem isi_boot : bootBuiltins "isinstance" = some (.builtin "isinstance") := by decide +kernel
theorem ty_kit : ∀ (a b : Ty), kitB (tyN a) (tyN b) = some (decide (a = b) || (decide (a = .bool) && decide (b = .int))) := by
  intro a b
  cases a <;> cases b <;> decide +kernel
theorem ty_kitN : ∀ (b : Ty), kitB "NoneType" (tyN b) = some false := by
  intro b
  cases b <;> decide +kernel
theorem isi_ok {t : Ty} {b : Bool} (s : RelS K φ Z H st) (hv : Is K φ Z H v x) (h : isiV st x t = some b) (q : Q (.bl b) H) : rIsi K [v, .ty (tyN t)] H Q := by
  have key : ∀ (n : String) (w : Ty), n = tyN w → tyOf st x = some w → x ≠ .non → (∀ kvs, x ≠ .dc kvs) → TyX K H v (.type n) → rIsi K [v, .ty (tyN t)] H Q := by
    rintro n w rfl e hn hd ty
    have e2 : b = (decide (w = t) || (decide (w = .bool) && decide (t = .int))) := by
      unfold isiV at h
      split at h
      · exact absurd rfl hn
      · exact absurd rfl (hd _)
      · rw [e] at h
        cases h
        rfl
    refine ⟨v, _, _, _, _, rfl, .ty _, ty, kit_ty (ty_kit w t), ?_⟩
    rw [← e2]
    exact q
  cases x with
  | non =>
    cases hv
    cases h
    exact ⟨_, _, _, _, _, rfl, .ty _, .base .non, kit_ty (ty_kitN t), q⟩
  | bl i => cases hv; exact key "bool" .bool rfl rfl (by simp) (by simp) (.base (.bl _))
  | int i => cases hv; exact key "int" .int rfl rfl (by simp) (by simp) (.base (.int _))
  | str i => cases hv; exact key "str" .str rfl rfl (by simp) (by simp) (.base (.str _))
  | tup i =>
    cases hv with
    | tup f r =>
      refine key "tuple" .tuple rfl rfl (by simp) (by simp) ?_
      rcases f with ⟨o, f, t⟩ | ⟨o, its, n, a1, a2, _⟩
      · exact .fTuple f.1
      · exact .kTuple a1 a2
  | ls i =>
    cases hv with
    | ls f r => exact key "list" .list rfl rfl (by simp) (by simp) (.base (.lst f.1))
  | sc i =>
    cases hv with
    | sc f r =>
      refine key "list" .list rfl rfl (by simp) (by simp) ?_
      rcases f with ⟨f | ⟨o, f⟩, _⟩ | ⟨o, its, n, a1, a2, _⟩
      · exact .base (.lst f)
      · exact .base (.frz f)
      · exact .kList a1 a2
  | dc i => cases h
  | ref n =>
    obtain ⟨a, rfl, ha⟩ := hv.refI
    have hl : ∃ ws, st[n]? = some (.lst ws) := by
      unfold isiV at h
      split at h
      · rename_i e; cases e
      · rename_i e; cases e
      · simp only [tyOf] at h
        split at h
        · rename_i w hw
          split at hw
          · rename_i ws hs
            exact ⟨ws, hs⟩
          · cases hw
        · cases h
    obtain ⟨ws, hs⟩ := hl
    obtain ⟨c, vs, h1, h2, h3⟩ := s.lst hs
    rw [ha] at h1
    cases h1
    exact key "list" .list rfl (by simp [tyOf, hs]) (by simp) (by simp) (.base (.lst h2))
/-! ### two arguments -/
def b2N : B2 → Str
  | .min => "min" | .max => "max" | .zip => "zip"
def rB2 : B2 → List V → Hp → VK → Prop
  | .min => fun xs H Q => ∃ i j, xs = [.int i, .int j] ∧ Q (.int (if j < i then j else i)) H
  | .max => fun xs H Q => ∃ i j, xs = [.int i, .int j] ∧ Q (.int (if j > i then j else i)) H
  | .zip => fun _ _ _ => False
theorem rB2_ok (hc : X.calm = true) : ∀ f : B2, f ≠ .zip → Blt X (b2N f) (rB2 f)
  | .min, _ => ⟨.inl ⟨"min", by decide +kernel, call_min2 hc⟩, by decide, by decide⟩
  | .max, _ => ⟨.inl ⟨"max", by decide +kernel, call_max2 hc⟩, by decide, by decide⟩
  | .zip, h => absurd rfl h
theorem b2_ok {f : B2} (hv : Is K φ Z H v x) (hu : Is K φ Z H u y) (h : b2V st f x y = some z) (q : ∀ w, Is K φ Z H w z → Q w H) : rB2 f [v, u] H Q := by
  unfold b2V at h
  split at h
  · cases h; cases hv; cases hu; exact ⟨_, _, rfl, q _ (.int _)⟩
  · cases h; cases hv; cases hu; exact ⟨_, _, rfl, q _ (.int _)⟩
  · cases h
end
end PV
end

section
set_option Elab.async false
set_option linter.all false
set_option maxRecDepth 100000
/-! PvMth: what changes a list or a dict of the store; methods. -/
namespace PV
open PySem L2
section
variable {K : PySem.W.Frag} {φ φ0 φ' Z : List Addr} {H H0 H' : Hp} {st st0 st' : Store} {x y z : Val} {u v w : V} {xs ys : List Val} {vs us : List V} {Q : VK} {X : Cx}
/-- a step's answer is there -/
theorem PstY.split {α β : Type} {r : R α} {f : α → Store → R β} {k : β → Store → List Addr → Hp → Prop} (h : Pst K φ Z H (r.bind f) k) : ∃ a st', r = .ok a st' ∧ Pst K φ Z H (f a st') k := by
  cases r with
  | ok a st' => exact ⟨a, st', rfl, h⟩
  | exc c fs st' => exact h.elim
  | bad => exact h.elim
/-- a list of the store changes -/
theorem lst_write {n : Nat} {a : Addr} (s : RelS K φ Z H st) (hn : φ[n]? = some a) (hv : IsL K φ Z H vs xs) : Ext φ [] H φ (upd H a (.lst vs)) ∧ RelS K φ Z (upd H a (.lst vs)) (st.set n (.lst xs)) := by
  have ha : a ∈ φ := List.mem_of_getElem? hn
  have e : Ext φ [] H φ (upd H a (.lst vs)) := Ext.write ha
  exact ⟨e, s.write hn ⟨vs, upd_same, hv.mono e⟩⟩
theorem dct_write {n : Nat} {a : Addr} {xs : List (Key × Val)} {vs : List (Key × V)} (s : RelS K φ Z H st) (hn : φ[n]? = some a) (hv : IsKV K φ Z H vs xs) : Ext φ [] H φ (upd H a (.dK vs)) ∧ RelS K φ Z (upd H a (.dK vs)) (st.set n (.dK xs)) := by
  have ha : a ∈ φ := List.mem_of_getElem? hn
  have e : Ext φ [] H φ (upd H a (.dK vs)) := Ext.write ha
  exact ⟨e, s.write hn ⟨vs, upd_same, hv.mono e⟩⟩
theorem app_ok (s : RelS K φ Z H st) (hv : Is K φ Z H v x) (hu : Is K φ Z H u y) (h : appV st x y = .ok () st') (q : ∀ H', Ext φ [] H φ H' → RelS K φ Z H' st' → Q .non H') : rAppend v [u] H Q := by
  unfold appV at h
  split at h
  · rename_i n
    split at h
    · rename_i ws hs
      split at h
      · rename_i hc
        cases h
        obtain ⟨a, rfl, ha⟩ := hv.refI
        obtain ⟨c, vs, h1, h2, h3⟩ := s.lst hs
        rw [ha] at h1
        cases h1
        have k := lst_write s ha (h3.append (.cons hu .nil))
        exact ⟨a, vs, u, rfl, rfl, h2, by rw [h3.length, sizeLine_eq]; have : small = 100000 := rfl; omega, q _ k.1 k.2⟩
      · cases h
    · cases h
  · cases h
theorem app_ty (s : RelS K φ Z H st) (hv : Is K φ Z H v x) {xs : List Val} (h : lstOf st x = some xs) : tyV K "list" v H := by
  obtain ⟨a, vs, rfl, ha, _⟩ := lst_of s hv h
  exact .inl ⟨rfl, vs, .inl (.inl ha)⟩
theorem ext_ok (s : RelS K φ Z H st) (hv : Is K φ Z H v x) (hu : Is K φ Z H u y) (h : extV st x y = .ok () st') (q : ∀ H', Ext φ [] H φ H' → RelS K φ Z H' st' → Q .non H') : rExtend v [u] H Q := by
  unfold extV at h
  split at h
  · rename_i n
    split at h
    · rename_i ws ts hs
      split at h
      · rename_i hc
        cases h
        obtain ⟨a, rfl, ha⟩ := hv.refI
        obtain ⟨c, vs, h1, h2, h3⟩ := s.lst hs
        rw [ha] at h1
        cases h1
        cases hu with
        | ls f r =>
          have k := lst_write s ha (h3.append r)
          exact ⟨a, _, vs, _, rfl, rfl, h2, f.1, by rw [h3.length, r.length, sizeLine_eq]; have : small = 100000 := rfl; omega, q _ k.1 k.2⟩
      · cases h
    · cases h
  · cases h
theorem first_str : ∀ {l : List Str} {k : Str}, k ∈ l → ∃ j, l[j]? = some k ∧ (∀ m, m < j → l[m]? ≠ some k) ∧ l.erase k = l.eraseIdx j
  | [], k, h => by cases h
  | a :: l, k, h => by
    by_cases e : a = k
    · subst e
      exact ⟨0, rfl, fun m hm => absurd hm (by omega), by simp⟩
    · obtain ⟨j, h1, h2, h3⟩ := first_str (l := l) ((List.mem_cons.mp h).resolve_left fun q => e q.symm)
      refine ⟨j + 1, by simpa using h1, fun m hm => ?_, by rw [List.erase_cons_tail (by simpa using e), h3]; simp⟩
      cases m with
      | zero => simpa using e
      | succ m => simpa using h2 m (by omega)
theorem rem_ok (s : RelS K φ Z H st) (hv : Is K φ Z H v x) (hu : Is K φ Z H u y) (h : remV st x y = .ok () st') (q : ∀ H', Ext φ [] H φ H' → RelS K φ Z H' st' → Q .non H') : rRemS v [u] H Q := by
  unfold remV at h
  split at h
  · rename_i n t
    split at h
    · rename_i ws hs
      split at h
      · rename_i l hl
        split at h
        · rename_i hm
          cases h
          obtain ⟨a, rfl, ha⟩ := hv.refI
          obtain ⟨c, vs, h1, h2, h3⟩ := s.lst hs
          rw [ha] at h1
          cases h1
          cases hu
          have e1 := strs_of h3 hl
          subst e1
          obtain ⟨j, j1, j2, j3⟩ := first_str hm
          have k := lst_write s ha (isL_strs (K := K) (φ := φ) (Z := Z) (H := H) (l.eraseIdx j))
          refine ⟨a, l, t, j, rfl, rfl, h2, j1, j2, q _ k.1 ?_⟩
          rw [j3]
          exact k.2
        · cases h
      · cases h
    · cases h
  · cases h
theorem pop_ok (s : RelS K φ Z H st) (hv : Is K φ Z H v x) (hu : Is K φ Z H u y) (h : popV st x y = .ok z st') (q : ∀ w H', Ext φ [] H φ H' → RelS K φ Z H' st' → Is K φ Z H' w z → Q w H') : rPopAt v [u] H Q := by
  unfold popV at h
  split at h
  · rename_i n i
    split at h
    · rename_i ws hs
      split at h
      · rename_i k hk
        split at h
        · rename_i x hx
          split at h
          · rename_i hc
            cases h
            obtain ⟨a, rfl, ha⟩ := hv.refI
            obtain ⟨c, vs, h1, h2, h3⟩ := s.lst hs
            rw [ha] at h1
            cases h1
            cases hu
            obtain ⟨w, hw, iw⟩ := h3.get hx
            have k' := lst_write s ha (h3.erase k)
            rw [ixAt_eq, ← h3.length] at hk
            obtain ⟨s1, s2, s3, s4⟩ := ixN_seq hk
            have hl := h3.length
            have hc' : ws.length ≤ 100000 := hc
            exact ⟨a, vs, i, k, w, rfl, rfl, h2, by omega, by omega, s1, hw, q w _ k'.1 k'.2 (iw.mono k'.1)⟩
          · cases h
        · cases h
      · cases h
    · cases h
  · cases h
def rSet : TSet := fun o i v H Q => rSetL o i v H Q ∨ ∃ a H4, o = .ref a ∧ DPut H a i v H4 ∧ Q H4
theorem rSet_ok (hu : X.A.units + 1 < cLine) : PSet X rSet := by
  intro pins s σ H o i v ov iv u Q I ro ri rv h
  rcases h with h | ⟨a, H4, rfl, g, q⟩
  · exact set_list pins s σ H o i v ov iv u Q I ro ri rv h
  · cases ro
    exact d_setItem hu I g ri rv fun s' I' => ⟨H4, I', q⟩
theorem set_ok {Q : Hp → Prop} (s : RelS K φ Z H st) (hv : Is K φ Z H v x) (hu : Is K φ Z H u y) (hw : Is K φ Z H w z) (h : setV st x y z = .ok () st') (q : ∀ H', Ext φ [] H φ H' → RelS K φ Z H' st' → Q H') : rSet v u w H Q := by
  unfold setV at h
  split at h
  · rename_i n
    split at h
    · rename_i ws hs
      split at h
      · rename_i j
        split at h
        · rename_i k hk
          cases h
          obtain ⟨a, rfl, ha⟩ := hv.refI
          obtain ⟨c, vs, h1, h2, h3⟩ := s.lst hs
          rw [ha] at h1
          cases h1
          cases hu
          have k' := lst_write s ha (h3.set hw k)
          rw [ixAt_eq, ← h3.length] at hk
          exact .inl ⟨a, vs, _, k, rfl, rfl, h2, hk, q _ k'.1 k'.2⟩
        · cases h
      · cases h
    · rename_i kvs hs
      split at h
      · rename_i k hk
        split at h
        · rename_i hc
          cases h
          obtain ⟨a, rfl, ha⟩ := hv.refI
          obtain ⟨c, vs, h1, h2, h3⟩ := s.dK hs
          rw [ha] at h1
          cases h1
          have e := key_ok hu hk
          subst e
          have k' := dct_write s ha (h3.put k hw)
          exact .inr ⟨a, _, rfl, .k h2 (by rw [h3.length, sizeLine_eq]; have : small = 100000 := rfl; omega), q _ k'.1 k'.2⟩
        · cases h
      · cases h
    · cases h
  · cases h
/-! ### join, index -/
def rJoin (K : PySem.W.Frag) : V → List V → Hp → VK → Prop := fun x xs H Q => ∃ a p, ∃ ys : List Str, x = .str a ∧ xs = [.ref p] ∧ (SqL K H p (ys.map V.str) ∨ SqT K H p (ys.map V.str)) ∧
    (ys.map (·.length)).sum + ys.length * a.length ≤ 16777216 ∧ Q (.str (Txt.join a ys)) H
theorem join_ok (s : RelS K φ Z H st) (hv : Is K φ Z H v x) (hu : Is K φ Z H u y) (h : joinV st x y = some z) (q : ∀ w, Is K φ Z H w z → Q w H) : rJoin K v [u] H Q ∧ tyV K "str" v H := by
  unfold joinV at h
  split at h
  · rename_i t
    split at h
    · rename_i ws hs
      obtain ⟨l, h1, h2⟩ := Option.bind_eq_some_iff.mp h
      split at h2
      · rename_i hc
        cases h2
        cases hv
        obtain ⟨a, vs, rfl, hq, r⟩ := seq_of s hu hs
        have e1 := strs_of r h1
        subst e1
        refine ⟨⟨t, a, l, rfl, rfl, hq, ?_, q _ ?_⟩, rfl⟩
        · have hc' : (t.length + 1) * (l.length + 1) + (l.map (·.length)).sum ≤ 100000 := hc
          have e3 : l.length * t.length ≤ (t.length + 1) * (l.length + 1) := by
            rw [Nat.mul_comm]
            exact Nat.mul_le_mul (Nat.le_succ _) (Nat.le_succ _)
          omega
        · rw [TL.join_eq]
          exact .str _
      · cases h2
    · cases h
  · cases h
theorem firstEq_ok {d : PyData} : ∀ {ds : List PyData} {k : Nat}, firstEq d ds = some k → ∃ z, ds[k]? = some z ∧ PyData.eqv z d = true ∧ ∀ (m : Nat) (z' : PyData), m < k → ds[m]? = some z' → PyData.eqv z' d = false
  | [], _, h => by cases h
  | a :: r, k, h => by
    simp only [firstEq] at h
    split at h
    · rename_i hc
      cases h
      exact ⟨a, rfl, hc, fun m _ hm => absurd hm (by omega)⟩
    · rename_i hc
      obtain ⟨j, h1, rfl⟩ := Option.map_eq_some_iff.mp h
      obtain ⟨z, z1, z2, z3⟩ := firstEq_ok h1
      refine ⟨z, by simpa using z1, z2, fun m z' hm hz => ?_⟩
      cases m with
      | zero =>
        cases hz
        simpa using hc
      | succ m => exact z3 m z' (by omega) (by simpa using hz)
theorem dp_list {ds : List PyData} (h : Dp K H v (.list ds)) : ∃ a, v = .ref a ∧ tyV K "list" v H := by
  cases h with
  | lst hs _ => exact ⟨_, rfl, .inl ⟨rfl, _, hs⟩⟩
theorem index_ok (s : RelS K φ Z H st) (hv : Is K φ Z H v x) (hu : Is K φ Z H u y) (h : indexV st x y = some z) (q : ∀ w, Is K φ Z H w z → Q w H) : rIndexD K v [u] H Q := by
  unfold indexV at h
  split at h
  · rename_i ds d h1 h2
    split at h
    · rename_i hs
      rw [Bool.and_eq_true] at hs
      obtain ⟨k, h3, rfl⟩ := Option.map_eq_some_iff.mp h
      obtain ⟨z, z1, z2, z3⟩ := firstEq_ok h3
      have hd := dataOf_ok s hv h1
      obtain ⟨a, rfl, _⟩ := dp_list hd
      exact ⟨a, u, d, ds, k, z, rfl, rfl, hd, dataOf_ok s hu h2, hs.1, hs.2, z1, z2, z3, q _ (.int _)⟩
    · cases h
  · cases h
/-! ### dicts -/
theorem isD_of (s : RelS K φ Z H st) (hv : Is K φ Z H v x) (h : isDict st x = true) : ∃ a, v = .ref a ∧ IsD H a := by
  obtain ⟨kvs, e⟩ := isDict_cases h
  obtain ⟨a, ws, rfl, h2, _⟩ := dict_of s hv e
  exact ⟨a, rfl, .inl ⟨ws, h2⟩⟩
theorem popD_ok (s : RelS K φ Z H st) (hv : Is K φ Z H v x) (hu : Is K φ Z H u y) (hw : Is K φ Z H w z) {z' : Val} (h : popDV st x y z = .ok z' st') (q : ∀ w H', Ext φ [] H φ H' → RelS K φ Z H' st' → Is K φ Z H' w z' → Q w H') :
    ∃ a kvs k, v = .ref a ∧ H a = some (.dK kvs) ∧ u = kV k ∧ (∀ w', valV kvs k = some w' → Q w' (upd H a (.dK (dropK kvs k)))) ∧ (valV kvs k = none → Q w H) := by
  unfold popDV at h
  split at h
  · rename_i n
    split at h
    · rename_i kvs k hs hk
      obtain ⟨a, rfl, ha⟩ := hv.refI
      obtain ⟨c, vs, h1, h2, h3⟩ := s.dK hs
      rw [ha] at h1
      cases h1
      refine ⟨a, vs, k, rfl, h2, key_ok hu hk, fun w' e => ?_, fun e => ?_⟩
      · rcases h3.look k with ⟨zz, ww, l1, l2, l3⟩ | ⟨l1, l2⟩
        · rw [l1] at h
          cases h
          rw [e] at l2
          cases l2
          have k' := dct_write s ha (h3.drop k)
          exact q _ _ k'.1 k'.2 (l3.mono k'.1)
        · rw [e] at l2
          cases l2
      · rcases h3.look k with ⟨zz, ww, l1, l2, l3⟩ | ⟨l1, l2⟩
        · rw [e] at l2
          cases l2
        · rw [l1] at h
          cases h
          exact q _ _ Ext.refl s hw
    · cases h
  · cases h
end
end PV
end

section
set_option Elab.async false
set_option linter.all false
set_option maxRecDepth 100000
/-! PvNode: each form of an expression does what the evaluator says. -/
namespace PV
open PySem L2
/-! ### forms of syntax -/
def notStar : Expr → Bool
  | .Starred _ _ => false
  | _ => true
def notSlice : Expr → Bool
  | .Slice _ _ _ _ => false
  | _ => true
def notSuper : Expr → Bool
  | .Call (.Name _ _) [] [] _ => false
  | _ => true
def notSet : Expr → Bool
  | .Set _ _ _ => false
  | _ => true
def notComp : Expr → Bool
  | .ListComp _ _ _ _ => false
  | .SetComp _ _ _ _ => false
  | .DictComp _ _ _ _ _ => false
  | _ => true
/-- its truth is its value's truth -/
def plainTest : Expr → Bool
  | .UnaryOp .Not _ _ => false
  | .BoolOp _ _ _ => false
  | .IfExp _ _ _ _ => false
  | .Compare _ _ _ _ => false
  | _ => true
theorem star_of {e : Expr} {es : List Expr} {env : PySem.Env} (h : notStar e = true) : starEach (e :: es) env = (false, eval e env) :: starEach es env := by
  cases e <;> first | rfl | cases h
theorem ix_plain {e : Expr} (h : notSlice e = true) : PlainIx e := by
  intro o i
  cases e <;> first | rfl | cases h
theorem base_of {o : Expr} {m : Str} {env : PySem.Env} (h : notSuper o = true) : attributeBase o m env (eval o env) = eval o env := by
  unfold attributeBase
  cases o with
  | Call f as ks p =>
    cases f with
    | Name id q =>
      cases as with
      | nil =>
        cases ks with
        | nil => cases h
        | cons a b => rfl
      | cons a b => rfl
    | _ => rfl
  | _ => rfl
theorem folded_of {e : Expr} {env : PySem.Env} (h : notSet e = true) (x : Value) : foldedSetIterable e env x = pure x := by
  unfold foldedSetIterable
  cases e <;> first | rfl | cases h
theorem swaps_of {e : Expr} {t : Option Expr} {l : Nat} {env : PySem.Env} (h : notComp e = true) : swapsWith e t l env = pure false := by
  unfold swapsWith
  cases e <;> first | rfl | cases h
theorem test_of {e : Expr} {env : PySem.Env} (h : plainTest e = true) (whole : Sem Value) : isTrue e env whole = (do let v ← whole; standAt e.pos; holding [v] (truthy v)) := by
  cases e with
  | UnaryOp op a p => cases op <;> first | rfl | cases h
  | BoolOp a b c => cases h
  | IfExp a b c d => cases h
  | Compare a b c d => cases h
  | _ => rfl
theorem noset_in {e : Expr} {op : CmpOp} (h : notSet e = true) : behindInMarks op e = false := by
  cases e <;> first | rfl | cases h
theorem noset_last {e f : Expr} {op op' : CmpOp} (h : notSet f = true) : lastMarks [op, op'] [e, f] = false := by
  show lastMarks [op'] [f] = false
  exact noset_in h
theorem any_star {es : List Expr} {env : PySem.Env} {pos : Pos} (h : es.all notStar = true) : (backTo pos (starEach es env)).any (·.1) = false := by
  induction es with
  | nil => rfl
  | cons e es ih =>
    rw [List.all_cons, Bool.and_eq_true] at h
    rw [star_of h.1]
    show (false || (backTo pos (starEach es env)).any (·.1)) = false
    rw [ih h.2]
    rfl

/-- .. what is new may be claimed -/
def tF (K : PySem.W.Frag) (cf : CallF) (p : E) : TE := fun σ H Q => ∃ φ Z env st, RelE K φ Z H σ env ∧ RelS K φ Z H st ∧ Pst K φ Z H (evE cf p env st) (wF K Z H Q)
theorem tE_F {K : PySem.W.Frag} {cf : CallF} {p : E} (σ : St) (H : Hp) (Q : VK) (h : tE K cf p σ H Q) : tF K cf p σ H Q := by
  obtain ⟨φ, Z, env, st, hE, hS, h⟩ := h
  exact ⟨φ, Z, env, st, hE, hS, h.imp fun x st' φ' H' e s q => wF_of hS q⟩
theorem tOwn_F {K : PySem.W.Frag} {cf : CallF} {p : E} (σ : St) (H : Hp) (Q : VK) (h : tE K cf (.own p) σ H Q) : tF K cf p σ H Q := by
  obtain ⟨φ, Z, env, st, hE, hS, h⟩ := h
  refine ⟨φ, Z, env, st, hE, hS, ?_⟩
  simp only [evE] at h
  cases hr : evE cf p env st with
  | exc c fs st' => rw [hr] at h; exact h.elim
  | bad => rw [hr] at h; exact h.elim
  | ok x st1 =>
    rw [hr] at h
    simp only [R.bind_ok] at h
    intro φ1 H1 e1 s1
    have ext : ∀ p : Addr, H p = none → Ext φ [] H (φ1 ++ [p]) H1 := by
      intro p h0
      refine ⟨?_, e1.keep, e1.keepD, fun a h1' h2 => ⟨?_, (e1.news a h1' h2).2⟩⟩
      · obtain ⟨t, rfl⟩ := e1.pre
        exact ⟨t ++ [p], by simp⟩
      · rw [List.mem_append, List.mem_singleton]
        rintro (q | q)
        · exact (e1.news a h1' h2).1 q
        · exact h2 (q ▸ h0)
    have hz : ∀ p : Addr, H p = none → p ∉ Z := fun p h0 hm => (hS.zin p hm).1 h0
    have last : ∀ p : Addr, (φ1 ++ [p])[st1.length]? = some p := fun p => by
      rw [← s1.len, List.getElem?_append_right (Nat.le_refl _), Nat.sub_self]
      rfl
    cases x with
    | ls xs =>
      intro p vs h0 hp ho sZ hv
      exact h (φ1 ++ [p]) H1 (ext p h0) (sZ.store (hz p h0) ⟨vs, ho, hv.chg chg_store⟩) (.ref p) (.ref (last p))
    | dc xs =>
      intro p vs h0 hp ho sZ hv
      exact h (φ1 ++ [p]) H1 (ext p h0) (sZ.store (hz p h0) ⟨vs, ho, hv.chg chg_store⟩) (.ref p) (.ref (last p))
    | _ => exact h.elim
end PV
end

section
set_option Elab.async false
set_option linter.all false
set_option maxRecDepth 100000
/-! PvExp: the forms of expressions, one by one. -/
namespace PV
open PySem L2
section
variable {X : Cx} {cf : CallF} {pos pos' apos cpos : Pos} {ea eb ec : Expr} {a b c : E}
theorem nd_var {i : Nat} {x : Str} (hN : X.N[i]? = some x) (hv : Vis X.env.scope x) (hd : (x == ("__debug__" : Str)) = false) (hcd : (x == ("__classdict__" : Str)) = false) : PE X (.Name x pos) (tE X.K cf (.var i)) :=
  peW (pe_var hN hv hd hcd) fun σ H Q ⟨φ, Z, env, st, hE, hS, h⟩ => by
    simp only [evE] at h
    split at h
    · rename_i v e
      obtain ⟨w, h1, h2⟩ := hE.at_ i v e
      exact ⟨w, h1, h.now hS w h2⟩
    · exact h.elim
theorem nd_int {i : Int} {j : Nat} : PE X (.Constant (.int i) j pos) (tE X.K cf (.cst (.int i))) :=
  peW pe_int fun σ H Q ⟨φ, Z, env, st, hE, hS, h⟩ => by simp only [evE] at h; exact h.now hS _ (.int i)
theorem nd_str {i : Str} {j : Nat} : PE X (.Constant (.str i) j pos) (tE X.K cf (.cst (.str i))) :=
  peW pe_str fun σ H Q ⟨φ, Z, env, st, hE, hS, h⟩ => by simp only [evE] at h; exact h.now hS _ (.str i)
theorem nd_bl {i : Bool} {j : Nat} : PE X (.Constant (.bool i) j pos) (tE X.K cf (.cst (.bl i))) :=
  peW pe_bl fun σ H Q ⟨φ, Z, env, st, hE, hS, h⟩ => by simp only [evE] at h; exact h.now hS _ (.bl i)
theorem nd_non {j : Nat} : PE X (.Constant .none j pos) (tE X.K cf (.cst .non)) :=
  peW pe_non fun σ H Q ⟨φ, Z, env, st, hE, hS, h⟩ => by simp only [evE] at h; exact h.now hS _ .non
theorem nd_glo {x : Str} {v : Val} {w : V} {u : Value} (hg : Gl X x) (hm : X.mg x = some u) (r : RelV w u) (hi : ∀ φ Z H, (∀ b o, X.K.lookup b = some o → H b = none) → Is X.K φ Z H w v) (hd : (x == ("__debug__" : Str)) = false)
    (hk : ∀ φ Z H, Is X.K φ Z H w v) : PE X (.Name x pos) (tE X.K cf (.glo x v)) :=
  peW (pe_glob hg hm r hd) fun σ H Q ⟨φ, Z, env, st, hE, hS, h⟩ => by simp only [evE] at h; exact h.now hS _ (hk φ Z H)
theorem nd_bin {o : Op} (ha : PE X ea (tE X.K cf a)) (hb : PE X eb (tE X.K cf b)) : PE X (.BinOp ea (opE o) eb pos) (tF X.K cf (.bin o a b)) :=
  peW (pe_op (rBin_ok o) ha hb) fun σ H Q ⟨φ, Z, env, st, hE, hS, h⟩ => by
    simp only [evE] at h
    refine tE.of hE hS h fun x st1 v φ1 H1 e1 s1 E1 iv h1 => tE.of E1 s1 h1 fun y st2 u φ2 H2 e2 s2 E2 iu h2 => ?_
    obtain ⟨z, hz, h3⟩ := h2.get
    exact bin_ok (e1.trans e2) s2 (iv.mono e2) iu hz h3
theorem nd_neg (ha : PE X ea (tE X.K cf a)) : PE X (.UnaryOp .USub ea pos) (tE X.K cf (.neg a)) :=
  peW (pe_un un_neg ha) fun σ H Q ⟨φ, Z, env, st, hE, hS, h⟩ => by
    simp only [evE] at h
    refine tE.of hE hS h fun x st1 v φ1 H1 e1 s1 E1 iv h1 => ?_
    cases x <;> first | exact h1.elim | skip
    cases iv
    exact ⟨_, rfl, h1.now s1 _ (.int _)⟩
theorem nd_not (ha : PE X ea (tE X.K cf a)) : PE X (.UnaryOp .Not ea pos) (tE X.K cf (.not a)) :=
  peW (pe_notT ha) fun σ H Q ⟨φ, Z, env, st, hE, hS, h⟩ => by
    simp only [evE] at h
    refine tE.of hE hS h fun x st1 v φ1 H1 e1 s1 E1 iv h1 => ?_
    obtain ⟨k, hk, h2⟩ := h1.got
    exact ⟨k, tru_of s1 iv hk, h2.now s1 _ (.bl _)⟩
theorem nd_and {e2 : Expr} {rest : List Expr} (ha : PE X ea (tE X.K cf a)) (hb : PE X (.BoolOp .And (e2 :: rest) pos) (tE X.K cf b)) : PE X (.BoolOp .And (ea :: e2 :: rest) pos) (tE X.K cf (.and a b)) :=
  peW (pe_andT ha hb) fun σ H Q ⟨φ, Z, env, st, hE, hS, h⟩ => by
    simp only [evE] at h
    refine tE.of hE hS h fun x st1 v φ1 H1 e1 s1 E1 iv h1 => ?_
    obtain ⟨k, hk, h2⟩ := h1.got
    refine ⟨k, tru_of s1 iv hk, ?_⟩
    cases k with
    | true => exact ⟨φ1, Z, env, st1, E1, s1, h2⟩
    | false => exact h2.now s1 _ iv
theorem nd_or {e2 : Expr} {rest : List Expr} (ha : PE X ea (tE X.K cf a)) (hb : PE X (.BoolOp .Or (e2 :: rest) pos) (tE X.K cf b)) : PE X (.BoolOp .Or (ea :: e2 :: rest) pos) (tE X.K cf (.or a b)) :=
  peW (pe_orT ha hb) fun σ H Q ⟨φ, Z, env, st, hE, hS, h⟩ => by
    simp only [evE] at h
    refine tE.of hE hS h fun x st1 v φ1 H1 e1 s1 E1 iv h1 => ?_
    obtain ⟨k, hk, h2⟩ := h1.got
    refine ⟨k, tru_of s1 iv hk, ?_⟩
    cases k with
    | true => exact h2.now s1 _ iv
    | false => exact ⟨φ1, Z, env, st1, E1, s1, h2⟩
theorem nd_cmp {o : Co} (hu : X.A.units + 65 < cLine) (ha : PE X ea (tE X.K cf a)) (hb : PE X eb (tE X.K cf b)) (hm : behindInMarks (coE o) eb = false) : PE X (.Compare ea [coE o] [eb] pos) (tE X.K cf (.cmp o a b)) :=
  peW (pe_cmpR (rCmp_ok hu o) ha hb hm) fun σ H Q ⟨φ, Z, env, st, hE, hS, h⟩ => by
    simp only [evE] at h
    refine tE.of hE hS h fun x st1 v φ1 H1 e1 s1 E1 iv h1 => tE.of E1 s1 h1 fun y st2 u φ2 H2 e2 s2 E2 iu h2 => ?_
    obtain ⟨k, hk, h3⟩ := h2.got
    exact cmp_ok s2 (iv.mono e2) iu hk (h3.now s2 _ (.bl k))
theorem nd_isN {j : Nat} (ha : PE X ea (tE X.K cf a)) : PE X (.Compare ea [.Is] [.Constant .none j pos'] pos) (tE X.K cf (.isN a)) :=
  peW (pe_cmp (pc_isN ha)) fun σ H Q ⟨φ, Z, env, st, hE, hS, h⟩ => by
    simp only [evE] at h
    refine tE.of hE hS h fun x st1 v φ1 H1 e1 s1 E1 iv h1 => ?_
    rw [isN_ok iv]
    exact h1.now s1 _ (.bl _)
theorem nd_notN {j : Nat} (ha : PE X ea (tE X.K cf a)) : PE X (.Compare ea [.IsNot] [.Constant .none j pos'] pos) (tE X.K cf (.notN a)) :=
  peW (pe_cmp (pc_notN ha)) fun σ H Q ⟨φ, Z, env, st, hE, hS, h⟩ => by
    simp only [evE] at h
    refine tE.of hE hS h fun x st1 v φ1 H1 e1 s1 E1 iv h1 => ?_
    rw [isN_ok iv]
    exact h1.now s1 _ (.bl _)
theorem chn_of {o p : Co} {σ : St} {H : Hp} {Q : VK} (h : tE X.K cf (.chn o p a b c) σ H Q) : tChain (rCmp X.K o) (rCmp X.K p) (tE X.K cf a) (tE X.K cf b) (tE X.K cf c) σ H Q := by
  obtain ⟨φ, Z, env, st, hE, hS, h⟩ := h
  simp only [evE] at h
  refine tE.of hE hS h fun x st1 v φ1 H1 e1 s1 E1 iv h1 => tE.of E1 s1 h1 fun y st2 u φ2 H2 e2 s2 E2 iu h2 => ?_
  obtain ⟨k, hk, h3⟩ := h2.got
  refine cmp_ok s2 (iv.mono e2) iu hk ⟨k, rfl, ?_⟩
  cases k with
  | true =>
    refine tE.of E2 s2 h3 fun z st3 w φ3 H3 e3 s3 E3 iw h4 => ?_
    obtain ⟨k2, hk2, h5⟩ := h4.got
    exact cmp_ok s3 (iu.mono e3) iw hk2 (h5.now s3 _ (.bl k2))
  | false => exact h3.now s2 _ (.bl false)
theorem nd_chn {o p : Co} (hu : X.A.units + 65 < cLine) (ha : PE X ea (tE X.K cf a)) (hb : PE X eb (tE X.K cf b)) (hc : PE X ec (tE X.K cf c)) (hm : lastMarks [coE o, coE p] [eb, ec] = false) :
    PE X (.Compare ea [coE o, coE p] [eb, ec] pos) (tE X.K cf (.chn o p a b c)) :=
  peW (pe_chain (rCmp_ok hu o) (rCmp_ok hu p) ha hb hc hm) fun σ H Q h => chn_of h
theorem tT_use {σ : St} {H : Hp} {Q : Bool → Hp → Prop} {φ Y Z : List Addr} {env : Env} {st : Store} {β : Type} {f : Bool → Store → R β} {k : β → Store → List Addr → Hp → Prop} (hE : RelE X.K φ Z H σ env) (hS : RelS X.K φ Z H st)
    (h : PstY X.K φ Y Z H ((evE cf c env st).bind fun x st => (ofO (truV st x) st).bind f) k) (g : ∀ x st1 φ1 H1, Ext φ [] H φ1 H1 → RelS X.K φ1 Z H1 st1 → RelE X.K φ1 Z H1 σ env → PstY X.K φ1 Y Z H1 (f x st1) k → Q x H1) : tT X.K cf c σ H Q := by
  refine tT.of (Y := Y) (f := f) (k := k) hE hS ?_ g
  unfold evT
  cases hr : evE cf c env st with
  | ok x st1 => rw [hr] at h; exact h
  | exc a b d => rw [hr] at h; exact h
  | bad => rw [hr] at h; exact h
theorem nd_ite (hc : PT X ec (tT X.K cf c)) (ha : PE X ea (tE X.K cf a)) (hb : PE X eb (tE X.K cf b)) : PE X (.IfExp ec ea eb pos) (tE X.K cf (.ite c a b)) :=
  peW (pe_ifExp hc ha hb) fun σ H Q ⟨φ, Z, env, st, hE, hS, h⟩ => by
    simp only [evE] at h
    refine tT_use hE hS h fun x st1 φ1 H1 e1 s1 E1 h1 => ?_
    cases x with
    | true => exact ⟨φ1, Z, env, st1, E1, s1, h1⟩
    | false => exact ⟨φ1, Z, env, st1, E1, s1, h1⟩
/-! ### rows -/
theorem nd_nil : PA X [] (tEs X.K cf []) :=
  paW pa_nil fun σ H Q ⟨φ, Z, env, st, hE, hS, h⟩ => by simp only [evEs] at h; exact h.now hS _ .nil
theorem nd_cons {p : E} {ps : List E} {e : Expr} {es : List Expr} (h1 : PE X e (tE X.K cf p)) (h2 : PA X es (tEs X.K cf ps)) (hs : notStar e = true) : PA X (e :: es) (tEs X.K cf (p :: ps)) :=
  paW (pa_cons h1 h2 (star_of hs)) fun σ H Q ⟨φ, Z, env, st, hE, hS, h⟩ => by
    simp only [evEs] at h
    refine tE.of hE hS h fun x st1 v φ1 H1 e1 s1 E1 iv h1 => tEs.of E1 s1 h1 fun xs st2 vs φ2 H2 e2 s2 E2 ivs h2 => ?_
    exact h2.now s2 _ (.cons (iv.mono e2) ivs)
theorem nd_tup {ps : List E} {es : List Expr} {k : Nat} (h : PA X es (tEs X.K cf ps)) : PE X (.Tuple es k pos) (tF X.K cf (.tup ps)) :=
  peW (pe_tupF h) fun σ H Q ⟨φ, Z, env, st, hE, hS, h⟩ => by
    simp only [evE] at h
    refine tEs.of hE hS h fun xs st1 vs φ1 H1 e1 s1 E1 iv h1 => ?_
    split at h1
    · rename_i hc
      exact ⟨by rw [iv.length]; exact small_line hc, Gv.tup e1 s1 h1 iv⟩
    · exact h1.elim
theorem nd_lst {ps : List E} {es : List Expr} (h : PA X es (tEs X.K cf ps)) : PE X (.List es pos) (tF X.K cf (.lst ps)) :=
  peW (pe_lst h) fun σ H Q ⟨φ, Z, env, st, hE, hS, h⟩ => by
    simp only [evE] at h
    refine tEs.of hE hS h fun xs st1 vs φ1 H1 e1 s1 E1 iv h1 => ?_
    split at h1
    · rename_i hc
      exact ⟨by rw [iv.length]; exact small_line hc, Gv.lst e1 s1 h1 iv⟩
    · exact h1.elim
theorem nd_ix (hu : X.A.units + 1 < cLine) (ha : PE X ea (tE X.K cf a)) (hb : PE X eb (tE X.K cf b)) (hs : notSlice eb = true) : PE X (.Subscript ea eb pos) (tE X.K cf (.ix a b)) :=
  peW (pe_ix (rItem_ok hu) ha hb (ix_plain hs)) fun σ H Q ⟨φ, Z, env, st, hE, hS, h⟩ => by
    simp only [evE] at h
    refine tE.of hE hS h fun x st1 v φ1 H1 e1 s1 E1 iv h1 => tE.of E1 s1 h1 fun y st2 u φ2 H2 e2 s2 E2 iu h2 => ?_
    obtain ⟨z, hz, h3⟩ := h2.get
    exact item_ok s2 (iv.mono e2) iu hz fun w iw => h3.now s2 w iw
/-- a bound of a slice -/
def tOs (K : PySem.W.Frag) (cf : CallF) (p : List E) : TO := fun σ H Q => ∃ φ Z env st, RelE K φ Z H σ env ∧ RelS K φ Z H st ∧ Pst K φ Z H (evEs cf p env st) fun l _ _ H' => ∃ o, optInt l = some o ∧ Q o H'
theorem nd_onone : PO X none (tOs X.K cf []) :=
  ⟨fun pins s σ H Q I ⟨φ, Z, env, st, hE, hS, h⟩ => po_none.run pins s σ H Q I (by
    simp only [evEs] at h
    obtain ⟨o, h1, h2⟩ := h.now hS
    cases h1
    exact h2)⟩
theorem nd_osome (ha : PE X ea (tE X.K cf a)) : PO X (some ea) (tOs X.K cf [a]) :=
  ⟨fun pins s σ H Q I ⟨φ, Z, env, st, hE, hS, h⟩ => (po_some ha).run pins s σ H Q I (by
    simp only [evEs] at h
    refine tE.of hE hS h fun x st1 v φ1 H1 e1 s1 E1 iv h1 => ?_
    simp only [R.bind_ok] at h1
    obtain ⟨o, h1, h2⟩ := h1.now s1
    cases x <;> first | cases h1 | skip
    cases iv
    exact ⟨_, rfl, h2⟩)⟩
theorem nd_sl {lo hi : List E} {elo ehi : Option Expr} (ha : PE X ea (tE X.K cf a)) (hl : PO X elo (tOs X.K cf lo)) (hh : PO X ehi (tOs X.K cf hi)) : PE X (.Subscript ea (.Slice elo ehi none pos') pos) (tF X.K cf (.sl a lo hi)) :=
  peW (pe_slice rCut_ok ha hl hh) fun σ H Q ⟨φ, Z, env, st, hE, hS, h⟩ => by
    simp only [evE] at h
    refine tE.of hE hS h fun x st1 v φ1 H1 e1 s1 E1 iv h1 => ?_
    refine ⟨φ1, Z, env, st1, E1, s1, h1.bind.imp fun l st2 φ2 H2 e2 s2 ⟨_, _, h2⟩ => ?_⟩
    have E2 := E1.mono e2
    cases hl : optInt l with
    | none =>
      exfalso
      obtain ⟨r, st3, _, h3⟩ := h2.split
      simp only [hl] at h3
      exact h3.elim
    | some lo' =>
      refine ⟨lo', rfl, φ2, Z, env, st2, E2, s2, h2.bind.imp fun r st3 φ3 H3 e3 s3 ⟨_, _, h3⟩ => ?_⟩
      simp only [hl] at h3
      cases hr : optInt r with
      | none => simp only [hr] at h3; exact h3.elim
      | some hi' =>
        simp only [hr] at h3
        obtain ⟨z, hz, h4⟩ := h3.get
        exact ⟨hi', rfl, cut_ok ((e1.trans e2).trans e3) s3 ((iv.mono e2).mono e3) hz h4⟩
/-! ### built-ins -/
theorem blt_call {x : Str} {r : List V → Hp → VK → Prop} {e : Expr} {es : List Expr} {t : TA} {p : Pos} (B : Blt X x r) (hg : Gl X x) (hm : X.mg x = none) (ha : PA X (e :: es) t) (h1 : notStar e = true) (h2 : es.all notStar = true) :
    PE X (.Call (.Name x p) (e :: es) [] pos) (tCB r t) := by
  rcases B.ok with ⟨id, hv, hc⟩ | ⟨T, hv, hc⟩
  · exact pe_callB hc hg hm hv ha B.nn B.nd (star_of h1) (any_star h2)
  · exact pe_callTy hc hg hm hv ha B.nn B.nd (star_of h1) (any_star h2)
/-- .. of one argument -/
theorem one_of {σ : St} {H : Hp} {φ Y Z : List Addr} {env : Env} {st : Store} {β : Type} {f : Val → Store → R β} {k : β → Store → List Addr → Hp → Prop} {Q : List V → Hp → Prop} (hE : RelE X.K φ Z H σ env) (hS : RelS X.K φ Z H st) (h : PstY X.K φ Y Z H ((evE cf a env st).bind f) k)
    (g : ∀ x st1 v φ1 H1, Ext φ [] H φ1 H1 → RelS X.K φ1 Z H1 st1 → RelE X.K φ1 Z H1 σ env → Is X.K φ1 Z H1 v x → PstY X.K φ1 Y Z H1 (f x st1) k → Q [v] H1) : tEs X.K cf [a] σ H Q := by
  refine tEs.of (Y := Y) (f := fun l st => (match l with | [x] => f x st | _ => .bad)) (k := k) hE hS ?_ fun l st1 vs φ1 H1 e1 s1 E1 iv h1 => ?_
  · simp only [evEs]
    cases hr : evE cf a env st with
    | ok x st1 => rw [hr] at h; exact h
    | exc a b d => rw [hr] at h; exact h.elim
    | bad => rw [hr] at h; exact h.elim
  · cases iv with
    | nil => exact h1.elim
    | cons i r =>
      cases r with
      | nil => exact g _ st1 _ φ1 H1 e1 s1 E1 i h1
      | cons _ _ => exact h1.elim
theorem two_of {σ : St} {H : Hp} {φ Y Z : List Addr} {env : Env} {st : Store} {β : Type} {f : Val → Val → Store → R β} {k : β → Store → List Addr → Hp → Prop} {Q : List V → Hp → Prop} (hE : RelE X.K φ Z H σ env) (hS : RelS X.K φ Z H st)
    (h : PstY X.K φ Y Z H ((evE cf a env st).bind fun x st => (evE cf b env st).bind fun y st => f x y st) k)
    (g : ∀ x y st1 v u φ1 H1, Ext φ [] H φ1 H1 → RelS X.K φ1 Z H1 st1 → RelE X.K φ1 Z H1 σ env → Is X.K φ1 Z H1 v x → Is X.K φ1 Z H1 u y → PstY X.K φ1 Y Z H1 (f x y st1) k → Q [v, u] H1) : tEs X.K cf [a, b] σ H Q := by
  refine tEs.of (Y := Y) (f := fun l st => (match l with | [x, y] => f x y st | _ => .bad)) (k := k) hE hS ?_ fun l st1 vs φ1 H1 e1 s1 E1 iv h1 => ?_
  · simp only [evEs]
    cases hr : evE cf a env st with
    | ok x st1 =>
      rw [hr] at h
      simp only [R.bind_ok] at h ⊢
      cases hr2 : evE cf b env st1 with
      | ok y st2 => rw [hr2] at h; exact h
      | exc a b d => rw [hr2] at h; exact h.elim
      | bad => rw [hr2] at h; exact h.elim
    | exc a b d => rw [hr] at h; exact h.elim
    | bad => rw [hr] at h; exact h.elim
  · cases iv with
    | nil => exact h1.elim
    | cons i r =>
      cases r with
      | nil => exact h1.elim
      | cons j r =>
        cases r with
        | nil => exact g _ _ st1 _ _ φ1 H1 e1 s1 E1 i j h1
        | cons _ _ => exact h1.elim
theorem nd_b1 {f : B1} {p : Pos} (hc : X.calm = true) (h1 : f ≠ .enum) (h2 : f ≠ .range) (hg : Gl X (b1N f)) (hm : X.mg (b1N f) = none) (ha : PE X ea (tE X.K cf a)) (hs : notStar ea = true) :
    PE X (.Call (.Name (b1N f) p) [ea] [] pos) (tF X.K cf (.b1 f a)) :=
  peW (blt_call (rB1_ok hc f h1 h2) hg hm (nd_cons ha nd_nil hs) hs rfl) fun σ H Q ⟨φ, Z, env, st, hE, hS, h⟩ => by
    simp only [evE] at h
    refine one_of hE hS h fun x st1 v φ1 H1 e1 s1 E1 iv h1 => ?_
    obtain ⟨z, hz, h3⟩ := h1.get
    exact b1_ok e1 s1 iv hz h3
theorem nd_b2 {f : B2} {p : Pos} (hc : X.calm = true) (h1 : f ≠ .zip) (hg : Gl X (b2N f)) (hm : X.mg (b2N f) = none) (ha : PE X ea (tE X.K cf a)) (hb : PE X eb (tE X.K cf b)) (hs : notStar ea = true) (hs2 : notStar eb = true) :
    PE X (.Call (.Name (b2N f) p) [ea, eb] [] pos) (tE X.K cf (.b2 f a b)) :=
  peW (blt_call (rB2_ok hc f h1) hg hm (nd_cons ha (nd_cons hb nd_nil hs2) hs) hs (by simp [hs2])) fun σ H Q ⟨φ, Z, env, st, hE, hS, h⟩ => by
    simp only [evE] at h
    refine two_of hE hS h fun x y st1 v u φ1 H1 e1 s1 E1 iv iu h1 => ?_
    obtain ⟨z, hz, h3⟩ := h1.get
    exact b2_ok iv iu hz fun w iw => h3.now s1 w iw
theorem nd_isi {t : Ty} {p p2 : Pos} (hg : Gl X "isinstance") (hm : X.mg "isinstance" = none) (hg2 : Gl X (tyS t)) (hm2 : X.mg (tyS t) = none) (ha : PE X ea (tE X.K cf a)) (hs : notStar ea = true) :
    PE X (.Call (.Name "isinstance" p) [ea, .Name (tyS t) p2] [] pos) (tE X.K cf (.isi a t)) := by
  obtain ⟨b1, b2, b3⟩ := ty_boot t
  refine peW (pe_callB call_isi hg hm isi_boot (pa_cons ha (pa_cons (pe_bltn hg2 hm2 b1 (v := .ty (tyN t)) rfl b2 b3) pa_nil rfl) (star_of hs)) (by decide) (by decide) (star_of hs) rfl) fun σ H Q ⟨φ, Z, env, st, hE, hS, h⟩ => ?_
  simp only [evE] at h
  refine tE.of hE hS h fun x st1 v φ1 H1 e1 s1 E1 iv h1 => ?_
  obtain ⟨k, hk, h2⟩ := h1.got
  exact isi_ok s1 iv hk (h2.now s1 _ (.bl k))
/-! ### calls -/
/-- what a def of the program promises -/
def spF (K : PySem.W.Frag) (cf : CallF) (f : Str) : Sp := fun vs H Q _ => ∃ φ Z st xs, IsL K φ Z H vs xs ∧ RelS K φ Z H st ∧ Pst K φ Z H (cf f xs st) (wV K Z Q)
end
end PV
end

section
set_option Elab.async false
set_option linter.all false
set_option maxRecDepth 100000
/-! PvLeave: the end of a call; calls and methods. -/
namespace PV
open PySem L2
section
variable {K : PySem.W.Frag} {φ1 φ2 Z : List Addr} {H : Hp} {st : Store} {n : Nat}
/-- names under n mean the same among fewer -/
structure Low (φ1 φ2 : List Addr) (n : Nat) (φ : List Addr) : Prop where
  at_ : ∀ (m : Nat) (a : Addr), m < n → φ2[m]? = some a → φ[m]? = some a
  sub : ∀ a ∈ φ, a ∈ φ2
mutual
theorem Is.low {φ : List Addr} (w : Low φ1 φ2 n φ) : ∀ {v : V} {x : Val}, x.under n = true → Is K φ2 Z H v x → Is K φ Z H v x
  | _, _, _, .non => .non
  | _, _, _, .bl b => .bl b
  | _, _, _, .int b => .int b
  | _, _, _, .str b => .str b
  | _, _, u, .tup h r => .tup (h.imp (fun ⟨o, f, t⟩ => ⟨o, ⟨f.1, fun q => f.2.1 (w.sub _ q), f.2.2⟩, t⟩) id) (IsL.low w (by simpa [Val.under] using u) r)
  | _, _, u, .ls f r => .ls ⟨f.1, fun q => f.2.1 (w.sub _ q), f.2.2⟩ (IsL.low w (by simpa [Val.under] using u) r)
  | _, _, u, .sc h r => .sc (h.imp (fun f => ⟨f.1, fun q => f.2.1 (w.sub _ q), f.2.2⟩) id) (IsL.low w (by simpa [Val.under] using u) r)
  | _, _, u, .dc f r => .dc ⟨f.1, fun q => f.2.1 (w.sub _ q), f.2.2⟩ (IsKV.low w (by simpa [Val.under] using u) r)
  | _, _, u, .ref h => .ref (w.at_ _ _ (by simpa [Val.under] using u) h)
theorem IsL.low {φ : List Addr} (w : Low φ1 φ2 n φ) : ∀ {vs : List V} {xs : List Val}, underAll n xs = true → IsL K φ2 Z H vs xs → IsL K φ Z H vs xs
  | _, _, _, .nil => .nil
  | _, _, u, .cons h r => by
    simp only [underAll, Bool.and_eq_true] at u
    exact .cons (Is.low w u.1 h) (IsL.low w u.2 r)
theorem IsKV.low {φ : List Addr} (w : Low φ1 φ2 n φ) : ∀ {vs : List (Key × V)} {xs : List (Key × Val)}, underKV n xs = true → IsKV K φ2 Z H vs xs → IsKV K φ Z H vs xs
  | _, _, _, .nil => .nil
  | _, _, u, .cons h r => by
    simp only [underKV, Bool.and_eq_true] at u
    exact .cons (Is.low w u.1 h) (IsKV.low w u.2 r)
end
theorem IsTV.low {φ : List Addr} (w : Low φ1 φ2 n φ) : ∀ {vs : List (List Key × V)} {xs : List (List Key × Val)}, underT n xs = true → IsTV K φ2 Z H vs xs → IsTV K φ Z H vs xs
  | _, _, _, .nil => .nil
  | _, _, u, .cons h r => by
    simp only [underT, Bool.and_eq_true] at u
    exact .cons (Is.low w u.1 h) (IsTV.low w u.2 r)
theorem ObjIs.low {φ : List Addr} (w : Low φ1 φ2 n φ) {a : Addr} {o : Obj} (u : o.under n = true) (h : ObjIs K φ2 Z H a o) : ObjIs K φ Z H a o := by
  cases o with
  | lst xs => obtain ⟨vs, h1, h2⟩ := h; exact ⟨vs, h1, h2.low w u⟩
  | dK xs => obtain ⟨vs, h1, h2⟩ := h; exact ⟨vs, h1, h2.low w u⟩
  | dT xs => obtain ⟨vs, h1, h2⟩ := h; exact ⟨vs, h1, h2.low w u⟩
  | dead => trivial
theorem low_pre {t : List Addr} : Low φ1 (φ1 ++ t) φ1.length φ1 :=
  ⟨fun m a hm h => by rw [List.getElem?_append_left hm] at h; exact h, fun a h => List.mem_append_left _ h⟩
theorem low_one {t : List Addr} {p : Addr} (hp : p ∈ t) : Low φ1 (φ1 ++ t) φ1.length (φ1 ++ [p]) :=
  ⟨fun m a hm h => by rw [List.getElem?_append_left hm] at h ⊢; exact h, fun a h => by
    rcases List.mem_append.mp h with h | h
    · exact List.mem_append_left _ h
    · rw [List.mem_singleton] at h
      subst h
      exact List.mem_append_right _ hp⟩
theorem under_at {m : Nat} {o : Obj} (h : allUnder n st = true) (hm : m < n) (ho : st[m]? = some o) : o.under n = true := by
  unfold allUnder at h
  rw [List.all_eq_true] at h
  refine h o (List.mem_of_getElem? (i := m) ?_)
  rw [List.getElem?_take_of_lt hm]
  exact ho
/-- the store of the caller -/
theorem RelS.low {t φ : List Addr} (s : RelS K (φ1 ++ t) Z H st) (w : Low φ1 (φ1 ++ t) φ1.length φ) (hφ : φ.take φ1.length = φ1) (nd : φ.Nodup) (u : allUnder φ1.length st = true) (more : Store) (hl : φ.length = φ1.length + more.length)
    (hm : ∀ (i : Nat) (a : Addr) (o : Obj), φ[φ1.length + i]? = some a → more[i]? = some o → ObjIs K φ Z H a o) : RelS K φ Z H (st.take φ1.length ++ more) := by
  have hlen : φ1.length ≤ st.length := by rw [← s.len, List.length_append]; omega
  have htk : (st.take φ1.length).length = φ1.length := by rw [List.length_take]; omega
  refine ⟨by rw [List.length_append, htk, hl], nd, fun a ha => s.there a (w.sub a ha), fun a ha => ⟨(s.zin a ha).1, fun q => (s.zin a ha).2 (w.sub a q)⟩, fun m a o h1 h2 => ?_⟩
  by_cases hmn : m < φ1.length
  · rw [List.getElem?_append_left (by omega), List.getElem?_take_of_lt hmn] at h2
    have e : (φ1 ++ t)[m]? = some a := by
      rw [List.getElem?_append_left hmn, ← hφ, List.getElem?_take_of_lt hmn]
      exact h1
    exact (s.at_ m a o e h2).low w (under_at u hmn h2)
  · rw [List.getElem?_append_right (by omega), htk] at h2
    have e : φ[φ1.length + (m - φ1.length)]? = some a := by
      rw [show φ1.length + (m - φ1.length) = m by omega]
      exact h1
    exact hm _ a o e h2
/-- what is given back stands by itself -/
theorem thaw_ok {t : List Addr} (s : RelS K (φ1 ++ t) Z H st) : ∀ fuel : Nat, (∀ (v : V) (x y : Val), Is K (φ1 ++ t) Z H v x → thaw fuel st φ1.length x = some y → Is K φ1 Z H v y) ∧
    (∀ (vs : List V) (xs ys : List Val), IsL K (φ1 ++ t) Z H vs xs → thawAll fuel st φ1.length xs = some ys → IsL K φ1 Z H vs ys) ∧
    (∀ (vs : List (Key × V)) (xs ys : List (Key × Val)), IsKV K (φ1 ++ t) Z H vs xs → thawKV fuel st φ1.length xs = some ys → IsKV K φ1 Z H vs ys)
  | 0 => ⟨fun _ _ _ _ h => by simp [thaw] at h, fun _ _ _ _ h => by simp [thawAll] at h, fun _ _ _ _ h => by simp [thawKV] at h⟩
  | fuel + 1 => by
    obtain ⟨i1, i2, i3⟩ := thaw_ok s fuel
    have w : Low φ1 (φ1 ++ t) φ1.length φ1 := low_pre
    have far : ∀ {a : Nat} {A : Addr}, ¬ a < φ1.length → (φ1 ++ t)[a]? = some A → A ∉ φ1 ∧ A ∉ Z := by
      intro a A ha hA
      refine ⟨fun q => ?_, fun q => (s.zin A q).2 (List.mem_of_getElem? hA)⟩
      obtain ⟨j, hj, e⟩ := List.mem_iff_getElem.mp q
      obtain ⟨l1, e1⟩ := List.getElem?_eq_some_iff.mp hA
      have e2 : (φ1 ++ t)[j]'(by rw [List.length_append]; omega) = A := by rw [List.getElem_append_left hj]; exact e
      have := (List.getElem_inj s.nd).mp (e2.trans e1.symm)
      omega
    refine ⟨fun v x y h e => ?_, fun vs xs ys h e => ?_, fun vs xs ys h e => ?_⟩
    · simp only [thaw] at e
      split at e
      · rename_i hu
        cases e
        exact h.low w hu
      · rename_i hu
        cases h with
        | tup f r =>
          obtain ⟨ys, h1, rfl⟩ := Option.map_eq_some_iff.mp e
          exact .tup (f.imp (fun ⟨o, f, t⟩ => ⟨o, ⟨f.1, fun q => f.2.1 (w.sub _ q), f.2.2⟩, t⟩) id) (i2 _ _ _ r h1)
        | ls f r =>
          obtain ⟨ys, h1, rfl⟩ := Option.map_eq_some_iff.mp e
          exact .ls ⟨f.1, fun q => f.2.1 (w.sub _ q), f.2.2⟩ (i2 _ _ _ r h1)
        | ref hA =>
          have fr := far (by simpa [Val.under] using hu) hA
          simp only at e
          split at e
          · rename_i xs hs
            obtain ⟨ys, h1, rfl⟩ := Option.map_eq_some_iff.mp e
            obtain ⟨vs, g1, g2⟩ := s.at_ _ _ _ hA hs
            exact .ls ⟨g1, fr.1, fr.2⟩ (i2 _ _ _ g2 h1)
          · rename_i xs hs
            obtain ⟨ys, h1, rfl⟩ := Option.map_eq_some_iff.mp e
            obtain ⟨vs, g1, g2⟩ := s.at_ _ _ _ hA hs
            exact .dc ⟨.inl g1, fr.1, fr.2⟩ (i3 _ _ _ g2 h1)
          · cases e
        | _ => cases e
    · cases h with
      | nil => simp only [thawAll] at e; cases e; exact .nil
      | cons a r =>
        simp only [thawAll] at e
        split at e
        · rename_i y ys h1 h2
          cases e
          exact .cons (i1 _ _ _ a h1) (i2 _ _ _ r h2)
        · cases e
    · cases h with
      | nil => simp only [thawKV] at e; cases e; exact .nil
      | cons a r =>
        simp only [thawKV] at e
        split at e
        · rename_i y ys h1 h2
          cases e
          exact .cons (i1 _ _ _ a h1) (i3 _ _ _ r h2)
        · cases e
/-- the end of a call -/
theorem leave_ok {Q : VK} {r : R Val} {H1 : Hp} {st1 : Store} (s1 : RelS K φ1 Z H1 st1) (h : Pst K φ1 Z H1 (leave st1.length r) (wV K Z Q)) : Pst K φ1 Z H1 r (wV K Z Q) := by
  cases r with
  | exc a b c => exact h.elim
  | bad => exact h.elim
  | ok x st2 =>
    intro φ2 H2 e2 s2 v iv
    simp only [leave] at h
    obtain ⟨t, rfl⟩ := e2.pre
    split at h
    · rename_i hl
      exact h _ H2 e2 s2 v iv
    · split at h
      · rename_i hc
        rw [Bool.and_eq_true, decide_eq_true_eq] at hc
        split at h
        · rename_i y hy
          rw [← s1.len] at hc hy h
          have hx : Ext φ1 [] H1 φ1 H2 := ⟨List.prefix_refl _, e2.keep, e2.keepD, fun a h1 h2 => ⟨h1, (e2.news a h1 h2).2⟩⟩
          have hr : RelS K φ1 Z H2 (st2.take φ1.length) := by
            have := s2.low low_pre (by simp) s1.nd hc.1 [] (by simp) (fun i a o _ q => by simp at q)
            simpa using this
          exact h φ1 H2 hx hr v ((thaw_ok s2 100000).1 v x y iv hy)
        · exact h.elim
      · exact h.elim
theorem leaveOwn_ok {Q : VK} {r : R Val} {H1 : Hp} {st1 : Store} (s1 : RelS K φ1 Z H1 st1) (h : Pst K φ1 Z H1 (leaveOwn st1.length r) (wV K Z Q)) : Pst K φ1 Z H1 r (wV K Z Q) := by
  cases r with
  | exc a b c => exact h.elim
  | bad => exact h.elim
  | ok x st2 =>
    intro φ2 H2 e2 s2 v iv
    obtain ⟨t, rfl⟩ := e2.pre
    cases x with
    | ref a =>
      simp only [leaveOwn] at h
      split at h
      · rename_i hc
        obtain ⟨A, rfl, hA⟩ := iv.refI
        rw [← s1.len] at hc h
        have far : A ∉ φ1 := fun q => by
          obtain ⟨j, hj, e⟩ := List.mem_iff_getElem.mp q
          obtain ⟨l1, e1⟩ := List.getElem?_eq_some_iff.mp hA
          have e2 : (φ1 ++ t)[j]'(by rw [List.length_append]; omega) = A := by rw [List.getElem_append_left hj]; exact e
          have := (List.getElem_inj s2.nd).mp (e2.trans e1.symm)
          omega
        have hAt : A ∈ t := (List.mem_append.mp (List.mem_of_getElem? hA)).resolve_left far
        have w : Low φ1 (φ1 ++ t) φ1.length (φ1 ++ [A]) := low_one hAt
        have hx : Ext φ1 [] H1 (φ1 ++ [A]) H2 := ⟨List.prefix_append _ _, e2.keep, e2.keepD, fun a h1 h2 => ⟨fun q => (e2.news a h1 h2).1 (w.sub a q), (e2.news a h1 h2).2⟩⟩
        have nd : (φ1 ++ [A]).Nodup := by
          rw [List.nodup_append]
          refine ⟨s1.nd, by simp, fun a ha b hb => ?_⟩
          rw [List.mem_singleton] at hb
          subst hb
          exact fun z => far (z ▸ ha)
        have fin : ∀ o : Obj, ObjIs K (φ1 ++ [A]) Z H2 A o → RelS K (φ1 ++ [A]) Z H2 (st2.take φ1.length ++ [o]) := fun o ho =>
          s2.low w (by simp) nd hc.2.1 [o] (by simp) fun i a o' q1 q2 => by
            cases i with
            | zero =>
              rw [Nat.add_zero, List.getElem?_append_right (Nat.le_refl _), Nat.sub_self] at q1
              cases q1
              cases q2
              exact ho
            | succ i => simp at q2
        have hn : (φ1 ++ [A])[φ1.length]? = some A := by
          rw [List.getElem?_append_right (Nat.le_refl _), Nat.sub_self]
          rfl
        split at h
        · rename_i xs hs
          split at h
          · rename_i hu
            obtain ⟨vs, g1, g2⟩ := s2.at_ _ _ _ hA hs
            exact h _ H2 hx (fin _ ⟨vs, g1, g2.low w hu⟩) _ (.ref hn)
          · exact h.elim
        · rename_i xs hs
          split at h
          · rename_i hu
            obtain ⟨vs, g1, g2⟩ := s2.at_ _ _ _ hA hs
            exact h _ H2 hx (fin _ ⟨vs, g1, g2.low w hu⟩) _ (.ref hn)
          · exact h.elim
        · exact h.elim
      · exact h.elim
    | _ => exact h.elim
end
section
variable {K : PySem.W.Frag} {φ1 φ Z : List Addr} {H : Hp}
/-- values that name nothing of the store -/
structure Apart (φ1 Z : List Addr) (H : Hp) (φ Z' : List Addr) : Prop where
  at_ : ∀ a, a ∉ φ1 → a ∉ Z → H a ≠ none → a ∉ φ ∧ a ∉ Z'
mutual
theorem Is.apart {Z' : List Addr} (w : Apart φ1 Z H φ Z') : ∀ {v : V} {x : Val}, x.pure = true → Is K φ1 Z H v x → Is K φ Z' H v x
  | _, _, _, .non => .non
  | _, _, _, .bl b => .bl b
  | _, _, _, .int b => .int b
  | _, _, _, .str b => .str b
  | _, _, u, .tup h r => .tup (h.imp (fun ⟨o, f, t⟩ => ⟨o, ⟨f.1, w.at_ _ f.2.1 f.2.2 (rd_some (.inl f.1))⟩, t⟩) id) (IsL.apart w (by simpa [Val.pure] using u) r)
  | _, _, u, .ls f r => .ls ⟨f.1, w.at_ _ f.2.1 f.2.2 (rd_some (.inl f.1))⟩ (IsL.apart w (by simpa [Val.pure] using u) r)
  | _, _, u, .sc h r => .sc (h.imp (fun f => ⟨f.1, w.at_ _ f.2.1 f.2.2 (rd_some f.1)⟩) id) (IsL.apart w (by simpa [Val.pure] using u) r)
  | _, _, u, .dc f r => .dc ⟨f.1, w.at_ _ f.2.1 f.2.2 (rd_some f.1)⟩ (IsKV.apart w (by simpa [Val.pure] using u) r)
  | _, _, u, .ref h => by simp [Val.pure] at u
theorem IsL.apart {Z' : List Addr} (w : Apart φ1 Z H φ Z') : ∀ {vs : List V} {xs : List Val}, pureAll xs = true → IsL K φ1 Z H vs xs → IsL K φ Z' H vs xs
  | _, _, _, .nil => .nil
  | _, _, u, .cons h r => by
    simp only [pureAll, Bool.and_eq_true] at u
    exact .cons (Is.apart w u.1 h) (IsL.apart w u.2 r)
theorem IsKV.apart {Z' : List Addr} (w : Apart φ1 Z H φ Z') : ∀ {vs : List (Key × V)} {xs : List (Key × Val)}, pureKV xs = true → IsKV K φ1 Z H vs xs → IsKV K φ Z' H vs xs
  | _, _, _, .nil => .nil
  | _, _, u, .cons h r => by
    simp only [pureKV, Bool.and_eq_true] at u
    exact .cons (Is.apart w u.1 h) (IsKV.apart w u.2 r)
end
theorem callV_ok {cf : CallF} {f : Str} {xs : List Val} {vs : List V} {st1 : Store} {Q : VK} (s1 : RelS K φ1 Z H st1) (iv : IsL K φ1 Z H vs xs) (h : Pst K φ1 Z H (callV cf f xs st1) (wV K Z Q)) :
    ∃ φ Z' st, IsL K φ Z' H vs xs ∧ RelS K φ Z' H st ∧ Pst K φ Z' H (cf f xs st) (wV K Z' Q) := by
  unfold callV at h
  cases hp : pureAll xs with
  | false =>
    rw [hp] at h
    exact ⟨φ1, Z, st1, iv, s1, leave_ok s1 h⟩
  | true =>
    rw [hp] at h
    simp only at h
    have zin : ∀ a ∈ φ1 ++ Z, H a ≠ none := fun a ha => (List.mem_append.mp ha).elim (fun q => s1.there a q) fun q => (s1.zin a q).1
    have s0 : RelS K [] (φ1 ++ Z) H [] := ⟨rfl, by simp, by simp, fun a ha => ⟨zin a ha, by simp⟩, fun n a o q => by simp at q⟩
    refine ⟨[], φ1 ++ Z, [], iv.apart ⟨fun a h1 h2 _ => ⟨by simp, fun q => (List.mem_append.mp q).elim h1 h2⟩⟩ hp, s0, ?_⟩
    refine leave_ok s0 ?_
    cases hr : leave (([] : Store)).length (cf f xs []) with
    | exc c fs st2 =>
      have hr' : leave 0 (cf f xs []) = .exc c fs st2 := hr
      rw [hr'] at h
      exact h.elim
    | bad =>
      have hr' : leave 0 (cf f xs []) = .bad := hr
      rw [hr'] at h
      exact h.elim
    | ok x st2 =>
      have hr' : leave 0 (cf f xs []) = .ok x st2 := hr
      rw [hr'] at h
      intro φ2 H2 e2 s2 v iv2
      have hx : Ext φ1 [] H φ1 H2 := ⟨List.prefix_refl _, fun a u _ _ r => e2.keep a u (by simp) (by simp) r, fun a u _ _ d r => e2.keepD a u (by simp) (by simp) d r, fun a h1 h2 => ⟨h1, (e2.news a (by simp) h2).2⟩⟩
      have same : ∀ a, H a ≠ none → H2 a = H a := fun a ha => by
        cases q : H a with
        | none => exact absurd q ha
        | some u => exact e2.keepD a u (by simp) (by simp) rfl q
      have s3 : RelS K φ1 Z H2 st1 := ⟨s1.len, s1.nd, fun a ha => by rw [same a (s1.there a ha)]; exact s1.there a ha, fun a ha => ⟨by rw [same a (s1.zin a ha).1]; exact (s1.zin a ha).1, (s1.zin a ha).2⟩,
        fun n a o h1 h2 => (s1.at_ n a o h1 h2).mono hx (same a (s1.there a (List.mem_of_getElem? h1)))⟩
      -- the answer names nothing of the store
      have hpv : x.pure = true ∨ φ2 = [] := by
        have hl := s2.len
        cases hs : st2 with
        | nil => rw [hs] at hl; exact .inr (List.eq_nil_of_length_eq_zero hl)
        | cons o r =>
          exfalso
          unfold leave at hr'
          cases hc : cf f xs [] with
          | ok y st3 =>
            rw [hc] at hr'
            simp only at hr'
            split at hr'
            · rename_i h0
              cases hr'
              rw [hs] at h0
              cases h0
            · split at hr'
              · split at hr'
                · cases hr'
                  simp at hs
                · cases hr'
              · cases hr'
          | exc _ _ _ => rw [hc] at hr'; cases hr'
          | bad => rw [hc] at hr'; cases hr'
      have iv3 : Is K φ1 Z H2 v x := by
        rcases hpv with hpv | hpv
        · exact iv2.apart ⟨fun a h1 h2 h3 => ⟨fun q => h2 (List.mem_append_left _ q), fun q => h2 (List.mem_append_right _ q)⟩⟩ hpv
        · subst hpv
          exact iv2.chg ⟨fun a h1 h2 h3 => ⟨fun q => h2 (List.mem_append_left _ q), fun q => h2 (List.mem_append_right _ q)⟩, fun n a q => by simp at q⟩
      exact h φ1 H2 hx s3 v iv3
end
section
variable {X : Cx} {cf : CallF} {pos pos' apos cpos p : Pos} {ea eb ec : Expr} {a b c : E}
/-- a def that can be called -/
structure FnAt (X : Cx) (cf : CallF) (f : Str) : Prop where
  ex : ∃ (a : Addr) (fd : FuncData) (ps : List Str) (k : Nat), FnOk X.prog X.w X.K X.mg X.base CX0 k a fd ps (spF X.K cf f) ∧ Room k X.A ∧ X.mg f = some (.ref a) ∧ PySem.W.keepIn X.K (.ref a) = true ∧ Binds X.K fd ps []
theorem nd_callT {f : Str} {es : List Expr} {ps : List E} (F : FnAt X cf f) (hg : Gl X f) (hd : (f == ("__debug__" : Str)) = false) (ha : PA X es (tEs X.K cf ps)) (hs : es.all notStar = true) (hl : ps.length = es.length) :
    PE X (.Call (.Name f p) es [] pos) (tCall (spF X.K cf f) [] E0 (tEs X.K cf ps)) := by
  obtain ⟨A, fd, qs, k, hf, hr, hm, hk, hb⟩ := F.ex
  cases es with
  | nil =>
    refine peW (pe_call0 hf hr hg hm hk hb .nil pass0 hd) fun σ H Q ⟨φ, Z, env, st, hE, hS, h⟩ => ?_
    cases ps with
    | nil =>
      simp only [evEs] at h
      exact h.now hS _ .nil
    | cons q qs => cases hl
  | cons e es =>
    rw [List.all_cons, Bool.and_eq_true] at hs
    exact pe_call hf hr hg hm hk hb .nil pass0 ha hd (star_of hs.1) (any_star hs.2)
theorem nd_call {f : Str} {es : List Expr} {ps : List E} (F : FnAt X cf f) (hg : Gl X f) (hd : (f == ("__debug__" : Str)) = false) (ha : PA X es (tEs X.K cf ps)) (hs : es.all notStar = true) (hl : ps.length = es.length) :
    PE X (.Call (.Name f p) es [] pos) (tE X.K cf (.call f ps)) :=
  peW (nd_callT F hg hd ha hs hl) fun σ H Q ⟨φ, Z, env, st, hE, hS, h⟩ => by
    simp only [evE] at h
    refine tEs.of hE hS h fun xs st1 vs φ1 H1 e1 s1 E1 iv h1 => ?_
    rw [List.append_nil]
    obtain ⟨φ', Z', st', i', s', p'⟩ := callV_ok s1 iv h1
    exact ⟨φ', Z', st', xs, i', s', p'⟩
theorem nd_callO {f : Str} {es : List Expr} {ps : List E} (F : FnAt X cf f) (hg : Gl X f) (hd : (f == ("__debug__" : Str)) = false) (ha : PA X es (tEs X.K cf ps)) (hs : es.all notStar = true) (hl : ps.length = es.length) :
    PE X (.Call (.Name f p) es [] pos) (tE X.K cf (.ownC f ps)) :=
  peW (nd_callT F hg hd ha hs hl) fun σ H Q ⟨φ, Z, env, st, hE, hS, h⟩ => by
    simp only [evE] at h
    refine tEs.of hE hS h fun xs st1 vs φ1 H1 e1 s1 E1 iv h1 => ?_
    rw [List.append_nil]
    exact ⟨φ1, Z, st1, xs, iv, s1, leaveOwn_ok s1 h1⟩
/-! ### methods -/
theorem m2_of {o e f : Expr} {m : Str} (h0 : notSuper o = true) (h1 : notStar e = true) (h2 : notStar f = true) (hl : (apos.endLine == cpos.line) = true) : M2 X o m apos e f cpos :=
  ⟨base_of h0, by rw [star_of h1, star_of h2]; rfl, hl, by rw [star_of h1, star_of h2]; rfl⟩
theorem few_of {e : Expr} (h1 : notStar e = true) : ((backTo cpos (starEach [e] X.env)).all (fun x => !x.1) && (backToKw cpos (keywordEach [] X.env)).all (fun x => x.1.isSome)
      && decide (([e] : List Expr).length + ([] : List Keyword).length + (if ([] : List Keyword).isEmpty then 0 else 1) < 30)) = true := by
  rw [star_of h1]
  rfl
theorem nd_get (hu : X.A.units + 1 < cLine) (ha : PE X ea (tE X.K cf a)) (hb : PE X eb (tE X.K cf b)) (hc : PE X ec (tE X.K cf c)) (h0 : notSuper ea = true) (h1 : notStar eb = true) (h2 : notStar ec = true) (hl : (apos.endLine == cpos.line) = true) :
    PE X (.Call (.Attribute ea "get" apos) [eb, ec] [] cpos) (tE X.K cf (.get a b c)) :=
  peW (pe_dget2 hu ha hb hc (m2_of h0 h1 h2 hl)) fun σ H Q ⟨φ, Z, env, st, hE, hS, h⟩ => by
    simp only [evE] at h
    refine tE.of hE hS h fun d st1 v φ1 H1 e1 s1 E1 iv h1 => ?_
    split at h1
    · rename_i hd
      obtain ⟨A, rfl, hD⟩ := isD_of s1 iv hd
      refine ⟨A, rfl, hD, tE.of E1 s1 h1 fun k st2 u φ2 H2 e2 s2 E2 iu h2 => tE.of E2 s2 h2 fun x st3 w φ3 H3 e3 s3 E3 iw h3 => ?_⟩
      obtain ⟨o, ho, h4⟩ := h3.got
      obtain ⟨A', o', ea', g, q⟩ := dictGet_ok s3 ((iv.mono e2).mono e3) (iu.mono e3) ho
      cases ea'
      refine ⟨o', g, ?_⟩
      rcases q with ⟨w', z', rfl, rfl, iz⟩ | ⟨rfl, rfl⟩
      · exact h4.now s3 _ iz
      · exact h4.now s3 _ iw
    · exact h1.elim
theorem nd_popD (ha : PE X ea (tE X.K cf a)) (hb : PE X eb (tE X.K cf b)) (hc : PE X ec (tE X.K cf c)) (h0 : notSuper ea = true) (h1 : notStar eb = true) (h2 : notStar ec = true) (hl : (apos.endLine == cpos.line) = true) :
    PE X (.Call (.Attribute ea "pop" apos) [eb, ec] [] cpos) (tE X.K cf (.popD a b c)) :=
  peW (pe_dpop2 ha hb hc (m2_of h0 h1 h2 hl)) fun σ H Q ⟨φ, Z, env, st, hE, hS, h⟩ => by
    simp only [evE] at h
    refine tE.of hE hS h fun d st1 v φ1 H1 e1 s1 E1 iv h1 => ?_
    split at h1
    · rename_i hd
      obtain ⟨A, rfl, hD⟩ := isD_of s1 iv hd
      refine ⟨A, rfl, hD, tE.of E1 s1 h1 fun k st2 u φ2 H2 e2 s2 E2 iu h2 => tE.of E2 s2 h2 fun x st3 w φ3 H3 e3 s3 E3 iw h3 => ?_⟩
      cases hp : popDV st3 d k x with
      | ok z st4 =>
        rw [hp] at h3
        obtain ⟨A', kvs, kk, ea', q1, q2, q3, q4⟩ := popD_ok (Q := Q) s3 ((iv.mono e2).mono e3) (iu.mono e3) iw hp fun w' H' e' s' i' => h3 φ3 H' e' s' w' i'
        cases ea'
        exact ⟨kvs, kk, q1, q2, q3, q4⟩
      | exc _ _ _ => rw [hp] at h3; exact h3.elim
      | bad => rw [hp] at h3; exact h3.elim
    · exact h1.elim
theorem nd_pop (ha : PE X ea (tE X.K cf a)) (hb : PE X eb (tE X.K cf b)) (h0 : notSuper ea = true) (h1 : notStar eb = true) (hl : (apos.endLine == cpos.line) = true) :
    PE X (.Call (.Attribute ea "pop" apos) [eb] [] cpos) (tE X.K cf (.pop a b)) :=
  peW (pe_bm PySem.F.plainAttrs_list PySem.F.slot_list_pop PySem.F.type_list_pop mt_popAt ha (nd_cons hb nd_nil h1) (base_of h0) (few_of h1) hl (star_of h1) rfl) fun σ H Q ⟨φ, Z, env, st, hE, hS, h⟩ => by
    simp only [evE] at h
    refine tE.of hE hS h fun l st1 v φ1 H1 e1 s1 E1 iv h1 => ?_
    split at h1
    · rename_i hd
      obtain ⟨ws, hw⟩ := Option.isSome_iff_exists.mp hd
      refine ⟨app_ty s1 iv hw, ?_⟩
      refine one_of E1 s1 h1 fun x st2 u φ2 H2 e2 s2 E2 iu h2 => ?_
      cases hp : popV st2 l x with
      | ok z st3 =>
        rw [hp] at h2
        exact pop_ok s2 (iv.mono e2) iu hp fun w H' e' s' i' => h2 φ2 H' e' s' w i'
      | exc _ _ _ => rw [hp] at h2; exact h2.elim
      | bad => rw [hp] at h2; exact h2.elim
    · exact h1.elim
theorem nd_index (hu : X.A.units + 65 < cLine) (ha : PE X ea (tE X.K cf a)) (hb : PE X eb (tE X.K cf b)) (h0 : notSuper ea = true) (h1 : notStar eb = true) (hl : (apos.endLine == cpos.line) = true) :
    PE X (.Call (.Attribute ea "index" apos) [eb] [] cpos) (tE X.K cf (.index a b)) :=
  peW (pe_bm PySem.F.plainAttrs_list PySem.F.slot_list_index PySem.F.type_list_index (mt_indexD hu) ha (nd_cons hb nd_nil h1) (base_of h0) (few_of h1) hl (star_of h1) rfl) fun σ H Q ⟨φ, Z, env, st, hE, hS, h⟩ => by
    simp only [evE] at h
    refine tE.of hE hS h fun l st1 v φ1 H1 e1 s1 E1 iv h1 => ?_
    split at h1
    · rename_i hd
      obtain ⟨ws, hw⟩ := Option.isSome_iff_exists.mp hd
      refine ⟨app_ty s1 iv hw, ?_⟩
      refine one_of E1 s1 h1 fun x st2 u φ2 H2 e2 s2 E2 iu h2 => ?_
      obtain ⟨z, hz, h3⟩ := h2.get
      exact index_ok s2 (iv.mono e2) iu hz fun w iw => h3.now s2 w iw
    · exact h1.elim
theorem nd_join (ha : PE X ea (tE X.K cf a)) (hb : PE X eb (tE X.K cf b)) (h0 : notSuper ea = true) (h1 : notStar eb = true) (hl : (apos.endLine == cpos.line) = true) :
    PE X (.Call (.Attribute ea "join" apos) [eb] [] cpos) (tE X.K cf (.join a b)) :=
  peW (pe_bm PySem.F.plainAttrs_str PySem.F.slot_str_join PySem.F.type_str_join mt_join ha (nd_cons hb nd_nil h1) (base_of h0) (few_of h1) hl (star_of h1) rfl) fun σ H Q ⟨φ, Z, env, st, hE, hS, h⟩ => by
    simp only [evE] at h
    refine tE.of hE hS h fun l st1 v φ1 H1 e1 s1 E1 iv h1 => ?_
    have hl : ∃ t, l = .str t := by
      obtain ⟨y, st2, _, h2⟩ := h1.split
      obtain ⟨z, hz, _⟩ := h2.get
      unfold joinV at hz
      split at hz
      · exact ⟨_, rfl⟩
      · cases hz
    obtain ⟨t, rfl⟩ := hl
    refine ⟨by cases iv; rfl, one_of E1 s1 h1 fun x st2 u φ2 H2 e2 s2 E2 iu h2 => ?_⟩
    obtain ⟨z, hz, h3⟩ := h2.get
    exact (join_ok s2 (iv.mono e2) iu hz fun w iw => h3.now s2 w iw).1
/-! ### tests -/
theorem pw_of_pt {op : BoolOp} {vs : List Expr} {t : TT} (h : PT X (.BoolOp op vs pos) t) : PW X (.BoolOp op vs pos) t :=
  ⟨fun whole pins s σ H Q I q => h.run pins s σ H Q I q⟩
theorem nt_val (hp : plainTest ea = true) (ha : PE X ea (tE X.K cf a)) : PT X ea (tT X.K cf a) :=
  ptW (pt_truth ha fun w => test_of hp w) fun σ H Q ⟨φ, Z, env, st, hE, hS, h⟩ => by
    unfold evT at h
    refine tE.of hE hS h fun x st1 v φ1 H1 e1 s1 E1 iv h1 => ?_
    obtain ⟨k, hk, h2⟩ := h1.get
    exact ⟨k, tru_of s1 iv hk, h2.now s1⟩
theorem nt_not (ha : PT X ea (tT X.K cf a)) : PT X (.UnaryOp .Not ea pos) (tT X.K cf (.not a)) :=
  ptW (pt_not ha) fun σ H Q ⟨φ, Z, env, st, hE, hS, h⟩ => by
    unfold evT at h
    simp only [evE] at h
    refine ⟨φ, Z, env, st, hE, hS, ?_⟩
    unfold evT
    cases hr : evE cf a env st with
    | ok x st1 =>
      rw [hr] at h
      simp only [R.bind_ok] at h ⊢
      cases ht : truV st1 x with
      | some k =>
        rw [ht] at h
        exact h
      | none => rw [ht] at h; exact h.elim
    | exc _ _ _ => rw [hr] at h; exact h.elim
    | bad => rw [hr] at h; exact h.elim
theorem nt_and {e2 : Expr} {rest : List Expr} (ha : PT X ea (tT X.K cf a)) (hb : PT X (.BoolOp .And (e2 :: rest) pos) (tT X.K cf b)) : PT X (.BoolOp .And (ea :: e2 :: rest) pos) (tT X.K cf (.and a b)) :=
  ptW (pw_and ha (pw_of_pt hb)).pt fun σ H Q ⟨φ, Z, env, st, hE, hS, h⟩ => by
    unfold evT at h
    simp only [evE] at h
    refine tT_use (Y := []) (f := fun k st1 => (match k with | true => evT cf b env st1 | false => .ok false st1)) (k := wB Q) hE hS ?_ fun k st1 φ1 H1 e1 s1 E1 h1 => ?_
    · cases hr : evE cf a env st with
      | ok x st1 =>
        rw [hr] at h
        simp only [R.bind_ok] at h ⊢
        cases ht : truV st1 x with
        | some k =>
          rw [ht] at h
          cases k with
          | true => exact h
          | false =>
            simp only [ofO_some, R.bind_ok, ht] at h
            exact h
        | none => rw [ht] at h; exact h.elim
      | exc _ _ _ => rw [hr] at h; exact h.elim
      | bad => rw [hr] at h; exact h.elim
    · cases k with
      | true => exact ⟨φ1, Z, env, st1, E1, s1, h1⟩
      | false => exact h1.now s1
theorem nt_or {e2 : Expr} {rest : List Expr} (ha : PT X ea (tT X.K cf a)) (hb : PT X (.BoolOp .Or (e2 :: rest) pos) (tT X.K cf b)) : PT X (.BoolOp .Or (ea :: e2 :: rest) pos) (tT X.K cf (.or a b)) :=
  ptW (pw_or ha (pw_of_pt hb)).pt fun σ H Q ⟨φ, Z, env, st, hE, hS, h⟩ => by
    unfold evT at h
    simp only [evE] at h
    refine tT_use (Y := []) (f := fun k st1 => (match k with | true => .ok true st1 | false => evT cf b env st1)) (k := wB Q) hE hS ?_ fun k st1 φ1 H1 e1 s1 E1 h1 => ?_
    · cases hr : evE cf a env st with
      | ok x st1 =>
        rw [hr] at h
        simp only [R.bind_ok] at h ⊢
        cases ht : truV st1 x with
        | some k =>
          rw [ht] at h
          cases k with
          | false => exact h
          | true =>
            simp only [ofO_some, R.bind_ok, ht] at h
            exact h
        | none => rw [ht] at h; exact h.elim
      | exc _ _ _ => rw [hr] at h; exact h.elim
      | bad => rw [hr] at h; exact h.elim
    · cases k with
      | true => exact h1.now s1
      | false => exact ⟨φ1, Z, env, st1, E1, s1, h1⟩
theorem pt_one {op : BoolOp} {t : TT} (ha : PT X ea t) : PT X (.BoolOp op [ea] pos) t := by
  cases op with
  | And => exact (pw_and1 ha).pt
  | Or => exact (pw_or1 ha).pt
/-- a test of a value that is a bool -/
theorem nt_bl {p : E} {t : TE} (h : PT X ea (tTest t)) (w : ∀ σ H Q, tE X.K cf p σ H Q → t σ H Q) (hb : ∀ env st, ∃ f : R Bool, evE cf p env st = f.bind fun k st => .ok (.bl k) st) : PT X ea (tT X.K cf p) :=
  ptW h fun σ H Q ⟨φ, Z, env, st, hE, hS, h⟩ => by
    refine w σ H _ ⟨φ, Z, env, st, hE, hS, ?_⟩
    unfold evT at h
    obtain ⟨f, hf⟩ := hb env st
    rw [hf] at h ⊢
    cases f with
    | ok k st1 => exact fun φ1 H1 e1 s1 v iv => ⟨k, by cases iv; rfl, h φ1 H1 e1 s1⟩
    | exc _ _ _ => exact h.elim
    | bad => exact h.elim
theorem R.bind_assoc {α β γ : Type} (r : R α) (f : α → Store → R β) (g : β → Store → R γ) : (r.bind f).bind g = r.bind fun x st => (f x st).bind g := by
  cases r <;> rfl
theorem nt_cmp {o : Co} (hu : X.A.units + 65 < cLine) (ha : PE X ea (tE X.K cf a)) (hb : PE X eb (tE X.K cf b)) (hm : behindInMarks (coE o) eb = false) : PT X (.Compare ea [coE o] [eb] pos) (tT X.K cf (.cmp o a b)) :=
  nt_bl (pt_cmpR (rCmp_ok hu o) ha hb hm) (fun σ H Q ⟨φ, Z, env, st, hE, hS, h⟩ => by
    simp only [evE] at h
    refine tE.of hE hS h fun x st1 v φ1 H1 e1 s1 E1 iv h1 => tE.of E1 s1 h1 fun y st2 u φ2 H2 e2 s2 E2 iu h2 => ?_
    obtain ⟨k, hk, h3⟩ := h2.got
    exact cmp_ok s2 (iv.mono e2) iu hk (h3.now s2 _ (.bl k))) fun env st => ⟨(evE cf a env st).bind fun x st => (evE cf b env st).bind fun y st => ofO (cmpV st o x y) st, by simp only [evE, R.bind_assoc]⟩
theorem nt_chn {o p : Co} (hu : X.A.units + 65 < cLine) (ha : PE X ea (tE X.K cf a)) (hb : PE X eb (tE X.K cf b)) (hc : PE X ec (tE X.K cf c)) (hm : lastMarks [coE o, coE p] [eb, ec] = false) :
    PT X (.Compare ea [coE o, coE p] [eb, ec] pos) (tT X.K cf (.chn o p a b c)) :=
  nt_bl (pt_chain (rCmp_ok hu o) (rCmp_ok hu p) ha hb hc hm) (fun σ H Q h => chn_of h) fun env st => ⟨(evE cf a env st).bind fun x st => (evE cf b env st).bind fun y st => (ofO (cmpV st o x y) st).bind fun k st => (match k with
      | true => (evE cf c env st).bind fun z st => ofO (cmpV st p y z) st
      | false => .ok false st), by
    simp only [evE, R.bind_assoc]
    congr; funext x st; congr; funext y st; congr; funext k st
    cases k <;> simp [R.bind_assoc]⟩
theorem nt_isN {j : Nat} (ha : PE X ea (tE X.K cf a)) : PT X (.Compare ea [.Is] [.Constant .none j pos'] pos) (tT X.K cf (.isN a)) :=
  nt_bl (t := tIsN (tE X.K cf a)) (ptW (pt_cmp (pc_isN ha)) fun _ _ _ h => h) (fun σ H Q ⟨φ, Z, env, st, hE, hS, h⟩ => by
    simp only [evE] at h
    refine tE.of hE hS h fun x st1 v φ1 H1 e1 s1 E1 iv h1 => ?_
    rw [isN_ok iv]
    exact h1.now s1 _ (.bl _)) fun env st => ⟨(evE cf a env st).bind fun x st => .ok (isNon x) st, by simp only [evE, R.bind_assoc, R.bind_ok]⟩
theorem nt_notN {j : Nat} (ha : PE X ea (tE X.K cf a)) : PT X (.Compare ea [.IsNot] [.Constant .none j pos'] pos) (tT X.K cf (.notN a)) :=
  nt_bl (t := tNotN (tE X.K cf a)) (ptW (pt_cmp (pc_notN ha)) fun _ _ _ h => h) (fun σ H Q ⟨φ, Z, env, st, hE, hS, h⟩ => by
    simp only [evE] at h
    refine tE.of hE hS h fun x st1 v φ1 H1 e1 s1 E1 iv h1 => ?_
    rw [isN_ok iv]
    exact h1.now s1 _ (.bl _)) fun env st => ⟨(evE cf a env st).bind fun x st => .ok (!isNon x) st, by simp only [evE, R.bind_assoc, R.bind_ok]⟩
end
end PV
end

section
set_option Elab.async false
set_option linter.all false
set_option maxRecDepth 100000
/-! PvLoop: what is walked, targets, comprehensions. -/
namespace PV
open PySem L2
section
variable {K : PySem.W.Frag} {φ φ' Y Z Z' : List Addr} {H H' H2 : Hp} {st st' : Store} {x y z : Val} {u v : V} {xs ys vs : List Val} {us : List V} {J : It} {w : Wk} {σ : St} {env : Env}
/-! ### what is walked -/
inductive Src (K : PySem.W.Frag) (φ Z : List Addr) (H : Hp) : It → Wk → List Val → Prop
  | list {a : Addr} {x : Val} : Is K φ Z H (.ref a) x → (∀ l, x ≠ .tup l) → Src K φ Z H (Itl K a) .of [x]
  | tup {a : Addr} {l : List Val} : Is K φ Z H (.ref a) (.tup l) → Src K φ Z H (Itt K a) .of [.tup l]
  | str (t : Str) : Src K φ Z H (Its t) .of [.str t]
  | rng1 (n : Int) : Src K φ Z H (Itr 0 n.toNat) .range [.int n]
  | rng2 (m n : Int) : Src K φ Z H (Itr m (n - m).toNat) .range [.int m, .int n]
  | enum {a : Addr} {x : Val} : Is K φ Z H (.ref a) x → (∀ l, x ≠ .tup l) → Src K φ Z H (Ite K a) .enum [x]
  | zip {a b : Addr} {x y : Val} : Is K φ Z H (.ref a) x → (∀ l, x ≠ .tup l) → Is K φ Z H (.ref b) y → (∀ l, y ≠ .tup l) → Src K φ Z H (Itz K a b) .zip [x, y]
theorem Src.monoY (hy : ∀ a ∈ Y, a ∈ Z) (e : Ext φ Y H φ' H') (s : Src K φ Z H J w vs) : Src K φ' Z H' J w vs := by
  cases s with
  | list h n => exact .list (h.monoY hy e) n
  | tup h => exact .tup (h.monoY hy e)
  | str t => exact .str t
  | rng1 n => exact .rng1 n
  | rng2 m n => exact .rng2 m n
  | enum h n => exact .enum (h.monoY hy e) n
  | zip h n h2 n2 => exact .zip (h.monoY hy e) n (h2.monoY hy e) n2
theorem Src.chg (c : Chg φ Z H φ' Z') (s : Src K φ Z H J w vs) : Src K φ' Z' H J w vs := by
  cases s with
  | list h n => exact .list (h.chg c) n
  | tup h => exact .tup (h.chg c)
  | str t => exact .str t
  | rng1 n => exact .rng1 n
  | rng2 m n => exact .rng2 m n
  | enum h n => exact .enum (h.chg c) n
  | zip h n h2 n2 => exact .zip (h.chg c) n (h2.chg c) n2
theorem seqOf_still (h : ∀ n, x ≠ .ref n) : seqOf st x = seqOf st' x := by
  cases x <;> first | rfl | exact absurd rfl (h _)
theorem seqL_still (h : ∀ n, x ≠ .ref n) : seqL st x = seqL st' x := by
  cases x <;> first | rfl | exact absurd rfl (h _)
theorem walk_still (h : noRef vs = true) : walkV st w vs = walkV st' w vs := by
  have nr : ∀ (x : Val) (r : List Val), noRef (x :: r) = true → (∀ n, x ≠ .ref n) ∧ noRef r = true := by
    intro x r h
    cases x with
    | ref a => cases h
    | _ => exact ⟨fun n => by simp, h⟩
  unfold walkV
  cases w with
  | of =>
    match vs, h with
    | [], _ => rfl
    | [x], h =>
      have := (nr x [] h).1
      cases x <;> first | rfl | exact absurd rfl (this _)
    | _ :: _ :: _, _ => rfl
  | range => rfl
  | enum =>
    match vs, h with
    | [], _ => rfl
    | [x], h => simp only [seqL_still (st := st) (st' := st') (nr x [] h).1]
    | _ :: _ :: _, _ => rfl
  | zip =>
    match vs, h with
    | [], _ => rfl
    | [x], _ => rfl
    | [x, y], h =>
      have h1 := nr x [y] h
      have h2 := nr y [] h1.2
      simp only [seqL_still (st := st) (st' := st') h1.1, seqL_still (st := st) (st' := st') h2.1]
    | _ :: _ :: _ :: _, _ => rfl
theorem keep_walk (h : keepW w vs xs st' = true) (hw : walkV st w vs = some xs) : walkV st' w vs = some xs := by
  unfold keepW at h
  rw [Bool.or_eq_true] at h
  rcases h with h | h
  · rw [← walk_still (st := st) h]
    exact hw
  · split at h
    · rename_i ys e
      rw [e, sameL_eq _ _ h]
    · cases h
/-- what a turn yields -/
def Yv (K : PySem.W.Frag) (φ Z : List Addr) (H : Hp) (v : V) (x : Val) : Prop := Is K φ Z H v x ∨ ∃ a us l, x = .tup l ∧ v = .ref a ∧ SqT K H a us ∧ IsL K φ Z H us l
/-- names may be bound to what is yielded as it is -/
def whole : Wk → Bool
  | .of => true
  | .range => true
  | _ => false
theorem sq_none {a : Addr} {us ws : List V} (h1 : SqL K H a us) (h2 : ∀ ws, SqL K H a ws → ws = us) (h3 : SqL K H a ws) : ws = us := h2 ws h3
theorem enum_at : ∀ (l : List Val) (k i : Nat), (enumV k l)[i]? = (l[i]?).map fun x => Val.tup [.int ((k + i : Nat) : Int), x]
  | [], _, _ => by simp [enumV]
  | x :: r, k, 0 => by simp [enumV]
  | x :: r, k, i + 1 => by
    simp only [enumV, List.getElem?_cons_succ]
    rw [enum_at r (k + 1) i, show k + 1 + i = k + (i + 1) by omega]
theorem enum_len : ∀ (l : List Val) (k : Nat), (enumV k l).length = l.length
  | [], _ => rfl
  | x :: r, k => by simp [enumV, enum_len r (k + 1)]
theorem zip_at : ∀ (l m : List Val) (i : Nat) (x : Val), (zipV l m)[i]? = some x → ∃ a b, l[i]? = some a ∧ m[i]? = some b ∧ x = .tup [a, b]
  | [], _, _, _, h => by simp [zipV] at h
  | _ :: _, [], _, _, h => by simp [zipV] at h
  | a :: l, b :: m, 0, x, h => by
    simp [zipV] at h
    exact ⟨a, b, by simp, by simp, h.symm⟩
  | a :: l, b :: m, i + 1, x, h => by
    obtain ⟨c, d, h1, h2, h3⟩ := zip_at l m i x (by simpa [zipV] using h)
    exact ⟨c, d, by simpa using h1, by simpa using h2, h3⟩
theorem zip_len : ∀ (l m : List Val), l.length ≤ (zipV l m).length ∨ m.length ≤ (zipV l m).length
  | [], _ => .inl (by simp)
  | _ :: _, [] => .inr (by simp)
  | a :: l, b :: m => by
    rcases zip_len l m with h | h
    · exact .inl (by simpa [zipV] using h)
    · exact .inr (by simpa [zipV] using h)
theorem new_pair {T : Addr} {p q : V} {a b : Val} (s : RelS K φ Z H st) (hT : H T = none) (ha : Is K φ Z H p a) (hb : Is K φ Z H q b) :
    Ext φ [] H φ (upd H T (.tup [p, q])) ∧ RelS K φ Z (upd H T (.tup [p, q])) st ∧ Yv K φ Z (upd H T (.tup [p, q])) (.ref T) (.tup [a, b]) := by
  have e : Ext φ [] H φ (upd H T (.tup [p, q])) := Ext.fresh s hT
  exact ⟨e, s.fresh hT, .inr ⟨T, _, _, rfl, rfl, .inl (.inl upd_same), .cons (ha.mono e) (.cons (hb.mono e) .nil)⟩⟩
theorem Src.step (s : RelS K φ Z H st) (S : Src K φ Z H J w vs) (hw : walkV st w vs = some xs) :
    J.stop xs.length H ∧ ∀ i x, xs[i]? = some x → J.go i H ∧ ∀ v H2, J.yld i H v H2 → Ext φ [] H φ H2 ∧ RelS K φ Z H2 st ∧ Yv K φ Z H2 v x ∧ (whole w = true → Is K φ Z H2 v x) := by
  cases S with
  | list h n =>
    rename_i a x
    have hx : seqOf st x = some xs := by
      cases x <;> first | exact hw | cases h
    obtain ⟨a', us, e, hq, r⟩ := seqL_of s h hx n
    cases e
    refine ⟨⟨us, hq, Nat.le_of_eq r.length⟩, fun i y hy => ?_⟩
    obtain ⟨v, hv, iv⟩ := r.get hy
    refine ⟨⟨us, v, hq, hv⟩, fun v' H2 hyld => ?_⟩
    obtain ⟨rfl, q⟩ := hyld
    have e2 := q us hq
    rw [hv] at e2
    cases e2
    exact ⟨Ext.refl, s, .inl iv, fun _ => iv⟩
  | tup h =>
    rename_i a l
    cases hw
    cases h with
    | tup f r =>
      refine ⟨⟨_, f.seq, Nat.le_of_eq r.length⟩, fun i y hy => ?_⟩
      obtain ⟨v, hv, iv⟩ := r.get hy
      refine ⟨⟨_, v, f.seq, hv⟩, fun v' H2 hyld => ?_⟩
      obtain ⟨rfl, q⟩ := hyld
      have e2 := q _ f.seq
      rw [hv] at e2
      cases e2
      exact ⟨Ext.refl, s, .inl iv, fun _ => iv⟩
  | str t =>
    simp only [walkV, walk1] at hw
    split at hw
    · cases hw
      refine ⟨by simp [Its], fun i y hy => ?_⟩
      rw [List.getElem?_map] at hy
      obtain ⟨c, hc, rfl⟩ := Option.map_eq_some_iff.mp hy
      have hi : i < t.cps.size := by
        have := (List.getElem?_eq_some_iff.mp hc).1
        simpa using this
      refine ⟨hi, fun v' H2 hyld => ?_⟩
      obtain ⟨rfl, d, hd, rfl⟩ := hyld
      have e : d = c := by
        have h2 : t.cps.toList[i]? = some d := by simpa using hd
        rw [hc] at h2
        cases h2
        rfl
      subst e
      exact ⟨Ext.refl, s, .inl (.str _), fun _ => .str _⟩
    · cases hw
  | rng1 n =>
    simp only [walkV, walkR] at hw
    split at hw
    · cases hw
      unfold rangeV
      refine ⟨by simp only [Itr, List.length_map, List.length_range]; exact Nat.le_refl _, fun i y hy => ?_⟩
      rw [List.getElem?_map] at hy
      obtain ⟨c, hc, rfl⟩ := Option.map_eq_some_iff.mp hy
      obtain ⟨hi, rfl⟩ := List.getElem?_eq_some_iff.mp hc
      rw [List.length_range] at hi
      refine ⟨hi, fun v' H2 hyld => ?_⟩
      obtain ⟨rfl, rfl⟩ := hyld
      rw [List.getElem_range]
      have e : (0 : Int) + (i : Int) = (i : Int) := by omega
      rw [e]
      exact ⟨Ext.refl, s, .inl (.int _), fun _ => .int _⟩
    · cases hw
  | rng2 m n =>
    simp only [walkV, walkR] at hw
    split at hw
    · cases hw
      refine ⟨by simp only [Itr, List.length_map, List.length_range]; exact Nat.le_refl _, fun i y hy => ?_⟩
      rw [List.getElem?_map] at hy
      obtain ⟨c, hc, rfl⟩ := Option.map_eq_some_iff.mp hy
      obtain ⟨hi, rfl⟩ := List.getElem?_eq_some_iff.mp hc
      rw [List.length_range] at hi
      refine ⟨hi, fun v' H2 hyld => ?_⟩
      obtain ⟨rfl, rfl⟩ := hyld
      rw [List.getElem_range]
      exact ⟨Ext.refl, s, .inl (.int _), fun _ => .int _⟩
    · cases hw
  | enum h n =>
    rename_i a x
    simp only [walkV] at hw
    obtain ⟨ws, hx, rfl⟩ := Option.map_eq_some_iff.mp hw
    obtain ⟨a', us, e, hq, r⟩ := seqL_of s h (seqL_seq hx).1 n
    cases e
    refine ⟨⟨us, hq, by rw [enum_len, r.length]; exact Nat.le_refl _⟩, fun i y hy => ?_⟩
    rw [enum_at] at hy
    obtain ⟨c, hc, rfl⟩ := Option.map_eq_some_iff.mp hy
    obtain ⟨v, hv, iv⟩ := r.get hc
    refine ⟨⟨us, v, hq, hv⟩, fun v' H2 hyld => ?_⟩
    obtain ⟨T, p, rfl, hT, rfl, q⟩ := hyld
    have e2 := q us hq
    rw [hv] at e2
    cases e2
    have e3 : (0 + i : Nat) = i := by omega
    rw [e3]
    obtain ⟨g1, g2, g3⟩ := new_pair s hT (.int (i : Int)) iv
    exact ⟨g1, g2, g3, fun q => by cases q⟩
  | zip h n h2 n2 =>
    rename_i a b x y
    simp only [walkV] at hw
    split at hw
    · rename_i p q hp hq
      cases hw
      obtain ⟨a', us, e, sq, r⟩ := seqL_of s h (seqL_seq hp).1 n
      cases e
      obtain ⟨b', us2, e, sq2, r2⟩ := seqL_of s h2 (seqL_seq hq).1 n2
      cases e
      refine ⟨⟨us, us2, sq, sq2, ?_⟩, fun i y hy => ?_⟩
      · rw [r.length, r2.length]
        exact zip_len p q
      · obtain ⟨c, d, hc, hd, rfl⟩ := zip_at p q i y hy
        obtain ⟨v, hv, iv⟩ := r.get hc
        obtain ⟨v2, hv2, iv2⟩ := r2.get hd
        refine ⟨⟨us, us2, v, v2, sq, sq2, hv, hv2⟩, fun v' H2 hyld => ?_⟩
        obtain ⟨T, p', q', rfl, hT, rfl, g1, g2⟩ := hyld
        have e2 := g1 us sq
        rw [hv] at e2
        cases e2
        have e3 := g2 us2 sq2
        rw [hv2] at e3
        cases e3
        obtain ⟨k1, k2, k3⟩ := new_pair s hT iv iv2
        exact ⟨k1, k2, k3, fun q => by cases q⟩
    · cases hw
/-! ### targets -/
def gIs : List Nat → TGs
  | [] => gNil
  | i :: r => gCons (gName i) (gIs r)
def tgR (K : PySem.W.Frag) : Tg → TG
  | .nm i => gName i
  | .tp is => gTup K is.length (gIs is)
def Tg.slots : Tg → List Nat
  | .nm i => [i]
  | .tp is => is
theorem gIs_of {Q : St → Hp → Prop} : ∀ (is : List Nat) (us : List V) (σ : St), us.length = is.length → Q (setAll σ is us) H → gIs is us σ H Q
  | [], [], _, _, q => ⟨rfl, q⟩
  | i :: r, v :: us, σ, hl, q => ⟨v, us, rfl, gIs_of r us (σ.set i (some v)) (by simpa using hl) q⟩
  | [], _ :: _, _, hl, _ => by cases hl
  | _ :: _, [], _, hl, _ => by cases hl
theorem setAll_len {α : Type} : ∀ (is : List Nat) (xs : List α) (e : List (Option α)), (setAll e is xs).length = e.length
  | [], _, _ => by simp [setAll]
  | _ :: _, [], _ => by simp [setAll]
  | i :: r, x :: xs, e => by
    simp only [setAll]
    rw [setAll_len r xs]
    simp
theorem setAll_out {α : Type} {j : Nat} : ∀ (is : List Nat) (xs : List α) (e : List (Option α)), j ∉ is → (setAll e is xs)[j]? = e[j]?
  | [], _, _, _ => by simp [setAll]
  | _ :: _, [], _, _ => by simp [setAll]
  | i :: r, x :: xs, e, h => by
    simp only [setAll]
    rw [setAll_out r xs _ fun q => h (List.mem_cons_of_mem _ q)]
    rw [List.getElem?_set_ne fun q => h (by rw [q]; exact List.mem_cons_self)]
theorem setAll_congr {α : Type} : ∀ (is : List Nat) (xs : List α) (e e' : List (Option α)), e.length = e'.length → (∀ j, j ∉ is → e[j]? = e'[j]?) → is.length = xs.length → setAll e is xs = setAll e' is xs
  | [], _, e, e', _, h, _ => by
    simp only [setAll]
    exact List.ext_getElem? fun j => h j (by simp)
  | _ :: _, [], _, _, _, _, hl => by cases hl
  | i :: r, x :: xs, e, e', hlen, h, hl => by
    simp only [setAll]
    refine setAll_congr r xs _ _ (by simp [hlen]) (fun j hj => ?_) (by simpa using hl)
    by_cases q : i = j
    · subst q
      rw [List.getElem?_set, List.getElem?_set]
      simp [hlen]
    · rw [List.getElem?_set_ne q, List.getElem?_set_ne q]
      exact h j fun m => (List.mem_cons.mp m).elim (fun e => q e.symm) hj
theorem RelE.set {i : Nat} (h : RelE K φ Z H σ env) (hv : Is K φ Z H v x) : RelE K φ Z H (σ.set i (some v)) (env.set i (some x)) := by
  refine ⟨by simp [h.len], fun j y e => ?_⟩
  by_cases q : i = j
  · subst q
    rw [List.getElem?_set] at e
    split at e
    · split at e
      · rename_i hi
        cases e
        exact ⟨v, by rw [List.getElem?_set_self (by rw [h.len]; exact hi)], hv⟩
      · cases e
    · rename_i hh; exact absurd rfl hh
  · rw [List.getElem?_set_ne q] at e
    obtain ⟨w, h1, h2⟩ := h.at_ j y e
    exact ⟨w, by rw [List.getElem?_set_ne q]; exact h1, h2⟩
theorem RelE.setAll : ∀ {is : List Nat} {us : List V} {l : List Val} {σ : St} {env : Env}, RelE K φ Z H σ env → IsL K φ Z H us l → RelE K φ Z H (PV.setAll σ is us) (PV.setAll env is l)
  | [], _, _, _, _, h, _ => by simpa [PV.setAll] using h
  | _ :: _, _, _, _, _, h, .nil => by simpa [PV.setAll] using h
  | i :: r, _, _, σ, env, h, .cons a b => by
    simp only [PV.setAll]
    exact RelE.setAll (h.set a) b
/-- a value bound to a target -/
theorem tg_ok {tg : Tg} {env' : Env} {Q : St → Hp → Prop} (hv : Yv K φ Z H v x) (hn : (∀ i, tg = .nm i → Is K φ Z H v x)) (hb : bindT tg x env = some env') :
    ∃ us l, env' = setAll env tg.slots l ∧ us.length = tg.slots.length ∧ IsL K φ Z H us l ∧ ∀ σ, Q (setAll σ tg.slots us) H → tgR K tg v σ H Q := by
  cases tg with
  | nm i =>
    cases hb
    exact ⟨[v], [x], rfl, rfl, .cons (hn i rfl) .nil, fun σ q => q⟩
  | tp is =>
    simp only [bindT] at hb
    split at hb
    · rename_i l
      split at hb
      · rename_i hl
        cases hb
        have key : ∃ a us, v = .ref a ∧ SqT K H a us ∧ IsL K φ Z H us l := by
          rcases hv with hv | ⟨a, us, l', e, rfl, hq, r⟩
          · cases hv with
            | tup f r => exact ⟨_, _, rfl, f.seq, r⟩
          · cases e
            exact ⟨a, us, rfl, hq, r⟩
        obtain ⟨a, us, rfl, hq, r⟩ := key
        have hul : us.length = is.length := by rw [r.length, hl]
        exact ⟨us, l, rfl, hul, r, fun σ q => ⟨a, us, rfl, hq, hul, gIs_of is us σ hul q⟩⟩
      · cases hb
    · cases hb
/-! ### slots of a comprehension -/
theorem wipe_in {j : Nat} : ∀ {vs : List Nat} {σ : St}, j ∈ vs → j < σ.length → (wipe σ vs)[j]? = some none
  | i :: r, σ, h, hl => by
    show ((wipe σ r).set i none)[j]? = _
    by_cases q : i = j
    · subst q
      rw [List.getElem?_set_self (by rw [wipe_length]; exact hl)]
    · rw [List.getElem?_set_ne q]
      exact wipe_in ((List.mem_cons.mp h).resolve_left fun e => q e.symm) hl
theorem wipe_congr {vs : List Nat} {σ τ : St} (hl : σ.length = τ.length) (h : ∀ j, j ∉ vs → σ[j]? = τ[j]?) : wipe σ vs = wipe τ vs := by
  refine List.ext_getElem? fun j => ?_
  by_cases hj : j ∈ vs
  · by_cases hlt : j < σ.length
    · rw [wipe_in hj hlt, wipe_in hj (by omega)]
    · rw [List.getElem?_eq_none (by rw [wipe_length]; omega), List.getElem?_eq_none (by rw [wipe_length]; omega)]
  · rw [wipe_out hj, wipe_out hj]
    exact h j hj
theorem wipe_set {vs : List Nat} {us : List V} : wipe (setAll (wipe σ vs) vs us) vs = wipe σ vs := by
  have h1 : wipe (setAll (wipe σ vs) vs us) vs = wipe (wipe σ vs) vs := wipe_congr (by rw [setAll_len]) fun j hj => setAll_out _ _ _ hj
  rw [h1]
  exact wipe_congr (wipe_length σ vs) fun j hj => wipe_out hj
def wipeE (env : Env) : List Nat → Env
  | [] => env
  | i :: r => (wipeE env r).set i none
theorem wipeE_len (env : Env) : ∀ vs : List Nat, (wipeE env vs).length = env.length
  | [] => rfl
  | i :: r => by
    show ((wipeE env r).set i none).length = _
    rw [List.length_set, wipeE_len env r]
theorem wipeE_out {j : Nat} : ∀ {vs : List Nat}, j ∉ vs → (wipeE env vs)[j]? = env[j]?
  | [], _ => rfl
  | i :: r, h => by
    show ((wipeE env r).set i none)[j]? = _
    rw [List.getElem?_set_ne fun q => h (by rw [q]; exact List.mem_cons_self)]
    exact wipeE_out fun q => h (List.mem_cons_of_mem _ q)
theorem RelE.wipe (h : RelE K φ Z H σ env) : ∀ vs : List Nat, RelE K φ Z H (L2.wipe σ vs) (wipeE env vs)
  | [] => h
  | i :: r => by
    have ih := RelE.wipe h r
    refine ⟨by show ((L2.wipe σ r).set i none).length = ((wipeE env r).set i none).length; simp [ih.len], fun j y e => ?_⟩
    have e' : ((wipeE env r).set i none)[j]? = some (some y) := e
    by_cases q : i = j
    · subst q
      rw [List.getElem?_set] at e'
      split at e'
      · split at e' <;> cases e'
      · rename_i hh; exact absurd rfl hh
    · rw [List.getElem?_set_ne q] at e'
      obtain ⟨w, h1, h2⟩ := ih.at_ j y e'
      exact ⟨w, by show ((L2.wipe σ r).set i none)[j]? = _; rw [List.getElem?_set_ne q]; exact h1, h2⟩
theorem RelE.turn {vs : List Nat} {us : List V} {l : List Val} (h : RelE K φ Z H σ env) (r : IsL K φ Z H us l) (hl : us.length = vs.length) : RelE K φ Z H (PV.setAll (L2.wipe σ vs) vs us) (PV.setAll env vs l) := by
  have e : PV.setAll env vs l = PV.setAll (wipeE env vs) vs l := setAll_congr vs l env _ (wipeE_len env vs).symm (fun j hj => (wipeE_out hj).symm) (by rw [← hl, r.length])
  rw [e]
  exact (h.wipe vs).setAll r
/-! ### a thing under way -/
theorem Ext.writeZ {D : Addr} {o : HO} (hD : H D ≠ none) : Ext φ [D] H φ (upd H D o) := by
  refine ⟨List.prefix_refl _, fun b u h1 h2 r => ?_, fun b u h1 h2 _ r => ?_, fun b h1 h2 => ⟨h1, ?_⟩⟩
  · have ne : b ≠ D := fun z => h2 (z ▸ List.mem_singleton_self _)
    rcases r with r | ⟨ob, r⟩
    · exact .inl (by rw [upd_ne ne]; exact r)
    · exact .inr ⟨ob, by rw [upd_ne ne]; exact r⟩
  · have ne : b ≠ D := fun z => h2 (z ▸ List.mem_singleton_self _)
    rw [upd_ne ne]
    exact r
  · by_cases z : b = D
    · subst z
      rw [upd_same]
      intro q
      cases q
    · rw [upd_ne z]
      exact h2
theorem one_in {D : Addr} {Z : List Addr} : ∀ a ∈ [D], a ∈ D :: Z := fun a h => by
  rw [List.mem_singleton] at h
  subst h
  exact List.mem_cons_self
theorem RelS.writeZ {D : Addr} {o : HO} (s : RelS K φ (D :: Z) H st) : RelS K φ (D :: Z) (upd H D o) st := by
  have hD := s.zin D List.mem_cons_self
  have ne : ∀ a, H a ≠ none → upd H D o a ≠ none := fun a h => by
    by_cases z : a = D
    · subst z
      rw [upd_same]
      intro q
      cases q
    · rw [upd_ne z]
      exact h
  refine ⟨s.len, s.nd, fun a ha => ne a (s.there a ha), fun a ha => ⟨ne a (s.zin a ha).1, (s.zin a ha).2⟩, fun n a ob h1 h2 => ?_⟩
  have z : a ≠ D := fun q => hD.2 (q ▸ List.mem_of_getElem? h1)
  exact (s.at_ n a ob h1 h2).monoY one_in (Ext.writeZ hD.1) (upd_ne z)
/-- under way from nothing -/
theorem ext_out {D : Addr} {o : HO} {φ1 φ2 : List Addr} {H1 H2 : Hp} (hD : H1 D = none) (e : Ext φ1 [D] (upd H1 D o) φ2 H2) : Ext φ1 [] H1 φ2 H2 := by
  have nd : ∀ a, H1 a ≠ none → a ≠ D := fun a h q => h (q ▸ hD)
  have ni : ∀ a, H1 a ≠ none → a ∉ [D] := fun a h q => nd a h (List.mem_singleton.mp q)
  refine ⟨e.pre, fun a u h1 _ r => e.keep a u h1 (ni a (rd_some r)) ?_, fun a u h1 _ d r => e.keepD a u h1 (ni a (rd_some (.inl r))) d ?_, fun a h1 h2 => e.news a h1 ?_⟩
  · have ne := nd a (rd_some r)
    rcases r with r | ⟨ob, r⟩
    · exact .inl (by rw [upd_ne ne]; exact r)
    · exact .inr ⟨ob, by rw [upd_ne ne]; exact r⟩
  · rw [upd_ne (nd a (rd_some (.inl r)))]
    exact r
  · rw [upd_ne (nd a h2)]
    exact h2
end
end PV
end

section
set_option Elab.async false
set_option linter.all false
set_option maxRecDepth 100000
/-! PvComp: what is walked as an expression; comprehensions, dict displays. -/
namespace PV
open PySem L2
theorem two62 : (2 : Int) ^ 62 = 4611686018427387904 := by decide
section
variable {X : Cx} {cf : CallF} {pos pos' apos cpos p : Pos} {ea eb ec tg : Expr} {a b c : E}
/-- a list, a tuple, a text is walked -/
def iAny (K : PySem.W.Frag) (te : TE) : TI := fun σ H R => te σ H fun x H1 => (∃ a vs, x = .ref a ∧ SqL K H1 a vs ∧ R (Itl K a) H1) ∨ (∃ a vs, x = .ref a ∧ SqT K H1 a vs ∧ R (Itt K a) H1) ∨ ∃ z, x = .str z ∧ R (Its z) H1
theorem pi_any {te : TE} (he : PE X ea te) : PI X tg ea (iAny X.K te) := by
  refine ⟨fun pins s σ H R I h => ?_⟩
  refine thn (he.run pins s σ H _ I h) fun v s1 ⟨x, H1, I1, r1, q1⟩ => ?_
  rcases q1 with ⟨a, xs, rfl, hq, q⟩ | ⟨a, xs, rfl, hq, q⟩ | ⟨z, rfl, q⟩
  · cases r1
    obtain ⟨its, rv, pl, hz⟩ := I1.list hq
    exact wpAny_pyIter_list pl.isList (pi_one (tk := s1.toks) I1 _ (turn_list a _) ⟨_, Heap.get?_push_size _ rfl, rfl, rfl⟩ q)
  · cases r1
    obtain ⟨its, rv, pl, hz⟩ := I1.tuple hq
    exact wpAny_pyIter_tuple (show s1.heap.IsTuple a its.toArray from pl) (pi_one (tk := s1.toks) I1 _ (turn_tuple a _) ⟨_, Heap.get?_push_size _ rfl, rfl, rfl⟩ q)
  · obtain ⟨t, rfl⟩ := r1
    cases ha : z.cps.all (· < 128)
    · exact wpAny_pyIter_wide ha (pi_one (tk := s1.toks) I1 _ (turn_str _ z t "str_iterator" (.inr rfl)) ⟨_, Heap.get?_push_size _ rfl, rfl, rfl⟩ q)
    · exact wpAny_pyIter_ascii ha (pi_one (tk := s1.toks) I1 _ (turn_str _ z t "str_ascii_iterator" (.inl rfl)) ⟨_, Heap.get?_push_size _ rfl, rfl, rfl⟩ q)
def wiR (K : PySem.W.Frag) (cf : CallF) : Wk → List E → TI
  | .of, [e] => iAny K (tE K cf e)
  | .range, [a] => iRng1 (tEs K cf [a])
  | .range, [a, b] => iRng2 (tEs K cf [a, b])
  | .enum, [e] => iEnum K (tEs K cf [e])
  | .zip, [a, b] => iZip K (tEs K cf [a, b])
  | _, _ => fun _ _ _ => False
theorem span_of {n : Int} (h : inSpan n = true) : -(2 ^ 62) ≤ n ∧ n < 2 ^ 62 := by
  unfold inSpan at h
  rw [Bool.and_eq_true, decide_eq_true_eq, decide_eq_true_eq] at h
  rw [two62]
  exact h
theorem ev_one {K : PySem.W.Frag} {φ Y Z : List Addr} {H : Hp} {env : Env} {st : Store} {e : E} {β : Type} {f : List Val → Store → R β} {k : β → Store → List Addr → Hp → Prop} (h : PstY K φ Y Z H ((evEs cf [e] env st).bind f) k) :
    PstY K φ Y Z H ((evE cf e env st).bind fun x st1 => f [x] st1) k := by
  simp only [evEs] at h
  cases hr : evE cf e env st with
  | ok x st1 => rw [hr] at h; exact h
  | exc _ _ _ => rw [hr] at h; exact h.elim
  | bad => rw [hr] at h; exact h.elim
theorem ev_two {K : PySem.W.Frag} {φ Y Z : List Addr} {H : Hp} {env : Env} {st : Store} {e e2 : E} {β : Type} {f : List Val → Store → R β} {k : β → Store → List Addr → Hp → Prop} (h : PstY K φ Y Z H ((evEs cf [e, e2] env st).bind f) k) :
    PstY K φ Y Z H ((evE cf e env st).bind fun x st1 => (evE cf e2 env st1).bind fun y st2 => f [x, y] st2) k := by
  simp only [evEs] at h
  cases hr : evE cf e env st with
  | ok x st1 =>
    rw [hr] at h
    simp only [R.bind_ok] at h ⊢
    cases hr2 : evE cf e2 env st1 with
    | ok y st2 => rw [hr2] at h; exact h
    | exc _ _ _ => rw [hr2] at h; exact h.elim
    | bad => rw [hr2] at h; exact h.elim
  | exc _ _ _ => rw [hr] at h; exact h.elim
  | bad => rw [hr] at h; exact h.elim
def walkForm (w : Wk) (n : Nat) : Bool := match w with
  | .of => n == 1
  | .range => n == 1 || n == 2
  | .enum => n == 1
  | .zip => n == 2
/-- use of a walk -/
theorem wi_use {φ Y Z : List Addr} {H : Hp} {σ : St} {env : Env} {st : Store} {w : Wk} {src : List E} {β : Type} {f : List Val → List Val → Store → R β} {k : β → Store → List Addr → Hp → Prop} {R : It → Hp → Prop} (hE : RelE X.K φ Z H σ env) (hS : RelS X.K φ Z H st)
    (h : PstY X.K φ Y Z H ((evEs cf src env st).bind fun vs st => (ofO (walkV st w vs) st).bind (f vs)) k) (hw : walkForm w src.length = true)
    (g : ∀ vs xs st1 J φ1 H1, Ext φ [] H φ1 H1 → RelS X.K φ1 Z H1 st1 → RelE X.K φ1 Z H1 σ env → Src X.K φ1 Z H1 J w vs → walkV st1 w vs = some xs → PstY X.K φ1 Y Z H1 (f vs xs st1) k → R J H1) : wiR X.K cf w src σ H R := by
  cases w with
  | of =>
    match src, hw with
    | [e], _ =>
      refine tE.of hE hS (ev_one h) fun x st1 v φ1 H1 e1 s1 E1 iv h1 => ?_
      obtain ⟨xs, hx, h2⟩ := h1.got
      have hx' : walk1 st1 x = some xs := hx
      by_cases ht : ∃ l, x = .tup l
      · obtain ⟨l, rfl⟩ := ht
        obtain ⟨A, us, rfl, hq, r⟩ : ∃ A us, v = .ref A ∧ SqT X.K H1 A us ∧ IsL X.K φ1 Z H1 us l := by
          cases iv with
          | tup f r => exact ⟨_, _, rfl, f.seq, r⟩
        exact .inr (.inl ⟨A, us, rfl, hq, g _ xs st1 _ φ1 H1 e1 s1 E1 (.tup iv) hx h2⟩)
      · by_cases hs : ∃ t, x = .str t
        · obtain ⟨t, rfl⟩ := hs
          cases iv
          exact .inr (.inr ⟨t, rfl, g _ xs st1 _ φ1 H1 e1 s1 E1 (.str t) hx h2⟩)
        · have hx2 : seqOf st1 x = some xs := by
            cases x <;> first | exact hx' | exact absurd ⟨_, rfl⟩ hs
          obtain ⟨A, us, rfl, hq, r⟩ := seqL_of s1 iv hx2 fun l e => ht ⟨l, e⟩
          exact .inl ⟨A, us, rfl, hq, g _ xs st1 _ φ1 H1 e1 s1 E1 (.list iv fun l e => ht ⟨l, e⟩) hx h2⟩
  | range =>
    match src, hw with
    | [e], _ =>
      refine one_of hE hS (ev_one h) fun x st1 v φ1 H1 e1 s1 E1 iv h1 => ?_
      obtain ⟨xs, hx, h2⟩ := h1.got
      have hx' : walkR [x] = some xs := hx
      cases x <;> first | cases hx' | skip
      rename_i n
      simp only [walkR] at hx'
      split at hx'
      · rename_i hn
        cases iv
        exact ⟨n, rfl, (span_of hn).1, (span_of hn).2, g _ xs st1 _ φ1 H1 e1 s1 E1 (.rng1 n) hx h2⟩
      · cases hx'
    | [e, e2], _ =>
      refine two_of hE hS (ev_two h) fun x y st1 v u φ1 H1 e1 s1 E1 iv iu h1 => ?_
      obtain ⟨xs, hx, h2⟩ := h1.got
      have hx' : walkR [x, y] = some xs := hx
      cases x <;> first | cases hx' | skip
      cases y <;> first | cases hx' | skip
      rename_i m n
      simp only [walkR] at hx'
      split at hx'
      · rename_i hn
        rw [Bool.and_eq_true] at hn
        cases iv
        cases iu
        exact ⟨m, n, rfl, ⟨(span_of hn.1).1, (span_of hn.1).2, (span_of hn.2).1, (span_of hn.2).2⟩, g _ xs st1 _ φ1 H1 e1 s1 E1 (.rng2 m n) hx h2⟩
      · cases hx'
  | enum =>
    match src, hw with
    | [e], _ =>
      refine one_of hE hS (ev_one h) fun x st1 v φ1 H1 e1 s1 E1 iv h1 => ?_
      obtain ⟨xs, hx, h2⟩ := h1.got
      obtain ⟨ws, hx2, rfl⟩ := Option.map_eq_some_iff.mp (show (seqL st1 x).map (enumV 0) = some xs from hx)
      have hx3 := seqL_seq hx2
      obtain ⟨A, us, rfl, hq, r⟩ := seqL_of s1 iv hx3.1 hx3.2
      exact ⟨A, us, rfl, hq, g _ _ st1 _ φ1 H1 e1 s1 E1 (.enum iv hx3.2) hx h2⟩
  | zip =>
    match src, hw with
    | [e, e2], _ =>
      refine two_of hE hS (ev_two h) fun x y st1 v u φ1 H1 e1 s1 E1 iv iu h1 => ?_
      obtain ⟨xs, hx, h2⟩ := h1.got
      have hx' : (match seqL st1 x, seqL st1 y with
        | some a, some b => some (zipV a b)
        | _, _ => none) = some xs := hx
      split at hx'
      · rename_i p q hp hq
        have hp' := seqL_seq hp
        have hq' := seqL_seq hq
        obtain ⟨A, us, rfl, hA, r⟩ := seqL_of s1 iv hp'.1 hp'.2
        obtain ⟨B, us2, rfl, hB, r2⟩ := seqL_of s1 iu hq'.1 hq'.2
        exact ⟨A, B, us, us2, rfl, hA, hB, g _ _ st1 _ φ1 H1 e1 s1 E1 (.zip iv hp'.2 iu hq'.2) hx h2⟩
      · cases hx'
/-- over a walk, one turn after the other -/
theorem drop_at {α : Type} {xs : List α} {i : Nat} (h : i < xs.length) : ∃ x, xs[i]? = some x ∧ xs.drop i = x :: xs.drop (i + 1) :=
  ⟨xs[i], List.getElem?_eq_getElem h, List.drop_eq_getElem_cons h⟩
def condR (K : PySem.W.Frag) (cf : CallF) : List E → TT
  | [] => tYes
  | c :: _ => tT K cf c
def condF (cf : CallF) : List E → Option (Env → Store → R Val)
  | [] => none
  | c :: _ => some (evE cf c)
theorem lc_of {elt : E} {t : Tg} {w : Wk} {src cond : List E} (hw : walkForm w src.length = true) (ht : (∃ i, t = .nm i) → whole w = true) {σ : St} {H : Hp} {Q : VK} (h : tF X.K cf (.lc elt t w src cond) σ H Q) :
    tLc (wiR X.K cf w src) (tgR X.K t) (condR X.K cf cond) (tE X.K cf elt) t.slots σ H Q := by
  obtain ⟨φ, Z, env, st, hE, hS, h⟩ := h
  have h : Pst X.K φ Z H ((evEs cf src env st).bind fun vs st => (ofO (walkV st w vs) st).bind fun xs st => (lcL (evE cf elt) (condF cf cond) t (keepW w vs xs) env xs [] st).bind fun ys st => .ok (.ls ys) st) (wF X.K Z H Q) := by
    unfold evE at h
    cases cond <;> exact h
  refine wi_use hE hS h hw fun vs xs st1 J φ1 H1 e1 s1 E1 S hx h1 D hD => ?_
  have s1' : RelS X.K φ1 (D :: Z) (upd H1 D (.lst [])) st1 := s1.freshZ hD
  have S' : Src X.K φ1 (D :: Z) (upd H1 D (.lst [])) J w vs := (S.chg (chg_add hD)).monoY nilZ (Ext.fresh s1 hD)
  have E1' : RelE X.K φ1 (D :: Z) (upd H1 D (.lst [])) σ env := ⟨E1.len, fun i x q => let ⟨v, a, b⟩ := E1.at_ i x q; ⟨v, a, (b.chg (chg_add hD)).mono (Ext.fresh s1 hD)⟩⟩
  let kf : List Val → Store → List Addr → Hp → Prop := fun ys _ φ2 H2 => ∀ acc, H2 D = some (.lst acc) → IsL X.K φ2 (D :: Z) H2 acc ys → Q (.ref D) H2
  have P0 : PstY X.K φ1 [D] (D :: Z) (upd H1 D (.lst [])) (lcL (evE cf elt) (condF cf cond) t (keepW w vs xs) env xs [] st1) kf := by
    cases hr : lcL (evE cf elt) (condF cf cond) t (keepW w vs xs) env xs [] st1 with
    | ok ys st2 =>
      rw [hr] at h1
      intro φ2 H2 e2 s2 acc hacc hys
      exact h1 φ2 H2 (ext_out hD e2) s2.drop D acc (fresh0 e1 s1 hD) (s2.zin D List.mem_cons_self).2 hacc s2 hys
    | exc _ _ _ => rw [hr] at h1; exact h1.elim
    | bad => rw [hr] at h1; exact h1.elim
  refine ⟨fun i m H' => ∃ φ' st' acc ys, m = xs.length - i ∧ i ≤ xs.length ∧ Ext φ1 [D] (upd H1 D (.lst [])) φ' H' ∧ RelS X.K φ' (D :: Z) H' st' ∧ H' D = some (.lst acc) ∧ IsL X.K φ' (D :: Z) H' acc ys ∧ acc.length ≤ small ∧
    PstY X.K φ' [D] (D :: Z) H' (lcL (evE cf elt) (condF cf cond) t (keepW w vs xs) env (xs.drop i) ys st') kf, ⟨xs.length, φ1, st1, [], [], by simp, Nat.zero_le _, Ext.refl, s1', upd_same, .nil, Nat.zero_le _, by simpa using P0⟩, ?_⟩
  rintro i m H' ⟨φ', st', acc, ys, rfl, hi, eX, s', hD', hys, hsm, P⟩
  have S2 := S'.monoY one_in eX
  by_cases hlt : i < xs.length
  · right
    obtain ⟨x, hxi, hdr⟩ := drop_at hlt
    rw [hdr] at P
    simp only [lcL] at P
    cases hk : keepW w vs xs st' with
    | false => rw [hk] at P; exact P.elim
    | true =>
      rw [hk] at P
      simp only at P
      obtain ⟨go, yl⟩ := (S2.step s' (keep_walk hk hx)).2 i x hxi
      refine ⟨go, fun H'' => ∃ φ' st' acc ys, xs.length - (i + 1) = xs.length - (i + 1) ∧ i + 1 ≤ xs.length ∧ Ext φ1 [D] (upd H1 D (.lst [])) φ' H'' ∧ RelS X.K φ' (D :: Z) H'' st' ∧ H'' D = some (.lst acc) ∧ IsL X.K φ' (D :: Z) H'' acc ys ∧ acc.length ≤ small ∧
        PstY X.K φ' [D] (D :: Z) H'' (lcL (evE cf elt) (condF cf cond) t (keepW w vs xs) env (xs.drop (i + 1)) ys st') kf, fun H'' q => ⟨_, by omega, q⟩, fun v H2 hy => ?_⟩
      obtain ⟨e2, s2, yv, yw⟩ := yl v H2 hy
      cases hb : bindT t x env with
      | none => rw [hb] at P; exact P.elim
      | some env2 =>
        rw [hb] at P
        simp only at P
        have P2 := PstY.mono (e2.wide fun a q => by cases q) P
        obtain ⟨us, l, rfl, hul, hul2, fin⟩ := tg_ok (Q := fun σ2 H2 => wipe σ2 t.slots = wipe σ t.slots ∧ condR X.K cf cond σ2 H2 fun b H3 =>
          if b = true then tE X.K cf elt σ2 H3 fun y H4 => ∃ acc, H4 D = some (.lst acc) ∧ acc.length < sizeLine ∧ ∃ φ' st' acc_1 ys, xs.length - (i + 1) = xs.length - (i + 1) ∧ i + 1 ≤ xs.length ∧ Ext φ1 [D] (upd H1 D (.lst [])) φ' (upd H4 D (.lst (acc ++ [y]))) ∧ RelS X.K φ' (D :: Z) (upd H4 D (.lst (acc ++ [y]))) st' ∧ (upd H4 D (.lst (acc ++ [y]))) D = some (.lst acc_1) ∧ IsL X.K φ' (D :: Z) (upd H4 D (.lst (acc ++ [y]))) acc_1 ys ∧ acc_1.length ≤ small ∧
            PstY X.K φ' [D] (D :: Z) (upd H4 D (.lst (acc ++ [y]))) (lcL (evE cf elt) (condF cf cond) t (keepW w vs xs) env (xs.drop (i + 1)) ys st') kf
          else ∃ φ' st' acc ys, xs.length - (i + 1) = xs.length - (i + 1) ∧ i + 1 ≤ xs.length ∧ Ext φ1 [D] (upd H1 D (.lst [])) φ' H3 ∧ RelS X.K φ' (D :: Z) H3 st' ∧ H3 D = some (.lst acc) ∧ IsL X.K φ' (D :: Z) H3 acc ys ∧ acc.length ≤ small ∧
            PstY X.K φ' [D] (D :: Z) H3 (lcL (evE cf elt) (condF cf cond) t (keepW w vs xs) env (xs.drop (i + 1)) ys st') kf) yv (fun j ej => yw (ht ⟨j, ej⟩)) hb
        have E2 : RelE X.K φ' (D :: Z) H2 σ env := (E1'.monoY one_in eX).mono e2
        have E3 := E2.turn hul2 hul
        refine fin (wipe σ t.slots) ⟨wipe_set, ?_⟩
        have keepD : ∀ {φa φb : List Addr} {Ha Hb : Hp} {a : List V} {sa : Store}, RelS X.K φa (D :: Z) Ha sa → Ext φa [] Ha φb Hb → Ha D = some (.lst a) → Hb D = some (.lst a) := fun sa e q =>
          e.keepD D _ (sa.zin D List.mem_cons_self).2 (by simp) rfl q
        have hD2 : H2 D = some (.lst acc) := keepD s' e2 hD'
        have hys2 := hys.mono e2
        have eX2 : Ext φ1 [D] (upd H1 D (.lst [])) φ' H2 := eX.trans (e2.wide fun a q => by cases q)
        -- the item itself
        have item : ∀ (φ3 : List Addr) (H3 : Hp) (st3 : Store) , Ext φ' [] H2 φ3 H3 → RelS X.K φ3 (D :: Z) H3 st3 → RelE X.K φ3 (D :: Z) H3 (PV.setAll (wipe σ t.slots) t.slots us) (PV.setAll env t.slots l) →
            PstY X.K φ3 [D] (D :: Z) H3 ((evE cf elt (PV.setAll env t.slots l) st3).bind fun y st => if ys.length < small then lcL (evE cf elt) (condF cf cond) t (keepW w vs xs) env (xs.drop (i + 1)) (ys ++ [y]) st else .bad) kf →
            tE X.K cf elt (PV.setAll (wipe σ t.slots) t.slots us) H3 fun y H4 => ∃ acc, H4 D = some (.lst acc) ∧ acc.length < sizeLine ∧ ∃ φ' st' acc_1 ys, xs.length - (i + 1) = xs.length - (i + 1) ∧ i + 1 ≤ xs.length ∧ Ext φ1 [D] (upd H1 D (.lst [])) φ' (upd H4 D (.lst (acc ++ [y]))) ∧ RelS X.K φ' (D :: Z) (upd H4 D (.lst (acc ++ [y]))) st' ∧ (upd H4 D (.lst (acc ++ [y]))) D = some (.lst acc_1) ∧ IsL X.K φ' (D :: Z) (upd H4 D (.lst (acc ++ [y]))) acc_1 ys ∧ acc_1.length ≤ small ∧
            PstY X.K φ' [D] (D :: Z) (upd H4 D (.lst (acc ++ [y]))) (lcL (evE cf elt) (condF cf cond) t (keepW w vs xs) env (xs.drop (i + 1)) ys st') kf := by
          intro φ3 H3 st3 e3 s3 E4 P3
          refine tE.of E4 s3 P3 fun y st4 yv4 φ4 H4 e4 s4 E5 iy P4 => ?_
          have hD4 : H4 D = some (.lst acc) := keepD s3 e4 (keepD s2 e3 hD2)
          have hys4 := (hys2.mono e3).mono e4
          split at P4
          · rename_i hlen
            have hal : acc.length = ys.length := hys.length
            have ew : Ext φ4 [D] H4 φ4 (upd H4 D (.lst (acc ++ [yv4]))) := Ext.writeZ (by rw [hD4]; intro q; cases q)
            have hs : small = 100000 := rfl
            refine ⟨acc, hD4, by rw [sizeLine_eq]; omega, φ4, st4, acc ++ [yv4], ys ++ [y], rfl, hlt, ((eX2.trans (e3.wide fun a q => by cases q)).trans (e4.wide fun a q => by cases q)).trans ew, s4.writeZ, upd_same, (hys4.append (.cons iy .nil)).monoY one_in ew, by rw [List.length_append, List.length_singleton]; omega, PstY.mono ew P4⟩
          · exact P4.elim
        cases cond with
        | nil => exact item φ' H2 st' Ext.refl s2 E3 P2
        | cons c cs =>
          refine tT_use E3 s2 P2 fun b st3 φ3 H3 e3 s3 E4 P3 => ?_
          cases b with
          | true => exact item φ3 H3 st3 e3 s3 E4 P3
          | false => exact ⟨φ3, st3, acc, ys, rfl, hlt, eX2.trans (e3.wide fun a q => by cases q), s3, keepD s2 e3 hD2, hys2.mono e3, hsm, P3⟩
  · left
    have ei : i = xs.length := by omega
    subst ei
    rw [List.drop_length] at P
    simp only [lcL] at P
    split at P
    · rename_i hk
      exact ⟨(S2.step s' (keep_walk hk hx)).1, P.now s' acc hD' hys⟩
    · exact P.elim
theorem put_len {κ : Type} [DecidableEq κ] (kvs : List (κ × Val)) (k : κ) (v : Val) : (put kvs k v).length ≤ kvs.length + 1 := by
  unfold put
  split <;> simp
theorem dc_of {ek ev : E} {t : Tg} {w : Wk} {src : List E} (hw : walkForm w src.length = true) (ht : (∃ i, t = .nm i) → whole w = true) {σ : St} {H : Hp} {Q : VK} (h : tF X.K cf (.dcm ek ev t w src) σ H Q) :
    tDc (wiR X.K cf w src) (tgR X.K t) tYes (tE X.K cf ek) (tE X.K cf ev) t.slots σ H Q := by
  obtain ⟨φ, Z, env, st, hE, hS, h⟩ := h
  unfold evE at h
  refine wi_use hE hS h hw fun vs xs st1 J φ1 H1 e1 s1 E1 S hx h1 D hD => ?_
  have s1' : RelS X.K φ1 (D :: Z) (upd H1 D (.dK [])) st1 := s1.freshZ hD
  have S' : Src X.K φ1 (D :: Z) (upd H1 D (.dK [])) J w vs := (S.chg (chg_add hD)).monoY nilZ (Ext.fresh s1 hD)
  have E1' : RelE X.K φ1 (D :: Z) (upd H1 D (.dK [])) σ env := ⟨E1.len, fun i x q => let ⟨v, a, b⟩ := E1.at_ i x q; ⟨v, a, (b.chg (chg_add hD)).mono (Ext.fresh s1 hD)⟩⟩
  let kf : List (Key × Val) → Store → List Addr → Hp → Prop := fun ys _ φ2 H2 => ∀ acc, H2 D = some (.dK acc) → IsKV X.K φ2 (D :: Z) H2 acc ys → Q (.ref D) H2
  have P0 : PstY X.K φ1 [D] (D :: Z) (upd H1 D (.dK [])) (dcL (evE cf ek) (evE cf ev) t (keepW w vs xs) env xs [] st1) kf := by
    cases hr : dcL (evE cf ek) (evE cf ev) t (keepW w vs xs) env xs [] st1 with
    | ok ys st2 =>
      rw [hr] at h1
      intro φ2 H2 e2 s2 acc hacc hys
      exact h1 φ2 H2 (ext_out hD e2) s2.drop D acc (fresh0 e1 s1 hD) (s2.zin D List.mem_cons_self).2 hacc s2 hys
    | exc _ _ _ => rw [hr] at h1; exact h1.elim
    | bad => rw [hr] at h1; exact h1.elim
  let Wi : Nat → Hp → Prop := fun i H' => ∃ φ' st' acc ys, i ≤ xs.length ∧ Ext φ1 [D] (upd H1 D (.dK [])) φ' H' ∧ RelS X.K φ' (D :: Z) H' st' ∧ H' D = some (.dK acc) ∧ IsKV X.K φ' (D :: Z) H' acc ys ∧ acc.length ≤ small ∧
    PstY X.K φ' [D] (D :: Z) H' (dcL (evE cf ek) (evE cf ev) t (keepW w vs xs) env (xs.drop i) ys st') kf
  refine ⟨fun i m H' => m = xs.length - i ∧ Wi i H', ⟨xs.length, by simp, φ1, st1, [], [], Nat.zero_le _, Ext.refl, s1', upd_same, .nil, Nat.zero_le _, by simpa using P0⟩, ?_⟩
  rintro i m H' ⟨rfl, φ', st', acc, ys, hi, eX, s', hD', hys, hsm, P⟩
  have S2 := S'.monoY one_in eX
  by_cases hlt : i < xs.length
  · right
    obtain ⟨x, hxi, hdr⟩ := drop_at hlt
    rw [hdr] at P
    simp only [dcL] at P
    cases hk : keepW w vs xs st' with
    | false => rw [hk] at P; exact P.elim
    | true =>
      rw [hk] at P
      simp only at P
      obtain ⟨go, yl⟩ := (S2.step s' (keep_walk hk hx)).2 i x hxi
      refine ⟨go, Wi (i + 1), fun H'' q => ⟨xs.length - (i + 1), by omega, rfl, q⟩, fun v H2 hy => ?_⟩
      obtain ⟨e2, s2, yv, yw⟩ := yl v H2 hy
      cases hb : bindT t x env with
      | none => rw [hb] at P; exact P.elim
      | some env2 =>
        rw [hb] at P
        simp only at P
        have P2 := PstY.mono (e2.wide fun a q => by cases q) P
        obtain ⟨us, l, rfl, hul, hul2, fin⟩ := tg_ok (Q := fun σ2 H2 => wipe σ2 t.slots = wipe σ t.slots ∧ tYes σ2 H2 fun b H3 =>
          if b = true then tE X.K cf ek σ2 H3 fun y H4 => tE X.K cf ev σ2 H4 fun z H5 => ∃ kvs k, y = kV k ∧ H5 D = some (.dK kvs) ∧ kvs.length < sizeLine ∧ Wi (i + 1) (upd H5 D (.dK (putK kvs k z)))
          else Wi (i + 1) H3) yv (fun j ej => yw (ht ⟨j, ej⟩)) hb
        have E2 : RelE X.K φ' (D :: Z) H2 σ env := (E1'.monoY one_in eX).mono e2
        have E3 := E2.turn hul2 hul
        refine fin (wipe σ t.slots) ⟨wipe_set, ?_⟩
        have keepD : ∀ {φa φb : List Addr} {Ha Hb : Hp} {a : List (Key × V)} {sa : Store}, RelS X.K φa (D :: Z) Ha sa → Ext φa [] Ha φb Hb → Ha D = some (.dK a) → Hb D = some (.dK a) := fun sa e q =>
          e.keepD D _ (sa.zin D List.mem_cons_self).2 (by simp) rfl q
        have hys2 := hys.mono e2
        have eX2 : Ext φ1 [D] (upd H1 D (.dK [])) φ' H2 := eX.trans (e2.wide fun a q => by cases q)
        refine tE.of E3 s2 P2 fun k st3 kv φ3 H3 e3 s3 E4 ik P3 => tE.of E4 s3 P3 fun z st4 zv φ4 H4 e4 s4 E5 iz P4 => ?_
        have hD4 : H4 D = some (.dK acc) := keepD s3 e4 (keepD s2 e3 (keepD s' e2 hD'))
        have hys4 := (hys2.mono e3).mono e4
        cases hkk : keyOf k with
        | none => rw [hkk] at P4; exact P4.elim
        | some kk =>
          rw [hkk] at P4
          simp only at P4
          split at P4
          · rename_i hlen
            have hal : acc.length = ys.length := hys.length
            have ew : Ext φ4 [D] H4 φ4 (upd H4 D (.dK (putK acc kk zv))) := Ext.writeZ (by rw [hD4]; intro q; cases q)
            have hs : small = 100000 := rfl
            have hpl := length_putK acc kk zv
            exact ⟨acc, kk, key_ok (ik.mono e4) hkk, hD4, by rw [sizeLine_eq]; omega, φ4, st4, putK acc kk zv, put ys kk z, hlt, ((eX2.trans (e3.wide fun a q => by cases q)).trans (e4.wide fun a q => by cases q)).trans ew, s4.writeZ, upd_same, (hys4.put kk iz).monoY one_in ew, by omega, PstY.mono ew P4⟩
          · exact P4.elim
  · left
    have ei : i = xs.length := by omega
    subst ei
    rw [List.drop_length] at P
    simp only [dcL] at P
    split at P
    · rename_i hk
      exact ⟨(S2.step s' (keep_walk hk hx)).1, P.now s' acc hD' hys⟩
    · exact P.elim
/-- a dict display -/
theorem disp_of {Z : List Addr} {D : Addr} : ∀ (ks : List Key) (es : List E) {φ : List Addr} {H : Hp} {σ : St} {env : Env} {st : Store} {k : List Val → Store → List Addr → Hp → Prop} {R : List (V × V) → Hp → Prop}, ks.length = es.length → RelE X.K φ (D :: Z) H σ env → RelS X.K φ (D :: Z) H st → H D = some (.dK []) →
    PstY X.K φ [D] (D :: Z) H (evEs cf es env st) k →
    (∀ φ3 H3 st3 vs xs, Ext φ [] H φ3 H3 → RelS X.K φ3 (D :: Z) H3 st3 → H3 D = some (.dK []) → IsL X.K φ3 (D :: Z) H3 vs xs → vs.length = ks.length → PstY X.K φ3 [D] (D :: Z) H3 (.ok xs st3) k → R ((ks.zip vs).map fun kv => (kV kv.1, kv.2)) H3) →
    tPairs ((ks.zip es).map fun ke => (tC (kV ke.1), tE X.K cf ke.2)) σ H R
  | [], [], φ, H, σ, env, st, k, R, _, hE, hS, hD, h, g => by
    simp only [evEs] at h
    exact g φ H st [] [] Ext.refl hS hD .nil rfl h
  | kk :: ks, e :: es, φ, H, σ, env, st, k, R, hl, hE, hS, hD, h, g => by
    simp only [evEs] at h
    show tC (kV kk) σ H fun x H1 => tE X.K cf e σ H1 fun y H2 => tPairs _ σ H2 fun ps H3 => R ((x, y) :: ps) H3
    show tE X.K cf e σ H fun y H2 => tPairs _ σ H2 fun ps H3 => R ((kV kk, y) :: ps) H3
    refine tE.of hE hS h fun x st1 v φ1 H1 e1 s1 E1 iv h1 => ?_
    have hD1 : H1 D = some (.dK []) := e1.keepD D _ (hS.zin D List.mem_cons_self).2 (by simp) rfl hD
    refine disp_of ks es (by simpa using hl) E1 s1 hD1 h1.bind fun φ3 H3 st3 vs xs e3 s3 hD3 ivs hvl h3 => ?_
    have h4 := h3.now' s3
    exact g φ3 H3 st3 (v :: vs) (x :: xs) (e1.trans e3) s3 hD3 (.cons (iv.mono e3) ivs) (by simp [hvl]) h4.2.2
  | [], _ :: _, _, _, _, _, _, _, _, hl, _, _, _, _, _ => by cases hl
  | _ :: _, [], _, _, _, _, _, _, _, hl, _, _, _, _, _ => by cases hl
theorem zip_keys : ∀ (ks : List Key) (vs : List V), (ks.zip vs).map (fun kv => (kV kv.1, kv.2)) = (ks.zip vs).map fun kv => (kV kv.1, kv.2) := fun _ _ => rfl
theorem isKV_zip {K : PySem.W.Frag} {φ Z : List Addr} {H : Hp} : ∀ (ks : List Key) {vs : List V} {xs : List Val}, IsL K φ Z H vs xs → IsKV K φ Z H (ks.zip vs) (ks.zip xs)
  | [], _, _, _ => by simpa using IsKV.nil
  | _ :: _, _, _, .nil => by simpa using IsKV.nil
  | k :: ks, _, _, .cons a r => .cons a (isKV_zip ks r)
def keyE : Key → Expr → Bool
  | .inl i, .Constant (.int j) _ _ => decide (i = j)
  | .inr x, .Constant (.str y) _ _ => decide (x = y)
  | _, _ => false
theorem pe_key {k : Key} {e : Expr} (h : keyE k e = true) : PE X e (tC (kV k)) := by
  cases k with
  | inl i =>
    cases e with
    | Constant c j q =>
      cases c with
      | int n =>
        have e1 : i = n := by simpa [keyE] using h
        subst e1
        exact pe_int
      | _ => cases h
    | _ => cases h
  | inr i =>
    cases e with
    | Constant c j q =>
      cases c with
      | str n =>
        have e1 : i = n := by simpa [keyE] using h
        subst e1
        exact pe_str
      | _ => cases h
    | _ => cases h
theorem nd_dct {ks : List Key} {es : List E} {eks : List (Option Expr)} {evs : List Expr} (hp : PPs X pos eks evs ((ks.zip es).map fun ke => (tC (kV ke.1), tE X.K cf ke.2))) (hall : eks.all (·.isSome) = true) (hl : eks.length = evs.length) (h0 : eks ≠ []) (h15 : eks.length ≤ 15) (hk : ks.length = es.length) :
    PE X (.Dict eks evs pos) (tF X.K cf (.dct ks es)) :=
  peW (pe_disp hp hall hl h0 h15) fun σ H Q ⟨φ, Z, env, st, hE, hS, h⟩ => by
    simp only [evE] at h
    intro D hD
    have s1 : RelS X.K φ (D :: Z) (upd H D (.dK [])) st := hS.freshZ hD
    have E1 : RelE X.K φ (D :: Z) (upd H D (.dK [])) σ env := ⟨hE.len, fun i x q => let ⟨v, a, b⟩ := hE.at_ i x q; ⟨v, a, (b.chg (chg_add hD)).mono (Ext.fresh hS hD)⟩⟩
    let kf : List Val → Store → List Addr → Hp → Prop := fun xs _ φ2 H2 => ks.length ≤ 15 ∧ ∀ acc, H2 D = some (.dK acc) → IsKV X.K φ2 (D :: Z) H2 acc (putAll [] (ks.zip xs)) → Q (.ref D) H2
    have P0 : PstY X.K φ [D] (D :: Z) (upd H D (.dK [])) (evEs cf es env st) kf := by
      cases hr : evEs cf es env st with
      | ok xs st2 =>
        rw [hr] at h
        simp only [R.bind_ok] at h
        split at h
        · rename_i hc
          intro φ2 H2 e2 s2
          exact ⟨hc.2, fun acc hacc hys => h φ2 H2 (ext_out hD e2) s2.drop D acc hD (s2.zin D List.mem_cons_self).2 hacc s2 hys⟩
        · exact h.elim
      | exc _ _ _ => rw [hr] at h; exact h.elim
      | bad => rw [hr] at h; exact h.elim
    refine disp_of ks es hk E1 s1 upd_same P0 fun φ3 H3 st3 vs xs e3 s3 hD3 iv hvl h3 => ?_
    have ew : Ext φ3 [D] H3 φ3 (upd H3 D (.dK (mergeK [] (ks.zip vs)))) := Ext.writeZ (by rw [hD3]; intro q; cases q)
    have h4 := PstY.now' (PstY.mono ew h3) s3.writeZ
    refine ⟨hD3, ks.zip vs, rfl, ?_, h4.2 _ upd_same (((isKV_zip ks iv).putAll .nil).monoY one_in ew)⟩
    have := h4.1
    rw [List.length_zip]
    omega
theorem nd_dct0 : PE X (.Dict [] [] pos) (tF X.K cf (.dct [] [])) :=
  peW pe_dnewK fun σ H Q ⟨φ, Z, env, st, hE, hS, h⟩ => by
    simp only [evE, evEs, R.bind_ok] at h
    exact Gv.dct (xs := []) (vs := []) Ext.refl hS h .nil
/-! ### walks -/
theorem nw_of (ha : PE X ea (tE X.K cf a)) : PI X tg ea (wiR X.K cf .of [a]) := pi_any ha
theorem nw_r1 (hg : Gl X "range") (hm : X.mg "range" = none) (ha : PE X ea (tE X.K cf a)) (hs : notStar ea = true) : PI X tg (.Call (.Name "range" p) [ea] [] pos) (wiR X.K cf .range [a]) :=
  pi_range1 hg hm (nd_cons ha nd_nil hs) (star_of hs)
theorem nw_r2 (hg : Gl X "range") (hm : X.mg "range" = none) (ha : PE X ea (tE X.K cf a)) (hb : PE X eb (tE X.K cf b)) (hs : notStar ea = true) (hs2 : notStar eb = true) : PI X tg (.Call (.Name "range" p) [ea, eb] [] pos) (wiR X.K cf .range [a, b]) :=
  pi_range2 hg hm (nd_cons ha (nd_cons hb nd_nil hs2) hs) (by rw [star_of hs, star_of hs2]; rfl) (star_of hs2)
theorem nw_enum {elts : List Expr} {kk : Nat} {tpos : Pos} (hg : Gl X "enumerate") (hm : X.mg "enumerate" = none) (ha : PE X ea (tE X.K cf a)) (hs : notStar ea = true) : PI X (.Tuple elts kk tpos) (.Call (.Name "enumerate" p) [ea] [] pos) (wiR X.K cf .enum [a]) :=
  pi_enum hg hm (nd_cons ha nd_nil hs) (star_of hs)
theorem nw_zip {elts : List Expr} {kk : Nat} {tpos : Pos} (hg : Gl X "zip") (hm : X.mg "zip" = none) (ha : PE X ea (tE X.K cf a)) (hb : PE X eb (tE X.K cf b)) (hs : notStar ea = true) (hs2 : notStar eb = true) : PI X (.Tuple elts kk tpos) (.Call (.Name "zip" p) [ea, eb] [] pos) (wiR X.K cf .zip [a, b]) :=
  pi_zip hg hm (nd_cons ha (nd_cons hb nd_nil hs2) hs) (star_of hs) (any_star (by simp [hs2]))
end
end PV
end

section
set_option Elab.async false
set_option linter.all false
set_option maxRecDepth 100000
/-! PvChk: a check that an expression of the language is an expression of the text, and that the check is sound. -/
namespace PV
open PySem L2
structure Cfg where
  N : List Str
  fns : List Str
  G : List (Str × Val)
def dbg (x : Str) : Bool := (x == ("__debug__" : Str)) == false && (x == ("__classdict__" : Str)) == false
def visC (sc : Scope) (x : Str) : Bool := match sc.names.lookup x with
  | some .local => true
  | some .cell => true
  | some .free => true
  | _ => false
def glC (sc : Scope) (x : Str) : Bool := match sc.names.lookup x with
  | some .globalImplicit => true
  | _ => false
def locC (sc : Scope) (x : Str) : Bool := match sc.names.lookup x with
  | some .local => true
  | some .cell => true
  | _ => false
def bltNames : List Str := ["len", "int", "tuple", "list", "dict", "all", "any", "sum", "sorted", "enumerate", "range", "min", "max", "zip", "isinstance", "bool", "str"]
def bltC (sc : Scope) (x : Str) : Bool := glC sc x && decide (x ∈ bltNames)
def nsC (N : List Str) (raw : Scope) : List Nat → List Expr → Bool
  | [], [] => true
  | i :: r, .Name x _ :: es => decide (N[i]? = some x) && locC raw x && nsC N raw r es
  | _, _ => false
def tgC (N : List Str) (raw : Scope) : Tg → Expr → Bool
  | .nm i, .Name x _ => decide (N[i]? = some x) && locC raw x
  | .tp is, .Tuple es _ _ => nsC N raw is es
  | _, _ => false
def tgN : Expr → List Str
  | .Name x _ => [x]
  | .Tuple es _ _ => es.filterMap fun e => match e with
    | .Name x _ => some x
    | _ => none
  | _ => []
def isNm : Tg → Bool
  | .nm _ => true
  | _ => false
def isTup : Expr → Bool
  | .Tuple _ _ _ => true
  | _ => false
def isNew : E → Bool
  | .bin _ _ _ => true
  | .tup _ => true
  | .lst _ => true
  | .sl _ _ _ => true
  | .b1 _ _ => true
  | .lc _ _ _ _ _ => true
  | .dct _ _ => true
  | .dcm _ _ _ _ _ => true
  | _ => false
def lineC (a c : Pos) : Bool := a.endLine == c.line
/-- one for clause of a comprehension, its names -/
def compC (N : List Str) (sc scope : Scope) (tg : Tg) (w : Wk) (n : Nat) (etg eiter : Expr) : Bool :=
  tgC N scope tg etg && decide (((tgN etg).zip tg.slots).map (·.2) = tg.slots) && blkC N sc scope ((tgN etg).zip tg.slots) && notSet eiter && walkForm w n && (!isNm tg || whole w)
mutual
def chk (C : Cfg) (p : E) (t : Bool) (sc : Scope) (e : Expr) : Bool := match p with
  | .var i => (match e with
    | .Name x _ => decide (C.N[i]? = some x) && visC sc x && dbg x
    | _ => false)
  | .cst v => (match v, e with
    | .int i, .Constant (.int j) _ _ => decide (i = j)
    | .str i, .Constant (.str j) _ _ => decide (i = j)
    | .bl i, .Constant (.bool j) _ _ => decide (i = j)
    | .non, .Constant .none _ _ => true
    | _, _ => false)
  | .glo x v => (match e with
    | .Name y _ => decide (x = y) && glC sc x && dbg x && (match C.G.lookup x with
      | some u => u.same v
      | none => false)
    | _ => false)
  | .bin o a b => (match e with
    | .BinOp ea op eb _ => decide (op = opE o) && chk C a false sc ea && chk C b false sc eb
    | _ => false)
  | .neg a => (match e with
    | .UnaryOp .USub ea _ => chk C a false sc ea
    | _ => false)
  | .not a => (match e with
    | .UnaryOp .Not ea _ => chk C a t sc ea
    | _ => false)
  | .and a b => (match e with
    | .BoolOp .And (ea :: e2 :: rest) pos => chk C a t sc ea && (match rest with
      | [] => chk C b t sc e2
      | _ => chk C b t sc (.BoolOp .And (e2 :: rest) pos))
    | _ => false)
  | .or a b => (match e with
    | .BoolOp .Or (ea :: e2 :: rest) pos => chk C a t sc ea && (match rest with
      | [] => chk C b t sc e2
      | _ => chk C b t sc (.BoolOp .Or (e2 :: rest) pos))
    | _ => false)
  | .cmp o a b => (match e with
    | .Compare ea [op] [eb] _ => decide (op = coE o) && chk C a false sc ea && chk C b false sc eb && notSet eb
    | _ => false)
  | .isN a => (match e with
    | .Compare ea [.Is] [.Constant .none _ _] _ => chk C a false sc ea
    | _ => false)
  | .notN a => (match e with
    | .Compare ea [.IsNot] [.Constant .none _ _] _ => chk C a false sc ea
    | _ => false)
  | .chn o q a b c => (match e with
    | .Compare ea [op, op2] [eb, ec] _ => decide (op = coE o) && decide (op2 = coE q) && chk C a false sc ea && chk C b false sc eb && chk C c false sc ec && notSet ec
    | _ => false)
  | .ite c a b => (match e with
    | .IfExp ec ea eb _ => !t && chk C c true sc ec && chk C a false sc ea && chk C b false sc eb
    | _ => false)
  | .tup es => (match e with
    | .Tuple ees _ _ => chks C es sc ees
    | _ => false)
  | .lst es => (match e with
    | .List ees _ => chks C es sc ees
    | _ => false)
  | .dct ks es => (match e with
    | .Dict eks evs _ => decide (ks.length = es.length) && decide (eks.length = evs.length) && decide (eks.length ≤ 15) && chkD C ks es sc eks evs
    | _ => false)
  | .own a => !t && isNew a && chk C a false sc e
  | .ownC f es => (match e with
    | .Call (.Name g _) ees [] _ => decide (f = g) && glC sc f && dbg f && decide (f ∈ C.fns) && chks C es sc ees
    | _ => false)
  | .newT => false
  | .ix a i => (match e with
    | .Subscript ea ei _ => chk C a false sc ea && chk C i false sc ei && notSlice ei
    | _ => false)
  | .sl a lo hi => (match e with
    | .Subscript ea (.Slice elo ehi none _) _ => chk C a false sc ea && (match lo, elo with
      | [], none => true
      | [l], some el => chk C l false sc el
      | _, _ => false) && (match hi, ehi with
      | [], none => true
      | [l], some el => chk C l false sc el
      | _, _ => false)
    | _ => false)
  | .rev _ => false
  | .call f es => (match e with
    | .Call (.Name g _) ees [] _ => decide (f = g) && glC sc f && dbg f && decide (f ∈ C.fns) && chks C es sc ees
    | _ => false)
  | .isi a ty => (match e with
    | .Call (.Name g _) [ea, .Name g2 _] [] _ => decide (g = "isinstance") && decide (g2 = tyS ty) && bltC sc "isinstance" && bltC sc (tyS ty) && chk C a false sc ea && notStar ea
    | _ => false)
  | .b1 f a => (match e with
    | .Call (.Name g _) [ea] [] _ => decide (g = b1N f) && bltC sc (b1N f) && decide (f ≠ .enum) && decide (f ≠ .range) && chk C a false sc ea && notStar ea
    | _ => false)
  | .b2 f a b => (match e with
    | .Call (.Name g _) [ea, eb] [] _ => decide (g = b2N f) && bltC sc (b2N f) && decide (f ≠ .zip) && chk C a false sc ea && notStar ea && chk C b false sc eb && notStar eb
    | _ => false)
  | .get a b c => (match e with
    | .Call (.Attribute ea m ap) [eb, ec] [] cp => decide (m = "get") && lineC ap cp && notSuper ea && notStar eb && notStar ec && chk C a false sc ea && chk C b false sc eb && chk C c false sc ec
    | _ => false)
  | .join a b => (match e with
    | .Call (.Attribute ea m ap) [eb] [] cp => decide (m = "join") && lineC ap cp && notSuper ea && notStar eb && chk C a false sc ea && chk C b false sc eb
    | _ => false)
  | .index a b => (match e with
    | .Call (.Attribute ea m ap) [eb] [] cp => decide (m = "index") && lineC ap cp && notSuper ea && notStar eb && chk C a false sc ea && chk C b false sc eb
    | _ => false)
  | .pop a b => (match e with
    | .Call (.Attribute ea m ap) [eb] [] cp => decide (m = "pop") && lineC ap cp && notSuper ea && notStar eb && chk C a false sc ea && chk C b false sc eb
    | _ => false)
  | .popD a b c => (match e with
    | .Call (.Attribute ea m ap) [eb, ec] [] cp => decide (m = "pop") && lineC ap cp && notSuper ea && notStar eb && notStar ec && chk C a false sc ea && chk C b false sc eb && chk C c false sc ec
    | _ => false)
  | .lc elt tg w src cond => (match e with
    | .ListComp eelt [⟨etg, eiter, ifs, 0⟩] scope _ => compC C.N sc scope tg w src.length etg eiter && (match w, src, eiter with
        | .of, [s], _ => chk C s false sc eiter
        | .range, [a], .Call (.Name g _) [ea] [] _ => decide (g = "range") && bltC sc "range" && notStar ea && chk C a false sc ea
        | .range, [a, b], .Call (.Name g _) [ea, eb] [] _ => decide (g = "range") && bltC sc "range" && notStar ea && notStar eb && chk C a false sc ea && chk C b false sc eb
        | .enum, [a], .Call (.Name g _) [ea] [] _ => decide (g = "enumerate") && bltC sc "enumerate" && isTup etg && notStar ea && chk C a false sc ea
        | .zip, [a, b], .Call (.Name g _) [ea, eb] [] _ => decide (g = "zip") && bltC sc "zip" && isTup etg && notStar ea && notStar eb && chk C a false sc ea && chk C b false sc eb
        | _, _, _ => false) && (match cond, ifs with
        | [], [] => true
        | [c], [ec] => chk C c true (relS scope sc) ec
        | _, _ => false) && chk C elt false (relS scope sc) eelt
    | _ => false)
  | .dcm k v tg w src => (match e with
    | .DictComp ek ev [⟨etg, eiter, [], 0⟩] scope _ => compC C.N sc scope tg w src.length etg eiter && (match w, src, eiter with
        | .of, [s], _ => chk C s false sc eiter
        | .range, [a], .Call (.Name g _) [ea] [] _ => decide (g = "range") && bltC sc "range" && notStar ea && chk C a false sc ea
        | .range, [a, b], .Call (.Name g _) [ea, eb] [] _ => decide (g = "range") && bltC sc "range" && notStar ea && notStar eb && chk C a false sc ea && chk C b false sc eb
        | .enum, [a], .Call (.Name g _) [ea] [] _ => decide (g = "enumerate") && bltC sc "enumerate" && isTup etg && notStar ea && chk C a false sc ea
        | .zip, [a, b], .Call (.Name g _) [ea, eb] [] _ => decide (g = "zip") && bltC sc "zip" && isTup etg && notStar ea && notStar eb && chk C a false sc ea && chk C b false sc eb
        | _, _, _ => false) && chk C k false (relS scope sc) ek && chk C v false (relS scope sc) ev
    | _ => false)
def chks (C : Cfg) (ps : List E) (sc : Scope) (es : List Expr) : Bool := match ps with
  | [] => (match es with
    | [] => true
    | _ => false)
  | p :: ps => (match es with
    | e :: es => chk C p false sc e && notStar e && chks C ps sc es
    | _ => false)
def chkD (C : Cfg) (ks : List Key) (ps : List E) (sc : Scope) (eks : List (Option Expr)) (evs : List Expr) : Bool := match ps with
  | [] => (match ks, eks, evs with
    | [], [], [] => true
    | _, _, _ => false)
  | p :: ps => (match ks, eks, evs with
    | k :: ks, some ek :: eks, ev :: evs => keyE k ek && chk C p false sc ev && chkD C ks ps sc eks evs
    | _, _, _ => false)
end
/-- what a context must give -/
structure Cok (C : Cfg) (cf : CallF) (sc : Scope) (X : Cx) : Prop where
  nd : C.N.Nodup
  n : X.N = C.N
  scE : X.env.scope = sc
  calm : X.calm = true
  un : X.A.units + 65 < cLine
  glo : ∀ x v, C.G.lookup x = some v → ∃ u w, X.mg x = some u ∧ RelV w u ∧ ∀ φ Z H, Is X.K φ Z H w v
  blt : ∀ x ∈ bltNames, X.mg x = none
  fns : ∀ f ∈ C.fns, FnAt X cf f
/-- .. for targets -/
def Tok (raw sc : Scope) (X : Cx) : Prop := ∀ x, raw.names.lookup x = some .local ∨ raw.names.lookup x = some .cell → Loc sc x ∧ (X.fn x = true ∨ sc.names.lookup x = some .local)
section
variable {C : Cfg} {cf : CallF} {sc raw scope : Scope} {X : Cx}
theorem Cok.gl (c : Cok C cf sc X) {x : Str} (h : glC sc x = true) : Gl X x := by
  show X.env.scope.names.lookup x = some .globalImplicit
  rw [c.scE]
  unfold glC at h
  split at h
  · assumption
  · cases h
theorem Cok.bltG (c : Cok C cf sc X) {x : Str} (h : bltC sc x = true) : Gl X x ∧ X.mg x = none := by
  unfold bltC at h
  rw [Bool.and_eq_true, decide_eq_true_eq] at h
  exact ⟨c.gl h.1, c.blt x h.2⟩
theorem Cok.vis (c : Cok C cf sc X) {x : Str} (h : visC sc x = true) : Vis X.env.scope x := by
  rw [c.scE]
  unfold visC at h
  unfold Vis
  split at h
  · rename_i e; exact .inl e
  · rename_i e; exact .inr (.inl e)
  · rename_i e; exact .inr (.inr e)
  · cases h
theorem locC_of {x : Str} (h : locC raw x = true) : raw.names.lookup x = some .local ∨ raw.names.lookup x = some .cell := by
  unfold locC at h
  split at h
  · rename_i e; exact .inl e
  · rename_i e; exact .inr e
  · cases h
theorem dbg_of {x : Str} (h : dbg x = true) : (x == ("__debug__" : Str)) = false ∧ (x == ("__classdict__" : Str)) = false := by
  unfold dbg at h
  rw [Bool.and_eq_true] at h
  exact ⟨by simpa using h.1, by simpa using h.2⟩
theorem Cok.blk (c : Cok C cf sc X) (s : Shared) (H : Hp) (A : Addr) (cl : List (Str × Addr)) (fp : List Addr) : Cok C cf (relS scope sc) (X.blk s H scope (compEnvC scope cl A X.env) fp) where
  nd := c.nd
  n := c.n
  scE := by
    show relabel scope X.env = relS scope sc
    rw [← c.scE]
    rfl
  calm := c.calm
  un := c.un
  glo := c.glo
  blt := c.blt
  fns := fun f hf => ⟨(c.fns f hf).ex⟩
theorem Cok.tok (c : Cok C cf sc X) (s : Shared) (H : Hp) (A : Addr) (cl : List (Str × Addr)) (fp : List Addr) : Tok scope (relS scope sc) (X.blk s H scope (compEnvC scope cl A X.env) fp) := by
  intro x h
  rcases h with h | h
  · have e := lookup_relS_keep (sc := sc) (by decide) h
    exact ⟨.inl e, .inr e⟩
  · have e := lookup_relS_keep (sc := sc) (by decide) h
    refine ⟨.inr e, .inl ?_⟩
    show (scope.names.lookup x == some .cell) = true
    rw [h]
    rfl
theorem ns_ok (c : Cok C cf sc X) (t : Tok raw sc X) : ∀ (is : List Nat) (es : List Expr), nsC C.N raw is es = true → PGs X es (gIs is) ∧ (assignEach es X.env).length = is.length ∧ (assignEach es X.env).findIdx? (·.1) = none
  | [], [], _ => ⟨pgs_nil, rfl, rfl⟩
  | i :: r, .Name x q :: es, h => by
    simp only [nsC, Bool.and_eq_true, decide_eq_true_eq] at h
    obtain ⟨h1, h2, h3⟩ := ns_ok c t r es h.2
    have k := t x (locC_of h.1.2)
    refine ⟨pgs_cons (pg_name (by rw [c.n]; exact c.nd) (by rw [c.n]; exact h.1.1) (by rw [c.scE]; exact k.1) (by rw [c.scE]; exact k.2)) h1, ?_, ?_⟩
    · show (assignEach es X.env).length + 1 = r.length + 1
      rw [h2]
    · show List.findIdx? (·.1) ((false, assign (.Name x q) X.env) :: assignEach es X.env) = none
      rw [List.findIdx?_cons]
      simp [h3]
  | [], _ :: _, h => by simp [nsC] at h
  | _ :: _, [], h => by simp [nsC] at h
  | i :: r, e :: es, h => by
    cases e with
    | Name x q => 
      simp only [nsC, Bool.and_eq_true, decide_eq_true_eq] at h
      obtain ⟨h1, h2, h3⟩ := ns_ok c t r es h.2
      have k := t x (locC_of h.1.2)
      refine ⟨pgs_cons (pg_name (by rw [c.n]; exact c.nd) (by rw [c.n]; exact h.1.1) (by rw [c.scE]; exact k.1) (by rw [c.scE]; exact k.2)) h1, ?_, ?_⟩
      · show (assignEach es X.env).length + 1 = r.length + 1
        rw [h2]
      · show List.findIdx? (·.1) ((false, assign (.Name x q) X.env) :: assignEach es X.env) = none
        rw [List.findIdx?_cons]
        simp [h3]
    | _ => simp [nsC] at h
theorem tg_sound (c : Cok C cf sc X) (t : Tok raw sc X) {tg : Tg} {e : Expr} (h : tgC C.N raw tg e = true) : PG X e (tgR X.K tg) := by
  cases tg with
  | nm i =>
    cases e with
    | Name x q =>
      simp only [tgC, Bool.and_eq_true, decide_eq_true_eq] at h
      have k := t x (locC_of h.2)
      exact pg_name (by rw [c.n]; exact c.nd) (by rw [c.n]; exact h.1) (by rw [c.scE]; exact k.1) (by rw [c.scE]; exact k.2)
    | _ => simp [tgC] at h
  | tp is =>
    cases e with
    | Tuple es k q =>
      simp only [tgC] at h
      obtain ⟨h1, h2, h3⟩ := ns_ok c t is es h
      exact pg_tup c.calm h1 h2 h3
    | _ => simp [tgC] at h
end
end PV
end

section
set_option Elab.async false
set_option linter.all false
set_option maxRecDepth 100000
set_option maxHeartbeats 4000000
/-! PvSnd: the check of expressions is sound. -/
namespace PV
open PySem L2
structure Snd (X : Cx) (cf : CallF) (p : E) (t : Bool) (e : Expr) : Prop where
  val : t = false → PE X e (tE X.K cf p)
  new : t = false → isNew p = true → PE X e (tF X.K cf p)
  tst : t = true → PT X e (tT X.K cf p)
section
variable {X : Cx} {cf : CallF} {p : E} {t : Bool} {e : Expr}
theorem Snd.ofE (hp : plainTest e = true) (hn : isNew p = false) (h : PE X e (tE X.K cf p)) : Snd X cf p t e :=
  ⟨fun _ => h, (fun _ q => by rw [hn] at q; cases q), fun _ => nt_val hp h⟩
theorem Snd.ofF (hp : plainTest e = true) (h : PE X e (tF X.K cf p)) : Snd X cf p t e :=
  ⟨fun _ => peW h tE_F, fun _ _ => h, fun _ => nt_val hp (peW h tE_F)⟩
theorem Snd.ofT (hn : isNew p = false) (h : PE X e (tE X.K cf p)) (ht : PT X e (tT X.K cf p)) : Snd X cf p t e :=
  ⟨fun _ => h, (fun _ q => by rw [hn] at q; cases q), fun _ => ht⟩
theorem split_and {a b : Bool} (h : (a && b) = true) : a = true ∧ b = true := by simpa using h
end
theorem walk_ok {C : Cfg} {cf : CallF} {sc : Scope} {X : Cx} (c : Cok C cf sc X) {w : Wk} {src : List E} {etg eiter : Expr}
    (h : (match w, src, eiter with
        | .of, [s], _ => chk C s false sc eiter
        | .range, [a], .Call (.Name g _) [ea] [] _ => decide (g = "range") && bltC sc "range" && notStar ea && chk C a false sc ea
        | .range, [a, b], .Call (.Name g _) [ea, eb] [] _ => decide (g = "range") && bltC sc "range" && notStar ea && notStar eb && chk C a false sc ea && chk C b false sc eb
        | .enum, [a], .Call (.Name g _) [ea] [] _ => decide (g = "enumerate") && bltC sc "enumerate" && isTup etg && notStar ea && chk C a false sc ea
        | .zip, [a, b], .Call (.Name g _) [ea, eb] [] _ => decide (g = "zip") && bltC sc "zip" && isTup etg && notStar ea && notStar eb && chk C a false sc ea && chk C b false sc eb
        | _, _, _ => false) = true) (ih : ∀ q ∈ src, ∀ e, chk C q false sc e = true → PE X e (tE X.K cf q)) : PI X etg eiter (wiR X.K cf w src) := by
  revert ih
  split at h
  · rename_i s
    intro ih
    exact nw_of (ih s (by simp) _ h)
  · rename_i a g q ea q2
    intro ih
    simp only [Bool.and_eq_true, decide_eq_true_eq] at h
    obtain ⟨⟨⟨rfl, h2⟩, h3⟩, h4⟩ := h
    exact nw_r1 (c.bltG h2).1 (c.bltG h2).2 (ih a (by simp) _ h4) h3
  · rename_i a b g q ea eb q2
    intro ih
    simp only [Bool.and_eq_true, decide_eq_true_eq] at h
    obtain ⟨⟨⟨⟨⟨rfl, h2⟩, h3⟩, h4⟩, h5⟩, h6⟩ := h
    exact nw_r2 (c.bltG h2).1 (c.bltG h2).2 (ih a (by simp) _ h5) (ih b (by simp) _ h6) h3 h4
  · rename_i a g q ea q2
    intro ih
    simp only [Bool.and_eq_true, decide_eq_true_eq] at h
    obtain ⟨⟨⟨⟨rfl, h2⟩, h0⟩, h3⟩, h4⟩ := h
    cases etg <;> first | cases h0 | skip
    exact nw_enum (c.bltG h2).1 (c.bltG h2).2 (ih a (by simp) _ h4) h3
  · rename_i a b g q ea eb q2
    intro ih
    simp only [Bool.and_eq_true, decide_eq_true_eq] at h
    obtain ⟨⟨⟨⟨⟨⟨rfl, h2⟩, h0⟩, h3⟩, h4⟩, h5⟩, h6⟩ := h
    cases etg <;> first | cases h0 | skip
    exact nw_zip (c.bltG h2).1 (c.bltG h2).2 (ih a (by simp) _ h5) (ih b (by simp) _ h6) h3 h4
  · cases h
theorem bool_one {C : Cfg} {cf : CallF} {sc : Scope} {X : Cx} {op : BoolOp} {b : E} {t : Bool} {e2 : Expr} {rest : List Expr} {pos : Pos} (ih : ∀ e, chk C b t sc e = true → Snd X cf b t e)
    (h : (match rest with
      | [] => chk C b t sc e2
      | _ => chk C b t sc (.BoolOp op (e2 :: rest) pos)) = true) : (t = false → PE X (.BoolOp op (e2 :: rest) pos) (tE X.K cf b)) ∧ (t = true → PT X (.BoolOp op (e2 :: rest) pos) (tT X.K cf b)) := by
  cases rest with
  | nil =>
    have k := ih _ h
    exact ⟨fun q => pe_one (k.val q), fun q => pt_one (k.tst q)⟩
  | cons e3 r =>
    have k := ih _ h
    exact ⟨k.val, k.tst⟩
mutual
theorem chk_ok {C : Cfg} {cf : CallF} : ∀ (p : E) (t : Bool) (sc : Scope) (X : Cx) (e : Expr), Cok C cf sc X → chk C p t sc e = true → Snd X cf p t e
  | .var i, t, sc, X, e, c, h => by
    simp only [chk] at h
    split at h <;> first | cases h | skip
    simp only [Bool.and_eq_true, decide_eq_true_eq] at h
    have d := dbg_of h.2
    exact .ofE rfl rfl (nd_var (by rw [c.n]; exact h.1.1) (c.vis h.1.2) d.1 d.2)
  | .cst v, t, sc, X, e, c, h => by
    simp only [chk] at h
    split at h <;> first | cases h | skip
    · rw [decide_eq_true_eq] at h; subst h; exact .ofE rfl rfl nd_int
    · rw [decide_eq_true_eq] at h; subst h; exact .ofE rfl rfl nd_str
    · rw [decide_eq_true_eq] at h; subst h; exact .ofE rfl rfl nd_bl
    · exact .ofE rfl rfl nd_non
  | .glo x v, t, sc, X, e, c, h => by
    simp only [chk] at h
    split at h <;> first | cases h | skip
    simp only [Bool.and_eq_true, decide_eq_true_eq] at h
    obtain ⟨⟨⟨rfl, h2⟩, h3⟩, h4⟩ := h
    split at h4
    · rename_i u e
      have e2 := Val.same_eq _ _ h4
      subst e2
      obtain ⟨k, w, m1, m2, m3⟩ := c.glo _ _ e
      exact .ofE rfl rfl (nd_glo (c.gl h2) m1 m2 (fun φ Z H _ => m3 φ Z H) (dbg_of h3).1 m3)
    · cases h4
  | .bin o a b, t, sc, X, e, c, h => by
    simp only [chk] at h
    split at h <;> first | cases h | skip
    simp only [Bool.and_eq_true, decide_eq_true_eq] at h
    obtain ⟨⟨rfl, h2⟩, h3⟩ := h
    exact .ofF rfl (nd_bin ((chk_ok a false sc X _ c h2).val rfl) ((chk_ok b false sc X _ c h3).val rfl))
  | .neg a, t, sc, X, e, c, h => by
    simp only [chk] at h
    split at h <;> first | cases h | skip
    exact .ofE rfl rfl (nd_neg ((chk_ok a false sc X _ c h).val rfl))
  | .not a, t, sc, X, e, c, h => by
    simp only [chk] at h
    split at h <;> first | cases h | skip
    have k := chk_ok a t sc X _ c h
    exact ⟨fun q => nd_not (k.val q), (fun _ q => by cases q), fun q => nt_not (k.tst q)⟩
  | .and a b, t, sc, X, e, c, h => by
    simp only [chk] at h
    split at h <;> first | cases h | skip
    obtain ⟨h1, h2⟩ := split_and h
    have ka := chk_ok a t sc X _ c h1
    have kb := bool_one (fun e he => chk_ok b t sc X e c he) h2
    exact ⟨fun q => nd_and (ka.val q) (kb.1 q), (fun _ q => by cases q), fun q => nt_and (ka.tst q) (kb.2 q)⟩
  | .or a b, t, sc, X, e, c, h => by
    simp only [chk] at h
    split at h <;> first | cases h | skip
    obtain ⟨h1, h2⟩ := split_and h
    have ka := chk_ok a t sc X _ c h1
    have kb := bool_one (fun e he => chk_ok b t sc X e c he) h2
    exact ⟨fun q => nd_or (ka.val q) (kb.1 q), (fun _ q => by cases q), fun q => nt_or (ka.tst q) (kb.2 q)⟩
  | .cmp o a b, t, sc, X, e, c, h => by
    simp only [chk] at h
    split at h <;> first | cases h | skip
    simp only [Bool.and_eq_true, decide_eq_true_eq] at h
    obtain ⟨⟨⟨rfl, h2⟩, h3⟩, h4⟩ := h
    have ka := (chk_ok a false sc X _ c h2).val rfl
    have kb := (chk_ok b false sc X _ c h3).val rfl
    exact .ofT rfl (nd_cmp c.un ka kb (noset_in h4)) (nt_cmp c.un ka kb (noset_in h4))
  | .isN a, t, sc, X, e, c, h => by
    simp only [chk] at h
    split at h <;> first | cases h | skip
    have ka := (chk_ok a false sc X _ c h).val rfl
    exact .ofT rfl (nd_isN ka) (nt_isN ka)
  | .notN a, t, sc, X, e, c, h => by
    simp only [chk] at h
    split at h <;> first | cases h | skip
    have ka := (chk_ok a false sc X _ c h).val rfl
    exact .ofT rfl (nd_notN ka) (nt_notN ka)
  | .chn o q a b d, t, sc, X, e, c, h => by
    simp only [chk] at h
    split at h <;> first | cases h | skip
    simp only [Bool.and_eq_true, decide_eq_true_eq] at h
    obtain ⟨⟨⟨⟨⟨rfl, rfl⟩, h2⟩, h3⟩, h4⟩, h5⟩ := h
    have ka := (chk_ok a false sc X _ c h2).val rfl
    have kb := (chk_ok b false sc X _ c h3).val rfl
    have kc := (chk_ok d false sc X _ c h4).val rfl
    exact .ofT rfl (nd_chn c.un ka kb kc (noset_last h5)) (nt_chn c.un ka kb kc (noset_last h5))
  | .ite d a b, t, sc, X, e, c, h => by
    simp only [chk] at h
    split at h <;> first | cases h | skip
    simp only [Bool.and_eq_true, Bool.not_eq_true'] at h
    obtain ⟨⟨⟨rfl, h2⟩, h3⟩, h4⟩ := h
    have k := nd_ite (pos := by assumption) ((chk_ok d true sc X _ c h2).tst rfl) ((chk_ok a false sc X _ c h3).val rfl) ((chk_ok b false sc X _ c h4).val rfl)
    exact ⟨fun _ => k, (fun _ q => by cases q), (fun q => by cases q)⟩
  | .tup es, t, sc, X, e, c, h => by
    simp only [chk] at h
    split at h <;> first | cases h | skip
    exact .ofF rfl (nd_tup (chks_ok es sc X _ c h).1)
  | .lst es, t, sc, X, e, c, h => by
    simp only [chk] at h
    split at h <;> first | cases h | skip
    exact .ofF rfl (nd_lst (chks_ok es sc X _ c h).1)
  | .dct ks es, t, sc, X, e, c, h => by
    simp only [chk] at h
    split at h <;> first | cases h | skip
    rename_i eks evs pos
    simp only [Bool.and_eq_true, decide_eq_true_eq] at h
    obtain ⟨⟨⟨h1, h2⟩, h3⟩, h4⟩ := h
    have k := chkD_ok es ks sc X eks evs pos c h4
    by_cases he : eks = []
    · subst he
      have e2 : evs = [] := List.eq_nil_of_length_eq_zero h2.symm
      subst e2
      have e3 : es = [] ∧ ks = [] := by
        cases es with
        | nil => exact ⟨rfl, List.eq_nil_of_length_eq_zero (by simpa using h1)⟩
        | cons q r =>
          exfalso
          cases ks <;> simp [chkD] at h4
      obtain ⟨rfl, rfl⟩ := e3
      exact .ofF rfl nd_dct0
    · exact .ofF rfl (nd_dct k.1 k.2 h2 he h3 h1)
  | .own a, t, sc, X, e, c, h => by
    simp only [chk, Bool.and_eq_true, Bool.not_eq_true'] at h
    obtain ⟨⟨rfl, h2⟩, h3⟩ := h
    exact ⟨fun _ => peW ((chk_ok a false sc X _ c h3).new rfl h2) tOwn_F, (fun _ q => by cases q), (fun q => by cases q)⟩
  | .ownC f es, t, sc, X, e, c, h => by
    simp only [chk] at h
    split at h <;> first | cases h | skip
    simp only [Bool.and_eq_true, decide_eq_true_eq] at h
    obtain ⟨⟨⟨⟨rfl, h2⟩, h3⟩, h4⟩, h5⟩ := h
    have k := chks_ok es sc X _ c h5
    exact .ofE rfl rfl (nd_callO (c.fns _ h4) (c.gl h2) (dbg_of h3).1 k.1 k.2.1 k.2.2)
  | .newT, t, sc, X, e, c, h => by simp only [chk] at h; cases h
  | .ix a i, t, sc, X, e, c, h => by
    simp only [chk] at h
    split at h <;> first | cases h | skip
    simp only [Bool.and_eq_true] at h
    have hu := c.un
    exact .ofE rfl rfl (nd_ix (by omega) ((chk_ok a false sc X _ c h.1.1).val rfl) ((chk_ok i false sc X _ c h.1.2).val rfl) h.2)
  | .sl a lo hi, t, sc, X, e, c, h => by
    unfold chk at h
    split at h <;> first | cases h | skip
    rename_i ea elo ehi q1 q2
    simp only [Bool.and_eq_true] at h
    obtain ⟨⟨h1, h2⟩, h3⟩ := h
    have kl : PO X elo (tOs X.K cf lo) := by
      match lo, elo, h2 with
      | [], none, _ => exact nd_onone
      | [l], some el, h2 => exact nd_osome ((chk_ok l false sc X _ c h2).val rfl)
    have kh : PO X ehi (tOs X.K cf hi) := by
      match hi, ehi, h3 with
      | [], none, _ => exact nd_onone
      | [l], some el, h3 => exact nd_osome ((chk_ok l false sc X _ c h3).val rfl)
    exact .ofF rfl (nd_sl ((chk_ok a false sc X _ c h1).val rfl) kl kh)
  | .rev a, t, sc, X, e, c, h => by simp only [chk] at h; cases h
  | .call f es, t, sc, X, e, c, h => by
    simp only [chk] at h
    split at h <;> first | cases h | skip
    simp only [Bool.and_eq_true, decide_eq_true_eq] at h
    obtain ⟨⟨⟨⟨rfl, h2⟩, h3⟩, h4⟩, h5⟩ := h
    have k := chks_ok es sc X _ c h5
    exact .ofE rfl rfl (nd_call (c.fns _ h4) (c.gl h2) (dbg_of h3).1 k.1 k.2.1 k.2.2)
  | .isi a ty, t, sc, X, e, c, h => by
    simp only [chk] at h
    split at h <;> first | cases h | skip
    simp only [Bool.and_eq_true, decide_eq_true_eq] at h
    obtain ⟨⟨⟨⟨⟨rfl, rfl⟩, h2⟩, h3⟩, h4⟩, h5⟩ := h
    exact .ofE rfl rfl (nd_isi (c.bltG h2).1 (c.bltG h2).2 (c.bltG h3).1 (c.bltG h3).2 ((chk_ok a false sc X _ c h4).val rfl) h5)
  | .b1 f a, t, sc, X, e, c, h => by
    simp only [chk] at h
    split at h <;> first | cases h | skip
    simp only [Bool.and_eq_true, decide_eq_true_eq] at h
    obtain ⟨⟨⟨⟨⟨rfl, h2⟩, h3⟩, h3'⟩, h4⟩, h5⟩ := h
    exact .ofF rfl (nd_b1 c.calm h3 h3' (c.bltG h2).1 (c.bltG h2).2 ((chk_ok a false sc X _ c h4).val rfl) h5)
  | .b2 f a b, t, sc, X, e, c, h => by
    simp only [chk] at h
    split at h <;> first | cases h | skip
    simp only [Bool.and_eq_true, decide_eq_true_eq] at h
    obtain ⟨⟨⟨⟨⟨⟨rfl, h2⟩, h3⟩, h4⟩, h5⟩, h6⟩, h7⟩ := h
    exact .ofE rfl rfl (nd_b2 c.calm h3 (c.bltG h2).1 (c.bltG h2).2 ((chk_ok a false sc X _ c h4).val rfl) ((chk_ok b false sc X _ c h6).val rfl) h5 h7)
  | .get a b d, t, sc, X, e, c, h => by
    simp only [chk] at h
    split at h <;> first | cases h | skip
    simp only [Bool.and_eq_true, decide_eq_true_eq] at h
    obtain ⟨⟨⟨⟨⟨⟨⟨rfl, h2⟩, h3⟩, h4⟩, h5⟩, h6⟩, h7⟩, h8⟩ := h
    have hu := c.un
    exact .ofE rfl rfl (nd_get (by omega) ((chk_ok a false sc X _ c h6).val rfl) ((chk_ok b false sc X _ c h7).val rfl) ((chk_ok d false sc X _ c h8).val rfl) h3 h4 h5 h2)
  | .join a b, t, sc, X, e, c, h => by
    simp only [chk] at h
    split at h <;> first | cases h | skip
    simp only [Bool.and_eq_true, decide_eq_true_eq] at h
    obtain ⟨⟨⟨⟨⟨rfl, h2⟩, h3⟩, h4⟩, h5⟩, h6⟩ := h
    exact .ofE rfl rfl (nd_join ((chk_ok a false sc X _ c h5).val rfl) ((chk_ok b false sc X _ c h6).val rfl) h3 h4 h2)
  | .index a b, t, sc, X, e, c, h => by
    simp only [chk] at h
    split at h <;> first | cases h | skip
    simp only [Bool.and_eq_true, decide_eq_true_eq] at h
    obtain ⟨⟨⟨⟨⟨rfl, h2⟩, h3⟩, h4⟩, h5⟩, h6⟩ := h
    exact .ofE rfl rfl (nd_index c.un ((chk_ok a false sc X _ c h5).val rfl) ((chk_ok b false sc X _ c h6).val rfl) h3 h4 h2)
  | .pop a b, t, sc, X, e, c, h => by
    simp only [chk] at h
    split at h <;> first | cases h | skip
    simp only [Bool.and_eq_true, decide_eq_true_eq] at h
    obtain ⟨⟨⟨⟨⟨rfl, h2⟩, h3⟩, h4⟩, h5⟩, h6⟩ := h
    exact .ofE rfl rfl (nd_pop ((chk_ok a false sc X _ c h5).val rfl) ((chk_ok b false sc X _ c h6).val rfl) h3 h4 h2)
  | .popD a b d, t, sc, X, e, c, h => by
    simp only [chk] at h
    split at h <;> first | cases h | skip
    simp only [Bool.and_eq_true, decide_eq_true_eq] at h
    obtain ⟨⟨⟨⟨⟨⟨⟨rfl, h2⟩, h3⟩, h4⟩, h5⟩, h6⟩, h7⟩, h8⟩ := h
    exact .ofE rfl rfl (nd_popD ((chk_ok a false sc X _ c h6).val rfl) ((chk_ok b false sc X _ c h7).val rfl) ((chk_ok d false sc X _ c h8).val rfl) h3 h4 h5 h2)
  | .lc elt tg w src cond, t, sc, X, e, c, h => by
    unfold chk at h
    split at h <;> first | cases h | skip
    rename_i eelt etg eiter ifs scope q
    obtain ⟨h, h5⟩ := split_and h
    obtain ⟨h, h4⟩ := split_and h
    obtain ⟨h1, h3⟩ := split_and h
    simp only [compC, Bool.and_eq_true, decide_eq_true_eq, Bool.or_eq_true, Bool.not_eq_true'] at h1
    obtain ⟨⟨⟨⟨⟨g1, g2⟩, g3⟩, g4⟩, g5⟩, g6⟩ := h1
    have PW := walk_ok c (etg := etg) h3 (srcs_ok src sc X c)
    have PC : ∀ (s : Shared) (H : Hp) (A : Addr) (cl : List (Str × Addr)) (fp : List Addr), PTs (X.blk s H scope (compEnvC scope cl A X.env) fp) ifs (condR X.K cf cond) := by
      intro s H A cl fp
      match cond, ifs, h4 with
      | [], [], _ => exact pts_nil
      | [d], [ed], h4 => exact pts_one ((chk_ok d true (relS scope sc) _ _ (c.blk s H A cl fp) h4).tst rfl)
    have k := pe_lc (X := X) (elt := eelt) (tg := etg) (iter := eiter) (ifs := ifs) (scope := scope) (own := (tgN etg).zip tg.slots) (pos := q) (g := tgR X.K tg) (tt := condR X.K cf cond) (te := tE X.K cf elt) c.calm (by rw [c.n]; exact c.nd) PW (by rw [c.n, c.scE]; exact blkOk_by g3)
      (fun s H A cl fp => tg_sound (c.blk s H A cl fp) (c.tok s H A cl fp) g1) PC (fun s H A cl fp => (chk_ok elt false (relS scope sc) _ _ (c.blk s H A cl fp) h5).val rfl) (fun x => folded_of g4 x)
    rw [g2] at k
    refine .ofF rfl (peW k fun σ H Q hh => lc_of g5 (fun ⟨i, ei⟩ => ?_) hh)
    subst ei
    exact g6.resolve_left (by simp [isNm])
  | .dcm ek ev tg w src, t, sc, X, e, c, h => by
    unfold chk at h
    split at h <;> first | cases h | skip
    rename_i eek eev etg eiter scope q
    obtain ⟨h, h5⟩ := split_and h
    obtain ⟨h, h4⟩ := split_and h
    obtain ⟨h1, h3⟩ := split_and h
    simp only [compC, Bool.and_eq_true, decide_eq_true_eq, Bool.or_eq_true, Bool.not_eq_true'] at h1
    obtain ⟨⟨⟨⟨⟨g1, g2⟩, g3⟩, g4⟩, g5⟩, g6⟩ := h1
    have PW := walk_ok c (etg := etg) h3 (srcs_ok src sc X c)
    have k := pe_dc (X := X) (kx := eek) (vx := eev) (tg := etg) (iter := eiter) (ifs := []) (scope := scope) (own := (tgN etg).zip tg.slots) (pos := q) (g := tgR X.K tg) (tt := tYes) (tk := tE X.K cf ek) (tv := tE X.K cf ev) c.calm (by rw [c.n]; exact c.nd) PW (by rw [c.n, c.scE]; exact blkOk_by g3)
      (fun s H A cl fp => tg_sound (c.blk s H A cl fp) (c.tok s H A cl fp) g1) (fun s H A cl fp => pts_nil) (fun s H A cl fp => (chk_ok ek false (relS scope sc) _ _ (c.blk s H A cl fp) h4).val rfl) (fun s H A cl fp => (chk_ok ev false (relS scope sc) _ _ (c.blk s H A cl fp) h5).val rfl) (fun x => folded_of g4 x)
    rw [g2] at k
    refine .ofF rfl (peW k fun σ H Q hh => dc_of g5 (fun ⟨i, ei⟩ => ?_) hh)
    subst ei
    exact g6.resolve_left (by simp [isNm])
theorem chks_ok {C : Cfg} {cf : CallF} : ∀ (ps : List E) (sc : Scope) (X : Cx) (es : List Expr), Cok C cf sc X → chks C ps sc es = true → PA X es (tEs X.K cf ps) ∧ es.all notStar = true ∧ ps.length = es.length
  | [], sc, X, es, c, h => by
    simp only [chks] at h
    split at h <;> first | cases h | skip
    exact ⟨nd_nil, rfl, rfl⟩
  | p :: ps, sc, X, es, c, h => by
    simp only [chks] at h
    split at h <;> first | cases h | skip
    simp only [Bool.and_eq_true] at h
    obtain ⟨⟨h1, h2⟩, h3⟩ := h
    have k := chks_ok ps sc X _ c h3
    exact ⟨nd_cons ((chk_ok p false sc X _ c h1).val rfl) k.1 h2, by simp only [List.all_cons, h2, k.2.1]; rfl, by simp [k.2.2]⟩
theorem srcs_ok {C : Cfg} {cf : CallF} : ∀ (ps : List E) (sc : Scope) (X : Cx), Cok C cf sc X → ∀ q ∈ ps, ∀ e, chk C q false sc e = true → PE X e (tE X.K cf q)
  | [], sc, X, c => fun q hq => by cases hq
  | p :: ps, sc, X, c => fun q hq e h => by
    rcases List.mem_cons.mp hq with e1 | hq
    · rw [e1] at h ⊢
      exact (chk_ok p false sc X e c h).val rfl
    · exact srcs_ok ps sc X c q hq e h
theorem chkD_ok {C : Cfg} {cf : CallF} : ∀ (ps : List E) (ks : List Key) (sc : Scope) (X : Cx) (eks : List (Option Expr)) (evs : List Expr) (pos : Pos), Cok C cf sc X → chkD C ks ps sc eks evs = true →
    PPs X pos eks evs ((ks.zip ps).map fun ke => (tC (kV ke.1), tE X.K cf ke.2)) ∧ eks.all (·.isSome) = true
  | [], ks, sc, X, eks, evs, pos, c, h => by
    simp only [chkD] at h
    split at h <;> first | cases h | skip
    exact ⟨pps_nil, rfl⟩
  | p :: ps, ks, sc, X, eks, evs, pos, c, h => by
    simp only [chkD] at h
    split at h <;> first | cases h | skip
    simp only [Bool.and_eq_true] at h
    obtain ⟨⟨h1, h2⟩, h3⟩ := h
    have k := chkD_ok ps _ sc X _ _ pos c h3
    exact ⟨pps_cons (pe_key h1) ((chk_ok p false sc X _ c h2).val rfl) k.1, by simpa using k.2⟩
end
end PV
end

section
set_option Elab.async false
set_option linter.all false
set_option maxRecDepth 100000
set_option maxHeartbeats 4000000
/-! PvStm: statements. -/
namespace PV
open PySem L2
def sP (K : PySem.W.Frag) (Z : List Addr) (D : Ends) : Flow × Env → Store → List Addr → Hp → Prop := fun r _ φ' H' => match r.1 with
  | .nx => ∀ σ', RelE K φ' Z H' σ' r.2 → D.nx σ' H'
  | .br => ∀ σ', RelE K φ' Z H' σ' r.2 → D.bk σ' H'
  | .ct => ∀ σ', RelE K φ' Z H' σ' r.2 → D.ct σ' H'
  | .rt v => ∀ u, Is K φ' Z H' u v → D.rt u H'
def tS (K : PySem.W.Frag) (cf : CallF) (p : S) : TS := fun D σ H => ∃ φ Z env st, RelE K φ Z H σ env ∧ RelS K φ Z H st ∧ Pst K φ Z H (exS cf p env st) (sP K Z D)
def tSs (K : PySem.W.Frag) (cf : CallF) (p : List S) : TS := fun D σ H => ∃ φ Z env st, RelE K φ Z H σ env ∧ RelS K φ Z H st ∧ Pst K φ Z H (exSs cf p env st) (sP K Z D)
/-! ### swapped stores -/
def isStr : Expr → Bool
  | .Starred _ _ => true
  | _ => false
def swNames (sc : Scope) (ts : List Expr) : List Str := ts.filterMap fun
    | .Name id pos => if sc.names.lookup id == some .local && pos.line == (ts.head?.map (·.pos.line)).getD 0 then some id else none
    | _ => none
def swO (sc : Scope) (ts vs : List Expr) : Option (Option (List Str)) :=
  if (!(ts.length == 2 || ts.length == 3) || vs.length != ts.length) = true then some none else
  if (vs.any isStr) = true then some none else
  if ((swNames sc ts).length != ts.length || (swNames sc ts).eraseDups.length != (swNames sc ts).length) = true then some none else
  if (vs.all (foldedForSure 8)) = true then some none else
  if (vs.all (constantsAlone 8)) = true then none else some (some (swNames sc ts))
theorem swO_ok {env : PySem.Env} {ts vs : List Expr} {k1 k2 : Nat} {p1 p2 : Pos} {r : Option (List Str)} (hk : env.scope.kind = .function) (h : swO env.scope ts vs = some r) : swappedStores [.Tuple ts k1 p1] (.Tuple vs k2 p2) env = pure r := by
  have hb : env.blockKind = .function := by unfold Env.blockKind; rw [hk]; rfl
  unfold swO at h
  unfold swappedStores
  simp only [hb]
  have e0 : ((!(ts.length == 2 || ts.length == 3) || vs.length != ts.length) || (ScopeKind.function != ScopeKind.function)) = (!(ts.length == 2 || ts.length == 3) || vs.length != ts.length) := by
    rw [show (ScopeKind.function != ScopeKind.function) = false from rfl, Bool.or_false]
  simp only [e0]
  have e1 : (vs.any fun | .Starred .. => true | _ => false) = vs.any isStr := by
    congr
  have e2 : (ts.filterMap fun
    | .Name id pos => if env.kindOf id == some .local && pos.line == (ts.head?.map (·.pos.line)).getD 0 then some id else none
    | _ => none) = swNames env.scope ts := rfl
  by_cases c1 : (!(ts.length == 2 || ts.length == 3) || vs.length != ts.length) = true
  · rw [if_pos c1] at h ⊢
    cases h
    rfl
  · rw [if_neg c1] at h ⊢
    show (if (vs.any isStr) = true then pure none else (if ((swNames env.scope ts).length != ts.length || (swNames env.scope ts).eraseDups.length != (swNames env.scope ts).length) = true then pure none else
      (if (vs.all (foldedForSure 8)) = true then pure none else (if (vs.all (constantsAlone 8)) = true then _ else pure (some (swNames env.scope ts)))))) = (pure r : Sem (Option (List Str)))
    split at h
    · rename_i c; rw [if_pos c]; cases h; rfl
    · rename_i c; rw [if_neg c]
      split at h
      · rename_i c; rw [if_pos c]; cases h; rfl
      · rename_i c; rw [if_neg c]
        split at h
        · rename_i c; rw [if_pos c]; cases h; rfl
        · rename_i c; rw [if_neg c]
          split at h
          · cases h
          · rename_i c; rw [if_neg c]; cases h; rfl
section
variable {X : Cx} {cf : CallF} {pos pos' apos cpos p : Pos} {ea eb ec etg eiter : Expr} {a b c : E}
/-! ### assignments -/
theorem sasg_of {tg : Tg} {g : TE} (hw : ∀ σ H Q, tE X.K cf a σ H Q → g σ H Q) : ∀ D σ H, tS X.K cf (.asg tg a) D σ H → tAsg g (tgR X.K tg) D σ H := by
  intro D σ H ⟨φ, Z, env, st, hE, hS, h⟩
  simp only [exS] at h
  refine hw σ H _ (tE.of hE hS h fun x st1 v φ1 H1 e1 s1 E1 iv h1 => ?_)
  obtain ⟨env2, hb, h2⟩ := h1.got
  obtain ⟨us, l, rfl, hl, r, fin⟩ := tg_ok (Q := D.nx) (.inl iv) (fun _ _ => iv) hb
  exact fin σ (h2.now s1 _ (E1.setAll r))
theorem ns_asg {tg : Tg} (he : PE X ea (tE X.K cf a)) (hg : PG X etg (tgR X.K tg)) (hs : swapsWithSole [etg] ea pos.line X.env = pure false) (hw : swappedStores [etg] ea X.env = pure none) (h1 : (assignEach [etg] X.env).map (·.2) = [assign etg X.env]) : PS X (.Assign [etg] ea pos) (tS X.K cf (.asg tg a)) :=
  psW (ps_asg he hg hs hw h1) (sasg_of fun _ _ _ h => h)
theorem ns_par {i j : Nat} {x y : Str} {px py pt pt2 : Pos} {kt k2 : Nat} (hc : X.calm = true) (hN : X.N.Nodup) (hi : X.N[i]? = some x) (hj : X.N[j]? = some y) (hij : i ≠ j) (hx : X.env.scope.names.lookup x = some .local) (hy : X.env.scope.names.lookup y = some .local)
    (ha : PE X ea (tE X.K cf a)) (hb : PE X eb (tE X.K cf b)) (h1 : notStar ea = true) (h2 : notStar eb = true) (hw : swappedStores [.Tuple [.Name x px, .Name y py] kt pt] (.Tuple [ea, eb] k2 pt2) X.env = pure (some [x, y])) :
    PS X (.Assign [.Tuple [.Name x px, .Name y py] kt pt] (.Tuple [ea, eb] k2 pt2) pos) (tS X.K cf (.par i j a b)) :=
  psW (ps_par hc hN hi hj hij hx hy (nd_cons ha (nd_cons hb nd_nil h2) h1) hw rfl) fun D σ H ⟨φ, Z, env, st, hE, hS, h⟩ => by
    simp only [exS] at h
    refine two_of hE hS h fun x y st1 v u φ1 H1 e1 s1 E1 iv iu h1 => ⟨v, u, rfl, ?_⟩
    split at h1
    · exact h1.now s1 _ ((E1.set iv).set iu)
    · exact h1.elim
theorem ns_set (hu : X.A.units + 1 < cLine) (ho : PE X ea (tE X.K cf a)) (hi : PE X eb (tE X.K cf b)) (he : PE X ec (tE X.K cf c)) (hs : notSlice eb = true) : PS X (.Assign [.Subscript ea eb pos'] ec pos) (tS X.K cf (.set a b c)) := by
  have hg : PG X (.Subscript ea eb pos') (gSub (tE X.K cf a) (tE X.K cf b) rSet) := pg_sub ho hi (rSet_ok hu) (by
    intro v
    cases eb <;> first | rfl | cases hs)
  refine psW (ps_asg he hg (by unfold swapsWithSole swapsWith; cases ec <;> rfl) (by unfold swappedStores; cases ec <;> rfl) rfl) fun D σ H ⟨φ, Z, env, st, hE, hS, h⟩ => ?_
  simp only [exS] at h
  refine tE.of hE hS h fun x st1 v φ1 H1 e1 s1 E1 iv h1 => ?_
  refine tE.of E1 s1 h1 fun o st2 w φ2 H2 e2 s2 E2 iw h2 => tE.of E2 s2 h2 fun k st3 u φ3 H3 e3 s3 E3 iu h3 => ?_
  obtain ⟨_, st4, hset, h4⟩ := h3.split
  exact set_ok (Q := fun H' => D.nx σ H') s3 (iw.mono e3) iu ((iv.mono e2).mono e3) hset fun H' e' s' => h4 φ3 H' e' s' σ (E3.mono e')
def ipO : Op → Option (Int → Int → Int)
  | .add => some fun i j => i + j
  | .sub => some fun i j => i - j
  | _ => none
theorem ns_aug {i : Nat} {x : Str} {o : Op} {f : Int → Int → Int} (hN : X.N.Nodup) (hi : X.N[i]? = some x) (hx : Loc X.env.scope x) (hf : X.fn x = true ∨ X.env.scope.names.lookup x = some .local) (he : PE X ea (tE X.K cf a)) (ho : ipO o = some f) :
    PS X (.AugAssign (.Name x pos') (opE o) ea pos) (tS X.K cf (.aug i o a)) := by
  have ip : PIp X (opE o) (ipI f) := by
    cases o <;> cases ho
    · exact ip_add
    · exact ip_sub
  have av : ∀ x y z, augV o x y = some z → ∃ m n, x = .int m ∧ y = .int n ∧ z = .int (f m n) := by
    intro x y z h
    cases o <;> cases ho <;> (unfold augV at h; split at h <;> first | contradiction | skip)
    · cases h; exact ⟨_, _, rfl, rfl, rfl⟩
    · cases h; exact ⟨_, _, rfl, rfl, rfl⟩
  refine psW (ps_aug hN hi hx he ip hf) fun D σ H ⟨φ, Z, env, st, hE, hS, h⟩ => ?_
  simp only [exS] at h
  split at h
  · rename_i x0 hx0
    obtain ⟨v, h1, iv⟩ := hE.at_ i x0 hx0
    refine ⟨v, h1, tE.of hE hS h fun y st1 u φ1 H1 e1 s1 E1 iu h2 => ?_⟩
    obtain ⟨z, hz, h3⟩ := h2.got
    obtain ⟨m, n, rfl, rfl, rfl⟩ := av _ _ _ hz
    cases iv
    cases iu
    exact ⟨m, n, rfl, rfl, h3.now s1 _ (E1.set (.int _))⟩
  · exact h.elim
/-! ### methods as statements -/
theorem ns_app (ha : PE X ea (tE X.K cf a)) (hb : PE X eb (tE X.K cf b)) (h0 : notSuper ea = true) (h1 : notStar eb = true) (hl : (apos.endLine == cpos.line) = true) : PS X (.Expr (.Call (.Attribute ea "append" apos) [eb] [] cpos) pos) (tS X.K cf (.app a b)) :=
  psW (ps_expr (pe_bm PySem.F.plainAttrs_list PySem.F.slot_list_append PySem.F.type_list_append mt_append ha (nd_cons hb nd_nil h1) (base_of h0) (few_of h1) hl (star_of h1) rfl) rfl) fun D σ H ⟨φ, Z, env, st, hE, hS, h⟩ => by
    simp only [exS] at h
    refine tE.of hE hS h fun l st1 v φ1 H1 e1 s1 E1 iv h1 => ?_
    split at h1
    · rename_i hd
      obtain ⟨ws, hw⟩ := Option.isSome_iff_exists.mp hd
      refine ⟨app_ty s1 iv hw, one_of E1 s1 h1 fun x st2 u φ2 H2 e2 s2 E2 iu h2 => ?_⟩
      obtain ⟨_, st3, hset, h4⟩ := h2.split
      exact app_ok (Q := fun _ H' => D.nx σ H') s2 (iv.mono e2) iu hset fun H' e' s' => h4 φ2 H' e' s' σ (E2.mono e')
    · exact h1.elim
theorem ns_ext (ha : PE X ea (tE X.K cf a)) (hb : PE X eb (tE X.K cf b)) (h0 : notSuper ea = true) (h1 : notStar eb = true) (hl : (apos.endLine == cpos.line) = true) : PS X (.Expr (.Call (.Attribute ea "extend" apos) [eb] [] cpos) pos) (tS X.K cf (.ext a b)) :=
  psW (ps_expr (pe_bm PySem.F.plainAttrs_list PySem.F.slot_list_extend PySem.F.type_list_extend mt_extend ha (nd_cons hb nd_nil h1) (base_of h0) (few_of h1) hl (star_of h1) rfl) rfl) fun D σ H ⟨φ, Z, env, st, hE, hS, h⟩ => by
    simp only [exS] at h
    refine tE.of hE hS h fun l st1 v φ1 H1 e1 s1 E1 iv h1 => ?_
    split at h1
    · rename_i hd
      obtain ⟨ws, hw⟩ := Option.isSome_iff_exists.mp hd
      refine ⟨app_ty s1 iv hw, one_of E1 s1 h1 fun x st2 u φ2 H2 e2 s2 E2 iu h2 => ?_⟩
      obtain ⟨_, st3, hset, h4⟩ := h2.split
      exact ext_ok (Q := fun _ H' => D.nx σ H') s2 (iv.mono e2) iu hset fun H' e' s' => h4 φ2 H' e' s' σ (E2.mono e')
    · exact h1.elim
theorem ns_rem (ha : PE X ea (tE X.K cf a)) (hb : PE X eb (tE X.K cf b)) (h0 : notSuper ea = true) (h1 : notStar eb = true) (hl : (apos.endLine == cpos.line) = true) : PS X (.Expr (.Call (.Attribute ea "remove" apos) [eb] [] cpos) pos) (tS X.K cf (.rem a b)) :=
  psW (ps_expr (pe_bm PySem.F.plainAttrs_list PySem.F.slot_list_remove PySem.F.type_list_remove mt_removeS ha (nd_cons hb nd_nil h1) (base_of h0) (few_of h1) hl (star_of h1) rfl) rfl) fun D σ H ⟨φ, Z, env, st, hE, hS, h⟩ => by
    simp only [exS] at h
    refine tE.of hE hS h fun l st1 v φ1 H1 e1 s1 E1 iv h1 => ?_
    split at h1
    · rename_i hd
      obtain ⟨ws, hw⟩ := Option.isSome_iff_exists.mp hd
      refine ⟨app_ty s1 iv hw, one_of E1 s1 h1 fun x st2 u φ2 H2 e2 s2 E2 iu h2 => ?_⟩
      obtain ⟨_, st3, hset, h4⟩ := h2.split
      exact rem_ok (Q := fun _ H' => D.nx σ H') s2 (iv.mono e2) iu hset fun H' e' s' => h4 φ2 H' e' s' σ (E2.mono e')
    · exact h1.elim
theorem ns_ex (he : PE X ea (tE X.K cf a)) (hs : notComp ea = true) : PS X (.Expr ea pos) (tS X.K cf (.ex a)) :=
  psW (ps_expr he (swaps_of hs)) fun D σ H ⟨φ, Z, env, st, hE, hS, h⟩ => by
    simp only [exS] at h
    exact tE.of hE hS h fun x st1 v φ1 H1 e1 s1 E1 iv h1 => h1.now s1 _ E1
theorem ns_ret (he : PE X ea (tE X.K cf a)) : PS X (.Return (some ea) pos) (tS X.K cf (.ret a)) :=
  psW (ps_ret he) fun D σ H ⟨φ, Z, env, st, hE, hS, h⟩ => by
    simp only [exS] at h
    exact tE.of hE hS h fun x st1 v φ1 H1 e1 s1 E1 iv h1 => h1.now s1 _ iv
theorem ns_retN : PS X (.Return none pos) (tS X.K cf (.ret (.cst .non))) :=
  psW ps_retN fun D σ H ⟨φ, Z, env, st, hE, hS, h⟩ => by
    simp only [exS, evE, R.bind_ok] at h
    exact h.now hS _ .non
theorem ns_if {ta tb : List S} {sa sb : List Stmt} (hc : PT X ec (tT X.K cf c)) (ha : PSs X sa (tSs X.K cf ta)) (hb : PSs X sb (tSs X.K cf tb)) : PS X (.If ec sa sb pos) (tS X.K cf (.ifs c ta tb)) :=
  psW (ps_if hc ha hb) fun D σ H ⟨φ, Z, env, st, hE, hS, h⟩ => by
    simp only [exS] at h
    refine tT_use hE hS h fun x st1 φ1 H1 e1 s1 E1 h1 => ?_
    cases x with
    | true => exact ⟨φ1, Z, env, st1, E1, s1, h1⟩
    | false => exact ⟨φ1, Z, env, st1, E1, s1, h1⟩
theorem ns_brk : PS X (.Break pos) (tS X.K cf .brk) :=
  psW ps_break fun D σ H ⟨φ, Z, env, st, hE, hS, h⟩ => by
    simp only [exS] at h
    exact h.now hS _ hE
theorem ns_cnt : PS X (.Continue pos) (tS X.K cf .cnt) :=
  psW ps_continue fun D σ H ⟨φ, Z, env, st, hE, hS, h⟩ => by
    simp only [exS] at h
    exact h.now hS _ hE
theorem ns_pss : PS X (.Pass pos) (tS X.K cf .pss) :=
  psW ps_pass fun D σ H ⟨φ, Z, env, st, hE, hS, h⟩ => by
    simp only [exS] at h
    exact h.now hS _ hE
theorem ns_nil : PSs X [] (tSs X.K cf []) :=
  pssW pss_nil fun D σ H ⟨φ, Z, env, st, hE, hS, h⟩ => by
    simp only [exSs] at h
    exact h.now hS _ hE
theorem ns_cons {s : S} {ss : List S} {x : Stmt} {xs : List Stmt} (h1 : PS X x (tS X.K cf s)) (h2 : PSs X xs (tSs X.K cf ss)) : PSs X (x :: xs) (tSs X.K cf (s :: ss)) :=
  pssW (pss_cons h1 h2) fun D σ H ⟨φ, Z, env, st, hE, hS, h⟩ => by
    simp only [exSs] at h
    refine ⟨φ, Z, env, st, hE, hS, h.bind.imp fun r st1 φ1 H1 e1 s1 ⟨_, _, q⟩ => ?_⟩
    obtain ⟨fl, env2⟩ := r
    cases fl with
    | nx => exact fun σ' E' => ⟨φ1, Z, env2, st1, E', s1, q⟩
    | br => exact fun σ' E' => q.now s1 σ' E'
    | ct => exact fun σ' E' => q.now s1 σ' E'
    | rt v => exact fun u iu => q.now s1 u iu
/-! ### loops -/
theorem ns_for {tg : Tg} {w : Wk} {src : List E} {body : List S} {sb : List Stmt} (hp : PassesOwn (model X.prog X.w) X.A X.env X.xe) (hc : X.calm = true) (hi : PI X etg eiter (wiR X.K cf w src)) (hg : PG X etg (tgR X.K tg)) (hb : PSs X sb (tSs X.K cf body)) (hs : notSet eiter = true)
    (hw : walkForm w src.length = true) (ht : isNm tg = true → whole w = true) : PS X (.For etg eiter sb [] pos) (tS X.K cf (.for tg w src body)) :=
  psW (ps_for hp hc hi hg hb fun x => folded_of hs x) fun D σ H ⟨φ, Z, env, st, hE, hS, h⟩ => by
    simp only [exS] at h
    refine wi_use hE hS h hw fun vs xs st1 J φ1 H1 e1 s1 E1 S hx P0 => ?_
    refine ⟨fun i m σ' H' => m = xs.length - i ∧ ∃ φ' env' st', i ≤ xs.length ∧ Ext φ1 [] H1 φ' H' ∧ RelE X.K φ' Z H' σ' env' ∧ RelS X.K φ' Z H' st' ∧ Pst X.K φ' Z H' (forL (exSs cf body) tg (keepW w vs xs) (xs.drop i) env' st') (sP X.K Z D),
      ⟨xs.length, by simp, φ1, env, st1, Nat.zero_le _, Ext.refl, E1, s1, by simpa using P0⟩, ?_⟩
    rintro i m σ' H' ⟨rfl, φ', env', st', hi, eX, E', s', P⟩
    have S2 := S.monoY nilZ eX
    by_cases hlt : i < xs.length
    · right
      obtain ⟨x, hxi, hdr⟩ := drop_at hlt
      rw [hdr] at P
      simp only [forL] at P
      cases hk : keepW w vs xs st' with
      | false => rw [hk] at P; exact P.elim
      | true =>
        rw [hk] at P
        simp only at P
        obtain ⟨go, yl⟩ := (S2.step s' (keep_walk hk hx)).2 i x hxi
        let N : L2.St → Hp → Prop := fun σ'' H'' => ∃ φ' env' st', i + 1 ≤ xs.length ∧ Ext φ1 [] H1 φ' H'' ∧ RelE X.K φ' Z H'' σ'' env' ∧ RelS X.K φ' Z H'' st' ∧ Pst X.K φ' Z H'' (forL (exSs cf body) tg (keepW w vs xs) (xs.drop (i + 1)) env' st') (sP X.K Z D)
        refine ⟨go, N, fun σ'' H'' q => ⟨xs.length - (i + 1), by omega, rfl, q⟩, fun v H2 hy => ?_⟩
        obtain ⟨e2, s2, yv, yw⟩ := yl v H2 hy
        cases hbt : bindT tg x env' with
        | none => rw [hbt] at P; exact P.elim
        | some env2 =>
          rw [hbt] at P
          simp only at P
          obtain ⟨us, l, rfl, hul, r, fin⟩ := tg_ok (Q := fun σ2 H2 => tSs X.K cf body { D with nx := N, ct := N, bk := D.nx } σ2 H2) yv (fun j ej => yw (ht (by rw [ej]; rfl))) hbt
          refine fin σ' ⟨φ', Z, _, st', (E'.mono e2).setAll r, s2, (PstY.mono e2 P).bind.imp fun r st2 φ2 H3 e3 s3 ⟨_, _, q⟩ => ?_⟩
          obtain ⟨fl, env3⟩ := r
          cases fl with
          | nx => exact fun σ2 E2 => ⟨φ2, env3, st2, hlt, (eX.trans e2).trans e3, E2, s3, q⟩
          | ct => exact fun σ2 E2 => ⟨φ2, env3, st2, hlt, (eX.trans e2).trans e3, E2, s3, q⟩
          | br => exact fun σ2 E2 => q.now s3 σ2 E2
          | rt v => exact fun u iu => q.now s3 u iu
    · left
      have ei : i = xs.length := by omega
      subst ei
      rw [List.drop_length] at P
      simp only [forL] at P
      split at P
      · rename_i hk
        exact ⟨(S2.step s' (keep_walk hk hx)).1, P.now s' σ' E'⟩
      · exact P.elim
theorem ns_whl {body : List S} {sb : List Stmt} (hp : PassesOwn (model X.prog X.w) X.A X.env X.xe) (hc : PT X ec (tT X.K cf c)) (hb : PSs X sb (tSs X.K cf body)) : PS X (.While ec sb [] pos) (tS X.K cf (.whl c body)) :=
  psW (ps_while hp hc hb) fun D σ H ⟨φ, Z, env, st, hE, hS, h⟩ => by
    simp only [exS] at h
    refine ⟨fun m σ' H' => ∃ φ' env' st', RelE X.K φ' Z H' σ' env' ∧ RelS X.K φ' Z H' st' ∧ Pst X.K φ' Z H' (whlL (evE cf c) (exSs cf body) m env' st') (sP X.K Z D), ⟨turns, φ, env, st, hE, hS, h⟩, ?_⟩
    rintro m σ' H' ⟨φ', env', st', E', s', P⟩
    cases m with
    | zero => exact P.elim
    | succ m =>
      simp only [whlL] at P
      refine tT_use E' s' P fun k st1 φ1 H1 e1 s1 E1 P1 => ?_
      cases k with
      | false => exact P1.now s1 σ' E1
      | true =>
        refine ⟨fun σ'' H'' => ∃ φ' env' st', RelE X.K φ' Z H'' σ'' env' ∧ RelS X.K φ' Z H'' st' ∧ Pst X.K φ' Z H'' (whlL (evE cf c) (exSs cf body) m env' st') (sP X.K Z D), fun σ'' H'' q => ⟨m, Nat.lt_succ_self m, q⟩, ?_⟩
        refine ⟨φ1, Z, env', st1, E1, s1, P1.bind.imp fun r st2 φ2 H3 e3 s3 ⟨_, _, q⟩ => ?_⟩
        obtain ⟨fl, env3⟩ := r
        cases fl with
        | nx => exact fun σ2 E2 => ⟨φ2, env3, st2, E2, s3, q⟩
        | ct => exact fun σ2 E2 => ⟨φ2, env3, st2, E2, s3, q⟩
        | br => exact fun σ2 E2 => q.now s3 σ2 E2
        | rt v => exact fun u iu => q.now s3 u iu
end
end PV
end

section
set_option Elab.async false
set_option linter.all false
set_option maxRecDepth 100000
set_option maxHeartbeats 4000000
/-! PvSok: a check of statements, and that it is sound. -/
namespace PV
open PySem L2
def walkC (C : Cfg) (sc : Scope) (w : Wk) (src : List E) (etg eiter : Expr) : Bool := match w, src, eiter with
  | .of, [s], _ => chk C s false sc eiter
  | .range, [a], .Call (.Name g _) [ea] [] _ => decide (g = "range") && bltC sc "range" && notStar ea && chk C a false sc ea
  | .range, [a, b], .Call (.Name g _) [ea, eb] [] _ => decide (g = "range") && bltC sc "range" && notStar ea && notStar eb && chk C a false sc ea && chk C b false sc eb
  | .enum, [a], .Call (.Name g _) [ea] [] _ => decide (g = "enumerate") && bltC sc "enumerate" && isTup etg && notStar ea && chk C a false sc ea
  | .zip, [a, b], .Call (.Name g _) [ea, eb] [] _ => decide (g = "zip") && bltC sc "zip" && isTup etg && notStar ea && notStar eb && chk C a false sc ea && chk C b false sc eb
  | _, _, _ => false
def pairC (sc : Scope) (etg ee : Expr) : Bool := match etg, ee with
  | .Tuple ts _ _, .Tuple vs _ _ => decide (swO sc ts vs = some none)
  | .List _ _, _ => false
  | .Starred _ _, _ => false
  | .Attribute _ _ _, _ => false
  | _, _ => true
mutual
def chkS (C : Cfg) (p : S) (sc : Scope) (s : Stmt) : Bool := match p with
  | .asg tg e => (match s with
    | .Assign [etg] ee _ => tgC C.N sc tg etg && chk C e false sc ee && pairC sc etg ee
    | _ => false)
  | .par i j a b => (match s with
    | .Assign [.Tuple [.Name x px, .Name y py] _ _] (.Tuple [ea, eb] _ _) _ => decide (C.N[i]? = some x) && decide (C.N[j]? = some y) && decide (i ≠ j) && decide (sc.names.lookup x = some .local) && decide (sc.names.lookup y = some .local) &&
        chk C a false sc ea && chk C b false sc eb && notStar ea && notStar eb && decide (swO sc [.Name x px, .Name y py] [ea, eb] = some (some [x, y]))
    | _ => false)
  | .set o i e => (match s with
    | .Assign [.Subscript eo ei _] ee _ => chk C o false sc eo && chk C i false sc ei && chk C e false sc ee && notSlice ei
    | _ => false)
  | .aug i o e => (match s with
    | .AugAssign (.Name x _) op ee _ => decide (C.N[i]? = some x) && locC sc x && decide (op = opE o) && (ipO o).isSome && chk C e false sc ee
    | _ => false)
  | .app l e => (match s with
    | .Expr (.Call (.Attribute el m ap) [ee] [] cp) _ => decide (m = "append") && lineC ap cp && notSuper el && notStar ee && chk C l false sc el && chk C e false sc ee
    | _ => false)
  | .ext l e => (match s with
    | .Expr (.Call (.Attribute el m ap) [ee] [] cp) _ => decide (m = "extend") && lineC ap cp && notSuper el && notStar ee && chk C l false sc el && chk C e false sc ee
    | _ => false)
  | .rem l e => (match s with
    | .Expr (.Call (.Attribute el m ap) [ee] [] cp) _ => decide (m = "remove") && lineC ap cp && notSuper el && notStar ee && chk C l false sc el && chk C e false sc ee
    | _ => false)
  | .upd _ _ => false
  | .ex e => (match s with
    | .Expr ee _ => notComp ee && chk C e false sc ee
    | _ => false)
  | .ret e => (match s with
    | .Return (some ee) _ => chk C e false sc ee
    | .Return none _ => (match e with
      | .cst .non => true
      | _ => false)
    | _ => false)
  | .ifs c a b => (match s with
    | .If ec sa sb _ => chk C c true sc ec && chkSs C a sc sa && chkSs C b sc sb
    | _ => false)
  | .for tg w src body => (match s with
    | .For etg eiter sb [] _ => tgC C.N sc tg etg && walkC C sc w src etg eiter && notSet eiter && walkForm w src.length && (!isNm tg || whole w) && chkSs C body sc sb
    | _ => false)
  | .whl c body => (match s with
    | .While ec sb [] _ => chk C c true sc ec && chkSs C body sc sb
    | _ => false)
  | .brk => (match s with
    | .Break _ => true
    | _ => false)
  | .cnt => (match s with
    | .Continue _ => true
    | _ => false)
  | .pss => (match s with
    | .Pass _ => true
    | _ => false)
def chkSs (C : Cfg) (ps : List S) (sc : Scope) (ss : List Stmt) : Bool := match ps with
  | [] => (match ss with
    | [] => true
    | _ => false)
  | p :: ps => (match ss with
    | s :: ss => chkS C p sc s && chkSs C ps sc ss
    | _ => false)
end
structure LcP (X : Cx) (cf : CallF) (e : Expr) (g : TE) : Prop where
  asg : ∀ (i : Nat) (y : Str) (py spos : Pos), X.N[i]? = some y → X.env.scope.names.lookup y = some .local → swapsWith e (some (.Name y py)) spos.line X.env = pure true → PS X (.Assign [.Name y py] e spos) (tAsg g (gName i))
theorem lc_parts {C : Cfg} {cf : CallF} {sc : Scope} {X : Cx} (c : Cok C cf sc X) {elt : E} {tg : Tg} {w : Wk} {src cond : List E} {e : Expr} (h : chk C (.lc elt tg w src cond) false sc e = true) :
    ∃ g, (∀ σ H Q, tF X.K cf (.lc elt tg w src cond) σ H Q → g σ H Q) ∧ LcP X cf e g := by
  unfold chk at h
  split at h <;> first | cases h | skip
  rename_i eelt etg eiter ifs scope q
  obtain ⟨h, h5⟩ := split_and h
  obtain ⟨h, h4⟩ := split_and h
  obtain ⟨h1, h3⟩ := split_and h
  simp only [compC, Bool.and_eq_true, decide_eq_true_eq, Bool.or_eq_true, Bool.not_eq_true'] at h1
  obtain ⟨⟨⟨⟨⟨g1, g2⟩, g3⟩, g4⟩, g5⟩, g6⟩ := h1
  have PW := walk_ok c (etg := etg) h3 (srcs_ok src sc X c)
  have hnm : (∃ i, tg = .nm i) → whole w = true := fun ⟨i, ei⟩ => by
    rw [ei] at g6
    exact g6.resolve_left (by simp [isNm])
  have PC : ∀ (s : Shared) (H : Hp) (A : Addr) (cl : List (Str × Addr)) (fp : List Addr), PTs (X.blk s H scope (compEnvC scope cl A X.env) fp) ifs (condR X.K cf cond) := by
    intro s H A cl fp
    match cond, ifs, h4 with
    | [], [], _ => exact pts_nil
    | [d], [ed], h4 => exact pts_one ((chk_ok d true (relS scope sc) _ _ (c.blk s H A cl fp) h4).tst rfl)
  refine ⟨tLc (wiR X.K cf w src) (tgR X.K tg) (condR X.K cf cond) (tE X.K cf elt) tg.slots, fun σ H Q hh => lc_of g5 hnm hh, ⟨fun i y py spos hi hy hsw => ?_⟩⟩
  · have k := ps_setLc (X := X) (elt := eelt) (tg := etg) (iter := eiter) (ifs := ifs) (scope := scope) (own := (tgN etg).zip tg.slots) (pos := q) (spos := spos) (py := py) (g := tgR X.K tg) (tt := condR X.K cf cond) (te := tE X.K cf elt) c.calm (by rw [c.n]; exact c.nd) hi hy hsw PW (by rw [c.n, c.scE]; exact blkOk_by g3)
      (fun s H A cl fp => tg_sound (c.blk s H A cl fp) (c.tok s H A cl fp) g1) PC (fun s H A cl fp => (chk_ok elt false (relS scope sc) _ _ (c.blk s H A cl fp) h5).val rfl) (fun x => folded_of g4 x)
    rw [g2] at k
    exact k
theorem dc_parts {C : Cfg} {cf : CallF} {sc : Scope} {X : Cx} (c : Cok C cf sc X) {ek ev : E} {tg : Tg} {w : Wk} {src : List E} {e : Expr} (h : chk C (.dcm ek ev tg w src) false sc e = true) :
    ∃ g, (∀ σ H Q, tF X.K cf (.dcm ek ev tg w src) σ H Q → g σ H Q) ∧ LcP X cf e g := by
  unfold chk at h
  split at h <;> first | cases h | skip
  rename_i eek eev etg eiter scope q
  obtain ⟨h, h5⟩ := split_and h
  obtain ⟨h, h4⟩ := split_and h
  obtain ⟨h1, h3⟩ := split_and h
  simp only [compC, Bool.and_eq_true, decide_eq_true_eq, Bool.or_eq_true, Bool.not_eq_true'] at h1
  obtain ⟨⟨⟨⟨⟨g1, g2⟩, g3⟩, g4⟩, g5⟩, g6⟩ := h1
  have PW := walk_ok c (etg := etg) h3 (srcs_ok src sc X c)
  have hnm : (∃ i, tg = .nm i) → whole w = true := fun ⟨i, ei⟩ => by
    rw [ei] at g6
    exact g6.resolve_left (by simp [isNm])
  refine ⟨tDc (wiR X.K cf w src) (tgR X.K tg) tYes (tE X.K cf ek) (tE X.K cf ev) tg.slots, fun σ H Q hh => dc_of g5 hnm hh, ⟨fun i y py spos hi hy hsw => ?_⟩⟩
  · have k := ps_setDc (X := X) (kx := eek) (vx := eev) (tg := etg) (iter := eiter) (ifs := []) (scope := scope) (own := (tgN etg).zip tg.slots) (pos := q) (spos := spos) (py := py) (g := tgR X.K tg) (tt := tYes) (tk := tE X.K cf ek) (tv := tE X.K cf ev) c.calm (by rw [c.n]; exact c.nd) hi hy hsw PW (by rw [c.n, c.scE]; exact blkOk_by g3)
      (fun s H A cl fp => tg_sound (c.blk s H A cl fp) (c.tok s H A cl fp) g1) (fun s H A cl fp => pts_nil) (fun s H A cl fp => (chk_ok ek false (relS scope sc) _ _ (c.blk s H A cl fp) h4).val rfl) (fun s H A cl fp => (chk_ok ev false (relS scope sc) _ _ (c.blk s H A cl fp) h5).val rfl) (fun x => folded_of g4 x)
    rw [g2] at k
    exact k
/-- whatever is bound to a name: swapped with a comprehension or not -/
theorem swap_two {e : Expr} {y : Str} {py : Pos} {l : Nat} {env : PySem.Env} : swapsWith e (some (.Name y py)) l env = pure false ∨ (swapsWith e (some (.Name y py)) l env = pure true ∧ env.scope.names.lookup y = some .local) := by
  unfold swapsWith
  cases e <;> first | exact .inl rfl | skip
  all_goals
    dsimp only
    rename_i scope q
    by_cases hb : (env.blockKind == ScopeKind.function && env.kindOf y == some NameKind.local && py.line == q.line && !(scope.names.any fun (n, k) => n == y && (k == .local || k == .cell))) = true
    · right
      refine ⟨?_, ?_⟩
      · show (pure _ : Sem Bool) = pure true
        congr 1
      · simp only [Bool.and_eq_true] at hb
        have := hb.1.1.2
        exact eq_of_beq this
    · left
      show (pure _ : Sem Bool) = pure false
      congr 1
      exact Bool.not_eq_true _ |>.mp hb
theorem comp_forms {C : Cfg} {e : E} {sc : Scope} {ee : Expr} (h : chk C e false sc ee = true) (hc : notComp ee = false) :
    (∃ elt tg w src cond, (e = .lc elt tg w src cond ∨ e = .own (.lc elt tg w src cond)) ∧ chk C (.lc elt tg w src cond) false sc ee = true) ∨
    ∃ k v tg w src, (e = .dcm k v tg w src ∨ e = .own (.dcm k v tg w src)) ∧ chk C (.dcm k v tg w src) false sc ee = true := by
  have base : ∀ e : E, chk C e false sc ee = true → (∃ elt tg w src cond, e = .lc elt tg w src cond) ∨ (∃ k v tg w src, e = .dcm k v tg w src) ∨ ∃ a, e = .own a := by
    intro e h
    cases ee <;> first | cases hc | skip
    all_goals cases e <;> first | exact .inl ⟨_, _, _, _, _, rfl⟩ | exact .inr (.inl ⟨_, _, _, _, _, rfl⟩) | exact .inr (.inr ⟨_, rfl⟩) | (exfalso; revert h; unfold chk; simp; done) | (rename_i v; cases v <;> (exfalso; revert h; unfold chk; simp; done))
  rcases base e h with ⟨elt, tg, w, src, cond, rfl⟩ | ⟨k, v, tg, w, src, rfl⟩ | ⟨a, rfl⟩
  · exact .inl ⟨elt, tg, w, src, cond, .inl rfl, h⟩
  · exact .inr ⟨k, v, tg, w, src, .inl rfl, h⟩
  · simp only [chk, Bool.and_eq_true] at h
    rcases base a h.2 with ⟨elt, tg, w, src, cond, rfl⟩ | ⟨k, v, tg, w, src, rfl⟩ | ⟨b, rfl⟩
    · exact .inl ⟨elt, tg, w, src, cond, .inr rfl, h.2⟩
    · exact .inr ⟨k, v, tg, w, src, .inr rfl, h.2⟩
    · have := h.1.2
      simp [isNew] at this
theorem asg_name {C : Cfg} {cf : CallF} {sc : Scope} {X : Cx} (c : Cok C cf sc X) (t : Tok sc sc X) {i : Nat} {x : Str} {q pos : Pos} {e : E} {ee : Expr} (hi : C.N[i]? = some x) (hl : locC sc x = true) (h : chk C e false sc ee = true) :
    PS X (.Assign [.Name x q] ee pos) (tS X.K cf (.asg (.nm i) e)) := by
  have hg : PG X (.Name x q) (tgR X.K (.nm i)) := tg_sound c t (by simp only [tgC, hi, hl]; simp)
  have hw : swappedStores [.Name x q] ee X.env = pure none := by
    unfold swappedStores
    cases ee <;> rfl
  have plain : swapsWith ee (some (.Name x q)) pos.line X.env = pure false → PS X (.Assign [.Name x q] ee pos) (tS X.K cf (.asg (.nm i) e)) := fun hs =>
    ns_asg ((chk_ok e false sc X _ c h).val rfl) hg (by unfold swapsWithSole; exact hs) hw rfl
  by_cases hc : notComp ee = true
  · exact plain (swaps_of hc)
  · have hc' : notComp ee = false := by simpa using hc
    rcases swap_two (e := ee) (y := x) (py := q) (l := pos.line) (env := X.env) with hs | ⟨hs, hloc⟩
    · exact plain hs
    · rcases comp_forms h hc' with ⟨elt, tg, w, src, cond, he, hk⟩ | ⟨k, v, tg, w, src, he, hk⟩
      · obtain ⟨g, g1, g2⟩ := lc_parts c hk
        refine psW (g2.asg i x q pos (by rw [c.n]; exact hi) hloc hs) fun D σ H hh => sasg_of (fun σ H Q hq => g1 σ H Q ?_) D σ H hh
        rcases he with rfl | rfl
        · exact tE_F σ H Q hq
        · exact tOwn_F σ H Q hq
      · obtain ⟨g, g1, g2⟩ := dc_parts c hk
        refine psW (g2.asg i x q pos (by rw [c.n]; exact hi) hloc hs) fun D σ H hh => sasg_of (fun σ H Q hq => g1 σ H Q ?_) D σ H hh
        rcases he with rfl | rfl
        · exact tE_F σ H Q hq
        · exact tOwn_F σ H Q hq
theorem walkC_ok {C : Cfg} {cf : CallF} {sc : Scope} {X : Cx} (c : Cok C cf sc X) {w : Wk} {src : List E} {etg eiter : Expr} (h : walkC C sc w src etg eiter = true) : PI X etg eiter (wiR X.K cf w src) :=
  walk_ok c h (srcs_ok src sc X c)
mutual
theorem chkS_ok {C : Cfg} {cf : CallF} {sc : Scope} {X : Cx} (c : Cok C cf sc X) (t : Tok sc sc X) (hp : PassesOwn (model X.prog X.w) X.A X.env X.xe) (hkind : sc.kind = .function) : ∀ (p : S) (s : Stmt), chkS C p sc s = true → PS X s (tS X.K cf p)
  | .asg tg e, s, h => by
    simp only [chkS] at h
    split at h <;> first | cases h | skip
    rename_i etg ee pos
    simp only [Bool.and_eq_true] at h
    obtain ⟨⟨h1, h2⟩, h3⟩ := h
    cases tg with
    | nm i =>
      cases etg with
      | Name x q =>
        simp only [tgC, Bool.and_eq_true, decide_eq_true_eq] at h1
        exact asg_name c t h1.1 h1.2 h2
      | _ => simp [tgC] at h1
    | tp is =>
      cases etg with
      | Tuple ts k q =>
        refine ns_asg ((chk_ok e false sc X _ c h2).val rfl) (tg_sound c t h1) (by unfold swapsWithSole swapsWith; cases ee <;> rfl) ?_ rfl
        cases ee with
        | Tuple vs k2 q2 =>
          simp only [pairC, decide_eq_true_eq] at h3
          exact swO_ok (by rw [c.scE]; exact hkind) (by rw [c.scE]; exact h3)
        | _ => rfl
      | _ => simp [tgC] at h1
  | .par i j a b, s, h => by
    simp only [chkS] at h
    split at h <;> first | cases h | skip
    simp only [Bool.and_eq_true, decide_eq_true_eq] at h
    obtain ⟨⟨⟨⟨⟨⟨⟨⟨⟨h1, h2⟩, h3⟩, h4⟩, h5⟩, h6⟩, h7⟩, h8⟩, h9⟩, h10⟩ := h
    exact ns_par c.calm (by rw [c.n]; exact c.nd) (by rw [c.n]; exact h1) (by rw [c.n]; exact h2) h3 (by rw [c.scE]; exact h4) (by rw [c.scE]; exact h5) ((chk_ok a false sc X _ c h6).val rfl) ((chk_ok b false sc X _ c h7).val rfl) h8 h9
      (swO_ok (by rw [c.scE]; exact hkind) (by rw [c.scE]; exact h10))
  | .set o i e, s, h => by
    simp only [chkS] at h
    split at h <;> first | cases h | skip
    simp only [Bool.and_eq_true] at h
    obtain ⟨⟨⟨h1, h2⟩, h3⟩, h4⟩ := h
    have hu := c.un
    exact ns_set (by omega) ((chk_ok o false sc X _ c h1).val rfl) ((chk_ok i false sc X _ c h2).val rfl) ((chk_ok e false sc X _ c h3).val rfl) h4
  | .aug i o e, s, h => by
    simp only [chkS] at h
    split at h <;> first | cases h | skip
    simp only [Bool.and_eq_true, decide_eq_true_eq] at h
    obtain ⟨⟨⟨⟨h1, h2⟩, rfl⟩, h4⟩, h5⟩ := h
    obtain ⟨f, hf⟩ := Option.isSome_iff_exists.mp h4
    have k := t _ (locC_of h2)
    exact ns_aug (by rw [c.n]; exact c.nd) (by rw [c.n]; exact h1) (by rw [c.scE]; exact k.1) (by rw [c.scE]; exact k.2) ((chk_ok e false sc X _ c h5).val rfl) hf
  | .app l e, s, h => by
    simp only [chkS] at h
    split at h <;> first | cases h | skip
    simp only [Bool.and_eq_true, decide_eq_true_eq] at h
    obtain ⟨⟨⟨⟨⟨rfl, h2⟩, h3⟩, h4⟩, h5⟩, h6⟩ := h
    exact ns_app ((chk_ok l false sc X _ c h5).val rfl) ((chk_ok e false sc X _ c h6).val rfl) h3 h4 h2
  | .ext l e, s, h => by
    simp only [chkS] at h
    split at h <;> first | cases h | skip
    simp only [Bool.and_eq_true, decide_eq_true_eq] at h
    obtain ⟨⟨⟨⟨⟨rfl, h2⟩, h3⟩, h4⟩, h5⟩, h6⟩ := h
    exact ns_ext ((chk_ok l false sc X _ c h5).val rfl) ((chk_ok e false sc X _ c h6).val rfl) h3 h4 h2
  | .rem l e, s, h => by
    simp only [chkS] at h
    split at h <;> first | cases h | skip
    simp only [Bool.and_eq_true, decide_eq_true_eq] at h
    obtain ⟨⟨⟨⟨⟨rfl, h2⟩, h3⟩, h4⟩, h5⟩, h6⟩ := h
    exact ns_rem ((chk_ok l false sc X _ c h5).val rfl) ((chk_ok e false sc X _ c h6).val rfl) h3 h4 h2
  | .upd _ _, s, h => by simp only [chkS] at h; cases h
  | .ex e, s, h => by
    simp only [chkS] at h
    split at h <;> first | cases h | skip
    simp only [Bool.and_eq_true] at h
    exact ns_ex ((chk_ok e false sc X _ c h.2).val rfl) h.1
  | .ret e, s, h => by
    simp only [chkS] at h
    split at h <;> first | cases h | skip
    · exact ns_ret ((chk_ok e false sc X _ c h).val rfl)
    · split at h <;> first | cases h | skip
      exact ns_retN
  | .ifs d a b, s, h => by
    simp only [chkS] at h
    split at h <;> first | cases h | skip
    simp only [Bool.and_eq_true] at h
    exact ns_if ((chk_ok d true sc X _ c h.1.1).tst rfl) (chkSs_ok c t hp hkind a _ h.1.2) (chkSs_ok c t hp hkind b _ h.2)
  | .for tg w src body, s, h => by
    simp only [chkS] at h
    split at h <;> first | cases h | skip
    simp only [Bool.and_eq_true, Bool.or_eq_true, Bool.not_eq_true'] at h
    obtain ⟨⟨⟨⟨⟨h1, h2⟩, h3⟩, h4⟩, h5⟩, h6⟩ := h
    exact ns_for hp c.calm (walkC_ok c h2) (tg_sound c t h1) (chkSs_ok c t hp hkind body _ h6) h3 h4 fun q => h5.resolve_left (by rw [q]; simp)
  | .whl d body, s, h => by
    simp only [chkS] at h
    split at h <;> first | cases h | skip
    simp only [Bool.and_eq_true] at h
    exact ns_whl hp ((chk_ok d true sc X _ c h.1).tst rfl) (chkSs_ok c t hp hkind body _ h.2)
  | .brk, s, h => by
    simp only [chkS] at h
    split at h <;> first | cases h | skip
    exact ns_brk
  | .cnt, s, h => by
    simp only [chkS] at h
    split at h <;> first | cases h | skip
    exact ns_cnt
  | .pss, s, h => by
    simp only [chkS] at h
    split at h <;> first | cases h | skip
    exact ns_pss
theorem chkSs_ok {C : Cfg} {cf : CallF} {sc : Scope} {X : Cx} (c : Cok C cf sc X) (t : Tok sc sc X) (hp : PassesOwn (model X.prog X.w) X.A X.env X.xe) (hkind : sc.kind = .function) : ∀ (ps : List S) (ss : List Stmt), chkSs C ps sc ss = true → PSs X ss (tSs X.K cf ps)
  | [], ss, h => by
    simp only [chkSs] at h
    split at h <;> first | cases h | skip
    exact ns_nil
  | p :: ps, ss, h => by
    simp only [chkSs] at h
    split at h <;> first | cases h | skip
    simp only [Bool.and_eq_true] at h
    exact ns_cons (chkS_ok c t hp hkind p _ h.1) (chkSs_ok c t hp hkind ps _ h.2)
end
end PV
end

section
set_option Elab.async false
set_option linter.all false
set_option maxRecDepth 100000
set_option maxHeartbeats 4000000
/-! PvTop: a program of checked defs keeps its promises to any depth; the head's facts. -/
namespace PV
open PySem L2
/-! ### constants of the module -/
mutual
def conV (K : PySem.W.Frag) : Val → Value → Bool
  | .int i, .int j _ => decide (i = j)
  | .str i, .str j _ => decide (i = j)
  | .bl i, .bool j => decide (i = j)
  | .non, .none => true
  | .tup xs, .ref a => (match K.lookup a with
    | some ⟨.type c, none, .seq its _, _⟩ => decide (c = "tuple") && decide (its.size ≤ sizeLine) && conVs K xs its.toList
    | _ => false)
  | _, _ => false
def conVs (K : PySem.W.Frag) : List Val → List Value → Bool
  | [], [] => true
  | x :: xs, u :: us => conV K x u && conVs K xs us
  | _, _ => false
end
mutual
theorem conV_ok {K : PySem.W.Frag} : ∀ (x : Val) (u : Value), conV K x u = true → ∃ w, RelV w u ∧ ∀ φ Z H, Is K φ Z H w x
  | .int i, u, h => by
    cases u <;> simp [conV] at h
    subst h
    exact ⟨.int i, ⟨_, rfl⟩, fun _ _ _ => .int i⟩
  | .str i, u, h => by
    cases u <;> simp [conV] at h
    subst h
    exact ⟨.str i, ⟨_, rfl⟩, fun _ _ _ => .str i⟩
  | .bl i, u, h => by
    cases u <;> simp [conV] at h
    subst h
    exact ⟨.bl i, rfl, fun _ _ _ => .bl i⟩
  | .non, u, h => by
    cases u <;> simp [conV] at h
    exact ⟨.non, rfl, fun _ _ _ => .non⟩
  | .tup xs, u, h => by
    cases u with
    | ref a =>
      simp only [conV] at h
      split at h
      · rename_i c its n sl e
        simp only [Bool.and_eq_true, decide_eq_true_eq] at h
        obtain ⟨⟨rfl, h2⟩, h3⟩ := h
        obtain ⟨ws, r, q⟩ := conVs_ok xs its.toList h3
        exact ⟨.ref a, rfl, fun φ Z H => .tup (.inr ⟨_, its, n, e, rfl, rfl, rfl, h2, r⟩) (q φ Z H)⟩
      · cases h
    | _ => simp [conV] at h
  | .ls _, u, h => by cases u <;> simp [conV] at h
  | .sc _, u, h => by cases u <;> simp [conV] at h
  | .dc _, u, h => by cases u <;> simp [conV] at h
  | .ref _, u, h => by cases u <;> simp [conV] at h
theorem conVs_ok {K : PySem.W.Frag} : ∀ (xs : List Val) (us : List Value), conVs K xs us = true → ∃ ws, Vals ws us ∧ ∀ φ Z H, IsL K φ Z H ws xs
  | [], [], _ => ⟨[], .nil, fun _ _ _ => .nil⟩
  | x :: xs, u :: us, h => by
    simp only [conVs, Bool.and_eq_true] at h
    obtain ⟨w, r, q⟩ := conV_ok x u h.1
    obtain ⟨ws, rs, qs⟩ := conVs_ok xs us h.2
    exact ⟨w :: ws, .cons r rs, fun φ Z H => .cons (q φ Z H) (qs φ Z H)⟩
  | [], _ :: _, h => by simp [conVs] at h
  | _ :: _, [], h => by simp [conVs] at h
end
def conG (K : PySem.W.Frag) (g : Str × Val) : Bool := match PySem.W.nsIn K mainGlobals g.1 with
  | some (some u) => conV K g.2 u
  | _ => false
/-! ### the head's facts, constants among them -/
def obsP (fa : List He.Fa) (fn : List He.DefD) (G : List (Str × Val)) (K : PySem.W.Frag) : He.AlD := ((fa.all fun f => f.ok K) && (fn.all fun d => d.ok K) && G.all (conG K), fn.map fun d => He.fnW K d.at_)
def SaysP (fa : List He.Fa) (fn : List He.DefD) (G : List (Str × Val)) (K : PySem.W.Frag) : Prop := obsP fa fn G K = He.valD fn
def obsPG (n : Nat) (fa : List He.Fa) (fn : List He.DefD) (G : List (Str × Val)) (g : Addr → Option PySem.Obj) : He.AlD := obsP fa fn G (He.frG g (He.asD g n))
def hookP (n : Nat) (fa : List He.Fa) (fn : List He.DefD) (G : List (Str × Val)) : PySem.W.Hook where
  α := He.AlD
  obs := fun s => obsPG n fa fn G s.heap.get?
  val := fun _ => He.valD fn
  says := fun _ h => ∃ K : PySem.W.Frag, K.In h ∧ SaysP fa fn G K
  of := fun _ _ e => ⟨_, He.frG_in, e⟩
  keeps := fun _ _ _ ⟨K, hK, c⟩ k => ⟨K, PySem.W.Frag.In.keeps hK k, c⟩
theorem obsPG_eq {n : Nat} {fa : List He.Fa} {fn : List He.DefD} {G : List (Str × Val)} {g : Addr → Option PySem.Obj} {s : Shared} (h : ∀ a, g a = s.heap.get? a) : obsPG n fa fn G g = (hookP n fa fn G).obs s := by
  have e : g = s.heap.get? := funext h
  rw [e] <;> rfl
section
variable {fa : List He.Fa} {fn : List He.DefD} {G : List (Str × Val)} {K : PySem.W.Frag}
theorem SaysP.all (c : SaysP fa fn G K) : ((fa.all fun f => f.ok K) = true ∧ (fn.all fun d => d.ok K) = true) ∧ G.all (conG K) = true := by
  have c1 : ((fa.all fun f => f.ok K) && (fn.all fun d => d.ok K) && G.all (conG K)) = true := congrArg (fun z : He.AlD => z.1) c
  simpa only [Bool.and_eq_true] using c1
theorem SaysP.fact (c : SaysP fa fn G K) {f : He.Fa} (h : f ∈ fa) : f.ok K = true := List.all_eq_true.mp c.all.1.1 f h
theorem SaysP.con (c : SaysP fa fn G K) {f : Str × Val} (h : f ∈ G) : conG K f = true := List.all_eq_true.mp c.all.2 f h
theorem SaysP.def_ (c : SaysP fa fn G K) (i : Nat) {d : He.DefD} (h : fn[i]? = some d) : ∃ fd, FunD K d.name d.qual d.params d.body d.scope (d.dvs K) (d.kws K) (He.fAd K d.at_) fd := by
  have e : fn.map (fun d => He.fnW K d.at_) = fn.map He.DefD.val := congrArg (fun z : He.AlD => z.2) c
  have e2 : (fn.map fun d => He.fnW K d.at_)[i]? = (fn.map He.DefD.val)[i]? := by rw [e]
  rw [List.getElem?_map, List.getElem?_map, h] at e2
  exact He.DefD.funD (Option.some.inj e2) (List.all_eq_true.mp c.all.1.2 d (List.mem_of_getElem? h))
theorem con_glo {mg : Str → Option Value} {h : Heap} (X : K.In h) (N : h.Ns mainGlobals mg) {x : Str} {v : Val} (c : conG K (x, v) = true) : ∃ u w, mg x = some u ∧ RelV w u ∧ ∀ φ Z H, Is K φ Z H w v := by
  unfold conG at c
  dsimp only at c
  split at c
  · rename_i u e
    obtain ⟨w, r, q⟩ := conV_ok v u c
    exact ⟨u, w, PySem.W.mg_of X N e, r, q⟩
  · cases c
end
/-! ### checked defs -/
structure Dfn where
  name : Str
  N : List Str
  ps : List Str
  fn : Fn
def scopeC (N ps : List Str) (sc : Scope) : Bool :=
  (match sc.kind with
  | .function => true
  | _ => false) && !sc.isCoroutine && !sc.isGenerator && decide N.Nodup && decide (N.take ps.length = ps) && (ps.all fun x => locC sc x) && sc.names.all fun y => (match y.2 with
  | .free => false
  | _ => true)
theorem scopeC_ok {N ps : List Str} {sc : Scope} (h : scopeC N ps sc = true) : FnScope N ps sc := by
  simp only [scopeC, Bool.and_eq_true, decide_eq_true_eq, Bool.not_eq_true'] at h
  obtain ⟨⟨⟨⟨⟨⟨h1, h2⟩, h3⟩, h4⟩, h5⟩, h6⟩, h7⟩ := h
  refine ⟨?_, h2, h3, h4, h5, fun x hx => locC_of (List.all_eq_true.mp h6 x hx), fun y hy e => ?_⟩
  · split at h1
    · assumption
    · cases h1
  · have := List.all_eq_true.mp h7 y hy
    rw [e] at this
    cases this
def dfnC (fns : List Str) (G : List (Str × Val)) (d : Dfn) (body : List Stmt) (sc : Scope) : Bool :=
  chkSs ⟨d.N, fns, G⟩ d.fn.body sc body && scopeC d.N d.ps sc && decide (d.fn.params = d.ps.length) && decide (d.fn.slots = d.N.length)
structure Dk (K : PySem.W.Frag) (mg : Str → Option Value) (fns : List Str) (G : List (Str × Val)) (prog : Prog) (d : Dfn) : Prop where
  ex : ∃ (f : Addr) (fd : FuncData) (args : Arguments) (body : List Stmt) (sc : Scope), FunD K d.name d.name args body sc [] [] f fd ∧ mg d.name = some (.ref f) ∧ Binds K fd d.ps [] ∧ dfnC fns G d body sc = true ∧ prog.lookup d.name = some d.fn
theorem start_rel {K : PySem.W.Frag} {φ Z : List Addr} {H : Hp} {vs : List V} {xs : List Val} {N : List Str} {n : Nat} (r : IsL K φ Z H vs xs) (hl : N.length - vs.length = n) : RelE K φ Z H (L2.start N vs) (xs.map some ++ List.replicate n none) := by
  unfold L2.start
  rw [hl]
  refine ⟨by simp [r.length], fun i x e => ?_⟩
  by_cases hi : i < xs.length
  · rw [List.getElem?_append_left (by simpa using hi), List.getElem?_map] at e
    obtain ⟨y, hy, e2⟩ := Option.map_eq_some_iff.mp e
    cases e2
    obtain ⟨v, hv, iv⟩ := r.get hy
    exact ⟨v, by rw [List.getElem?_append_left (by rw [List.length_map, r.length]; exact hi), List.getElem?_map, hv]; rfl, iv⟩
  · rw [List.getElem?_append_right (by simpa using hi)] at e
    rw [List.getElem?_replicate] at e
    split at e <;> cases e
theorem level_one {P : Program} {w : World} {K : PySem.W.Frag} {mg : Str → Option Value} {base : Heap} {fns : List Str} {G : List (Str × Val)} {prog : Prog} {n : Nat}
    (below : ∀ f ∈ fns, ∃ (a : Addr) (fd : FuncData) (ps : List Str), FnOk P w K mg base CX0 n a fd ps (spF K (callN prog n) f) ∧ mg f = some (.ref a) ∧ PySem.W.keepIn K (.ref a) = true ∧ Binds K fd ps [])
    (hblt : ∀ x ∈ bltNames, mg x = none) (hglo : ∀ x v, G.lookup x = some v → ∃ u w, mg x = some u ∧ RelV w u ∧ ∀ φ Z H, Is K φ Z H w v) (d : Dfn) {a : Addr} {fd : FuncData} {args : Arguments} {body : List Stmt} {sc : Scope}
    (F : FunD K d.name d.name args body sc [] [] a fd) (hc : dfnC fns G d body sc = true) (hl : prog.lookup d.name = some d.fn) : FnOk P w K mg base CX0 (n + 1) a fd d.ps (spF K (callN prog (n + 1)) d.name) := by
  simp only [dfnC, Bool.and_eq_true, decide_eq_true_eq] at hc
  obtain ⟨⟨⟨c1, c2⟩, c3⟩, c4⟩ := hc
  have S := scopeC_ok c2
  have run : ∀ (xs : List Val) (st : Store), callN prog (n + 1) d.name xs st = runF (callN prog n) d.fn xs st := fun xs st => by
    simp only [callN, hl]
  have len : ∀ (vs : List V) (H : Hp) (Q : VK) (E : XK), spF K (callN prog (n + 1)) d.name vs H Q E → vs.length = d.ps.length := fun vs H Q E h => by
    obtain ⟨φ, Z, st, xs, r, _, q⟩ := h
    rw [run] at q
    unfold runF at q
    split at q
    · rename_i hc
      rw [r.length, hc.1, c3]
    · exact q.elim
  refine F.ok S len fun cdv A outer s H vs Q E hr h => ?_
  have hvl := len vs H Q E h
  obtain ⟨φ, Z, st, xs, r, s1, q⟩ := h
  rw [run] at q
  unfold runF at q
  split at q
  · rename_i hcond
    let X := (cxOf CX0 P w K mg base d.N d.name sc a cdv A outer s H E).nox
    have hun : X.A.units + 65 < cLine := by
      have := hr.un
      show (A.deeper (PyProof.Rows.envOfC d.name sc s.heap.objs.size a cdv)).units + 65 < cLine
      omega
    have ck : Cok ⟨d.N, fns, G⟩ (callN prog n) sc X := ⟨S.nd, rfl, rfl, rfl, hun, hglo, hblt, fun g hg => by
      obtain ⟨a', fd', ps', F', hm', hk', hb'⟩ := below g hg
      exact ⟨a', fd', ps', n, F', hr, hm', hk', hb'⟩⟩
    have tk : Tok sc sc X := fun x hx => ⟨hx, .inl rfl⟩
    refine ⟨tSs K (callN prog n) d.fn.body, PSs.nox (chkSs_ok ck tk PassesOwn.never S.kind d.fn.body body c1), φ, Z, _, st, start_rel r (n := d.fn.slots - d.fn.params) (by rw [hvl, c3, c4]), s1, q.bind.imp fun rr st2 φ2 H2 e2 s2 ⟨_, _, q2⟩ => ?_⟩
    obtain ⟨fl, env2⟩ := rr
    cases fl with
    | nx => exact fun σ' E' => q2.now s2 _ .non
    | br => exact q2.elim
    | ct => exact q2.elim
    | rt v => exact fun u iu => q2.now s2 u iu
  · exact q.elim
theorem level {P : Program} {w : World} {K : PySem.W.Frag} {mg : Str → Option Value} {base : Heap} {fns : List Str} {G : List (Str × Val)} {prog : Prog} (all : ∀ f ∈ fns, ∃ d : Dfn, d.name = f ∧ Dk K mg fns G prog d)
    (hblt : ∀ x ∈ bltNames, mg x = none) (hglo : ∀ x v, G.lookup x = some v → ∃ u w, mg x = some u ∧ RelV w u ∧ ∀ φ Z H, Is K φ Z H w v) :
    ∀ (n : Nat) (f : Str), f ∈ fns → ∃ (a : Addr) (fd : FuncData) (ps : List Str), FnOk P w K mg base CX0 n a fd ps (spF K (callN prog n) f) ∧ mg f = some (.ref a) ∧ PySem.W.keepIn K (.ref a) = true ∧ Binds K fd ps []
  | 0, f, hf => by
    obtain ⟨d, rfl, ⟨a, fd, args, body, sc, F, hm, hb, hc, hl⟩⟩ := all f hf
    refine ⟨a, fd, d.ps, ⟨fun vs H Q E h => ?_, fun A outer s H args us vs Q E _ _ _ _ h => ?_⟩, hm, F.kp, hb⟩
    · obtain ⟨φ, Z, st, xs, _, _, q⟩ := h
      exact q.elim
    · obtain ⟨φ, Z, st, xs, _, _, q⟩ := h
      exact q.elim
  | n + 1, f, hf => by
    obtain ⟨d, rfl, ⟨a, fd, args, body, sc, F, hm, hb, hc, hl⟩⟩ := all f hf
    exact ⟨a, fd, d.ps, level_one (level all hblt hglo n) hblt hglo d F hc hl, hm, F.kp, hb⟩
def freeC (fa : List He.Fa) : Bool := bltNames.all fun x => fa.any fun f => match f with
  | .free y => decide (x = y)
  | _ => false
theorem freeC_ok {fa : List He.Fa} (h : freeC fa = true) : ∀ x ∈ bltNames, He.Fa.free x ∈ fa := fun x hx => by
  have h1 := List.all_eq_true.mp h x hx
  obtain ⟨f, hf, e⟩ := List.any_eq_true.mp h1
  split at e
  · rw [decide_eq_true_eq] at e
    subst e
    exact hf
  · cases e
/-- the law's promise -/
theorem law_sp {K : PySem.W.Frag} {prog : Prog} {n : Nat} (h : ∀ ns : List Int, ns.length ≤ 63 → ∃ st, callN prog n "law" [.sc (ns.map Val.int)] [] = .ok (.bl true) st) (H : Hp) (a : Addr) (ns : List Int) (hl : ns.length ≤ 63) (hS : SqL K H a (ns.map V.int)) :
    spF K (callN prog n) "law" [.ref a] H (fun v _ => v = .bl true) fun _ _ _ => False := by
  obtain ⟨st, e⟩ := h ns hl
  have isInts : ∀ (φ Z : List Addr) (ns : List Int), IsL K φ Z H (ns.map V.int) (ns.map Val.int) := by
    intro φ Z ns
    induction ns with
    | nil => exact .nil
    | cons i r ih => exact .cons (.int i) ih
  refine ⟨[], [], [], [.sc (ns.map Val.int)], .cons (.sc ?_ (isInts [] [] ns)) .nil, ⟨rfl, by simp, by simp, by simp, fun n a o h => by simp at h⟩, ?_⟩
  · rcases hS with hS | hS
    · exact .inl ⟨hS, by simp, by simp⟩
    · exact .inr hS
  · rw [e]
    exact fun φ' H' _ _ v iv => by cases iv; rfl
end PV
end

section
set_option Elab.async false
set_option linter.all false
set_option maxRecDepth 100000
set_option maxHeartbeats 0
namespace PV
open PySem L2
/-! the defs of the law's text -/
abbrev g_MAX_NAME : Val := .int 12
abbrev g_PAIRS : Val := .tup [(.str "add"), (.str "times"), (.str "least"), (.str "most"), (.str "alike"), (.str "less")]
abbrev g_MAX_SIZE : Val := .int 5
abbrev g_MAX_INPUTS : Val := .int 4
abbrev g_MAX_CELLS : Val := .int 20
def d_is_integer : Dfn := ⟨"is_integer", ["value"], ["value"], ⟨1, 1,
  [
    .ret (.and (.isi (.var 0) .int) (.not (.isi (.var 0) .bool)))]⟩⟩
def d_is_between : Dfn := ⟨"is_between", ["value", "low", "high"], ["value", "low", "high"], ⟨3, 3,
  [
    .ret (.and (.call "is_integer" [(.var 0)]) (.and (.cmp .ge (.var 0) (.var 1)) (.or (.isN (.var 2)) (.cmp .le (.var 0) (.var 2)))))]⟩⟩
def d_is_row : Dfn := ⟨"is_row", ["value", "size"], ["value", "size"], ⟨2, 2,
  [
    .ret (.and (.isi (.var 0) .tuple) (.cmp .eq (.b1 .len (.var 0)) (.var 1)))]⟩⟩
def e_is_ascending_1 : E := (.cmp .lt (.ix (.var 0) (.var 1)) (.ix (.var 0) (.bin .add (.var 1) (.cst (.int 1)))))
def d_is_ascending : Dfn := ⟨"is_ascending", ["row", "at"], ["row"], ⟨1, 2,
  [
    .ret (.b1 .all (.lc e_is_ascending_1 (.nm 1) .range [(.bin .sub (.b1 .len (.var 0)) (.cst (.int 1)))] []))]⟩⟩
def e_is_name_1 : E := (.chn .le .le (.cst (.str "a")) (.var 1) (.cst (.str "z")))
def d_is_name : Dfn := ⟨"is_name", ["value", "sign"], ["value"], ⟨1, 2,
  [
    .ret (.and (.isi (.var 0) .str) (.and (.chn .le .le (.cst (.int 1)) (.b1 .len (.var 0)) (.glo "MAX_NAME" g_MAX_NAME)) (.b1 .all (.lc e_is_name_1 (.nm 1) .of [(.var 0)] []))))]⟩⟩
def e_are_names_1 : E := (.call "is_name" [(.var 1)])
def d_are_names : Dfn := ⟨"are_names", ["value", "name"], ["value"], ⟨1, 2,
  [
    .ret (.and (.isi (.var 0) .tuple) (.and (.b1 .all (.lc e_are_names_1 (.nm 1) .of [(.var 0)] [])) (.call "is_ascending" [(.var 0)])))]⟩⟩
def d_is_worth : Dfn := ⟨"is_worth", ["value", "size"], ["value", "size"], ⟨2, 2,
  [
    .ret (.call "is_between" [(.var 0), (.cst (.int 0)), (.bin .sub (.var 1) (.cst (.int 1)))])]⟩⟩
def d_is_worth_or_none : Dfn := ⟨"is_worth_or_none", ["value", "size"], ["value", "size"], ⟨2, 2,
  [
    .ret (.or (.isN (.var 0)) (.call "is_worth" [(.var 0), (.var 1)]))]⟩⟩
def d_is_form : Dfn := ⟨"is_form", ["value", "size", "word"], ["value", "size"], ⟨2, 3,
  [
    .ifs (.or (.not (.isi (.var 0) .tuple)) (.or (.cmp .eq (.b1 .len (.var 0)) (.cst (.int 0))) (.not (.isi (.ix (.var 0) (.cst (.int 0))) .str))))
      [
        .ret (.cst (.bl false))]
      [],
    .asg (.nm 2) (.ix (.var 0) (.cst (.int 0))),
    .ifs (.cmp .eq (.var 2) (.cst (.str "worth")))
      [
        .ret (.and (.call "is_row" [(.var 0), (.cst (.int 2))]) (.call "is_worth" [(.ix (.var 0) (.cst (.int 1))), (.var 1)]))]
      [],
    .ifs (.cmp .isin (.var 2) (.tup [(.cst (.str "copy")), (.cst (.str "there"))]))
      [
        .ret (.and (.call "is_row" [(.var 0), (.cst (.int 2))]) (.call "is_name" [(.ix (.var 0) (.cst (.int 1)))]))]
      [],
    .ifs (.or (.cmp .isin (.var 2) (.glo "PAIRS" g_PAIRS)) (.cmp .isin (.var 2) (.tup [(.cst (.str "when")), (.cst (.str "else"))])))
      [
        .ret (.and (.call "is_row" [(.var 0), (.cst (.int 3))]) (.and (.call "is_name" [(.ix (.var 0) (.cst (.int 1)))]) (.call "is_name" [(.ix (.var 0) (.cst (.int 2)))])))]
      [],
    .ifs (.cmp .eq (.var 2) (.cst (.str "turn")))
      [
        .ret (.and (.call "is_row" [(.var 0), (.cst (.int 3))]) (.and (.call "is_name" [(.ix (.var 0) (.cst (.int 1)))]) (.call "is_table" [(.ix (.var 0) (.cst (.int 2))), (.var 1)])))]
      [],
    .ifs (.cmp .isin (.var 2) (.tup [(.cst (.str "held")), (.cst (.str "before"))]))
      [
        .ret (.and (.call "is_row" [(.var 0), (.cst (.int 3))]) (.and (.call "is_name" [(.ix (.var 0) (.cst (.int 1)))]) (.call "is_worth" [(.ix (.var 0) (.cst (.int 2))), (.var 1)])))]
      [],
    .ifs (.cmp .eq (.var 2) (.cst (.str "late")))
      [
        .ret (.and (.call "is_row" [(.var 0), (.cst (.int 3))]) (.and (.call "is_name" [(.ix (.var 0) (.cst (.int 1)))]) (.call "is_worth_or_none" [(.ix (.var 0) (.cst (.int 2))), (.var 1)])))]
      [],
    .ret (.and (.cmp .eq (.var 2) (.cst (.str "match"))) (.and (.call "is_row" [(.var 0), (.cst (.int 4))]) (.call "is_pairing" [(.var 0)])))]⟩⟩
def e_is_table_1 : E := (.call "is_worth" [(.var 2), (.var 1)])
def d_is_table : Dfn := ⟨"is_table", ["value", "size", "worth"], ["value", "size"], ⟨2, 3,
  [
    .ret (.and (.call "is_row" [(.var 0), (.var 1)]) (.b1 .all (.lc e_is_table_1 (.nm 2) .of [(.var 0)] [])))]⟩⟩
def d_is_pairing : Dfn := ⟨"is_pairing", ["form"], ["form"], ⟨1, 1,
  [
    .ret (.and (.isi (.ix (.var 0) (.cst (.int 1))) .str) (.and (.cmp .isin (.ix (.var 0) (.cst (.int 1))) (.glo "PAIRS" g_PAIRS)) (.and (.call "is_name" [(.ix (.var 0) (.cst (.int 2)))]) (.call "is_name" [(.ix (.var 0) (.cst (.int 3)))]))))]⟩⟩
def d_names_in : Dfn := ⟨"names_in", ["form"], ["form"], ⟨1, 1,
  [
    .ifs (.cmp .eq (.ix (.var 0) (.cst (.int 0))) (.cst (.str "worth")))
      [
        .ret (.tup [])]
      [],
    .ifs (.cmp .isin (.ix (.var 0) (.cst (.int 0))) (.tup [(.cst (.str "copy")), (.cst (.str "there")), (.cst (.str "turn")), (.cst (.str "held")), (.cst (.str "before")), (.cst (.str "late"))]))
      [
        .ret (.tup [(.ix (.var 0) (.cst (.int 1)))])]
      [],
    .ret (.ite (.cmp .eq (.ix (.var 0) (.cst (.int 0))) (.cst (.str "match"))) (.sl (.var 0) [(.cst (.int 2))] []) (.sl (.var 0) [(.cst (.int 1))] []))]⟩⟩
def e_net_fault_1 : E := (.cmp .isin (.var 5) (.var 3))
def e_net_fault_2 : E := (.call "is_form" [(.var 6), (.var 2)])
def e_net_fault_3 : E := (.var 5)
def e_net_fault_4 : E := (.cmp .isin (.var 7) (.var 1))
def e_net_fault_5 : E := (.b1 .all (.lc e_net_fault_4 (.nm 7) .of [(.call "names_in" [(.var 6)])] []))
def d_net_fault : Dfn := ⟨"net_fault", ["value", "known", "size", "inputs", "cells", "name", "form", "other"], ["value"], ⟨1, 8,
  [
    .ifs (.not (.call "is_row" [(.var 0), (.cst (.int 3))]))
      [
        .ret (.cst (.str "form"))]
      [],
    .asg (.tp [2, 3, 4]) (.var 0),
    .ifs (.not (.call "is_between" [(.var 2), (.cst (.int 2)), (.glo "MAX_SIZE" g_MAX_SIZE)]))
      [
        .ret (.cst (.str "size"))]
      [],
    .ifs (.or (.not (.call "are_names" [(.var 3)])) (.cmp .gt (.b1 .len (.var 3)) (.glo "MAX_INPUTS" g_MAX_INPUTS)))
      [
        .ret (.cst (.str "inputs"))]
      [],
    .ifs (.or (.not (.call "are_cells" [(.var 4)])) (.b1 .any (.lc e_net_fault_1 (.tp [5, 6]) .of [(.var 4)] [])))
      [
        .ret (.cst (.str "cells"))]
      [],
    .ifs (.not (.b1 .all (.lc e_net_fault_2 (.tp [5, 6]) .of [(.var 4)] [])))
      [
        .ret (.cst (.str "forms"))]
      [],
    .asg (.nm 1) (.bin .add (.b1 .list (.var 3)) (.lc e_net_fault_3 (.tp [5, 6]) .of [(.var 4)] [])),
    .ifs (.not (.b1 .all (.lc e_net_fault_5 (.tp [5, 6]) .of [(.var 4)] [])))
      [
        .ret (.cst (.str "names"))]
      [],
    .ret (.ite (.call "is_sound" [(.var 0)]) (.cst (.non)) (.cst (.str "rings")))]⟩⟩
def e_are_cells_1 : E := (.call "is_row" [(.var 2), (.cst (.int 2))])
def e_are_cells_2 : E := (.ix (.var 2) (.cst (.int 0)))
def e_are_cells_3 : E := (.call "is_name" [(.var 3)])
def d_are_cells : Dfn := ⟨"are_cells", ["value", "names", "cell", "name"], ["value"], ⟨1, 4,
  [
    .ifs (.or (.not (.isi (.var 0) .tuple)) (.or (.cmp .gt (.b1 .len (.var 0)) (.glo "MAX_CELLS" g_MAX_CELLS)) (.not (.b1 .all (.lc e_are_cells_1 (.nm 2) .of [(.var 0)] [])))))
      [
        .ret (.cst (.bl false))]
      [],
    .asg (.nm 1) (.lc e_are_cells_2 (.nm 2) .of [(.var 0)] []),
    .ret (.and (.b1 .all (.lc e_are_cells_3 (.nm 3) .of [(.var 1)] [])) (.call "is_ascending" [(.var 1)]))]⟩⟩
def e_cell_names_1 : E := (.var 1)
def d_cell_names : Dfn := ⟨"cell_names", ["net", "name", "form"], ["net"], ⟨1, 3,
  [
    .ret (.own (.lc e_cell_names_1 (.tp [1, 2]) .of [(.ix (.var 0) (.cst (.int 2)))] []))]⟩⟩
def e_form_table_1 : E := (.var 1)
def e_form_table_2 : E := (.var 2)
def d_form_table : Dfn := ⟨"form_table", ["net", "name", "form"], ["net"], ⟨1, 3,
  [
    .ret (.dcm e_form_table_1 e_form_table_2 (.tp [1, 2]) .of [(.ix (.var 0) (.cst (.int 2)))])]⟩⟩
def d_now_names : Dfn := ⟨"now_names", ["form"], ["form"], ⟨1, 1,
  [
    .ret (.ite (.cmp .eq (.ix (.var 0) (.cst (.int 0))) (.cst (.str "late"))) (.tup []) (.call "names_in" [(.var 0)]))]⟩⟩
def e_order_of_1 : E := (.var 6)
def e_order_of_2 : E := (.cst (.bl true))
def e_order_of_3 : E := (.var 6)
def e_order_of_4 : E := (.cmp .isin (.var 7) (.var 2))
def e_order_of_5 : E := (.b1 .all (.lc e_order_of_4 (.nm 7) .of [(.call "now_names" [(.ix (.var 1) (.var 6))])] []))
def b_order_of_6 : List S :=
  [
    .asg (.nm 5) (.lc e_order_of_3 (.nm 6) .of [(.var 4)] [e_order_of_5]),
    .ifs (.not (.var 5))
      [
        .ret (.var 3)]
      [],
    .app (.var 3) (.ix (.var 5) (.cst (.int 0))),
    .set (.var 2) (.ix (.var 5) (.cst (.int 0))) (.cst (.bl true)),
    .rem (.var 4) (.ix (.var 5) (.cst (.int 0)))]
def d_order_of : Dfn := ⟨"order_of", ["net", "table", "done", "row", "left", "ready", "name", "other"], ["net"], ⟨1, 8,
  [
    .asg (.nm 1) (.call "form_table" [(.var 0)]),
    .asg (.nm 2) (.own (.dcm e_order_of_1 e_order_of_2 (.nm 6) .of [(.ix (.var 0) (.cst (.int 1)))])),
    .asg (.nm 3) (.own (.lst [])),
    .asg (.nm 4) (.ownC "cell_names" [(.var 0)]),
    .whl (.cst (.bl true)) b_order_of_6]⟩⟩
def e_reached_from_1 : E := (.var 6)
def e_reached_from_2 : E := (.cst (.bl true))
def b_reached_from_3 : List S :=
  [
    .ifs (.cmp .notin (.var 7) (.var 3))
      [
        .set (.var 3) (.var 7) (.cst (.bl true)),
        .app (.var 4) (.var 7)]
      []]
def b_reached_from_4 : List S :=
  [
    .ifs (.cmp .isin (.ix (.var 4) (.var 5)) (.var 2))
      [
        .for (.nm 7) .of [(.call "names_in" [(.ix (.var 2) (.ix (.var 4) (.var 5)))])] b_reached_from_3]
      [],
    .aug 5 .add (.cst (.int 1))]
def d_reached_from : Dfn := ⟨"reached_from", ["net", "names", "table", "found", "row", "at", "name", "other"], ["net", "names"], ⟨2, 8,
  [
    .asg (.nm 2) (.call "form_table" [(.var 0)]),
    .asg (.nm 3) (.own (.dcm e_reached_from_1 e_reached_from_2 (.nm 6) .of [(.var 1)])),
    .asg (.nm 4) (.own (.b1 .list (.var 3))),
    .asg (.nm 5) (.cst (.int 0)),
    .whl (.cmp .lt (.var 5) (.b1 .len (.var 4))) b_reached_from_4,
    .ret (.var 3)]⟩⟩
def b_is_sound_1 : List S :=
  [
    .ifs (.and (.cmp .eq (.ix (.var 2) (.cst (.int 0))) (.cst (.str "match"))) (.cmp .isin (.var 1) (.call "reached_from" [(.var 0), (.call "names_in" [(.var 2)])])))
      [
        .ret (.cst (.bl false))]
      []]
def d_is_sound : Dfn := ⟨"is_sound", ["net", "name", "form"], ["net"], ⟨1, 3,
  [
    .ifs (.cmp .lt (.b1 .len (.call "order_of" [(.var 0)])) (.b1 .len (.ix (.var 0) (.cst (.int 2)))))
      [
        .ret (.cst (.bl false))]
      [],
    .for (.tp [1, 2]) .of [(.ix (.var 0) (.cst (.int 2)))] b_is_sound_1,
    .ret (.cst (.bl true))]⟩⟩
def e_event_fault_1 : E := (.call "is_row" [(.var 2), (.cst (.int 2))])
def e_event_fault_2 : E := (.and (.isi (.ix (.var 2) (.cst (.int 0))) .str) (.cmp .isin (.ix (.var 2) (.cst (.int 0))) (.ix (.var 0) (.cst (.int 1)))))
def e_event_fault_3 : E := (.ix (.var 2) (.cst (.int 0)))
def e_event_fault_4 : E := (.call "is_between" [(.ix (.var 2) (.cst (.int 1))), (.cst (.int 0)), (.bin .sub (.ix (.var 0) (.cst (.int 0))) (.cst (.int 1)))])
def d_event_fault : Dfn := ⟨"event_fault", ["net", "value", "pair"], ["net", "value"], ⟨2, 3,
  [
    .ifs (.or (.not (.isi (.var 1) .tuple)) (.not (.b1 .all (.lc e_event_fault_1 (.nm 2) .of [(.var 1)] []))))
      [
        .ret (.cst (.str "form"))]
      [],
    .ifs (.not (.b1 .all (.lc e_event_fault_2 (.nm 2) .of [(.var 1)] [])))
      [
        .ret (.cst (.str "form"))]
      [],
    .ifs (.not (.call "is_ascending" [(.lc e_event_fault_3 (.nm 2) .of [(.var 1)] [])]))
      [
        .ret (.cst (.str "form"))]
      [],
    .ret (.ite (.b1 .all (.lc e_event_fault_4 (.nm 2) .of [(.var 1)] [])) (.cst (.non)) (.cst (.str "form")))]⟩⟩
def b__law_digits_1 : List S :=
  [
    .app (.var 3) (.bin .mod (.b1 .int (.var 2)) (.cst (.int 1000003))),
    .asg (.nm 2) (.bin .fdiv (.var 2) (.cst (.int 1000003))),
    .ifs (.cmp .eq (.var 2) (.cst (.int 0)))
      [
        .brk]
      []]
def b__law_digits_2 : List S :=
  [
    .asg (.nm 5) (.bin .mod (.b1 .int (.bin .mul (.bin .add (.bin .add (.var 2) (.bin .mul (.cst (.int 11)) (.var 4))) (.cst (.int 3))) (.cst (.int 48271)))) (.cst (.int 2147483647))),
    .asg (.nm 5) (.bin .mod (.b1 .int (.bin .add (.bin .add (.bin .mul (.var 5) (.cst (.int 69621))) (.bin .mul (.cst (.int 37)) (.var 4))) (.cst (.int 5)))) (.cst (.int 2147483629))),
    .app (.var 3) (.bin .mod (.b1 .int (.bin .fdiv (.var 5) (.cst (.int 5)))) (.cst (.int 1000003)))]
def d__law_digits : Dfn := ⟨"_law_digits", ["cell", "count", "number", "row", "k", "mixed"], ["cell", "count"], ⟨2, 6,
  [
    .asg (.nm 2) (.var 0),
    .ifs (.cmp .lt (.var 2) (.cst (.int 0)))
      [
        .asg (.nm 2) (.bin .sub (.bin .sub (.cst (.int 0)) (.cst (.int 1))) (.var 2))]
      [],
    .asg (.nm 3) (.own (.lst [])),
    .ifs (.cmp .ge (.var 2) (.bin .pow (.cst (.int 10)) (.cst (.int 18))))
      [
        .for (.nm 4) .range [(.var 1)] b__law_digits_1,
        .ret (.var 3)]
      [],
    .for (.nm 4) .range [(.var 1)] b__law_digits_2,
    .ret (.var 3)]⟩⟩
def b__law_box_1 : List S :=
  [
    .asg (.nm 1) (.bin .add (.var 1) (.call "_law_digits" [(.var 2), (.cst (.int 6))]))]
def d__law_box : Dfn := ⟨"_law_box", ["script", "row", "cell"], ["script"], ⟨1, 3,
  [
    .asg (.nm 1) (.lst []),
    .for (.nm 2) .of [(.var 0)] b__law_box_1,
    .ifs (.cmp .eq (.b1 .len (.var 1)) (.cst (.int 0)))
      [
        .asg (.nm 1) (.lst [(.cst (.int 5)), (.cst (.int 77)), (.cst (.int 1031)), (.cst (.int 40009)), (.cst (.int 3)), (.cst (.int 900001)), (.cst (.int 12))])]
      [],
    .ret (.own (.dct [.inr "row", .inr "at"] [(.var 1), (.cst (.int 0))]))]⟩⟩
def d__law_take : Dfn := ⟨"_law_take", ["box", "many", "at", "number"], ["box", "many"], ⟨2, 4,
  [
    .asg (.nm 2) (.ix (.var 0) (.cst (.str "at"))),
    .set (.var 0) (.cst (.str "at")) (.bin .add (.var 2) (.cst (.int 1))),
    .asg (.nm 3) (.ix (.ix (.var 0) (.cst (.str "row"))) (.bin .mod (.b1 .int (.var 2)) (.b1 .len (.ix (.var 0) (.cst (.str "row")))))),
    .ret (.bin .mod (.b1 .int (.bin .add (.var 3) (.bin .mul (.cst (.int 104729)) (.bin .fdiv (.var 2) (.b1 .len (.ix (.var 0) (.cst (.str "row")))))))) (.var 1))]⟩⟩
def d__law_pick : Dfn := ⟨"_law_pick", ["box", "row"], ["box", "row"], ⟨2, 2,
  [
    .ret (.ix (.var 1) (.call "_law_take" [(.var 0), (.b1 .len (.var 1))]))]⟩⟩
def d__law_whole : Dfn := ⟨"_law_whole", ["value"], ["value"], ⟨1, 1,
  [
    .ret (.and (.isi (.var 0) .int) (.not (.isi (.var 0) .bool)))]⟩⟩
def e__law_rising_1 : E := (.cmp .lt (.ix (.var 0) (.var 1)) (.ix (.var 0) (.bin .add (.var 1) (.cst (.int 1)))))
def d__law_rising : Dfn := ⟨"_law_rising", ["row", "k"], ["row"], ⟨1, 2,
  [
    .ret (.b1 .all (.lc e__law_rising_1 (.nm 1) .range [(.bin .sub (.b1 .len (.var 0)) (.cst (.int 1)))] []))]⟩⟩
def e__law_some_1 : E := (.ix (.var 1) (.call "_law_take" [(.var 0), (.b1 .len (.var 1))]))
def d__law_some : Dfn := ⟨"_law_some", ["box", "letters", "size", "k"], ["box", "letters", "size"], ⟨3, 4,
  [
    .ret (.join (.cst (.str "")) (.lc e__law_some_1 (.nm 3) .range [(.var 2)] []))]⟩⟩
def b__law_names_1 : List S :=
  [
    .asg (.nm 5) (.ite (.cmp .eq (.call "_law_take" [(.var 0), (.cst (.int 5))]) (.cst (.int 0))) (.call "_law_pick" [(.var 0), (.var 2)]) (.call "_law_some" [(.var 0), (.cst (.str "abcxyz")), (.bin .add (.cst (.int 1)) (.call "_law_take" [(.var 0), (.cst (.int 3))]))])),
    .ifs (.and (.cmp .lt (.b1 .len (.var 3)) (.var 1)) (.cmp .notin (.var 5) (.var 3)))
      [
        .app (.var 3) (.var 5)]
      []]
def b__law_names_2 : List S :=
  [
    .app (.var 3) (.bin .add (.bin .add (.cst (.str "q")) (.ix (.cst (.str "abcdefghijklmnopqrstuvwxyz")) (.var 4))) (.cst (.str "q")))]
def d__law_names : Dfn := ⟨"_law_names", ["box", "many", "words", "found", "k", "name"], ["box", "many"], ⟨2, 6,
  [
    .asg (.nm 2) (.lst [(.cst (.str "add")), (.cst (.str "and")), (.cst (.str "any")), (.cst (.str "cell")), (.cst (.str "drop")), (.cst (.str "end")), (.cst (.str "event")), (.cst (.str "held")), (.cst (.str "input")), (.cst (.str "keeps")), (.cst (.str "late")), (.cst (.str "loop")), (.cst (.str "match")), (.cst (.str "net")), (.cst (.str "state")), (.cst (.str "strike")), (.cst (.str "when")), (.cst (.str "worth")), (.cst (.str "yes"))]),
    .asg (.nm 3) (.own (.lst [])),
    .for (.nm 4) .range [(.cst (.int 60))] b__law_names_1,
    .for (.nm 4) .range [(.bin .sub (.var 1) (.b1 .len (.var 3)))] b__law_names_2,
    .ret (.b1 .sorted (.var 3))]⟩⟩
def e__law_form_1 : E := (.call "_law_take" [(.var 0), (.var 1)])
def d__law_form : Dfn := ⟨"_law_form", ["box", "size", "names", "word", "one", "two", "k"], ["box", "size", "names"], ⟨3, 7,
  [
    .asg (.nm 3) (.call "_law_pick" [(.var 0), (.lst [(.cst (.str "worth")), (.cst (.str "copy")), (.cst (.str "there")), (.cst (.str "add")), (.cst (.str "times")), (.cst (.str "least")), (.cst (.str "most")), (.cst (.str "alike")), (.cst (.str "less")), (.cst (.str "turn")), (.cst (.str "when")), (.cst (.str "when")), (.cst (.str "else")), (.cst (.str "else")), (.cst (.str "held")), (.cst (.str "held")), (.cst (.str "before")), (.cst (.str "late")), (.cst (.str "late")), (.cst (.str "match"))])]),
    .par 4 5 (.call "_law_pick" [(.var 0), (.var 2)]) (.call "_law_pick" [(.var 0), (.var 2)]),
    .ifs (.cmp .eq (.var 3) (.cst (.str "worth")))
      [
        .ret (.tup [(.var 3), (.call "_law_take" [(.var 0), (.var 1)])])]
      [],
    .ifs (.cmp .isin (.var 3) (.tup [(.cst (.str "copy")), (.cst (.str "there"))]))
      [
        .ret (.tup [(.var 3), (.var 4)])]
      [],
    .ifs (.cmp .eq (.var 3) (.cst (.str "turn")))
      [
        .ret (.tup [(.var 3), (.var 4), (.b1 .tuple (.lc e__law_form_1 (.nm 6) .range [(.var 1)] []))])]
      [],
    .ifs (.cmp .isin (.var 3) (.tup [(.cst (.str "held")), (.cst (.str "before"))]))
      [
        .ret (.tup [(.var 3), (.var 4), (.call "_law_take" [(.var 0), (.var 1)])])]
      [],
    .ifs (.cmp .eq (.var 3) (.cst (.str "late")))
      [
        .ret (.tup [(.var 3), (.var 4), (.call "_law_pick" [(.var 0), (.lst [(.cst (.non)), (.call "_law_take" [(.var 0), (.var 1)])])])])]
      [],
    .ifs (.cmp .eq (.var 3) (.cst (.str "match")))
      [
        .ret (.tup [(.var 3), (.call "_law_pick" [(.var 0), (.lst [(.cst (.str "add")), (.cst (.str "times")), (.cst (.str "least")), (.cst (.str "most")), (.cst (.str "alike")), (.cst (.str "less"))])]), (.var 4), (.var 5)])]
      [],
    .ret (.tup [(.var 3), (.var 4), (.var 5)])]⟩⟩
def d__law_names_in : Dfn := ⟨"_law_names_in", ["form"], ["form"], ⟨1, 1,
  [
    .ifs (.cmp .eq (.ix (.var 0) (.cst (.int 0))) (.cst (.str "worth")))
      [
        .ret (.tup [])]
      [],
    .ifs (.cmp .isin (.ix (.var 0) (.cst (.int 0))) (.tup [(.cst (.str "copy")), (.cst (.str "there")), (.cst (.str "turn")), (.cst (.str "held")), (.cst (.str "before")), (.cst (.str "late"))]))
      [
        .ret (.tup [(.ix (.var 0) (.cst (.int 1)))])]
      [],
    .ret (.ite (.cmp .eq (.ix (.var 0) (.cst (.int 0))) (.cst (.str "match"))) (.sl (.var 0) [(.cst (.int 2))] []) (.sl (.var 0) [(.cst (.int 1))] []))]⟩⟩
def e__law_under_1 : E := (.var 6)
def e__law_under_2 : E := (.cmp .notin (.var 6) (.var 3))
def b__law_under_3 : List S :=
  [
    .ifs (.cmp .ge (.var 4) (.b1 .len (.var 3)))
      [
        .brk]
      [],
    .ifs (.cmp .isin (.ix (.var 3) (.var 4)) (.var 2))
      [
        .asg (.nm 3) (.bin .add (.var 3) (.lc e__law_under_1 (.nm 6) .of [(.call "_law_names_in" [(.ix (.var 2) (.ix (.var 3) (.var 4)))])] [e__law_under_2]))]
      []]
def e__law_under_4 : E := (.ix (.var 3) (.var 5))
def e__law_under_5 : E := (.cmp .notin (.ix (.var 3) (.var 5)) (.sl (.var 3) [] [(.var 5)]))
def d__law_under : Dfn := ⟨"_law_under", ["net", "names", "table", "found", "step", "at", "name"], ["net", "names"], ⟨2, 7,
  [
    .asg (.nm 2) (.b1 .dict (.ix (.var 0) (.cst (.int 2)))),
    .asg (.nm 3) (.b1 .list (.var 1)),
    .for (.nm 4) .range [(.cst (.int 60))] b__law_under_3,
    .ret (.lc e__law_under_4 (.nm 5) .range [(.b1 .len (.var 3))] [e__law_under_5])]⟩⟩
def e__law_order_1 : E := (.cmp .isin (.var 6) (.var 1))
def b__law_order_2 : List S :=
  [
    .ifs (.and (.cmp .eq (.b1 .len (.var 2)) (.var 3)) (.and (.cmp .notin (.var 4) (.var 1)) (.or (.cmp .eq (.ix (.var 5) (.cst (.int 0))) (.cst (.str "late"))) (.b1 .all (.lc e__law_order_1 (.nm 6) .of [(.call "_law_names_in" [(.var 5)])] [])))))
      [
        .app (.var 2) (.var 4)]
      []]
def b__law_order_3 : List S :=
  [
    .for (.tp [4, 5]) .of [(.ix (.var 0) (.cst (.int 2)))] b__law_order_2,
    .ifs (.cmp .gt (.b1 .len (.var 2)) (.var 3))
      [
        .app (.var 1) (.ix (.var 2) (.var 3))]
      []]
def d__law_order : Dfn := ⟨"_law_order", ["net", "done", "row", "step", "name", "form", "other"], ["net"], ⟨1, 7,
  [
    .asg (.nm 1) (.own (.b1 .list (.ix (.var 0) (.cst (.int 1))))),
    .asg (.nm 2) (.own (.lst [])),
    .for (.nm 3) .range [(.b1 .len (.ix (.var 0) (.cst (.int 2))))] b__law_order_3,
    .ret (.var 2)]⟩⟩
def e__law_sound_1 : E := (.and (.cmp .eq (.ix (.var 2) (.cst (.int 0))) (.cst (.str "match"))) (.cmp .isin (.var 1) (.call "_law_under" [(.var 0), (.call "_law_names_in" [(.var 2)])])))
def d__law_sound : Dfn := ⟨"_law_sound", ["net", "name", "form"], ["net"], ⟨1, 3,
  [
    .ifs (.cmp .lt (.b1 .len (.call "_law_order" [(.var 0)])) (.b1 .len (.ix (.var 0) (.cst (.int 2)))))
      [
        .ret (.cst (.bl false))]
      [],
    .ret (.not (.b1 .any (.lc e__law_sound_1 (.tp [1, 2]) .of [(.ix (.var 0) (.cst (.int 2)))] [])))]⟩⟩
def e__law_net_1 : E := (.pop (.var 8) (.call "_law_take" [(.var 0), (.b1 .len (.var 8))]))
def e__law_net_2 : E := (.tup [(.var 12), (.tup [(.cst (.str "worth")), (.call "_law_take" [(.var 0), (.var 5)])])])
def e__law_net_3 : E := (.tup [(.var 16), (.ite (.cmp .eq (.var 16) (.var 12)) (.var 13) (.var 17))])
def b__law_net_4 : List S :=
  [
    .asg (.nm 13) (.call "_law_form" [(.var 0), (.var 5), (.var 7)]),
    .ifs (.or (.cmp .ne (.ix (.var 13) (.cst (.int 0))) (.cst (.str "match"))) (.var 4))
      [
        .asg (.nm 15) (.tup [(.var 5), (.ix (.var 10) (.cst (.int 1))), (.b1 .tuple (.lc e__law_net_3 (.tp [16, 17]) .of [(.ix (.var 10) (.cst (.int 2)))] []))]),
        .ifs (.call "_law_sound" [(.var 15)])
          [
            .asg (.nm 10) (.var 15)]
          []]
      []]
def b__law_net_5 : List S :=
  [
    .for (.nm 12) .of [(.var 8)] b__law_net_4]
def d__law_net : Dfn := ⟨"_law_net", ["box", "inputs", "cells", "most", "matches", "size", "many", "names", "left", "chosen", "net", "turn", "name", "form", "k", "after", "one", "old"], ["box", "inputs", "cells", "most", "matches"], ⟨5, 18,
  [
    .asg (.nm 5) (.bin .add (.cst (.int 2)) (.call "_law_take" [(.var 0), (.bin .sub (.var 3) (.cst (.int 1)))])),
    .asg (.nm 6) (.bin .add (.cst (.int 1)) (.call "_law_take" [(.var 0), (.var 1)])),
    .asg (.nm 7) (.call "_law_names" [(.var 0), (.bin .add (.bin .add (.var 6) (.cst (.int 2))) (.call "_law_take" [(.var 0), (.bin .sub (.var 2) (.cst (.int 1)))]))]),
    .asg (.nm 8) (.own (.b1 .list (.var 7))),
    .asg (.nm 9) (.b1 .sorted (.lc e__law_net_1 (.nm 14) .range [(.var 6)] [])),
    .asg (.nm 10) (.tup [(.var 5), (.b1 .tuple (.var 9)), (.b1 .tuple (.lc e__law_net_2 (.nm 12) .of [(.var 8)] []))]),
    .for (.nm 11) .range [(.cst (.int 2))] b__law_net_5,
    .ret (.var 10)]⟩⟩
def e__law_event_1 : E := (.tup [(.var 2), (.call "_law_take" [(.var 0), (.ix (.var 1) (.cst (.int 0)))])])
def e__law_event_2 : E := (.cmp .gt (.call "_law_take" [(.var 0), (.cst (.int 5))]) (.cst (.int 1)))
def d__law_event : Dfn := ⟨"_law_event", ["box", "net", "name"], ["box", "net"], ⟨2, 3,
  [
    .ret (.b1 .tuple (.lc e__law_event_1 (.nm 2) .of [(.ix (.var 1) (.cst (.int 1)))] [e__law_event_2]))]⟩⟩
def d__law_worth : Dfn := ⟨"_law_worth", ["value", "size"], ["value", "size"], ⟨2, 2,
  [
    .ret (.and (.call "_law_whole" [(.var 0)]) (.chn .le .lt (.cst (.int 0)) (.var 0) (.var 1)))]⟩⟩
def e__law_is_event_1 : E := (.and (.isi (.var 2) .tuple) (.cmp .eq (.b1 .len (.var 2)) (.cst (.int 2))))
def e__law_is_event_2 : E := (.and (.isi (.ix (.var 2) (.cst (.int 0))) .str) (.and (.cmp .isin (.ix (.var 2) (.cst (.int 0))) (.ix (.var 0) (.cst (.int 1)))) (.call "_law_worth" [(.ix (.var 2) (.cst (.int 1))), (.ix (.var 0) (.cst (.int 0)))])))
def e__law_is_event_3 : E := (.ix (.var 2) (.cst (.int 0)))
def d__law_is_event : Dfn := ⟨"_law_is_event", ["net", "value", "pair"], ["net", "value"], ⟨2, 3,
  [
    .ifs (.or (.not (.isi (.var 1) .tuple)) (.not (.b1 .all (.lc e__law_is_event_1 (.nm 2) .of [(.var 1)] []))))
      [
        .ret (.cst (.bl false))]
      [],
    .ifs (.not (.b1 .all (.lc e__law_is_event_2 (.nm 2) .of [(.var 1)] [])))
      [
        .ret (.cst (.bl false))]
      [],
    .ret (.call "_law_rising" [(.lc e__law_is_event_3 (.nm 2) .of [(.var 1)] [])])]⟩⟩
def d__law_turned : Dfn := ⟨"_law_turned", ["box", "value", "at", "kind"], ["box", "value"], ⟨2, 4,
  [
    .ifs (.and (.isi (.var 1) .tuple) (.and (.cmp .gt (.b1 .len (.var 1)) (.cst (.int 0))) (.cmp .gt (.call "_law_take" [(.var 0), (.cst (.int 6))]) (.cst (.int 0)))))
      [
        .asg (.nm 2) (.call "_law_take" [(.var 0), (.b1 .len (.var 1))]),
        .asg (.nm 3) (.call "_law_take" [(.var 0), (.cst (.int 14))]),
        .ifs (.cmp .lt (.var 3) (.cst (.int 2)))
          [
            .ret (.bin .add (.sl (.var 1) [] [(.var 2)]) (.sl (.var 1) [(.bin .add (.var 2) (.cst (.int 1)))] []))]
          [],
        .ifs (.and (.cmp .eq (.var 3) (.cst (.int 2))) (.cmp .gt (.var 2) (.cst (.int 0))))
          [
            .ret (.bin .add (.bin .add (.sl (.var 1) [] [(.bin .sub (.var 2) (.cst (.int 1)))]) (.tup [(.ix (.var 1) (.var 2)), (.ix (.var 1) (.bin .sub (.var 2) (.cst (.int 1))))])) (.sl (.var 1) [(.bin .add (.var 2) (.cst (.int 1)))] []))]
          [],
        .ifs (.cmp .eq (.var 3) (.cst (.int 3)))
          [
            .ret (.bin .add (.bin .add (.sl (.var 1) [] [(.var 2)]) (.sl (.var 1) [(.var 2)] [(.bin .add (.var 2) (.cst (.int 1)))])) (.sl (.var 1) [(.var 2)] []))]
          [],
        .ret (.bin .add (.bin .add (.sl (.var 1) [] [(.var 2)]) (.tup [(.call "_law_turned" [(.var 0), (.ix (.var 1) (.var 2))])])) (.sl (.var 1) [(.bin .add (.var 2) (.cst (.int 1)))] []))]
      [],
    .ifs (.and (.isi (.var 1) .tuple) (.cmp .eq (.call "_law_take" [(.var 0), (.cst (.int 2))]) (.cst (.int 0))))
      [
        .ret (.b1 .list (.var 1))]
      [],
    .ifs (.call "_law_whole" [(.var 1)])
      [
        .ifs (.and (.cmp .isin (.var 1) (.tup [(.cst (.int 0)), (.cst (.int 1))])) (.cmp .eq (.call "_law_take" [(.var 0), (.cst (.int 3))]) (.cst (.int 0))))
          [
            .ret (.cmp .eq (.var 1) (.cst (.int 1)))]
          [],
        .ret (.call "_law_pick" [(.var 0), (.lst [(.bin .add (.var 1) (.cst (.int 1))), (.bin .sub (.var 1) (.cst (.int 1))), (.cst (.int 7)), (.cst (.non))])])]
      [],
    .ifs (.isi (.var 1) .str)
      [
        .ret (.call "_law_pick" [(.var 0), (.lst [(.cst (.str "")), (.cst (.str "a")), (.cst (.str "b")), (.cst (.str "none")), (.cst (.str "A")), (.cst (.str "late")), (.cst (.str "row")), (.cst (.str "ever"))])])]
      [],
    .ret (.call "_law_pick" [(.var 0), (.lst [(.tup []), (.cst (.non)), (.cst (.int 0)), (.cst (.int 1)), (.cst (.str "a")), (.tup [(.cst (.str "a")), (.cst (.int 1))])])])]⟩⟩
def b_law_1 : List S :=
  [
    .ifs (.cmp .ne (.call "net_fault" [(.var 3)]) (.cst (.str "form")))
      [
        .ret (.cst (.bl false))]
      []]
def b_law_2 : List S :=
  [
    .ifs (.cmp .ne (.call "net_fault" [(.tup [(.var 3), (.var 12), (.var 13)])]) (.cst (.str "size")))
      [
        .ret (.cst (.bl false))]
      []]
def b_law_3 : List S :=
  [
    .ifs (.cmp .ne (.call "net_fault" [(.tup [(.var 11), (.var 3), (.var 13)])]) (.cst (.str "inputs")))
      [
        .ret (.cst (.bl false))]
      []]
def e_law_4 : E := (.tup [(.ix (.cst (.str "abcdefghijklmnopqrstuvwxyz")) (.var 14)), (.var 4)])
def b_law_5 : List S :=
  [
    .ifs (.cmp .ne (.call "net_fault" [(.tup [(.var 11), (.tup []), (.var 3)])]) (.cst (.str "cells")))
      [
        .ret (.cst (.bl false))]
      []]
def e_law_6 : E := (.cst (.int 0))
def b_law_7 : List S :=
  [
    .ifs (.cmp .ne (.call "net_fault" [(.tup [(.var 11), (.tup [(.cst (.str "x"))]), (.tup [(.tup [(.cst (.str "a")), (.var 8)])])])]) (.cst (.str "forms")))
      [
        .ret (.cst (.bl false))]
      []]
def b_law_8 : List S :=
  [
    .ifs (.cmp .ne (.call "net_fault" [(.tup [(.var 11), (.tup [(.cst (.str "x"))]), (.tup [(.tup [(.cst (.str "a")), (.var 8)])])])]) (.cst (.str "names")))
      [
        .ret (.cst (.bl false))]
      []]
def e_law_9 : E := (.cmp .ne (.call "net_fault" [(.tup [(.var 11), (.tup [(.cst (.str "x"))]), (.var 3)])]) (.cst (.str "rings")))
def b_law_10 : List S :=
  [
    .ifs (.notN (.call "net_fault" [(.tup [(.var 11), (.tup [(.cst (.str "x"))]), (.var 3)])]))
      [
        .ret (.cst (.bl false))]
      []]
def b_law_11 : List S :=
  [
    .ifs (.cmp .ne (.call "event_fault" [(.var 2), (.var 3)]) (.ite (.call "_law_is_event" [(.var 2), (.var 3)]) (.cst (.non)) (.cst (.str "form"))))
      [
        .ret (.cst (.bl false))]
      []]
def d_law : Dfn := ⟨"law", ["script", "box", "net", "value", "good", "many", "row", "wrong", "form", "rings", "event", "size", "inputs", "cells", "k"], ["script"], ⟨1, 15,
  [
    .asg (.nm 1) (.ownC "_law_box" [(.var 0)]),
    .asg (.nm 2) (.call "_law_net" [(.var 1), (.cst (.int 3)), (.cst (.int 8)), (.cst (.int 5)), (.cst (.bl true))]),
    .asg (.tp [11, 12, 13]) (.var 2),
    .ifs (.notN (.call "net_fault" [(.var 2)]))
      [
        .ret (.cst (.bl false))]
      [],
    .for (.nm 3) .of [(.lst [(.cst (.non)), (.cst (.int 3)), (.tup []), (.tup [(.var 11), (.var 12)]), (.tup [(.var 11), (.var 12), (.var 13), (.cst (.int 1))]), (.b1 .list (.var 2)), (.cst (.str "net"))])] b_law_1,
    .for (.nm 3) .of [(.lst [(.cst (.int 1)), (.cst (.int 6)), (.cst (.bl true)), (.cst (.non)), (.cst (.str "2")), (.tup [(.cst (.int 2))])])] b_law_2,
    .for (.nm 3) .of [(.lst [(.cst (.non)), (.b1 .list (.var 12)), (.tup [(.cst (.str "b")), (.cst (.str "a"))]), (.tup [(.cst (.str "a")), (.cst (.str "a"))]), (.tup [(.cst (.str "A"))]), (.tup [(.cst (.str ""))]), (.tup [(.cst (.int 3))]), (.tup [(.cst (.str "a")), (.cst (.str "b")), (.cst (.str "c")), (.cst (.str "d")), (.cst (.str "e"))]), (.tup [(.cst (.str "abcdefghijklm"))])])] b_law_3,
    .asg (.nm 4) (.tup [(.cst (.str "worth")), (.cst (.int 0))]),
    .asg (.nm 5) (.b1 .tuple (.lc e_law_4 (.nm 14) .range [(.cst (.int 21))] [])),
    .for (.nm 3) .of [(.lst [(.cst (.non)), (.b1 .list (.var 13)), (.tup [(.tup [(.cst (.str "a"))])]), (.tup [(.tup [(.cst (.str "a")), (.var 4), (.cst (.int 1))])]), (.tup [(.tup [(.cst (.str "b")), (.var 4)]), (.tup [(.cst (.str "a")), (.var 4)])]), (.tup [(.tup [(.cst (.str "a")), (.var 4)]), (.tup [(.cst (.str "a")), (.var 4)])]), (.tup [(.tup [(.cst (.str "A")), (.var 4)])]), (.tup [(.tup [(.cst (.int 3)), (.var 4)])]), (.tup [(.lst [(.cst (.str "a")), (.var 4)])]), (.var 5)])] b_law_5,
    .ifs (.or (.cmp .ne (.call "net_fault" [(.tup [(.var 11), (.var 12), (.tup [(.tup [(.ix (.var 12) (.cst (.int 0))), (.var 4)])])])]) (.cst (.str "cells"))) (.notN (.call "net_fault" [(.tup [(.var 11), (.tup []), (.sl (.var 5) [] [(.cst (.int 20))])])])))
      [
        .ret (.cst (.bl false))]
      [],
    .asg (.nm 6) (.b1 .tuple (.lc e_law_6 (.nm 14) .range [(.var 11)] [])),
    .asg (.nm 7) (.lst [(.cst (.non)), (.tup []), (.cst (.str "worth")), (.lst [(.cst (.str "worth")), (.cst (.int 0))]), (.tup [(.cst (.str "worth"))]), (.tup [(.cst (.str "worth")), (.var 11)]), (.tup [(.cst (.str "worth")), (.bin .sub (.cst (.int 0)) (.cst (.int 1)))]), (.tup [(.cst (.str "worth")), (.cst (.bl true))]), (.tup [(.cst (.str "worth")), (.cst (.non))]), (.tup [(.cst (.str "worth")), (.cst (.int 0)), (.cst (.int 0))]), (.tup [(.cst (.str "copy"))]), (.tup [(.cst (.str "copy")), (.cst (.str "A"))]), (.tup [(.cst (.str "copy")), (.cst (.int 3))]), (.tup [(.cst (.str "copy")), (.cst (.str "x")), (.cst (.str "x"))]), (.tup [(.cst (.str "there")), (.cst (.str ""))]), (.tup [(.cst (.str "adds")), (.cst (.str "x")), (.cst (.str "x"))])]),
    .asg (.nm 7) (.bin .add (.var 7) (.lst [(.tup [(.cst (.str "add")), (.cst (.str "x"))]), (.tup [(.cst (.str "add")), (.cst (.str "x")), (.cst (.str "x")), (.cst (.str "x"))]), (.tup [(.cst (.str "times")), (.cst (.str "x")), (.cst (.non))]), (.tup [(.cst (.str "when")), (.cst (.str "x"))]), (.tup [(.cst (.str "else")), (.tup [(.cst (.str "x"))]), (.cst (.str "x"))]), (.tup [(.cst (.str "turn")), (.cst (.str "x")), (.sl (.var 6) [(.cst (.int 1))] [])]), (.tup [(.cst (.str "turn")), (.cst (.str "x")), (.bin .add (.var 6) (.tup [(.cst (.int 0))]))]), (.tup [(.cst (.str "turn")), (.cst (.str "x")), (.b1 .list (.var 6))]), (.tup [(.cst (.str "turn")), (.cst (.str "x")), (.bin .add (.tup [(.var 11)]) (.sl (.var 6) [(.cst (.int 1))] []))])])),
    .asg (.nm 7) (.bin .add (.var 7) (.lst [(.tup [(.cst (.str "turn")), (.cst (.str "x")), (.bin .add (.tup [(.cst (.bl true))]) (.sl (.var 6) [(.cst (.int 1))] []))]), (.tup [(.cst (.str "held")), (.cst (.str "x"))]), (.tup [(.cst (.str "held")), (.cst (.str "x")), (.cst (.non))]), (.tup [(.cst (.str "held")), (.cst (.str "x")), (.var 11)]), (.tup [(.cst (.str "before")), (.cst (.str "x")), (.cst (.non))]), (.tup [(.cst (.str "before")), (.cst (.str "x")), (.cst (.bl true))]), (.tup [(.cst (.str "late")), (.cst (.str "x"))]), (.tup [(.cst (.str "late")), (.cst (.str "x")), (.var 11)]), (.tup [(.cst (.str "late")), (.cst (.str "x")), (.cst (.bl true))]), (.tup [(.cst (.str "late")), (.cst (.str "x")), (.cst (.str "any"))])])),
    .asg (.nm 7) (.bin .add (.var 7) (.lst [(.tup [(.cst (.str "match")), (.cst (.str "x")), (.cst (.str "x"))]), (.tup [(.cst (.str "match")), (.cst (.str "adds")), (.cst (.str "x")), (.cst (.str "x"))]), (.tup [(.cst (.str "match")), (.cst (.str "when")), (.cst (.str "x")), (.cst (.str "x"))]), (.tup [(.cst (.str "match")), (.cst (.str "add")), (.cst (.str "x"))]), (.tup [(.cst (.str "match")), (.cst (.str "add")), (.cst (.str "x")), (.cst (.int 3))]), (.tup [(.cst (.str "match")), (.cst (.int 3)), (.cst (.str "x")), (.cst (.str "x"))]), (.tup [(.tup [(.cst (.str "worth"))]), (.cst (.int 0))]), (.tup [(.cst (.str "Worth")), (.cst (.int 0))])])),
    .for (.nm 8) .of [(.var 7)] b_law_7,
    .for (.nm 8) .of [(.lst [(.tup [(.cst (.str "copy")), (.cst (.str "y"))]), (.tup [(.cst (.str "add")), (.cst (.str "x")), (.cst (.str "y"))]), (.tup [(.cst (.str "turn")), (.cst (.str "y")), (.var 6)]), (.tup [(.cst (.str "held")), (.cst (.str "y")), (.cst (.int 0))]), (.tup [(.cst (.str "late")), (.cst (.str "y")), (.cst (.non))]), (.tup [(.cst (.str "match")), (.cst (.str "add")), (.cst (.str "x")), (.cst (.str "y"))]), (.tup [(.cst (.str "else")), (.cst (.str "y")), (.cst (.str "x"))])])] b_law_8,
    .asg (.nm 9) (.lst [(.tup [(.tup [(.cst (.str "a")), (.tup [(.cst (.str "copy")), (.cst (.str "a"))])])]), (.tup [(.tup [(.cst (.str "a")), (.tup [(.cst (.str "add")), (.cst (.str "b")), (.cst (.str "x"))])]), (.tup [(.cst (.str "b")), (.tup [(.cst (.str "held")), (.cst (.str "a")), (.cst (.int 0))])])]), (.tup [(.tup [(.cst (.str "a")), (.tup [(.cst (.str "before")), (.cst (.str "b")), (.cst (.int 0))])]), (.tup [(.cst (.str "b")), (.tup [(.cst (.str "when")), (.cst (.str "x")), (.cst (.str "a"))])])]), (.tup [(.tup [(.cst (.str "a")), (.tup [(.cst (.str "match")), (.cst (.str "add")), (.cst (.str "b")), (.cst (.str "x"))])]), (.tup [(.cst (.str "b")), (.tup [(.cst (.str "late")), (.cst (.str "a")), (.cst (.int 0))])])])]),
    .asg (.nm 9) (.bin .add (.var 9) (.lst [(.tup [(.tup [(.cst (.str "a")), (.tup [(.cst (.str "match")), (.cst (.str "add")), (.cst (.str "x")), (.cst (.str "b"))])]), (.tup [(.cst (.str "b")), (.tup [(.cst (.str "copy")), (.cst (.str "c"))])]), (.tup [(.cst (.str "c")), (.tup [(.cst (.str "late")), (.cst (.str "a")), (.cst (.non))])])])])),
    .ifs (.b1 .any (.lc e_law_9 (.nm 3) .of [(.var 9)] []))
      [
        .ret (.cst (.bl false))]
      [],
    .for (.nm 3) .of [(.lst [(.tup [(.tup [(.cst (.str "a")), (.tup [(.cst (.str "late")), (.cst (.str "a")), (.cst (.int 0))])])]), (.tup [(.tup [(.cst (.str "a")), (.tup [(.cst (.str "add")), (.cst (.str "b")), (.cst (.str "x"))])]), (.tup [(.cst (.str "b")), (.tup [(.cst (.str "late")), (.cst (.str "a")), (.cst (.non))])])]), (.tup [(.tup [(.cst (.str "a")), (.tup [(.cst (.str "match")), (.cst (.str "add")), (.cst (.str "b")), (.cst (.str "x"))])]), (.tup [(.cst (.str "b")), (.tup [(.cst (.str "late")), (.cst (.str "c")), (.cst (.int 0))])]), (.tup [(.cst (.str "c")), (.tup [(.cst (.str "else")), (.cst (.str "b")), (.cst (.str "x"))])])])])] b_law_10,
    .asg (.nm 10) (.call "_law_event" [(.var 1), (.var 2)]),
    .for (.nm 3) .of [(.lst [(.var 10), (.tup []), (.call "_law_turned" [(.var 1), (.var 10)]), (.call "_law_turned" [(.var 1), (.var 10)]), (.cst (.non)), (.lst []), (.tup [(.tup [(.ix (.var 12) (.cst (.int 0))), (.var 11)])]), (.tup [(.tup [(.ix (.var 12) (.cst (.int 0))), (.cst (.bl true))])]), (.tup [(.tup [(.ix (.var 12) (.cst (.int 0))), (.cst (.int 0))]), (.tup [(.ix (.var 12) (.cst (.int 0))), (.cst (.int 0))])]), (.tup [(.tup [(.cst (.str "qqqqqqqqqqqq")), (.cst (.int 0))])]), (.tup [(.tup [(.ix (.var 12) (.cst (.int 0)))])]), (.tup [(.lst [(.ix (.var 12) (.cst (.int 0))), (.cst (.int 0))])]), (.tup [(.tup [(.ix (.var 12) (.cst (.int 0))), (.cst (.non))])])])] b_law_11,
    .ret (.cst (.bl true))]⟩⟩

def top (i : Nat) : Stmt := PySem.Challenge.pw_cellmoments_k01_faults_of_nets.main.body.getD i (.Pass ⟨0, 0, 0, 0⟩)
def fns0 : List Str := ["is_integer", "is_between", "is_row", "is_ascending", "is_name", "are_names", "is_worth", "is_worth_or_none", "is_form", "is_table", "is_pairing", "names_in", "net_fault", "are_cells", "cell_names", "form_table", "now_names", "order_of", "reached_from", "is_sound", "event_fault", "_law_digits", "_law_box", "_law_take", "_law_pick", "_law_whole", "_law_rising", "_law_some", "_law_names", "_law_form"]
def fns1 : List Str := ["_law_names_in", "_law_under", "_law_order", "_law_sound", "_law_net", "_law_event", "_law_worth", "_law_is_event", "_law_turned", "law"]
def fns : List Str := fns0 ++ fns1
def G : List (Str × Val) := [("MAX_NAME", g_MAX_NAME), ("PAIRS", g_PAIRS), ("MAX_SIZE", g_MAX_SIZE), ("MAX_INPUTS", g_MAX_INPUTS), ("MAX_CELLS", g_MAX_CELLS)]
def dfns0 : List Dfn := [d_is_integer, d_is_between, d_is_row, d_is_ascending, d_is_name, d_are_names, d_is_worth, d_is_worth_or_none, d_is_form, d_is_table, d_is_pairing, d_names_in, d_net_fault, d_are_cells, d_cell_names, d_form_table, d_now_names, d_order_of, d_reached_from, d_is_sound, d_event_fault, d__law_digits, d__law_box, d__law_take, d__law_pick, d__law_whole, d__law_rising, d__law_some, d__law_names, d__law_form]
def dfns1 : List Dfn := [d__law_names_in, d__law_under, d__law_order, d__law_sound, d__law_net, d__law_event, d__law_worth, d__law_is_event, d__law_turned, d_law]
def dfns : List Dfn := dfns0 ++ dfns1
def prog : Prog := dfns.map fun d => (d.name, d.fn)
theorem ck_is_integer : dfnC fns G d_is_integer (defBody (top 2)) (defScope (top 2)) = true := by decide +kernel
theorem ck_is_between : dfnC fns G d_is_between (defBody (top 3)) (defScope (top 3)) = true := by decide +kernel
theorem ck_is_row : dfnC fns G d_is_row (defBody (top 4)) (defScope (top 4)) = true := by decide +kernel
theorem ck_is_ascending : dfnC fns G d_is_ascending (defBody (top 5)) (defScope (top 5)) = true := by decide +kernel
theorem ck_is_name : dfnC fns G d_is_name (defBody (top 6)) (defScope (top 6)) = true := by decide +kernel
theorem ck_are_names : dfnC fns G d_are_names (defBody (top 7)) (defScope (top 7)) = true := by decide +kernel
theorem ck_is_worth : dfnC fns G d_is_worth (defBody (top 8)) (defScope (top 8)) = true := by decide +kernel
theorem ck_is_worth_or_none : dfnC fns G d_is_worth_or_none (defBody (top 9)) (defScope (top 9)) = true := by decide +kernel
theorem ck_is_form : dfnC fns G d_is_form (defBody (top 12)) (defScope (top 12)) = true := by decide +kernel
theorem ck_is_table : dfnC fns G d_is_table (defBody (top 13)) (defScope (top 13)) = true := by decide +kernel
theorem ck_is_pairing : dfnC fns G d_is_pairing (defBody (top 14)) (defScope (top 14)) = true := by decide +kernel
theorem ck_names_in : dfnC fns G d_names_in (defBody (top 15)) (defScope (top 15)) = true := by decide +kernel
theorem ck_net_fault : dfnC fns G d_net_fault (defBody (top 20)) (defScope (top 20)) = true := by decide +kernel
theorem ck_are_cells : dfnC fns G d_are_cells (defBody (top 21)) (defScope (top 21)) = true := by decide +kernel
theorem ck_cell_names : dfnC fns G d_cell_names (defBody (top 22)) (defScope (top 22)) = true := by decide +kernel
theorem ck_form_table : dfnC fns G d_form_table (defBody (top 23)) (defScope (top 23)) = true := by decide +kernel
theorem ck_now_names : dfnC fns G d_now_names (defBody (top 24)) (defScope (top 24)) = true := by decide +kernel
theorem ck_order_of : dfnC fns G d_order_of (defBody (top 25)) (defScope (top 25)) = true := by decide +kernel
theorem ck_reached_from : dfnC fns G d_reached_from (defBody (top 26)) (defScope (top 26)) = true := by decide +kernel
theorem ck_is_sound : dfnC fns G d_is_sound (defBody (top 27)) (defScope (top 27)) = true := by decide +kernel
theorem ck_event_fault : dfnC fns G d_event_fault (defBody (top 28)) (defScope (top 28)) = true := by decide +kernel
theorem ck__law_digits : dfnC fns G d__law_digits (defBody (top 30)) (defScope (top 30)) = true := by decide +kernel
theorem ck__law_box : dfnC fns G d__law_box (defBody (top 31)) (defScope (top 31)) = true := by decide +kernel
theorem ck__law_take : dfnC fns G d__law_take (defBody (top 32)) (defScope (top 32)) = true := by decide +kernel
theorem ck__law_pick : dfnC fns G d__law_pick (defBody (top 33)) (defScope (top 33)) = true := by decide +kernel
theorem ck__law_whole : dfnC fns G d__law_whole (defBody (top 34)) (defScope (top 34)) = true := by decide +kernel
theorem ck__law_rising : dfnC fns G d__law_rising (defBody (top 35)) (defScope (top 35)) = true := by decide +kernel
theorem ck__law_some : dfnC fns G d__law_some (defBody (top 36)) (defScope (top 36)) = true := by decide +kernel
theorem ck__law_names : dfnC fns G d__law_names (defBody (top 37)) (defScope (top 37)) = true := by decide +kernel
theorem ck__law_form : dfnC fns G d__law_form (defBody (top 38)) (defScope (top 38)) = true := by decide +kernel
theorem ck__law_names_in : dfnC fns G d__law_names_in (defBody (top 39)) (defScope (top 39)) = true := by decide +kernel
theorem ck__law_under : dfnC fns G d__law_under (defBody (top 40)) (defScope (top 40)) = true := by decide +kernel
theorem ck__law_order : dfnC fns G d__law_order (defBody (top 41)) (defScope (top 41)) = true := by decide +kernel
theorem ck__law_sound : dfnC fns G d__law_sound (defBody (top 42)) (defScope (top 42)) = true := by decide +kernel
theorem ck__law_net : dfnC fns G d__law_net (defBody (top 43)) (defScope (top 43)) = true := by decide +kernel
theorem ck__law_event : dfnC fns G d__law_event (defBody (top 44)) (defScope (top 44)) = true := by decide +kernel
theorem ck__law_worth : dfnC fns G d__law_worth (defBody (top 45)) (defScope (top 45)) = true := by decide +kernel
theorem ck__law_is_event : dfnC fns G d__law_is_event (defBody (top 46)) (defScope (top 46)) = true := by decide +kernel
theorem ck__law_turned : dfnC fns G d__law_turned (defBody (top 47)) (defScope (top 47)) = true := by decide +kernel
theorem ck_law : dfnC fns G d_law (defBody (top 48)) (defScope (top 48)) = true := by decide +kernel
def mkD (x : Str) (i : Nat) : He.DefD := ⟨(x, none), x, x, defArgs (top i), defBody (top i), defScope (top i), [], []⟩
def fnD0 : List He.DefD := [mkD "is_integer" 2, mkD "is_between" 3, mkD "is_row" 4, mkD "is_ascending" 5, mkD "is_name" 6, mkD "are_names" 7, mkD "is_worth" 8, mkD "is_worth_or_none" 9, mkD "is_form" 12, mkD "is_table" 13, mkD "is_pairing" 14, mkD "names_in" 15, mkD "net_fault" 20, mkD "are_cells" 21, mkD "cell_names" 22, mkD "form_table" 23, mkD "now_names" 24, mkD "order_of" 25, mkD "reached_from" 26, mkD "is_sound" 27, mkD "event_fault" 28, mkD "_law_digits" 30, mkD "_law_box" 31, mkD "_law_take" 32, mkD "_law_pick" 33, mkD "_law_whole" 34, mkD "_law_rising" 35, mkD "_law_some" 36, mkD "_law_names" 37, mkD "_law_form" 38]
def fnD1 : List He.DefD := [mkD "_law_names_in" 39, mkD "_law_under" 40, mkD "_law_order" 41, mkD "_law_sound" 42, mkD "_law_net" 43, mkD "_law_event" 44, mkD "_law_worth" 45, mkD "_law_is_event" 46, mkD "_law_turned" 47, mkD "law" 48]
def fnD : List He.DefD := fnD0 ++ fnD1
def fas0 : List He.Fa := [.glo "is_integer", .glo "is_between", .glo "is_row", .glo "is_ascending", .glo "is_name", .glo "are_names", .glo "is_worth", .glo "is_worth_or_none", .glo "is_form", .glo "is_table", .glo "is_pairing", .glo "names_in", .glo "net_fault", .glo "are_cells", .glo "cell_names", .glo "form_table", .glo "now_names", .glo "order_of", .glo "reached_from", .glo "is_sound", .glo "event_fault", .glo "_law_digits", .glo "_law_box", .glo "_law_take", .glo "_law_pick", .glo "_law_whole", .glo "_law_rising", .glo "_law_some", .glo "_law_names", .glo "_law_form"]
def fas1 : List He.Fa := [.glo "_law_names_in", .glo "_law_under", .glo "_law_order", .glo "_law_sound", .glo "_law_net", .glo "_law_event", .glo "_law_worth", .glo "_law_is_event", .glo "_law_turned", .glo "law", .free "len", .free "int", .free "tuple", .free "list", .free "dict", .free "all", .free "any", .free "sum", .free "sorted", .free "enumerate", .free "range", .free "min", .free "max", .free "zip", .free "isinstance", .free "bool", .free "str"]
def fas : List He.Fa := fas0 ++ fas1
def lo0 : List Str := ["is_integer", "is_between", "is_row", "is_ascending", "is_name", "are_names", "is_worth", "is_worth_or_none", "is_form", "is_table", "is_pairing", "names_in", "net_fault", "are_cells", "cell_names", "form_table", "now_names", "order_of", "reached_from", "is_sound", "event_fault", "_law_digits", "_law_box", "_law_take", "_law_pick", "_law_whole", "_law_rising", "_law_some", "_law_names", "_law_form"]
def lo1 : List Str := ["_law_names_in", "_law_under", "_law_order", "_law_sound", "_law_net", "_law_event", "_law_worth", "_law_is_event", "_law_turned", "MAX_NAME", "PAIRS", "MAX_SIZE", "MAX_INPUTS", "MAX_CELLS"]
def lo : List Str := lo0 ++ lo1
abbrev Row : PySem.W.OpenRow := PySem.W.OpenLaw.row PySem.Challenge.rw_cellmoments_k01_faults_of_nets
abbrev hk : PySem.W.Hook := hookP 4 fas fnD G
def ob (s : PySem.W.SharedT) : He.AlD := obsPG 4 fas fnD G (HandSHeadRun.getT s)
theorem ob_eq (s : PySem.W.SharedT) : ob s = hk.obs s.abs := obsPG_eq (HandSHeadRun.getT_eq s)
theorem run (w : World) : HandSHeadRun.RunEq Row (PySem.W.view Row.prog [48]) hk ob 3000 lo w := by
  intro os
  kernel_rfl
section
variable {h : Heap} {mg : Str → Option Value} {K : PySem.W.Frag}
theorem dk_is_integer (X : K.In h) (N : h.Ns mainGlobals mg) (c : SaysP fas fnD G K) : Dk K mg fns G prog d_is_integer := by
  obtain ⟨fd, F⟩ := c.def_ 0 (d := mkD "is_integer" 2) rfl
  exact ⟨_, fd, _, _, _, F, He.glo_ok X N (c.fact (f := .glo "is_integer") (by simp [fas, fas0, fas1])), F.bindsN fun _ _ _ _ _ _ us hl => match us, hl with | [_], _ => rfl, ck_is_integer, rfl⟩
theorem dk_is_between (X : K.In h) (N : h.Ns mainGlobals mg) (c : SaysP fas fnD G K) : Dk K mg fns G prog d_is_between := by
  obtain ⟨fd, F⟩ := c.def_ 1 (d := mkD "is_between" 3) rfl
  exact ⟨_, fd, _, _, _, F, He.glo_ok X N (c.fact (f := .glo "is_between") (by simp [fas, fas0, fas1])), F.bindsN fun _ _ _ _ _ _ us hl => match us, hl with | [_, _, _], _ => rfl, ck_is_between, rfl⟩
theorem dk_is_row (X : K.In h) (N : h.Ns mainGlobals mg) (c : SaysP fas fnD G K) : Dk K mg fns G prog d_is_row := by
  obtain ⟨fd, F⟩ := c.def_ 2 (d := mkD "is_row" 4) rfl
  exact ⟨_, fd, _, _, _, F, He.glo_ok X N (c.fact (f := .glo "is_row") (by simp [fas, fas0, fas1])), F.bindsN fun _ _ _ _ _ _ us hl => match us, hl with | [_, _], _ => rfl, ck_is_row, rfl⟩
theorem dk_is_ascending (X : K.In h) (N : h.Ns mainGlobals mg) (c : SaysP fas fnD G K) : Dk K mg fns G prog d_is_ascending := by
  obtain ⟨fd, F⟩ := c.def_ 3 (d := mkD "is_ascending" 5) rfl
  exact ⟨_, fd, _, _, _, F, He.glo_ok X N (c.fact (f := .glo "is_ascending") (by simp [fas, fas0, fas1])), F.bindsN fun _ _ _ _ _ _ us hl => match us, hl with | [_], _ => rfl, ck_is_ascending, rfl⟩
theorem dk_is_name (X : K.In h) (N : h.Ns mainGlobals mg) (c : SaysP fas fnD G K) : Dk K mg fns G prog d_is_name := by
  obtain ⟨fd, F⟩ := c.def_ 4 (d := mkD "is_name" 6) rfl
  exact ⟨_, fd, _, _, _, F, He.glo_ok X N (c.fact (f := .glo "is_name") (by simp [fas, fas0, fas1])), F.bindsN fun _ _ _ _ _ _ us hl => match us, hl with | [_], _ => rfl, ck_is_name, rfl⟩
theorem dk_are_names (X : K.In h) (N : h.Ns mainGlobals mg) (c : SaysP fas fnD G K) : Dk K mg fns G prog d_are_names := by
  obtain ⟨fd, F⟩ := c.def_ 5 (d := mkD "are_names" 7) rfl
  exact ⟨_, fd, _, _, _, F, He.glo_ok X N (c.fact (f := .glo "are_names") (by simp [fas, fas0, fas1])), F.bindsN fun _ _ _ _ _ _ us hl => match us, hl with | [_], _ => rfl, ck_are_names, rfl⟩
theorem dk_is_worth (X : K.In h) (N : h.Ns mainGlobals mg) (c : SaysP fas fnD G K) : Dk K mg fns G prog d_is_worth := by
  obtain ⟨fd, F⟩ := c.def_ 6 (d := mkD "is_worth" 8) rfl
  exact ⟨_, fd, _, _, _, F, He.glo_ok X N (c.fact (f := .glo "is_worth") (by simp [fas, fas0, fas1])), F.bindsN fun _ _ _ _ _ _ us hl => match us, hl with | [_, _], _ => rfl, ck_is_worth, rfl⟩
theorem dk_is_worth_or_none (X : K.In h) (N : h.Ns mainGlobals mg) (c : SaysP fas fnD G K) : Dk K mg fns G prog d_is_worth_or_none := by
  obtain ⟨fd, F⟩ := c.def_ 7 (d := mkD "is_worth_or_none" 9) rfl
  exact ⟨_, fd, _, _, _, F, He.glo_ok X N (c.fact (f := .glo "is_worth_or_none") (by simp [fas, fas0, fas1])), F.bindsN fun _ _ _ _ _ _ us hl => match us, hl with | [_, _], _ => rfl, ck_is_worth_or_none, rfl⟩
theorem dk_is_form (X : K.In h) (N : h.Ns mainGlobals mg) (c : SaysP fas fnD G K) : Dk K mg fns G prog d_is_form := by
  obtain ⟨fd, F⟩ := c.def_ 8 (d := mkD "is_form" 12) rfl
  exact ⟨_, fd, _, _, _, F, He.glo_ok X N (c.fact (f := .glo "is_form") (by simp [fas, fas0, fas1])), F.bindsN fun _ _ _ _ _ _ us hl => match us, hl with | [_, _], _ => rfl, ck_is_form, rfl⟩
theorem dk_is_table (X : K.In h) (N : h.Ns mainGlobals mg) (c : SaysP fas fnD G K) : Dk K mg fns G prog d_is_table := by
  obtain ⟨fd, F⟩ := c.def_ 9 (d := mkD "is_table" 13) rfl
  exact ⟨_, fd, _, _, _, F, He.glo_ok X N (c.fact (f := .glo "is_table") (by simp [fas, fas0, fas1])), F.bindsN fun _ _ _ _ _ _ us hl => match us, hl with | [_, _], _ => rfl, ck_is_table, rfl⟩
theorem dk_is_pairing (X : K.In h) (N : h.Ns mainGlobals mg) (c : SaysP fas fnD G K) : Dk K mg fns G prog d_is_pairing := by
  obtain ⟨fd, F⟩ := c.def_ 10 (d := mkD "is_pairing" 14) rfl
  exact ⟨_, fd, _, _, _, F, He.glo_ok X N (c.fact (f := .glo "is_pairing") (by simp [fas, fas0, fas1])), F.bindsN fun _ _ _ _ _ _ us hl => match us, hl with | [_], _ => rfl, ck_is_pairing, rfl⟩
theorem dk_names_in (X : K.In h) (N : h.Ns mainGlobals mg) (c : SaysP fas fnD G K) : Dk K mg fns G prog d_names_in := by
  obtain ⟨fd, F⟩ := c.def_ 11 (d := mkD "names_in" 15) rfl
  exact ⟨_, fd, _, _, _, F, He.glo_ok X N (c.fact (f := .glo "names_in") (by simp [fas, fas0, fas1])), F.bindsN fun _ _ _ _ _ _ us hl => match us, hl with | [_], _ => rfl, ck_names_in, rfl⟩
theorem dk_net_fault (X : K.In h) (N : h.Ns mainGlobals mg) (c : SaysP fas fnD G K) : Dk K mg fns G prog d_net_fault := by
  obtain ⟨fd, F⟩ := c.def_ 12 (d := mkD "net_fault" 20) rfl
  exact ⟨_, fd, _, _, _, F, He.glo_ok X N (c.fact (f := .glo "net_fault") (by simp [fas, fas0, fas1])), F.bindsN fun _ _ _ _ _ _ us hl => match us, hl with | [_], _ => rfl, ck_net_fault, rfl⟩
theorem dk_are_cells (X : K.In h) (N : h.Ns mainGlobals mg) (c : SaysP fas fnD G K) : Dk K mg fns G prog d_are_cells := by
  obtain ⟨fd, F⟩ := c.def_ 13 (d := mkD "are_cells" 21) rfl
  exact ⟨_, fd, _, _, _, F, He.glo_ok X N (c.fact (f := .glo "are_cells") (by simp [fas, fas0, fas1])), F.bindsN fun _ _ _ _ _ _ us hl => match us, hl with | [_], _ => rfl, ck_are_cells, rfl⟩
theorem dk_cell_names (X : K.In h) (N : h.Ns mainGlobals mg) (c : SaysP fas fnD G K) : Dk K mg fns G prog d_cell_names := by
  obtain ⟨fd, F⟩ := c.def_ 14 (d := mkD "cell_names" 22) rfl
  exact ⟨_, fd, _, _, _, F, He.glo_ok X N (c.fact (f := .glo "cell_names") (by simp [fas, fas0, fas1])), F.bindsN fun _ _ _ _ _ _ us hl => match us, hl with | [_], _ => rfl, ck_cell_names, rfl⟩
theorem dk_form_table (X : K.In h) (N : h.Ns mainGlobals mg) (c : SaysP fas fnD G K) : Dk K mg fns G prog d_form_table := by
  obtain ⟨fd, F⟩ := c.def_ 15 (d := mkD "form_table" 23) rfl
  exact ⟨_, fd, _, _, _, F, He.glo_ok X N (c.fact (f := .glo "form_table") (by simp [fas, fas0, fas1])), F.bindsN fun _ _ _ _ _ _ us hl => match us, hl with | [_], _ => rfl, ck_form_table, rfl⟩
theorem dk_now_names (X : K.In h) (N : h.Ns mainGlobals mg) (c : SaysP fas fnD G K) : Dk K mg fns G prog d_now_names := by
  obtain ⟨fd, F⟩ := c.def_ 16 (d := mkD "now_names" 24) rfl
  exact ⟨_, fd, _, _, _, F, He.glo_ok X N (c.fact (f := .glo "now_names") (by simp [fas, fas0, fas1])), F.bindsN fun _ _ _ _ _ _ us hl => match us, hl with | [_], _ => rfl, ck_now_names, rfl⟩
theorem dk_order_of (X : K.In h) (N : h.Ns mainGlobals mg) (c : SaysP fas fnD G K) : Dk K mg fns G prog d_order_of := by
  obtain ⟨fd, F⟩ := c.def_ 17 (d := mkD "order_of" 25) rfl
  exact ⟨_, fd, _, _, _, F, He.glo_ok X N (c.fact (f := .glo "order_of") (by simp [fas, fas0, fas1])), F.bindsN fun _ _ _ _ _ _ us hl => match us, hl with | [_], _ => rfl, ck_order_of, rfl⟩
theorem dk_reached_from (X : K.In h) (N : h.Ns mainGlobals mg) (c : SaysP fas fnD G K) : Dk K mg fns G prog d_reached_from := by
  obtain ⟨fd, F⟩ := c.def_ 18 (d := mkD "reached_from" 26) rfl
  exact ⟨_, fd, _, _, _, F, He.glo_ok X N (c.fact (f := .glo "reached_from") (by simp [fas, fas0, fas1])), F.bindsN fun _ _ _ _ _ _ us hl => match us, hl with | [_, _], _ => rfl, ck_reached_from, rfl⟩
theorem dk_is_sound (X : K.In h) (N : h.Ns mainGlobals mg) (c : SaysP fas fnD G K) : Dk K mg fns G prog d_is_sound := by
  obtain ⟨fd, F⟩ := c.def_ 19 (d := mkD "is_sound" 27) rfl
  exact ⟨_, fd, _, _, _, F, He.glo_ok X N (c.fact (f := .glo "is_sound") (by simp [fas, fas0, fas1])), F.bindsN fun _ _ _ _ _ _ us hl => match us, hl with | [_], _ => rfl, ck_is_sound, rfl⟩
theorem dk_event_fault (X : K.In h) (N : h.Ns mainGlobals mg) (c : SaysP fas fnD G K) : Dk K mg fns G prog d_event_fault := by
  obtain ⟨fd, F⟩ := c.def_ 20 (d := mkD "event_fault" 28) rfl
  exact ⟨_, fd, _, _, _, F, He.glo_ok X N (c.fact (f := .glo "event_fault") (by simp [fas, fas0, fas1])), F.bindsN fun _ _ _ _ _ _ us hl => match us, hl with | [_, _], _ => rfl, ck_event_fault, rfl⟩
theorem dk__law_digits (X : K.In h) (N : h.Ns mainGlobals mg) (c : SaysP fas fnD G K) : Dk K mg fns G prog d__law_digits := by
  obtain ⟨fd, F⟩ := c.def_ 21 (d := mkD "_law_digits" 30) rfl
  exact ⟨_, fd, _, _, _, F, He.glo_ok X N (c.fact (f := .glo "_law_digits") (by simp [fas, fas0, fas1])), F.bindsN fun _ _ _ _ _ _ us hl => match us, hl with | [_, _], _ => rfl, ck__law_digits, rfl⟩
theorem dk__law_box (X : K.In h) (N : h.Ns mainGlobals mg) (c : SaysP fas fnD G K) : Dk K mg fns G prog d__law_box := by
  obtain ⟨fd, F⟩ := c.def_ 22 (d := mkD "_law_box" 31) rfl
  exact ⟨_, fd, _, _, _, F, He.glo_ok X N (c.fact (f := .glo "_law_box") (by simp [fas, fas0, fas1])), F.bindsN fun _ _ _ _ _ _ us hl => match us, hl with | [_], _ => rfl, ck__law_box, rfl⟩
theorem dk__law_take (X : K.In h) (N : h.Ns mainGlobals mg) (c : SaysP fas fnD G K) : Dk K mg fns G prog d__law_take := by
  obtain ⟨fd, F⟩ := c.def_ 23 (d := mkD "_law_take" 32) rfl
  exact ⟨_, fd, _, _, _, F, He.glo_ok X N (c.fact (f := .glo "_law_take") (by simp [fas, fas0, fas1])), F.bindsN fun _ _ _ _ _ _ us hl => match us, hl with | [_, _], _ => rfl, ck__law_take, rfl⟩
theorem dk__law_pick (X : K.In h) (N : h.Ns mainGlobals mg) (c : SaysP fas fnD G K) : Dk K mg fns G prog d__law_pick := by
  obtain ⟨fd, F⟩ := c.def_ 24 (d := mkD "_law_pick" 33) rfl
  exact ⟨_, fd, _, _, _, F, He.glo_ok X N (c.fact (f := .glo "_law_pick") (by simp [fas, fas0, fas1])), F.bindsN fun _ _ _ _ _ _ us hl => match us, hl with | [_, _], _ => rfl, ck__law_pick, rfl⟩
theorem dk__law_whole (X : K.In h) (N : h.Ns mainGlobals mg) (c : SaysP fas fnD G K) : Dk K mg fns G prog d__law_whole := by
  obtain ⟨fd, F⟩ := c.def_ 25 (d := mkD "_law_whole" 34) rfl
  exact ⟨_, fd, _, _, _, F, He.glo_ok X N (c.fact (f := .glo "_law_whole") (by simp [fas, fas0, fas1])), F.bindsN fun _ _ _ _ _ _ us hl => match us, hl with | [_], _ => rfl, ck__law_whole, rfl⟩
theorem dk__law_rising (X : K.In h) (N : h.Ns mainGlobals mg) (c : SaysP fas fnD G K) : Dk K mg fns G prog d__law_rising := by
  obtain ⟨fd, F⟩ := c.def_ 26 (d := mkD "_law_rising" 35) rfl
  exact ⟨_, fd, _, _, _, F, He.glo_ok X N (c.fact (f := .glo "_law_rising") (by simp [fas, fas0, fas1])), F.bindsN fun _ _ _ _ _ _ us hl => match us, hl with | [_], _ => rfl, ck__law_rising, rfl⟩
theorem dk__law_some (X : K.In h) (N : h.Ns mainGlobals mg) (c : SaysP fas fnD G K) : Dk K mg fns G prog d__law_some := by
  obtain ⟨fd, F⟩ := c.def_ 27 (d := mkD "_law_some" 36) rfl
  exact ⟨_, fd, _, _, _, F, He.glo_ok X N (c.fact (f := .glo "_law_some") (by simp [fas, fas0, fas1])), F.bindsN fun _ _ _ _ _ _ us hl => match us, hl with | [_, _, _], _ => rfl, ck__law_some, rfl⟩
theorem dk__law_names (X : K.In h) (N : h.Ns mainGlobals mg) (c : SaysP fas fnD G K) : Dk K mg fns G prog d__law_names := by
  obtain ⟨fd, F⟩ := c.def_ 28 (d := mkD "_law_names" 37) rfl
  exact ⟨_, fd, _, _, _, F, He.glo_ok X N (c.fact (f := .glo "_law_names") (by simp [fas, fas0, fas1])), F.bindsN fun _ _ _ _ _ _ us hl => match us, hl with | [_, _], _ => rfl, ck__law_names, rfl⟩
theorem dk__law_form (X : K.In h) (N : h.Ns mainGlobals mg) (c : SaysP fas fnD G K) : Dk K mg fns G prog d__law_form := by
  obtain ⟨fd, F⟩ := c.def_ 29 (d := mkD "_law_form" 38) rfl
  exact ⟨_, fd, _, _, _, F, He.glo_ok X N (c.fact (f := .glo "_law_form") (by simp [fas, fas0, fas1])), F.bindsN fun _ _ _ _ _ _ us hl => match us, hl with | [_, _, _], _ => rfl, ck__law_form, rfl⟩
theorem dk__law_names_in (X : K.In h) (N : h.Ns mainGlobals mg) (c : SaysP fas fnD G K) : Dk K mg fns G prog d__law_names_in := by
  obtain ⟨fd, F⟩ := c.def_ 30 (d := mkD "_law_names_in" 39) rfl
  exact ⟨_, fd, _, _, _, F, He.glo_ok X N (c.fact (f := .glo "_law_names_in") (by simp [fas, fas0, fas1])), F.bindsN fun _ _ _ _ _ _ us hl => match us, hl with | [_], _ => rfl, ck__law_names_in, rfl⟩
theorem dk__law_under (X : K.In h) (N : h.Ns mainGlobals mg) (c : SaysP fas fnD G K) : Dk K mg fns G prog d__law_under := by
  obtain ⟨fd, F⟩ := c.def_ 31 (d := mkD "_law_under" 40) rfl
  exact ⟨_, fd, _, _, _, F, He.glo_ok X N (c.fact (f := .glo "_law_under") (by simp [fas, fas0, fas1])), F.bindsN fun _ _ _ _ _ _ us hl => match us, hl with | [_, _], _ => rfl, ck__law_under, rfl⟩
theorem dk__law_order (X : K.In h) (N : h.Ns mainGlobals mg) (c : SaysP fas fnD G K) : Dk K mg fns G prog d__law_order := by
  obtain ⟨fd, F⟩ := c.def_ 32 (d := mkD "_law_order" 41) rfl
  exact ⟨_, fd, _, _, _, F, He.glo_ok X N (c.fact (f := .glo "_law_order") (by simp [fas, fas0, fas1])), F.bindsN fun _ _ _ _ _ _ us hl => match us, hl with | [_], _ => rfl, ck__law_order, rfl⟩
theorem dk__law_sound (X : K.In h) (N : h.Ns mainGlobals mg) (c : SaysP fas fnD G K) : Dk K mg fns G prog d__law_sound := by
  obtain ⟨fd, F⟩ := c.def_ 33 (d := mkD "_law_sound" 42) rfl
  exact ⟨_, fd, _, _, _, F, He.glo_ok X N (c.fact (f := .glo "_law_sound") (by simp [fas, fas0, fas1])), F.bindsN fun _ _ _ _ _ _ us hl => match us, hl with | [_], _ => rfl, ck__law_sound, rfl⟩
theorem dk__law_net (X : K.In h) (N : h.Ns mainGlobals mg) (c : SaysP fas fnD G K) : Dk K mg fns G prog d__law_net := by
  obtain ⟨fd, F⟩ := c.def_ 34 (d := mkD "_law_net" 43) rfl
  exact ⟨_, fd, _, _, _, F, He.glo_ok X N (c.fact (f := .glo "_law_net") (by simp [fas, fas0, fas1])), F.bindsN fun _ _ _ _ _ _ us hl => match us, hl with | [_, _, _, _, _], _ => rfl, ck__law_net, rfl⟩
theorem dk__law_event (X : K.In h) (N : h.Ns mainGlobals mg) (c : SaysP fas fnD G K) : Dk K mg fns G prog d__law_event := by
  obtain ⟨fd, F⟩ := c.def_ 35 (d := mkD "_law_event" 44) rfl
  exact ⟨_, fd, _, _, _, F, He.glo_ok X N (c.fact (f := .glo "_law_event") (by simp [fas, fas0, fas1])), F.bindsN fun _ _ _ _ _ _ us hl => match us, hl with | [_, _], _ => rfl, ck__law_event, rfl⟩
theorem dk__law_worth (X : K.In h) (N : h.Ns mainGlobals mg) (c : SaysP fas fnD G K) : Dk K mg fns G prog d__law_worth := by
  obtain ⟨fd, F⟩ := c.def_ 36 (d := mkD "_law_worth" 45) rfl
  exact ⟨_, fd, _, _, _, F, He.glo_ok X N (c.fact (f := .glo "_law_worth") (by simp [fas, fas0, fas1])), F.bindsN fun _ _ _ _ _ _ us hl => match us, hl with | [_, _], _ => rfl, ck__law_worth, rfl⟩
theorem dk__law_is_event (X : K.In h) (N : h.Ns mainGlobals mg) (c : SaysP fas fnD G K) : Dk K mg fns G prog d__law_is_event := by
  obtain ⟨fd, F⟩ := c.def_ 37 (d := mkD "_law_is_event" 46) rfl
  exact ⟨_, fd, _, _, _, F, He.glo_ok X N (c.fact (f := .glo "_law_is_event") (by simp [fas, fas0, fas1])), F.bindsN fun _ _ _ _ _ _ us hl => match us, hl with | [_, _], _ => rfl, ck__law_is_event, rfl⟩
theorem dk__law_turned (X : K.In h) (N : h.Ns mainGlobals mg) (c : SaysP fas fnD G K) : Dk K mg fns G prog d__law_turned := by
  obtain ⟨fd, F⟩ := c.def_ 38 (d := mkD "_law_turned" 47) rfl
  exact ⟨_, fd, _, _, _, F, He.glo_ok X N (c.fact (f := .glo "_law_turned") (by simp [fas, fas0, fas1])), F.bindsN fun _ _ _ _ _ _ us hl => match us, hl with | [_, _], _ => rfl, ck__law_turned, rfl⟩
theorem dk_law (X : K.In h) (N : h.Ns mainGlobals mg) (c : SaysP fas fnD G K) : Dk K mg fns G prog d_law := by
  obtain ⟨fd, F⟩ := c.def_ 39 (d := mkD "law" 48) rfl
  exact ⟨_, fd, _, _, _, F, He.glo_ok X N (c.fact (f := .glo "law") (by simp [fas, fas0, fas1])), F.bindsN fun _ _ _ _ _ _ us hl => match us, hl with | [_], _ => rfl, ck_law, rfl⟩
theorem dks0 (X : K.In h) (N : h.Ns mainGlobals mg) (c : SaysP fas fnD G K) : ∀ d ∈ dfns0, Dk K mg fns G prog d := List.forall_mem_cons.mpr ⟨dk_is_integer X N c, List.forall_mem_cons.mpr ⟨dk_is_between X N c, List.forall_mem_cons.mpr ⟨dk_is_row X N c, List.forall_mem_cons.mpr ⟨dk_is_ascending X N c, List.forall_mem_cons.mpr ⟨dk_is_name X N c, List.forall_mem_cons.mpr ⟨dk_are_names X N c, List.forall_mem_cons.mpr ⟨dk_is_worth X N c, List.forall_mem_cons.mpr ⟨dk_is_worth_or_none X N c, List.forall_mem_cons.mpr ⟨dk_is_form X N c, List.forall_mem_cons.mpr ⟨dk_is_table X N c, List.forall_mem_cons.mpr ⟨dk_is_pairing X N c, List.forall_mem_cons.mpr ⟨dk_names_in X N c, List.forall_mem_cons.mpr ⟨dk_net_fault X N c, List.forall_mem_cons.mpr ⟨dk_are_cells X N c, List.forall_mem_cons.mpr ⟨dk_cell_names X N c, List.forall_mem_cons.mpr ⟨dk_form_table X N c, List.forall_mem_cons.mpr ⟨dk_now_names X N c, List.forall_mem_cons.mpr ⟨dk_order_of X N c, List.forall_mem_cons.mpr ⟨dk_reached_from X N c, List.forall_mem_cons.mpr ⟨dk_is_sound X N c, List.forall_mem_cons.mpr ⟨dk_event_fault X N c, List.forall_mem_cons.mpr ⟨dk__law_digits X N c, List.forall_mem_cons.mpr ⟨dk__law_box X N c, List.forall_mem_cons.mpr ⟨dk__law_take X N c, List.forall_mem_cons.mpr ⟨dk__law_pick X N c, List.forall_mem_cons.mpr ⟨dk__law_whole X N c, List.forall_mem_cons.mpr ⟨dk__law_rising X N c, List.forall_mem_cons.mpr ⟨dk__law_some X N c, List.forall_mem_cons.mpr ⟨dk__law_names X N c, List.forall_mem_cons.mpr ⟨dk__law_form X N c, List.forall_mem_nil _⟩⟩⟩⟩⟩⟩⟩⟩⟩⟩⟩⟩⟩⟩⟩⟩⟩⟩⟩⟩⟩⟩⟩⟩⟩⟩⟩⟩⟩⟩
theorem dks1 (X : K.In h) (N : h.Ns mainGlobals mg) (c : SaysP fas fnD G K) : ∀ d ∈ dfns1, Dk K mg fns G prog d := List.forall_mem_cons.mpr ⟨dk__law_names_in X N c, List.forall_mem_cons.mpr ⟨dk__law_under X N c, List.forall_mem_cons.mpr ⟨dk__law_order X N c, List.forall_mem_cons.mpr ⟨dk__law_sound X N c, List.forall_mem_cons.mpr ⟨dk__law_net X N c, List.forall_mem_cons.mpr ⟨dk__law_event X N c, List.forall_mem_cons.mpr ⟨dk__law_worth X N c, List.forall_mem_cons.mpr ⟨dk__law_is_event X N c, List.forall_mem_cons.mpr ⟨dk__law_turned X N c, List.forall_mem_cons.mpr ⟨dk_law X N c, List.forall_mem_nil _⟩⟩⟩⟩⟩⟩⟩⟩⟩⟩
theorem dks (X : K.In h) (N : h.Ns mainGlobals mg) (c : SaysP fas fnD G K) : ∀ d ∈ dfns, Dk K mg fns G prog d := fun d hd => (List.mem_append.mp hd).elim (dks0 X N c d) (dks1 X N c d)
theorem fns_eq : fns = dfns.map (·.name) := rfl
theorem free_in : ∀ x ∈ bltNames, He.Fa.free x ∈ fas := freeC_ok (by decide +kernel)
theorem all_ok (X : K.In h) (N : h.Ns mainGlobals mg) (c : SaysP fas fnD G K) : ∀ f ∈ fns, ∃ d : Dfn, d.name = f ∧ Dk K mg fns G prog d := by
  intro f hf
  rw [fns_eq] at hf
  obtain ⟨d, hd, e⟩ := List.mem_map.mp hf
  exact ⟨d, e, dks X N c d hd⟩
theorem lookup_mem {x : Str} {v : Val} : ∀ {l : List (Str × Val)}, l.lookup x = some v → (x, v) ∈ l
  | [], h => by cases h
  | (y, u) :: r, h => by
    rw [List.lookup_cons] at h
    split at h
    · rename_i e
      cases h
      rw [eq_of_beq e]
      exact List.mem_cons_self
    · exact List.mem_cons_of_mem _ (lookup_mem h)
theorem facts {P : Program} {w : World} {f : Addr} (X : K.In h) (N : h.Ns mainGlobals mg) (hfa : mg ("law" : Str) = some (.ref f)) (c : SaysP fas fnD G K) :
    ∃ fd : FuncData, (∀ (s : Shared) (v : Value), BindsTo s fd ⟨[v], []⟩ [("script", v)]) ∧ ∀ base : Heap, K.In base → base.Ns mainGlobals mg → FnOk P w K mg base CX0 60 f fd ["script"] (spF K (callN prog 60) "law") := by
  obtain ⟨fd, F⟩ := c.def_ 39 (d := mkD "law" 48) rfl
  have e := hfa.symm.trans (He.glo_ok X N (c.fact (f := .glo "law") (by simp [fas, fas0, fas1])))
  cases e
  have b := FunD.bindsA (ps := ["script"]) F fun _ _ _ _ _ _ us hl => match us, hl with | [_], _ => rfl
  refine ⟨fd, fun s v => b s [v] rfl, fun base KB NB => ?_⟩
  exact level_one (n := 59) (level (all_ok X N c) (fun x hx => He.free_ok X N (c.fact (free_in x hx))) (fun x v hv => con_glo X N (c.con (lookup_mem hv))) 59) (fun x hx => He.free_ok X N (c.fact (free_in x hx))) (fun x v hv => con_glo X N (c.con (lookup_mem hv))) d_law F ck_law rfl
end
end PV
end

section
set_option Elab.async false
set_option linter.all false
set_option maxRecDepth 100000
set_option maxHeartbeats 1000000
namespace PV
open PySem L2
theorem callN_at {prog : Prog} {f : Str} {fn : Fn} (h : prog.lookup f = some fn) (n : Nat) (vs : List Val) (st : Store) : callN prog (n + 1) f vs st = runF (callN prog n) fn vs st := by
  simp only [callN, h]
theorem lk_take : List.lookup ("_law_take" : Str) prog = some d__law_take.fn := rfl
theorem lk_pick : List.lookup ("_law_pick" : Str) prog = some d__law_pick.fn := rfl
theorem lk_digits : List.lookup ("_law_digits" : Str) prog = some d__law_digits.fn := rfl
theorem lk_box : List.lookup ("_law_box" : Str) prog = some d__law_box.fn := rfl
theorem leave_same {v : Val} {st : Store} : leave st.length (.ok v st) = .ok v st := by simp [leave]
theorem leave_len {n : Nat} {v : Val} {st : Store} (h : st.length = n) : leave n (.ok v st) = .ok v st := by simp [leave, h]
theorem tru_bl (st : Store) (b : Bool) : truV st (.bl b) = some b := rfl
/-! ### draws -/
/-- the box of the numbers to be drawn -/
def boxO (row : List Int) (at_ : Int) : Obj := .dK [(.inr "row", .ls (row.map Val.int)), (.inr "at", .int at_)]
def BoxAt (st : Store) (a : Nat) : Prop := ∃ row at_, st[a]? = some (boxO row at_) ∧ 0 ≤ at_ ∧ 0 < row.length ∧ row.length ≤ 1000
/-- only the box has gone on -/
def Drawn (st : Store) (a : Nat) (st' : Store) : Prop := ∃ row at_, st' = st.set a (boxO row at_) ∧ BoxAt st' a
theorem key_ne : ((Sum.inr ("row" : Str) : Key) = .inr "at") = False := by simp; decide
theorem key_ne2 : ((Sum.inr ("at" : Str) : Key) = .inr "row") = False := by simp; decide
theorem box_at {st : Store} {a : Nat} {row : List Int} {i : Int} (h : st[a]? = some (boxO row i)) : itemV st (.ref a) (.str "at") = some (.int i) := by
  simp only [itemV, isDict, h, boxO, dictGet, keyOf, look, Option.map_some, List.find?_cons, key_ne, decide_false, decide_true, Option.bind_some, id]
theorem box_row {st : Store} {a : Nat} {row : List Int} {i : Int} (h : st[a]? = some (boxO row i)) : itemV st (.ref a) (.str "row") = some (.ls (row.map Val.int)) := by
  simp only [itemV, isDict, h, boxO, dictGet, keyOf, look, Option.map_some, List.find?_cons, decide_true, Option.bind_some, id]
theorem box_set {st : Store} {a : Nat} {row : List Int} {i j : Int} (h : st[a]? = some (boxO row i)) : setV st (.ref a) (.str "at") (.int j) = .ok () (st.set a (boxO row j)) := by
  simp only [setV, h, boxO, keyOf, put, List.any_cons, List.any_nil, key_ne, decide_false, decide_true, Bool.or_false, Bool.false_or, if_true, List.map_cons, List.map_nil, if_false, List.length_cons, List.length_nil]
  rfl
theorem int_item (row : List Int) (st : Store) {k : Int} (h0 : 0 ≤ k) (h1 : k < row.length) : ∃ r, itemV st (.ls (row.map Val.int)) (.int k) = some (.int r) := by
  have e : ixAt (row.map Val.int).length k = some k.toNat := by
    unfold ixAt
    rw [List.length_map, if_pos h0, if_pos h1]
  have hk : k.toNat < row.length := by omega
  refine ⟨row[k.toNat], ?_⟩
  simp only [itemV, isDict, seqOf, e, Option.bind_some, List.getElem?_map, List.getElem?_eq_getElem hk, Option.map_some]
theorem c_take (n : Nat) (many : Int) (a : Nat) (st : Store) (h : BoxAt st a) (hm : 0 < many) :
    ∃ r st', 0 ≤ r ∧ r < many ∧ callN prog (n + 1) "_law_take" [.ref a, .int many] st = .ok (.int r) st' ∧ Drawn st a st' := by
  obtain ⟨row, at_, ha, h0, hr, hrl⟩ := h
  have hlt : a < st.length := (List.getElem?_eq_some_iff.mp ha).1
  have hpos : 0 < (row.length : Int) := by omega
  obtain ⟨x, hx⟩ := int_item row (st.set a (boxO row (at_ + 1))) (Int.emod_nonneg at_ (by omega)) (Int.emod_lt_of_pos at_ hpos)
  have e1 : (st.set a (boxO row (at_ + 1)))[a]? = some (boxO row (at_ + 1)) := by rw [List.getElem?_set_self hlt]
  refine ⟨(x + 104729 * (at_ / row.length)) % many, st.set a (boxO row (at_ + 1)), Int.emod_nonneg _ (by omega), Int.emod_lt_of_pos _ hm, ?_, row, at_ + 1, rfl, row, at_ + 1, e1, by omega, hr, hrl⟩
  rw [callN_at lk_take]
  have hs : (row.length : Int) < 1073741824 := by omega
  have c1 : opS (st.set a (boxO row (at_ + 1))) .mod (.int at_) (.int (row.length : Int)) = some (.int (at_ % row.length)) := by simp only [opS, lstOf, opV, if_pos hpos]
  have c2 : opS (st.set a (boxO row (at_ + 1))) .fdiv (.int at_) (.int (row.length : Int)) = some (.int (at_ / row.length)) := by simp only [opS, lstOf, opV, if_pos (And.intro hpos hs)]
  have c3 : ∀ (st : Store) (q : Int), opS st .mul (.int 104729) (.int q) = some (.int (104729 * q)) := fun st q => by
    simp only [opS, lstOf, opV]
    rw [if_pos (.inl (by unfold two64; omega))]
  have c4 : ∀ (st : Store) (p q : Int), opS st .add (.int p) (.int q) = some (.int (p + q)) := fun st p q => by simp only [opS, lstOf, opV]
  have c5 : ∀ (st : Store) (p : Int), opS st .mod (.int p) (.int many) = some (.int (p % many)) := fun st p => by simp only [opS, lstOf, opV, if_pos hm]
  have c6 : ∀ (st : Store) (l : List Int), b1V st .len (.ls (l.map Val.int)) = some (.int (l.length : Int)) := fun st l => by simp only [b1V, seqOf, Option.map_some, List.length_map]
  have c7 : ∀ (st : Store) (p : Int), b1V st .int (.int p) = some (.int p) := fun st p => rfl
  simp only [runF, exSs, exS, evE, evEs, R.bind_ok, R.bind_bad, R.bind_exc, ofO_some, ofO_none, bindT, setAll, List.length_cons, List.length_nil, List.map_cons, List.map_nil, List.getElem?_cons_zero, List.getElem?_cons_succ, List.cons_append, List.nil_append, List.set_cons_zero, List.set_cons_succ, Nat.zero_add, Nat.add_zero, Nat.le_refl, and_self, if_true, true_and, and_true, List.replicate_succ, List.replicate_zero, Nat.sub_self, Nat.reduceSub, Nat.reduceAdd, Nat.reduceLeDiff, Nat.reduceEqDiff, Nat.zero_le, small, tru_bl, isNon, Bool.not_true, Bool.not_false, d__law_take, box_at ha, box_set ha, box_row e1, c1, c2, c3, c4, c5, c6, c7, hx]
/-! ### the digits of a number -/
theorem op_add (st : Store) (p q : Int) : opS st .add (.int p) (.int q) = some (.int (p + q)) := by simp only [opS, lstOf, opV]
theorem op_sub (st : Store) (p q : Int) : opS st .sub (.int p) (.int q) = some (.int (p - q)) := by simp only [opS, lstOf, opV]
theorem op_mod (st : Store) (p : Int) {q : Int} (h : 0 < q) : opS st .mod (.int p) (.int q) = some (.int (p % q)) := by simp only [opS, lstOf, opV, if_pos h]
theorem op_div (st : Store) (p : Int) {q : Int} (h : 0 < q) (h2 : q < 1073741824) : opS st .fdiv (.int p) (.int q) = some (.int (p / q)) := by simp only [opS, lstOf, opV, if_pos (And.intro h h2)]
theorem op_mulR (st : Store) (p : Int) {q : Int} (h : -two64 < q) (h2 : q < two64) : opS st .mul (.int p) (.int q) = some (.int (p * q)) := by
  simp only [opS, lstOf, opV]
  rw [if_pos (.inr ⟨h, h2⟩)]
theorem op_mulL (st : Store) (q : Int) {p : Int} (h : -two64 < p) (h2 : p < two64) : opS st .mul (.int p) (.int q) = some (.int (p * q)) := by
  simp only [opS, lstOf, opV]
  rw [if_pos (.inl ⟨h, h2⟩)]
theorem eq_int (st : Store) (p q : Int) : cmpV st .eq (.int p) (.int q) = some (decide (p = q)) := by
  have h1 : shapedD (.int p) = true := rfl
  have h2 : shapedD (.int q) = true := rfl
  simp only [cmpV, eqV, dataOf, Val.data, h1, h2, Bool.and_self, if_true]
  congr 1
theorem int_int (st : Store) (p : Int) : b1V st .int (.int p) = some (.int p) := rfl
theorem app_lst (xs : List Val) (y : Val) (h : xs.length < small) : appV [.lst xs] (.ref 0) y = .ok () [.lst (xs ++ [y])] := by
  simp only [appV, List.getElem?_cons_zero, if_pos h, List.set_cons_zero]
theorem keep_int (w : Wk) (i : Int) (xs : List Val) (st : Store) : keepW w [.int i] xs st = true := by simp [keepW, noRef]
theorem dig_a1 (cf : CallF) (c0 c1 m : Option Val) (x : Val) (num : Int) (ds : List Int) (h : ds.length < 1000) :
    exSs cf b__law_digits_1 [c0, c1, some (.int num), some (.ref 0), some x, m] [.lst (ds.map Val.int)] = .ok (if num / 1000003 = 0 then .br else .nx, [c0, c1, some (.int (num / 1000003)), some (.ref 0), some x, m]) [.lst ((ds ++ [num % 1000003]).map Val.int)] := by
  have hl : (ds.map Val.int).length < small := by
    rw [List.length_map]
    have : small = 100000 := rfl
    omega
  simp only [b__law_digits_1, runF, exSs, exS, evE, evEs, R.bind_ok, R.bind_bad, R.bind_exc, ofO_some, ofO_none, bindT, setAll, List.length_cons, List.length_nil, List.map_cons, List.map_nil, List.getElem?_cons_zero, List.getElem?_cons_succ, List.cons_append, List.nil_append, List.set_cons_zero, List.set_cons_succ, Nat.zero_add, Nat.add_zero, Nat.le_refl, and_self, if_true, true_and, and_true, List.replicate_succ, List.replicate_zero, Nat.sub_self, Nat.reduceSub, Nat.reduceAdd, Nat.reduceLeDiff, Nat.reduceEqDiff, Nat.zero_le, small, tru_bl, isNon, Bool.not_true, Bool.not_false, int_int, op_mod _ _ (show (0 : Int) < 1000003 by decide), op_div _ _ (show (0 : Int) < 1000003 by decide) (show (1000003 : Int) < 1073741824 by decide), eq_int, isLst, lstOf, Option.isSome_some, app_lst _ _ hl, List.map_append]
  by_cases hz : num / 1000003 = 0 <;> simp [hz]
theorem dig_a (cf : CallF) (c0 c1 : Option Val) : ∀ (xs : List Val) (num : Int) (k m : Option Val) (ds : List Int), ds.length + xs.length < 1000 →
    ∃ (num' : Int) (k' m' : Option Val) (ds' : List Int), forL (exSs cf b__law_digits_1) (.nm 4) (keepW .range [.int 6] (rangeV 6)) xs [c0, c1, some (.int num), some (.ref 0), k, m] [.lst (ds.map Val.int)] = .ok (.nx, [c0, c1, some (.int num'), some (.ref 0), k', m']) [.lst (ds'.map Val.int)] ∧ ds'.length ≤ ds.length + xs.length ∧ (xs ≠ [] → 0 < ds'.length) ∧ ds.length ≤ ds'.length
  | [], num, k, m, ds, h => ⟨num, k, m, ds, by simp only [forL, keep_int, if_true], by simp, by simp, Nat.le_refl _⟩
  | x :: xs, num, k, m, ds, h => by
    simp only [List.length_cons] at h
    simp only [forL, keep_int, bindT, setAll, List.set_cons_zero, List.set_cons_succ, dig_a1 cf c0 c1 m x num ds (by omega), R.bind_ok]
    by_cases hz : num / 1000003 = 0
    · exact ⟨num / 1000003, some x, m, ds ++ [num % 1000003], by simp only [if_pos hz], by simp, by simp, by simp⟩
    · obtain ⟨n', k', m', ds', e, l1, l2, l3⟩ := dig_a cf c0 c1 xs (num / 1000003) (some x) m (ds ++ [num % 1000003]) (by simp; omega)
      refine ⟨n', k', m', ds', by simp only [if_neg hz]; exact e, by simp at l1 ⊢; omega, fun _ => by simp at l3; omega, by simp at l3; omega⟩
theorem dig_b1 (cf : CallF) (c0 c1 m : Option Val) (i num : Int) (ds : List Int) (h : ds.length < 1000) :
    ∃ (d : Int) (m' : Option Val), exSs cf b__law_digits_2 [c0, c1, some (.int num), some (.ref 0), some (.int i), m] [.lst (ds.map Val.int)] = .ok (.nx, [c0, c1, some (.int num), some (.ref 0), some (.int i), m']) [.lst ((ds ++ [d]).map Val.int)] := by
  have hl : (ds.map Val.int).length < small := by
    rw [List.length_map]
    have : small = 100000 := rfl
    omega
  refine ⟨((((num + 11 * i + 3) * 48271) % 2147483647 * 69621 + 37 * i + 5) % 2147483629 / 5) % 1000003, some (.int ((((num + 11 * i + 3) * 48271) % 2147483647 * 69621 + 37 * i + 5) % 2147483629)), ?_⟩
  simp only [b__law_digits_2, runF, exSs, exS, evE, evEs, R.bind_ok, R.bind_bad, R.bind_exc, ofO_some, ofO_none, bindT, setAll, List.length_cons, List.length_nil, List.map_cons, List.map_nil, List.getElem?_cons_zero, List.getElem?_cons_succ, List.cons_append, List.nil_append, List.set_cons_zero, List.set_cons_succ, Nat.zero_add, Nat.add_zero, Nat.le_refl, and_self, if_true, true_and, and_true, List.replicate_succ, List.replicate_zero, Nat.sub_self, Nat.reduceSub, Nat.reduceAdd, Nat.reduceLeDiff, Nat.reduceEqDiff, Nat.zero_le, small, tru_bl, isNon, Bool.not_true, Bool.not_false, int_int, op_add, op_mulL _ _ (show -two64 < (11 : Int) by decide) (by decide), op_mulL _ _ (show -two64 < (37 : Int) by decide) (by decide), op_mulR _ _ (show -two64 < (48271 : Int) by decide) (by decide), op_mulR _ _ (show -two64 < (69621 : Int) by decide) (by decide),
    op_mod _ _ (show (0 : Int) < 1000003 by decide), op_mod _ _ (show (0 : Int) < 2147483647 by decide), op_mod _ _ (show (0 : Int) < 2147483629 by decide), op_div _ _ (show (0 : Int) < 5 by decide) (show (5 : Int) < 1073741824 by decide), isLst, lstOf, Option.isSome_some, app_lst _ _ hl, List.map_append]
theorem dig_b (cf : CallF) (c0 c1 : Option Val) (num : Int) : ∀ (is : List Int) (k m : Option Val) (ds : List Int), ds.length + is.length < 1000 →
    ∃ (k' m' : Option Val) (ds' : List Int), forL (exSs cf b__law_digits_2) (.nm 4) (keepW .range [.int 6] (rangeV 6)) (is.map Val.int) [c0, c1, some (.int num), some (.ref 0), k, m] [.lst (ds.map Val.int)] = .ok (.nx, [c0, c1, some (.int num), some (.ref 0), k', m']) [.lst (ds'.map Val.int)] ∧ ds'.length = ds.length + is.length
  | [], k, m, ds, h => ⟨k, m, ds, by simp only [forL, keep_int, if_true, List.map_nil], by simp⟩
  | i :: is, k, m, ds, h => by
    simp only [List.length_cons] at h
    obtain ⟨d, m', e⟩ := dig_b1 cf c0 c1 m i num ds (by omega)
    obtain ⟨k', m2, ds', e2, l⟩ := dig_b cf c0 c1 num is (some (.int i)) m' (ds ++ [d]) (by simp; omega)
    refine ⟨k', m2, ds', ?_, by simp at l ⊢; omega⟩
    simp only [List.map_cons, forL, keep_int, bindT, setAll, List.set_cons_zero, List.set_cons_succ, e, R.bind_ok]
    exact e2
theorem ge_int (st : Store) (p q : Int) : cmpV st .ge (.int p) (.int q) = some (decide (q ≤ p)) := rfl
theorem lt_int (st : Store) (p q : Int) : cmpV st .lt (.int p) (.int q) = some (decide (p < q)) := rfl
theorem op_pow18 (st : Store) : opS st .pow (.int 10) (.int 18) = some (.int 1000000000000000000) := rfl
theorem walk_6 (st : Store) : walkV st .range [.int 6] = some (rangeV 6) := rfl
theorem range6 : rangeV 6 = ([0, 1, 2, 3, 4, 5] : List Int).map Val.int := rfl
theorem c_digits (n : Nat) (c : Int) : ∃ ds : List Int, callN prog (n + 1) "_law_digits" [.int c, .int 6] [] = .ok (.ref 0) [.lst (ds.map Val.int)] ∧ 0 < ds.length ∧ ds.length ≤ 6 := by
  rw [callN_at lk_digits]
  have fin : ∀ num : Int, ∃ (ds : List Int) (env : Env), (exSs (callN prog n) (d__law_digits.fn.body.drop 2) [some (.int c), some (.int 6), some (.int num), none, none, none] []) = .ok (.rt (.ref 0), env) [.lst (ds.map Val.int)] ∧ 0 < ds.length ∧ ds.length ≤ 6 := by
    intro num
    obtain ⟨n1, k1, m1, da, ea, la, pa, _⟩ := dig_a (callN prog n) (some (.int c)) (some (.int 6)) (rangeV 6) num none none [] (by decide)
    obtain ⟨k2, m2, db, eb, lb⟩ := dig_b (callN prog n) (some (.int c)) (some (.int 6)) num [0, 1, 2, 3, 4, 5] none none [] (by decide)
    rw [← range6] at eb
    change forL _ _ _ _ _ [.lst []] = _ at ea
    change forL _ _ _ _ _ [.lst []] = _ at eb
    by_cases hz : 1000000000000000000 ≤ num
    · refine ⟨da, [some (.int c), some (.int 6), some (.int n1), some (.ref 0), k1, m1], ?_, pa (by decide), la⟩
      simp only [d__law_digits, List.drop_succ_cons, List.drop_zero, runF, exSs, exS, evE, evEs, R.bind_ok, R.bind_bad, R.bind_exc, ofO_some, ofO_none, bindT, setAll, List.length_cons, List.length_nil, List.map_cons, List.map_nil, List.getElem?_cons_zero, List.getElem?_cons_succ, List.cons_append, List.nil_append, List.set_cons_zero, List.set_cons_succ, Nat.zero_add, Nat.add_zero, Nat.le_refl, and_self, if_true, true_and, and_true, List.replicate_succ, List.replicate_zero, Nat.sub_self, Nat.reduceSub, Nat.reduceAdd, Nat.reduceLeDiff, Nat.reduceEqDiff, Nat.zero_le, small, tru_bl, isNon, Bool.not_true, Bool.not_false, ownV, ge_int, op_pow18, walk_6, decide_eq_true hz, ea]
    · refine ⟨db, [some (.int c), some (.int 6), some (.int num), some (.ref 0), k2, m2], ?_, by simp at lb; omega, by simp at lb; omega⟩
      simp only [d__law_digits, List.drop_succ_cons, List.drop_zero, runF, exSs, exS, evE, evEs, R.bind_ok, R.bind_bad, R.bind_exc, ofO_some, ofO_none, bindT, setAll, List.length_cons, List.length_nil, List.map_cons, List.map_nil, List.getElem?_cons_zero, List.getElem?_cons_succ, List.cons_append, List.nil_append, List.set_cons_zero, List.set_cons_succ, Nat.zero_add, Nat.add_zero, Nat.le_refl, and_self, if_true, true_and, and_true, List.replicate_succ, List.replicate_zero, Nat.sub_self, Nat.reduceSub, Nat.reduceAdd, Nat.reduceLeDiff, Nat.reduceEqDiff, Nat.zero_le, small, tru_bl, isNon, Bool.not_true, Bool.not_false, ownV, ge_int, op_pow18, walk_6, decide_eq_false hz, eb]
  by_cases hn : c < 0
  · obtain ⟨ds, env, e, l1, l2⟩ := fin (0 - 1 - c)
    refine ⟨ds, ?_, l1, l2⟩
    simp only [d__law_digits, List.drop_succ_cons, List.drop_zero] at e
    rw [runF, if_pos ⟨rfl, by decide⟩]
    simp only [d__law_digits, exSs, exS, evE, runF, exSs, exS, evE, evEs, R.bind_ok, R.bind_bad, R.bind_exc, ofO_some, ofO_none, bindT, setAll, List.length_cons, List.length_nil, List.map_cons, List.map_nil, List.getElem?_cons_zero, List.getElem?_cons_succ, List.cons_append, List.nil_append, List.set_cons_zero, List.set_cons_succ, Nat.zero_add, Nat.add_zero, Nat.le_refl, and_self, if_true, true_and, and_true, List.replicate_succ, List.replicate_zero, Nat.sub_self, Nat.reduceSub, Nat.reduceAdd, Nat.reduceLeDiff, Nat.reduceEqDiff, Nat.zero_le, small, tru_bl, isNon, Bool.not_true, Bool.not_false, lt_int, decide_eq_true hn, op_sub] at e ⊢
    rw [e]
    simp only [runF, exSs, exS, evE, evEs, R.bind_ok, R.bind_bad, R.bind_exc, ofO_some, ofO_none, bindT, setAll, List.length_cons, List.length_nil, List.map_cons, List.map_nil, List.getElem?_cons_zero, List.getElem?_cons_succ, List.cons_append, List.nil_append, List.set_cons_zero, List.set_cons_succ, Nat.zero_add, Nat.add_zero, Nat.le_refl, and_self, if_true, true_and, and_true, List.replicate_succ, List.replicate_zero, Nat.sub_self, Nat.reduceSub, Nat.reduceAdd, Nat.reduceLeDiff, Nat.reduceEqDiff, Nat.zero_le, small, tru_bl, isNon, Bool.not_true, Bool.not_false]
  · obtain ⟨ds, env, e, l1, l2⟩ := fin c
    refine ⟨ds, ?_, l1, l2⟩
    simp only [d__law_digits, List.drop_succ_cons, List.drop_zero] at e
    rw [runF, if_pos ⟨rfl, by decide⟩]
    simp only [d__law_digits, exSs, exS, evE, runF, exSs, exS, evE, evEs, R.bind_ok, R.bind_bad, R.bind_exc, ofO_some, ofO_none, bindT, setAll, List.length_cons, List.length_nil, List.map_cons, List.map_nil, List.getElem?_cons_zero, List.getElem?_cons_succ, List.cons_append, List.nil_append, List.set_cons_zero, List.set_cons_succ, Nat.zero_add, Nat.add_zero, Nat.le_refl, and_self, if_true, true_and, and_true, List.replicate_succ, List.replicate_zero, Nat.sub_self, Nat.reduceSub, Nat.reduceAdd, Nat.reduceLeDiff, Nat.reduceEqDiff, Nat.zero_le, small, tru_bl, isNon, Bool.not_true, Bool.not_false, lt_int, decide_eq_false hn] at e ⊢
    rw [e]
    simp only [runF, exSs, exS, evE, evEs, R.bind_ok, R.bind_bad, R.bind_exc, ofO_some, ofO_none, bindT, setAll, List.length_cons, List.length_nil, List.map_cons, List.map_nil, List.getElem?_cons_zero, List.getElem?_cons_succ, List.cons_append, List.nil_append, List.set_cons_zero, List.set_cons_succ, Nat.zero_add, Nat.add_zero, Nat.le_refl, and_self, if_true, true_and, and_true, List.replicate_succ, List.replicate_zero, Nat.sub_self, Nat.reduceSub, Nat.reduceAdd, Nat.reduceLeDiff, Nat.reduceEqDiff, Nat.zero_le, small, tru_bl, isNon, Bool.not_true, Bool.not_false]
/-! ### the box -/
theorem thaw_ints (st : Store) : ∀ (l : List Int) (fuel : Nat), l.length < fuel → thawAll fuel st 0 (l.map Val.int) = some (l.map Val.int)
  | [], 0, h => by cases h
  | [], k + 1, _ => rfl
  | _ :: _, 0, h => by cases h
  | _ :: _, 1, h => by simp at h
  | i :: r, k + 2, h => by
    have e1 : thaw (k + 1) st 0 (.int i) = some (.int i) := rfl
    have e2 := thaw_ints st r (k + 1) (by simp at h; omega)
    show (match thaw (k + 1) st 0 (.int i), thawAll (k + 1) st 0 (r.map Val.int) with
      | some y, some ys => some (y :: ys)
      | _, _ => none) = _
    rw [e1, e2]
    rfl
theorem thaw_lst (ds : List Int) (h : ds.length ≤ 1000) : thaw 100000 [.lst (ds.map Val.int)] 0 (.ref 0) = some (.ls (ds.map Val.int)) := by
  show (thawAll 99999 [.lst (ds.map Val.int)] 0 (ds.map Val.int)).map Val.ls = _
  rw [thaw_ints _ ds 99999 (by omega)]
  rfl
theorem c_digitsV (n : Nat) (c : Int) (st : Store) : ∃ ds : List Int, callV (callN prog (n + 1)) "_law_digits" [.int c, .int 6] st = .ok (.ls (ds.map Val.int)) st ∧ 0 < ds.length ∧ ds.length ≤ 6 := by
  obtain ⟨ds, e, l1, l2⟩ := c_digits n c
  refine ⟨ds, ?_, l1, l2⟩
  have hp : pureAll [.int c, .int 6] = true := rfl
  have hu : allUnder 0 [.lst (ds.map Val.int)] = true := rfl
  simp only [callV, hp, e, leave, List.length_cons, List.length_nil, hu, thaw_lst ds (by omega)]
  simp
theorem op_cat (st : Store) (a b : List Int) (h : a.length + b.length ≤ 100000) : opS st .add (.ls (a.map Val.int)) (.ls (b.map Val.int)) = some (.ls ((a ++ b).map Val.int)) := by
  simp only [opS, lstOf, List.length_map, if_pos h, List.map_append]
theorem len_ls (st : Store) (l : List Int) : b1V st .len (.ls (l.map Val.int)) = some (.int (l.length : Int)) := by simp only [b1V, seqOf, Option.map_some, List.length_map]
theorem keep_sc (w : Wk) (l : List Val) (xs : List Val) (st : Store) : keepW w [.sc l] xs st = true := by simp [keepW, noRef]
theorem box_loop (n : Nat) (c0 : Option Val) (sc l0 : List Val) : ∀ (ns : List Int) (k : Option Val) (row : List Int), row.length + 6 * ns.length ≤ 900 →
    ∃ (k' : Option Val) (row' : List Int), forL (exSs (callN prog (n + 1)) b__law_box_1) (.nm 2) (keepW .of [.sc sc] l0) (ns.map Val.int) [c0, some (.ls (row.map Val.int)), k] [] = .ok (.nx, [c0, some (.ls (row'.map Val.int)), k']) [] ∧ row'.length ≤ row.length + 6 * ns.length
  | [], k, row, h => ⟨k, row, by simp only [forL, keep_sc, if_true, List.map_nil], by simp⟩
  | i :: ns, k, row, h => by
    simp only [List.length_cons] at h
    obtain ⟨ds, e, l1, l2⟩ := c_digitsV n i []
    obtain ⟨k', row', e2, l3⟩ := box_loop n c0 sc l0 ns (some (.int i)) (row ++ ds) (by rw [List.length_append]; omega)
    refine ⟨k', row', ?_, by rw [List.length_append] at l3; rw [List.length_cons]; omega⟩
    have hb : exSs (callN prog (n + 1)) b__law_box_1 [c0, some (.ls (row.map Val.int)), some (.int i)] [] = .ok (.nx, [c0, some (.ls ((row ++ ds).map Val.int)), some (.int i)]) [] := by
      simp only [b__law_box_1, runF, exSs, exS, evE, evEs, R.bind_ok, R.bind_bad, R.bind_exc, ofO_some, ofO_none, bindT, setAll, List.length_cons, List.length_nil, List.map_cons, List.map_nil, List.getElem?_cons_zero, List.getElem?_cons_succ, List.cons_append, List.nil_append, List.set_cons_zero, List.set_cons_succ, Nat.zero_add, Nat.add_zero, Nat.le_refl, and_self, if_true, true_and, and_true, List.replicate_succ, List.replicate_zero, Nat.sub_self, Nat.reduceSub, Nat.reduceAdd, Nat.reduceLeDiff, Nat.reduceEqDiff, Nat.zero_le, small, tru_bl, isNon, Bool.not_true, Bool.not_false, e, op_cat _ _ _ (show row.length + ds.length ≤ 100000 by omega)]
    simp only [List.map_cons, forL, keep_sc, bindT, setAll, List.set_cons_zero, List.set_cons_succ, hb, R.bind_ok]
    exact e2
theorem walk_sc (st : Store) (l : List Val) : walkV st .of [.sc l] = some l := rfl
theorem mk_box (row : List Int) : putAll [] ([(.inr "row" : Key), .inr "at"].zip [.ls (row.map Val.int), .int 0]) = [(.inr "row", .ls (row.map Val.int)), (.inr "at", .int 0)] := rfl
theorem c_box (n : Nat) (ns : List Int) (h : ns.length ≤ 63) : ∃ row : List Int, callN prog (n + 2) "_law_box" [.sc (ns.map Val.int)] [] = .ok (.ref 0) [boxO row 0] ∧ 0 < row.length ∧ row.length ≤ 1000 := by
  rw [callN_at lk_box]
  obtain ⟨k', row, e, l⟩ := box_loop n (some (.sc (ns.map Val.int))) (ns.map Val.int) (ns.map Val.int) ns none [] (by simp; omega)
  change forL _ _ _ _ [_, some (.ls []), _] _ = _ at e
  by_cases hz : (row.length : Int) = 0
  · refine ⟨[5, 77, 1031, 40009, 3, 900001, 12], ?_, by decide, by decide⟩
    simp only [d__law_box, runF, exSs, exS, evE, evEs, R.bind_ok, R.bind_bad, R.bind_exc, ofO_some, ofO_none, bindT, setAll, List.length_cons, List.length_nil, List.map_cons, List.map_nil, List.getElem?_cons_zero, List.getElem?_cons_succ, List.cons_append, List.nil_append, List.set_cons_zero, List.set_cons_succ, Nat.zero_add, Nat.add_zero, Nat.le_refl, and_self, if_true, true_and, and_true, List.replicate_succ, List.replicate_zero, Nat.sub_self, Nat.reduceSub, Nat.reduceAdd, Nat.reduceLeDiff, Nat.reduceEqDiff, Nat.zero_le, small, tru_bl, isNon, Bool.not_true, Bool.not_false, walk_sc, e, len_ls, eq_int, decide_eq_true hz, mk_box, ownV]
    rfl
  · refine ⟨row, ?_, by omega, by simp at l; omega⟩
    simp only [d__law_box, runF, exSs, exS, evE, evEs, R.bind_ok, R.bind_bad, R.bind_exc, ofO_some, ofO_none, bindT, setAll, List.length_cons, List.length_nil, List.map_cons, List.map_nil, List.getElem?_cons_zero, List.getElem?_cons_succ, List.cons_append, List.nil_append, List.set_cons_zero, List.set_cons_succ, Nat.zero_add, Nat.add_zero, Nat.le_refl, and_self, if_true, true_and, and_true, List.replicate_succ, List.replicate_zero, Nat.sub_self, Nat.reduceSub, Nat.reduceAdd, Nat.reduceLeDiff, Nat.reduceEqDiff, Nat.zero_le, small, tru_bl, isNon, Bool.not_true, Bool.not_false, walk_sc, e, len_ls, eq_int, decide_eq_false hz, mk_box, ownV]
    rfl
/-! ### draws as calls -/
theorem Drawn.len {st st' : Store} {a : Nat} (h : Drawn st a st') : st'.length = st.length := by
  obtain ⟨row, i, rfl, _⟩ := h
  simp
theorem Drawn.box {st st' : Store} {a : Nat} (h : Drawn st a st') : BoxAt st' a := by
  obtain ⟨row, i, rfl, hb⟩ := h
  exact hb
theorem Drawn.trans {st st1 st2 : Store} {a : Nat} (h : Drawn st a st1) (h2 : Drawn st1 a st2) : Drawn st a st2 := by
  obtain ⟨row, i, rfl, hb⟩ := h
  obtain ⟨row2, i2, rfl, hb2⟩ := h2
  exact ⟨row2, i2, by rw [List.set_set], hb2⟩
theorem Drawn.other {st st' : Store} {a b : Nat} (h : Drawn st a st') (hb : b ≠ a) : st'[b]? = st[b]? := by
  obtain ⟨row, i, rfl, _⟩ := h
  rw [List.getElem?_set_ne hb.symm]
theorem callV_ref (cf : CallF) (f : Str) (a : Nat) (vs : List Val) (st st' : Store) (v : Val) (h : cf f (.ref a :: vs) st = .ok v st') (hl : st'.length = st.length) : callV cf f (.ref a :: vs) st = .ok v st' := by
  have hp : pureAll (.ref a :: vs) = false := rfl
  simp only [callV, hp, h, leave_len hl]
theorem c_takeV (n : Nat) (many : Int) (a : Nat) (st : Store) (h : BoxAt st a) (hm : 0 < many) :
    ∃ r st', 0 ≤ r ∧ r < many ∧ callV (callN prog (n + 1)) "_law_take" [.ref a, .int many] st = .ok (.int r) st' ∧ Drawn st a st' := by
  obtain ⟨r, st', h1, h2, e, d⟩ := c_take n many a st h hm
  exact ⟨r, st', h1, h2, callV_ref _ _ _ _ _ _ _ e d.len, d⟩
theorem item_ls (st : Store) (xs : List Val) (rv : Val) (hr : rv = .ls xs ∨ rv = .tup xs) {r : Int} (h0 : 0 ≤ r) (h1 : r < xs.length) : ∃ x, x ∈ xs ∧ itemV st rv (.int r) = some x := by
  have hk : r.toNat < xs.length := by omega
  have e : ixAt xs.length r = some r.toNat := by
    unfold ixAt
    rw [if_pos h0, if_pos h1]
  refine ⟨xs[r.toNat], List.getElem_mem hk, ?_⟩
  rcases hr with rfl | rfl <;> simp only [itemV, isDict, seqOf, e, Option.bind_some, List.getElem?_eq_getElem hk]
theorem c_pickV (n : Nat) (a : Nat) (st : Store) (xs : List Val) (rv : Val) (hr : rv = .ls xs ∨ rv = .tup xs) (h : BoxAt st a) (hx : 0 < xs.length) :
    ∃ x st', x ∈ xs ∧ callV (callN prog (n + 2)) "_law_pick" [.ref a, rv] st = .ok x st' ∧ Drawn st a st' := by
  obtain ⟨r, st', h1, h2, e, d⟩ := c_takeV n (xs.length : Int) a st h (by omega)
  obtain ⟨x, hm, hi⟩ := item_ls st' xs rv hr h1 h2
  have hlen : b1V st .len rv = some (.int (xs.length : Int)) := by rcases hr with rfl | rfl <;> rfl
  refine ⟨x, st', hm, callV_ref _ _ _ _ _ _ _ ?_ d.len, d⟩
  rw [callN_at lk_pick]
  simp only [d__law_pick, runF, exSs, exS, evE, evEs, R.bind_ok, R.bind_bad, R.bind_exc, ofO_some, ofO_none, bindT, setAll, List.length_cons, List.length_nil, List.map_cons, List.map_nil, List.getElem?_cons_zero, List.getElem?_cons_succ, List.cons_append, List.nil_append, List.set_cons_zero, List.set_cons_succ, Nat.zero_add, Nat.add_zero, Nat.le_refl, and_self, if_true, true_and, and_true, List.replicate_succ, List.replicate_zero, Nat.sub_self, Nat.reduceSub, Nat.reduceAdd, Nat.reduceLeDiff, Nat.reduceEqDiff, Nat.zero_le, small, tru_bl, isNon, Bool.not_true, Bool.not_false, hlen, e, hi]
theorem Drawn.refl {st : Store} {a : Nat} (h : BoxAt st a) : Drawn st a st := by
  obtain ⟨row, i, ha, h1⟩ := h
  refine ⟨row, i, ?_, row, i, ha, h1⟩
  refine List.ext_getElem? fun j => ?_
  by_cases e : a = j
  · subst e
    rw [List.getElem?_set_self (List.getElem?_eq_some_iff.mp ha).1]
    exact ha
  · rw [List.getElem?_set_ne e]
/-- a comprehension that draws -/
theorem lc_draw {f : Env → Store → R Val} {tg : Tg} {env : Env} {keep : Store → Bool} {a : Nat} {P : Val → Prop} (hk : ∀ st, keep st = true)
    (hf : ∀ x st, BoxAt st a → ∃ e v st', bindT tg x env = some e ∧ f e st = .ok v st' ∧ P v ∧ Drawn st a st') :
    ∀ (xs acc : List Val) (st : Store), BoxAt st a → acc.length + xs.length ≤ 1000 → ∃ vs st', lcL f none tg keep env xs acc st = .ok (acc ++ vs) st' ∧ vs.length = xs.length ∧ (∀ v ∈ vs, P v) ∧ Drawn st a st'
  | [], acc, st, hb, _ => ⟨[], st, by simp only [lcL, hk, if_true, List.append_nil], rfl, by simp, Drawn.refl hb⟩
  | x :: xs, acc, st, hb, hl => by
    simp only [List.length_cons] at hl
    obtain ⟨e, v, st1, h1, h2, h3, h4⟩ := hf x st hb
    obtain ⟨vs, st2, h5, h6, h7, h8⟩ := lc_draw hk hf xs (acc ++ [v]) st1 h4.box (by simp; omega)
    refine ⟨v :: vs, st2, ?_, by simp [h6], ?_, h4.trans h8⟩
    · have hs : acc.length < small := by
        have : small = 100000 := rfl
        omega
      simp only [lcL, hk, h1, h2, R.bind_ok, if_pos hs, h5]
      simp
    · intro w hw
      rcases List.mem_cons.mp hw with rfl | hw
      · exact h3
      · exact h7 w hw
theorem lk_some : List.lookup ("_law_some" : Str) prog = some d__law_some.fn := rfl
/-- one sign between a and z -/
def OneSign (v : Val) : Prop := ∃ c : Nat, 97 ≤ c ∧ c ≤ 122 ∧ c ≠ 113 ∧ v = .str ⟨#[c]⟩
theorem c_someV (n : Nat) (a : Nat) (st : Store) (sz : Int) (h : BoxAt st a) (h0 : 0 < sz) (h1 : sz ≤ 3) :
    ∃ (vs : List Val) (st' : Store), (callN prog (n + 2)) "_law_some" [.ref a, .str "abcxyz", .int sz] st = (ofO (joinV st' (.str "") (.ls vs)) st') ∧ vs.length = sz.toNat ∧ (∀ v ∈ vs, OneSign v) ∧ Drawn st a st' := by
  rw [callN_at lk_some]
  have hlen : ∀ st, b1V st .len (.str "abcxyz") = some (.int 6) := fun st => rfl
  have hit : ∀ (st : Store) (r : Int), 0 ≤ r → r < 6 → ∃ v, itemV st (.str "abcxyz") (.int r) = some v ∧ OneSign v := by
    intro st r q0 q1
    have : r = 0 ∨ r = 1 ∨ r = 2 ∨ r = 3 ∨ r = 4 ∨ r = 5 := by omega
    rcases this with rfl | rfl | rfl | rfl | rfl | rfl
    · exact ⟨_, rfl, 97, by decide, by decide, by decide, rfl⟩
    · exact ⟨_, rfl, 98, by decide, by decide, by decide, rfl⟩
    · exact ⟨_, rfl, 99, by decide, by decide, by decide, rfl⟩
    · exact ⟨_, rfl, 120, by decide, by decide, by decide, rfl⟩
    · exact ⟨_, rfl, 121, by decide, by decide, by decide, rfl⟩
    · exact ⟨_, rfl, 122, by decide, by decide, by decide, rfl⟩
  have key := lc_draw (f := evE (callN prog (n + 1)) e__law_some_1) (tg := .nm 3) (env := [some (.ref a), some (.str "abcxyz"), some (.int sz), none]) (keep := keepW .range [.int sz] (rangeV sz)) (a := a) (P := OneSign)
    (fun st => keep_int _ _ _ _) (fun x st hb => by
      obtain ⟨r, st', q1, q2, e, d⟩ := c_takeV n 6 a st hb (by decide)
      obtain ⟨v, hv, hs⟩ := hit st' r q1 q2
      exact ⟨_, v, st', rfl, by simp only [e__law_some_1, runF, exSs, exS, evE, evEs, R.bind_ok, R.bind_bad, R.bind_exc, ofO_some, ofO_none, bindT, setAll, List.length_cons, List.length_nil, List.map_cons, List.map_nil, List.getElem?_cons_zero, List.getElem?_cons_succ, List.cons_append, List.nil_append, List.set_cons_zero, List.set_cons_succ, Nat.zero_add, Nat.add_zero, Nat.le_refl, and_self, if_true, true_and, and_true, List.replicate_succ, List.replicate_zero, Nat.sub_self, Nat.reduceSub, Nat.reduceAdd, Nat.reduceLeDiff, Nat.reduceEqDiff, Nat.zero_le, small, tru_bl, isNon, Bool.not_true, Bool.not_false, hlen, e, hv], hs, d⟩) (rangeV sz) [] st h (by
        unfold rangeV
        simp
        omega)
  obtain ⟨vs, st', e, l, p, d⟩ := key
  refine ⟨vs, st', ?_, by rw [l]; unfold rangeV; simp, p, d⟩
  have hw : ∀ st, walkV st .range [.int sz] = some (rangeV sz) := fun st => by
    have : inSpan sz = true := by unfold inSpan; simp; omega
    simp only [walkV, walkR, this, if_true]
  simp only [d__law_some, runF, exSs, exS, evE, evEs, R.bind_ok, R.bind_bad, R.bind_exc, ofO_some, ofO_none, bindT, setAll, List.length_cons, List.length_nil, List.map_cons, List.map_nil, List.getElem?_cons_zero, List.getElem?_cons_succ, List.cons_append, List.nil_append, List.set_cons_zero, List.set_cons_succ, Nat.zero_add, Nat.add_zero, Nat.le_refl, and_self, if_true, true_and, and_true, List.replicate_succ, List.replicate_zero, Nat.sub_self, Nat.reduceSub, Nat.reduceAdd, Nat.reduceLeDiff, Nat.reduceEqDiff, Nat.zero_le, small, tru_bl, isNon, Bool.not_true, Bool.not_false, hw, e, List.nil_append]
  cases joinV st' (.str "") (.ls vs) <;> rfl
/-- a text of signs between a and z -/
def Az (t : Str) : Prop := ∀ c ∈ t.cps.toList, 97 ≤ c ∧ c ≤ 122
def NoQ (t : Str) : Prop := ∀ c ∈ t.cps.toList, c ≠ 113
theorem join_signs : ∀ vs : List Val, (∀ v ∈ vs, OneSign v) → ∃ l : List Str, strsOf vs = some l ∧ l.length = vs.length ∧ (l.map (·.length)).sum = vs.length ∧ (PySem.Str.join "" l).length = vs.length ∧ Az (PySem.Str.join "" l) ∧ NoQ (PySem.Str.join "" l)
  | [], _ => ⟨[], rfl, rfl, rfl, rfl, fun c h => by simp [PySem.Str.join, PySem.Str.empty] at h, fun c h => by simp [PySem.Str.join, PySem.Str.empty] at h⟩
  | v :: vs, h => by
    obtain ⟨c, h1, h2, h3, rfl⟩ := h v List.mem_cons_self
    obtain ⟨l, e, l1, l2, l3, l4, l5⟩ := join_signs vs fun w hw => h w (List.mem_cons_of_mem _ hw)
    have hj : (PySem.Str.join "" (⟨#[c]⟩ :: l)).cps.toList = c :: (PySem.Str.join "" l).cps.toList := by
      cases l with
      | nil => rfl
      | cons a r =>
        show ((⟨#[c]⟩ : Str) ++ ("" : Str) ++ PySem.Str.join "" (a :: r)).cps.toList = _
        show (#[c] ++ ("" : Str).cps ++ (PySem.Str.join "" (a :: r)).cps).toList = _
        have : ("" : Str).cps = #[] := rfl
        rw [this]
        simp
    have hlen : ∀ t : Str, t.length = t.cps.toList.length := fun t => by simp [Str.length]
    refine ⟨⟨#[c]⟩ :: l, by simp [strsOf, e], by simp [l1], ?_, ?_, ?_, ?_⟩
    · have h1c : (⟨#[c]⟩ : Str).length = 1 := rfl
      simp only [List.map_cons, List.sum_cons, l2, List.length_cons, h1c]
      omega
    · rw [hlen, hj, List.length_cons, ← hlen, l3, List.length_cons]
    · intro d hd
      rw [hj] at hd
      rcases List.mem_cons.mp hd with rfl | hd
      · exact ⟨h1, h2⟩
      · exact l4 d hd
    · intro d hd
      rw [hj] at hd
      rcases List.mem_cons.mp hd with rfl | hd
      · exact h3
      · exact l5 d hd
theorem c_someT (n : Nat) (a : Nat) (st : Store) (sz : Int) (h : BoxAt st a) (h0 : 0 < sz) (h1 : sz ≤ 3) :
    ∃ (t : Str) (st' : Store), callV (callN prog (n + 2)) "_law_some" [.ref a, .str "abcxyz", .int sz] st = .ok (.str t) st' ∧ t.length = sz.toNat ∧ Az t ∧ NoQ t ∧ Drawn st a st' := by
  obtain ⟨vs, st', e, l, p, d⟩ := c_someV n a st sz h h0 h1
  obtain ⟨ss, e2, l1, l2, l3, l4, l5⟩ := join_signs vs p
  have ej : joinV st' (.str "") (.ls vs) = some (.str (PySem.Str.join "" ss)) := by
    have hz : (("" : Str).length + 1) * (ss.length + 1) + (ss.map (·.length)).sum ≤ small := by
      have e0 : ("" : Str).length = 0 := rfl
      have : small = 100000 := rfl
      rw [e0, l1, l2, l]
      omega
    simp only [joinV, seqOf, e2, Option.bind_some, if_pos hz]
  rw [ej] at e
  exact ⟨_, st', callV_ref _ _ _ _ _ _ _ e d.len, by rw [l3, l], l4, l5, d⟩
/-! ### names -/
theorem lk_names : List.lookup ("_law_names" : Str) prog = some d__law_names.fn := rfl
structure NameOk (t : Str) : Prop where
  pos : 0 < t.length
  len : t.length ≤ 12
  az : Az t
def words : List Str := ["add", "and", "any", "cell", "drop", "end", "event", "held", "input", "keeps", "late", "loop", "match", "net", "state", "strike", "when", "worth", "yes"]
theorem words_ok : ∀ t ∈ words, NameOk t := by
  have : words.all (fun t => decide (0 < t.length) && decide (t.length ≤ 12) && t.cps.toList.all fun c => decide (97 ≤ c) && decide (c ≤ 122)) = true := by decide +kernel
  intro t ht
  have h := List.all_eq_true.mp this t ht
  simp only [Bool.and_eq_true, decide_eq_true_eq] at h
  refine ⟨h.1.1, h.1.2, fun c hc => ?_⟩
  have := List.all_eq_true.mp h.2 c hc
  simpa using this
theorem words_noq : ∀ t ∈ words, NoQ t := by
  have : words.all (fun t => t.cps.toList.all fun c => !decide (c = 113)) = true := by decide +kernel
  intro t ht c hc
  have := List.all_eq_true.mp (List.all_eq_true.mp this t ht) c hc
  simpa using this
/-! ### draws where the box comes first -/
def BoxO (o : Obj) : Prop := ∃ (row : List Int) (i : Int), o = boxO row i ∧ 0 ≤ i ∧ 0 < row.length ∧ row.length ≤ 1000
theorem boxAt0 {o : Obj} (h : BoxO o) (r : Store) : BoxAt (o :: r) 0 := by
  obtain ⟨row, i, rfl, h1⟩ := h
  exact ⟨row, i, rfl, h1⟩
theorem drawn0 {o : Obj} {r st : Store} (h : Drawn (o :: r) 0 st) : ∃ o', BoxO o' ∧ st = o' :: r := by
  obtain ⟨row, i, rfl, row2, i2, h1, h2⟩ := h
  refine ⟨boxO row i, ⟨row2, i2, ?_, h2⟩, rfl⟩
  simpa using h1
theorem tk {o : Obj} (h : BoxO o) (n : Nat) (many : Int) (r : Store) (hm : 0 < many) : ∃ q o', 0 ≤ q ∧ q < many ∧ BoxO o' ∧ callV (callN prog (n + 1)) "_law_take" [.ref 0, .int many] (o :: r) = .ok (.int q) (o' :: r) := by
  obtain ⟨q, st, h1, h2, e, d⟩ := c_takeV n many 0 (o :: r) (boxAt0 h r) hm
  obtain ⟨o', ho, rfl⟩ := drawn0 d
  exact ⟨q, o', h1, h2, ho, e⟩
theorem pk {o : Obj} (h : BoxO o) (n : Nat) (rv : Val) (xs : List Val) (hr : rv = .ls xs ∨ rv = .tup xs) (r : Store) (hx : 0 < xs.length) : ∃ x o', x ∈ xs ∧ BoxO o' ∧ callV (callN prog (n + 2)) "_law_pick" [.ref 0, rv] (o :: r) = .ok x (o' :: r) := by
  obtain ⟨x, st, h1, e, d⟩ := c_pickV n 0 (o :: r) xs rv hr (boxAt0 h r) hx
  obtain ⟨o', ho, rfl⟩ := drawn0 d
  exact ⟨x, o', h1, ho, e⟩
theorem sm {o : Obj} (h : BoxO o) (n : Nat) (sz : Int) (r : Store) (h0 : 0 < sz) (h1 : sz ≤ 3) : ∃ (t : Str) (o' : Obj), t.length = sz.toNat ∧ Az t ∧ NoQ t ∧ BoxO o' ∧ callV (callN prog (n + 2)) "_law_some" [.ref 0, .str "abcxyz", .int sz] (o :: r) = .ok (.str t) (o' :: r) := by
  obtain ⟨t, st, e, l1, l2, l3, d⟩ := c_someT n 0 (o :: r) sz (boxAt0 h r) h0 h1
  obtain ⟨o', ho, rfl⟩ := drawn0 d
  exact ⟨t, o', l1, l2, l3, ho, e⟩
end PV
end

section
set_option Elab.async false
set_option linter.all false
set_option maxRecDepth 100000
set_option maxHeartbeats 1000000
namespace PV
open PySem L2
theorem callV_p {cf : CallF} {f : Str} {vs : List Val} {st : Store} {v : Val} (hp : pureAll vs = true) (h : cf f vs [] = .ok v []) : callV cf f vs st = .ok v st := by
  simp only [callV, hp, h, leave, List.length_nil, if_true]
/-! ### data -/
mutual
/-- a value of plain data -/
def Val.da : Val → Bool
  | .non => true
  | .bl _ => true
  | .int _ => true
  | .str _ => true
  | .tup xs => daAll xs
  | .ls xs => daAll xs
  | _ => false
def daAll : List Val → Bool
  | [] => true
  | x :: xs => x.da && daAll xs
end
mutual
theorem da_pure : ∀ v : Val, v.da = true → v.pure = true
  | .non, _ => rfl
  | .bl _, _ => rfl
  | .int _, _ => rfl
  | .str _, _ => rfl
  | .tup xs, h => by
    simp only [Val.da] at h
    simp only [Val.pure, daAll_pure xs h]
  | .ls xs, h => by
    simp only [Val.da] at h
    simp only [Val.pure, daAll_pure xs h]
  | .sc _, h => by simp [Val.da] at h
  | .dc _, h => by simp [Val.da] at h
  | .ref _, h => by simp [Val.da] at h
theorem daAll_pure : ∀ vs : List Val, daAll vs = true → pureAll vs = true
  | [], _ => rfl
  | v :: vs, h => by
    simp only [daAll, Bool.and_eq_true] at h
    simp only [pureAll, da_pure v h.1, daAll_pure vs h.2, Bool.and_self]
end
theorem daAll_iff : ∀ vs : List Val, daAll vs = true ↔ ∀ v ∈ vs, v.da = true
  | [] => by simp [daAll]
  | v :: vs => by simp [daAll, daAll_iff vs]
theorem da_strs (l : List Str) : daAll (l.map Val.str) = true := by
  rw [daAll_iff]
  intro v hv
  obtain ⟨t, _, rfl⟩ := List.mem_map.mp hv
  rfl
theorem da_ints (l : List Int) : daAll (l.map Val.int) = true := by
  rw [daAll_iff]
  intro v hv
  obtain ⟨t, _, rfl⟩ := List.mem_map.mp hv
  rfl
def isInt : Val → Bool
  | .int _ => true
  | _ => false
/-! ### comparing texts -/
def Sok (t : Str) : Prop := PyData.strOk t = true
theorem sok_shaped {a : Str} (h : Sok a) : shapedD (.str a) = true := by
  have e : PyData.canLay0 (.str a) = true := by
    unfold PyData.canLay0
    exact h
  have e2 : PyData.depth (.str a) = 0 := by
    unfold PyData.depth
    rfl
  unfold shapedD SeqAt.shaped
  rw [e, e2]
  rfl
theorem Az.sok {t : Str} (h : Az t) : Sok t := by
  unfold Sok PyData.strOk
  rw [← Array.all_toList, List.all_eq_true]
  intro c hc
  have := h c hc
  exact decide_eq_true (by omega)
theorem NameOk.sok {t : Str} (h : NameOk t) : Sok t := h.az.sok
theorem eq_str (st : Store) {a b : Str} (ha : Sok a) (hb : Sok b) : cmpV st .eq (.str a) (.str b) = some (decide (a = b)) := by
  simp only [cmpV, eqV, dataOf, Val.data, sok_shaped ha, sok_shaped hb, Bool.and_self, if_true]
  congr 1
theorem ne_str (st : Store) {a b : Str} (ha : Sok a) (hb : Sok b) : cmpV st .ne (.str a) (.str b) = some (!decide (a = b)) := by
  have h := eq_str st ha hb
  simp only [cmpV] at h ⊢
  rw [h]
  rfl
theorem dataAll_strs (st : Store) : ∀ l : List Str, dataAll st (l.map Val.str) = some (l.map PyData.str)
  | [] => rfl
  | t :: l => by simp only [List.map_cons, dataAll, Val.data, dataAll_strs st l]
theorem any_strs (a : Str) : ∀ l : List Str, ((l.map PyData.str).any fun z => PyData.eqv z (.str a)) = decide (a ∈ l)
  | [] => by simp
  | t :: l => by
    have e : PyData.eqv (.str t) (.str a) = decide (t = a) := rfl
    rw [List.map_cons, List.any_cons, any_strs a l, e]
    by_cases h : t = a
    · subst h
      simp
    · have h2 : ¬ a = t := fun h3 => h h3.symm
      simp [h, h2]
theorem lay_strs : ∀ l : List Str, (∀ t ∈ l, Sok t) → PyData.canLayAll0 (l.map PyData.str) = true ∧ PyData.depthAll (l.map PyData.str) = 0
  | [], _ => by
    unfold PyData.canLayAll0 PyData.depthAll
    exact ⟨rfl, rfl⟩
  | t :: l, h => by
    obtain ⟨h1, h2⟩ := lay_strs l fun u hu => h u (List.mem_cons_of_mem _ hu)
    have h3 : PyData.canLay0 (.str t) = true := by
      unfold PyData.canLay0
      exact h t List.mem_cons_self
    have h4 : PyData.depth (.str t) = 0 := by
      unfold PyData.depth
      rfl
    rw [List.map_cons]
    unfold PyData.canLayAll0 PyData.depthAll
    rw [h1, h2, h3, h4]
    exact ⟨rfl, rfl⟩
theorem shaped_strs (l : List Str) (h : ∀ t ∈ l, Sok t) : shapedD (.list (l.map PyData.str)) = true ∧ shapedD (.tuple (l.map PyData.str)) = true := by
  obtain ⟨h1, h2⟩ := lay_strs l h
  constructor
  · unfold shapedD SeqAt.shaped PyData.canLay0 PyData.depth
    rw [h1, h2]
    rfl
  · unfold shapedD SeqAt.shaped PyData.canLay0 PyData.depth
    rw [h1, h2]
    rfl
theorem in_tup (st : Store) {a : Str} {l : List Str} (ha : Sok a) (hl : ∀ t ∈ l, Sok t) : cmpV st .isin (.str a) (.tup (l.map Val.str)) = some (decide (a ∈ l)) := by
  simp only [cmpV, inV, isDict, dataOf, Val.data, dataAll_strs, Option.map_some, sok_shaped ha, (shaped_strs l hl).2, Bool.and_self, if_true, any_strs]
theorem in_ls (st : Store) {a : Str} {l : List Str} (ha : Sok a) (hl : ∀ t ∈ l, Sok t) : cmpV st .isin (.str a) (.ls (l.map Val.str)) = some (decide (a ∈ l)) := by
  simp only [cmpV, inV, isDict, dataOf, Val.data, dataAll_strs, Option.map_some, sok_shaped ha, (shaped_strs l hl).1, Bool.and_self, if_true, any_strs]
theorem in_ref (st : Store) {a : Str} (r : Nat) {l : List Str} (h : st[r]? = some (.lst (l.map Val.str))) (ha : Sok a) (hl : ∀ t ∈ l, Sok t) : cmpV st .isin (.str a) (.ref r) = some (decide (a ∈ l)) := by
  simp only [cmpV, inV, isDict, h, dataOf, Val.data, dataAll_strs, Option.map_some, sok_shaped ha, (shaped_strs l hl).1, Bool.and_self, if_true, any_strs]
theorem notin_of {st : Store} {x y : Val} {b : Bool} (h : cmpV st .isin x y = some b) : cmpV st .notin x y = some (!b) := by
  simp only [cmpV] at h ⊢
  rw [h]
  rfl
/-! ### comprehensions -/
theorem lc_map {α : Type} {f : Env → Store → R Val} {tg : Tg} {env : Env} {keep : Store → Bool} {st : Store} (h g : α → Val) (hk : keep st = true) :
    ∀ (xs : List α) (acc : List Val), (∀ x ∈ xs, ∃ e, bindT tg (h x) env = some e ∧ f e st = .ok (g x) st) → acc.length + xs.length ≤ 1000 →
      lcL f none tg keep env (xs.map h) acc st = .ok (acc ++ xs.map g) st
  | [], acc, _, _ => by simp only [List.map_nil, lcL, hk, if_true, List.append_nil]
  | x :: xs, acc, hf, hl => by
    simp only [List.length_cons] at hl
    obtain ⟨e, h1, h2⟩ := hf x List.mem_cons_self
    have hs : acc.length < small := by
      have : small = 100000 := rfl
      omega
    simp only [List.map_cons, lcL, hk, h1, h2, R.bind_ok, if_pos hs]
    rw [lc_map h g hk xs _ (fun y hy => hf y (List.mem_cons_of_mem _ hy)) (by simp; omega)]
    simp
theorem lc_filter {α : Type} {f t : Env → Store → R Val} {tg : Tg} {env : Env} {keep : Store → Bool} {st : Store} (h g : α → Val) (p : α → Bool) (hk : keep st = true) :
    ∀ (xs : List α) (acc : List Val), (∀ x ∈ xs, ∃ e, bindT tg (h x) env = some e ∧ t e st = .ok (.bl (p x)) st ∧ (p x = true → f e st = .ok (g x) st)) → acc.length + xs.length ≤ 1000 →
      lcL f (some t) tg keep env (xs.map h) acc st = .ok (acc ++ (xs.filter p).map g) st
  | [], acc, _, _ => by simp only [List.map_nil, List.filter_nil, lcL, hk, if_true, List.append_nil]
  | x :: xs, acc, hf, hl => by
    simp only [List.length_cons] at hl
    obtain ⟨e, h1, h2, h3⟩ := hf x List.mem_cons_self
    have hs : acc.length < small := by
      have : small = 100000 := rfl
      omega
    cases hp : p x with
    | true =>
      simp only [List.map_cons, lcL, hk, h1, h2, R.bind_ok, tru_bl, ofO_some, hp, h3 hp, if_pos hs]
      rw [lc_filter h g p hk xs _ (fun y hy => hf y (List.mem_cons_of_mem _ hy)) (by simp; omega)]
      simp [hp]
    | false =>
      simp only [List.map_cons, lcL, hk, h1, h2, R.bind_ok, tru_bl, ofO_some, hp]
      rw [lc_filter h g p hk xs _ (fun y hy => hf y (List.mem_cons_of_mem _ hy)) (by omega)]
      simp [hp]
theorem bools_map {α : Type} (p : α → Bool) : ∀ l : List α, boolsOf (l.map fun x => Val.bl (p x)) = some (l.map p)
  | [] => rfl
  | x :: l => by simp only [List.map_cons, boolsOf, bools_map p l, Option.map_some]
theorem all_bl {α : Type} (st : Store) (l : List α) (p : α → Bool) : b1V st .all (.ls (l.map fun x => .bl (p x))) = some (.bl (l.all p)) := by
  simp only [b1V, bools_map, Option.map_some]
  congr 2
  simp [List.all_map]
theorem all_tt {α : Type} (st : Store) (l : List α) : b1V st .all (.ls (l.map fun _ => .bl true)) = some (.bl true) := by
  rw [all_bl st l fun _ => true]
  simp
theorem any_bl {α : Type} (st : Store) (l : List α) (p : α → Bool) : b1V st .any (.ls (l.map fun x => .bl (p x))) = some (.bl (l.any p)) := by
  simp only [b1V, bools_map, Option.map_some]
  congr 2
  simp [List.any_map]
theorem keep_tup (w : Wk) (l : List Val) (xs : List Val) (st : Store) : keepW w [.tup l] xs st = true := by simp [keepW, noRef]
theorem keep_ls (w : Wk) (l : List Val) (xs : List Val) (st : Store) : keepW w [.ls l] xs st = true := by simp [keepW, noRef]
theorem keep_str (w : Wk) (l : Str) (xs : List Val) (st : Store) : keepW w [.str l] xs st = true := by simp [keepW, noRef]
theorem keep_ref (a : Nat) (xs : List Val) (st : Store) (h : st[a]? = some (.lst xs)) : keepW .of [.ref a] xs st = true := by
  simp [keepW, noRef, walkV, walk1, seqOf, h, sameL_self]
theorem walk_tup (st : Store) (l : List Val) : walkV st .of [.tup l] = some l := rfl
theorem walk_ls (st : Store) (l : List Val) : walkV st .of [.ls l] = some l := rfl
theorem walk_ref (st : Store) (a : Nat) (xs : List Val) (h : st[a]? = some (.lst xs)) : walkV st .of [.ref a] = some xs := by simp [walkV, walk1, seqOf, h]
theorem walk_rg (st : Store) (k : Int) (h : -100 ≤ k) (h2 : k < 1000000) : walkV st .range [.int k] = some (rangeV k) := by
  have : inSpan k = true := by unfold inSpan; simp; omega
  simp only [walkV, walkR, this, if_true]
/-! ### shapes -/
theorem lk_is_integer : List.lookup ("is_integer" : Str) prog = some d_is_integer.fn := rfl
theorem lk_is_between : List.lookup ("is_between" : Str) prog = some d_is_between.fn := rfl
theorem lk_is_row : List.lookup ("is_row" : Str) prog = some d_is_row.fn := rfl
theorem lk_is_ascending : List.lookup ("is_ascending" : Str) prog = some d_is_ascending.fn := rfl
theorem lk_is_name : List.lookup ("is_name" : Str) prog = some d_is_name.fn := rfl
theorem lk_are_names : List.lookup ("are_names" : Str) prog = some d_are_names.fn := rfl
theorem lk_is_worth : List.lookup ("is_worth" : Str) prog = some d_is_worth.fn := rfl
theorem lk_is_worth_or_none : List.lookup ("is_worth_or_none" : Str) prog = some d_is_worth_or_none.fn := rfl
theorem lk_is_table : List.lookup ("is_table" : Str) prog = some d_is_table.fn := rfl
theorem lk_rising : List.lookup ("_law_rising" : Str) prog = some d__law_rising.fn := rfl
theorem lk_whole : List.lookup ("_law_whole" : Str) prog = some d__law_whole.fn := rfl
theorem c_is_integer (n : Nat) (v : Val) (st : Store) (h : v.da = true) : callN prog (n + 1) "is_integer" [v] st = .ok (.bl (isInt v)) st := by
  rw [callN_at lk_is_integer]
  cases v <;> first | rfl | simp [Val.da] at h
theorem c_whole (n : Nat) (v : Val) (st : Store) (h : v.da = true) : callN prog (n + 1) "_law_whole" [v] st = .ok (.bl (isInt v)) st := by
  rw [callN_at lk_whole]
  cases v <;> first | rfl | simp [Val.da] at h
theorem pure1 {v : Val} (h : v.da = true) : pureAll [v] = true := by simp [pureAll, da_pure v h]
def btw (lo hi : Int) : Val → Bool
  | .int i => decide (lo ≤ i) && decide (i ≤ hi)
  | _ => false
theorem c_is_between (n : Nat) (v : Val) (lo hi : Int) (st : Store) (h : v.da = true) : callN prog (n + 2) "is_between" [v, .int lo, .int hi] st = .ok (.bl (btw lo hi v)) st := by
  rw [callN_at lk_is_between]
  have e := callV_p (st := st) (pure1 h) (c_is_integer n v [] h)
  have le_int : ∀ p q : Int, cmpV st .le (.int p) (.int q) = some (decide (p ≤ q)) := fun p q => rfl
  cases v with
  | int i =>
    simp only [isInt] at e
    simp only [d_is_between, runF, exSs, exS, evE, evEs, R.bind_ok, R.bind_bad, R.bind_exc, ofO_some, ofO_none, bindT, setAll, List.length_cons, List.length_nil, List.map_cons, List.map_nil, List.getElem?_cons_zero, List.getElem?_cons_succ, List.cons_append, List.nil_append, List.set_cons_zero, List.set_cons_succ, Nat.zero_add, Nat.add_zero, Nat.le_refl, and_self, if_true, true_and, and_true, List.replicate_succ, List.replicate_zero, Nat.sub_self, Nat.reduceSub, Nat.reduceAdd, Nat.reduceLeDiff, Nat.reduceEqDiff, Nat.zero_le, small, tru_bl, isNon, Bool.not_true, Bool.not_false, e, ge_int, le_int, btw]
    by_cases hq : lo ≤ i <;> simp [hq, le_int]
  | _ => first | (simp only [isInt] at e; simp only [d_is_between, runF, exSs, exS, evE, evEs, R.bind_ok, R.bind_bad, R.bind_exc, ofO_some, ofO_none, bindT, setAll, List.length_cons, List.length_nil, List.map_cons, List.map_nil, List.getElem?_cons_zero, List.getElem?_cons_succ, List.cons_append, List.nil_append, List.set_cons_zero, List.set_cons_succ, Nat.zero_add, Nat.add_zero, Nat.le_refl, and_self, if_true, true_and, and_true, List.replicate_succ, List.replicate_zero, Nat.sub_self, Nat.reduceSub, Nat.reduceAdd, Nat.reduceLeDiff, Nat.reduceEqDiff, Nat.zero_le, small, tru_bl, isNon, Bool.not_true, Bool.not_false, e, btw]) | simp [Val.da] at h
def isRow (k : Int) : Val → Bool
  | .tup xs => decide ((xs.length : Int) = k)
  | _ => false
theorem c_is_row (n : Nat) (v : Val) (k : Int) (st : Store) (h : v.da = true) : callN prog (n + 1) "is_row" [v, .int k] st = .ok (.bl (isRow k v)) st := by
  rw [callN_at lk_is_row]
  cases v with
  | tup xs =>
    have e : b1V st .len (.tup xs) = some (.int (xs.length : Int)) := rfl
    have e2 : isiV st (.tup xs) .tuple = some true := rfl
    simp only [d_is_row, runF, exSs, exS, evE, evEs, R.bind_ok, R.bind_bad, R.bind_exc, ofO_some, ofO_none, bindT, setAll, List.length_cons, List.length_nil, List.map_cons, List.map_nil, List.getElem?_cons_zero, List.getElem?_cons_succ, List.cons_append, List.nil_append, List.set_cons_zero, List.set_cons_succ, Nat.zero_add, Nat.add_zero, Nat.le_refl, and_self, if_true, true_and, and_true, List.replicate_succ, List.replicate_zero, Nat.sub_self, Nat.reduceSub, Nat.reduceAdd, Nat.reduceLeDiff, Nat.reduceEqDiff, Nat.zero_le, small, tru_bl, isNon, Bool.not_true, Bool.not_false, e, e2, eq_int, isRow]
  | _ => first | rfl | simp [Val.da] at h
theorem pure2 {v w : Val} (h : v.da = true) (h2 : w.da = true) : pureAll [v, w] = true := by simp [pureAll, da_pure v h, da_pure w h2]
theorem pure3 {v w u : Val} (h : v.da = true) (h2 : w.da = true) (h3 : u.da = true) : pureAll [v, w, u] = true := by simp [pureAll, da_pure v h, da_pure w h2, da_pure u h3]
theorem v_is_row (n : Nat) (v : Val) (k : Int) (st : Store) (h : v.da = true) : callV (callN prog (n + 1)) "is_row" [v, .int k] st = .ok (.bl (isRow k v)) st :=
  callV_p (pure2 h rfl) (c_is_row n v k [] h)
theorem v_is_between (n : Nat) (v : Val) (lo hi : Int) (st : Store) (h : v.da = true) : callV (callN prog (n + 2)) "is_between" [v, .int lo, .int hi] st = .ok (.bl (btw lo hi v)) st :=
  callV_p (pure3 h rfl rfl) (c_is_between n v lo hi [] h)
/-- each text less than the next one -/
def ascB (l : List Str) : Bool := (List.range (l.length - 1)).all fun k => decide ((l.getD k "").cps.toList < (l.getD (k + 1) "").cps.toList)
def ltS (a b : Str) : Prop := a.cps.toList < b.cps.toList
theorem ascB_of {l : List Str} (h : l.Pairwise ltS) : ascB l = true := by
  unfold ascB
  rw [List.all_eq_true]
  intro k hk
  have hk2 : k + 1 < l.length := by
    have := List.mem_range.mp hk
    omega
  have := List.pairwise_iff_getElem.mp h k (k + 1) (by omega) hk2 (by omega)
  have e1 : l.getD k "" = l[k]'(by omega) := by simp [List.getD, List.getElem?_eq_getElem (show k < l.length by omega)]
  have e2 : l.getD (k + 1) "" = l[k + 1] := by simp [List.getD, List.getElem?_eq_getElem hk2]
  rw [e1, e2]
  exact decide_eq_true this
theorem asc_lcL (cf : CallF) (e_ : E) (he : e_ = (.cmp .lt (.ix (.var 0) (.var 1)) (.ix (.var 0) (.bin .add (.var 1) (.cst (.int 1)))))) (rv : Val) (l : List Str) (hr : rv = .tup (l.map Val.str) ∨ rv = .ls (l.map Val.str)) (hl : l.length ≤ 900) (c1 : Option Val) (st : Store) :
    lcL (evE cf e_) none (.nm 1) (keepW .range [.int ((l.length : Int) - 1)] (rangeV ((l.length : Int) - 1))) [some rv, c1] (rangeV ((l.length : Int) - 1)) [] st
      = .ok ((List.range (l.length - 1)).map fun k => .bl (decide ((l.getD k "").cps.toList < (l.getD (k + 1) "").cps.toList))) st := by
  have hn : ((l.length : Int) - 1).toNat = l.length - 1 := by omega
  have hit : ∀ k : Nat, k < l.length → itemV st rv (.int (k : Int)) = some (.str (l.getD k "")) := by
    intro k hk
    have hix : ixAt (l.map Val.str).length (k : Int) = some k := by
      unfold ixAt
      rw [List.length_map, if_pos (by omega), if_pos (by omega)]
      simp
    rcases hr with rfl | rfl <;> simp only [itemV, isDict, seqOf, hix, Option.bind_some, List.getElem?_map, List.getElem?_eq_getElem hk, Option.map_some, List.getD, Option.getD_some]
  have := lc_map (f := evE cf e_) (tg := .nm 1) (env := [some rv, c1]) (keep := keepW .range [.int ((l.length : Int) - 1)] (rangeV ((l.length : Int) - 1))) (st := st)
    (fun k : Nat => Val.int (k : Int)) (fun k => .bl (decide ((l.getD k "").cps.toList < (l.getD (k + 1) "").cps.toList))) (keep_int _ _ _ _) (List.range (l.length - 1)) [] (fun k hk => by
      have hk2 := List.mem_range.mp hk
      have i1 := hit k (by omega)
      have i2 := hit (k + 1) (by omega)
      have i3 : (((k + 1 : Nat) : Int)) = (k : Int) + 1 := by omega
      rw [i3] at i2
      refine ⟨_, rfl, ?_⟩
      rw [he]
      have lt_str : ∀ a b : Str, cmpV st .lt (.str a) (.str b) = some (decide (a.cps.toList < b.cps.toList)) := fun a b => rfl
      simp only [runF, exSs, exS, evE, evEs, R.bind_ok, R.bind_bad, R.bind_exc, ofO_some, ofO_none, bindT, setAll, List.length_cons, List.length_nil, List.map_cons, List.map_nil, List.getElem?_cons_zero, List.getElem?_cons_succ, List.cons_append, List.nil_append, List.set_cons_zero, List.set_cons_succ, Nat.zero_add, Nat.add_zero, Nat.le_refl, and_self, if_true, true_and, and_true, List.replicate_succ, List.replicate_zero, Nat.sub_self, Nat.reduceSub, Nat.reduceAdd, Nat.reduceLeDiff, Nat.reduceEqDiff, Nat.zero_le, small, tru_bl, isNon, Bool.not_true, Bool.not_false, i1, op_add, i2, lt_str]) (by simp; omega)
  have hr0 : rangeV ((l.length : Int) - 1) = (List.range (l.length - 1)).map fun k : Nat => Val.int (k : Int) := by
    unfold rangeV
    rw [hn]
  rw [← hr0] at this
  simpa only [List.nil_append] using this
theorem c_is_ascending (n : Nat) (rv : Val) (l : List Str) (hr : rv = .tup (l.map Val.str) ∨ rv = .ls (l.map Val.str)) (hl : l.length ≤ 900) (st : Store) : callN prog (n + 1) "is_ascending" [rv] st = .ok (.bl (ascB l)) st := by
  rw [callN_at lk_is_ascending]
  have hlen : b1V st .len rv = some (.int (l.length : Int)) := by rcases hr with rfl | rfl <;> simp [b1V, seqOf]
  have key := asc_lcL (callN prog n) e_is_ascending_1 rfl rv l hr hl none st
  simp only [d_is_ascending, runF, exSs, exS, evE, evEs, R.bind_ok, R.bind_bad, R.bind_exc, ofO_some, ofO_none, bindT, setAll, List.length_cons, List.length_nil, List.map_cons, List.map_nil, List.getElem?_cons_zero, List.getElem?_cons_succ, List.cons_append, List.nil_append, List.set_cons_zero, List.set_cons_succ, Nat.zero_add, Nat.add_zero, Nat.le_refl, and_self, if_true, true_and, and_true, List.replicate_succ, List.replicate_zero, Nat.sub_self, Nat.reduceSub, Nat.reduceAdd, Nat.reduceLeDiff, Nat.reduceEqDiff, Nat.zero_le, small, tru_bl, isNon, Bool.not_true, Bool.not_false, hlen, op_sub, walk_rg st ((l.length : Int) - 1) (by omega) (by omega), key, all_bl]
  rfl
theorem c_rising (n : Nat) (rv : Val) (l : List Str) (hr : rv = .tup (l.map Val.str) ∨ rv = .ls (l.map Val.str)) (hl : l.length ≤ 900) (st : Store) : callN prog (n + 1) "_law_rising" [rv] st = .ok (.bl (ascB l)) st := by
  rw [callN_at lk_rising]
  have hlen : b1V st .len rv = some (.int (l.length : Int)) := by rcases hr with rfl | rfl <;> simp [b1V, seqOf]
  have key := asc_lcL (callN prog n) e__law_rising_1 rfl rv l hr hl none st
  simp only [d__law_rising, runF, exSs, exS, evE, evEs, R.bind_ok, R.bind_bad, R.bind_exc, ofO_some, ofO_none, bindT, setAll, List.length_cons, List.length_nil, List.map_cons, List.map_nil, List.getElem?_cons_zero, List.getElem?_cons_succ, List.cons_append, List.nil_append, List.set_cons_zero, List.set_cons_succ, Nat.zero_add, Nat.add_zero, Nat.le_refl, and_self, if_true, true_and, and_true, List.replicate_succ, List.replicate_zero, Nat.sub_self, Nat.reduceSub, Nat.reduceAdd, Nat.reduceLeDiff, Nat.reduceEqDiff, Nat.zero_le, small, tru_bl, isNon, Bool.not_true, Bool.not_false, hlen, op_sub, walk_rg st ((l.length : Int) - 1) (by omega) (by omega), key, all_bl]
  rfl
theorem da_seq {rv : Val} {l : List Str} (hr : rv = .tup (l.map Val.str) ∨ rv = .ls (l.map Val.str)) : rv.da = true := by
  rcases hr with rfl | rfl <;> simp only [Val.da, da_strs]
theorem v_is_ascending (n : Nat) (rv : Val) (l : List Str) (hr : rv = .tup (l.map Val.str) ∨ rv = .ls (l.map Val.str)) (hl : l.length ≤ 900) (st : Store) : callV (callN prog (n + 1)) "is_ascending" [rv] st = .ok (.bl (ascB l)) st :=
  callV_p (pure1 (da_seq hr)) (c_is_ascending n rv l hr hl [])
theorem v_rising (n : Nat) (rv : Val) (l : List Str) (hr : rv = .tup (l.map Val.str) ∨ rv = .ls (l.map Val.str)) (hl : l.length ≤ 900) (st : Store) : callV (callN prog (n + 1)) "_law_rising" [rv] st = .ok (.bl (ascB l)) st :=
  callV_p (pure1 (da_seq hr)) (c_rising n rv l hr hl [])
/-! ### names -/
theorem c_is_name (n : Nat) (t : Str) (h : NameOk t) (st : Store) : callN prog (n + 1) "is_name" [.str t] st = .ok (.bl true) st := by
  rw [callN_at lk_is_name]
  have hb := h.len
  have hp := h.pos
  have hlen : b1V st .len (.str t) = some (.int (t.length : Int)) := by
    have : t.length ≤ small := by
      have : small = 100000 := rfl
      omega
    simp only [b1V, if_pos this]
  have hw : walkV st .of [.str t] = some (t.cps.toList.map fun c => .str ⟨#[c]⟩) := by
    have : t.length ≤ small := by
      have : small = 100000 := rfl
      omega
    simp only [walkV, walk1, if_pos this]
  have le_int : ∀ p q : Int, cmpV st .le (.int p) (.int q) = some (decide (p ≤ q)) := fun p q => rfl
  have le_str : ∀ a b : Str, cmpV st .le (.str a) (.str b) = some (!decide (b.cps.toList < a.cps.toList)) := fun p q => rfl
  have hi : isiV st (.str t) .str = some true := rfl
  have hsz : t.cps.toList.length = t.length := by simp [Str.length]
  have key := lc_map (f := evE (callN prog n) e_is_name_1) (tg := .nm 1) (env := [some (.str t), none]) (keep := keepW .of [.str t] (t.cps.toList.map fun c => .str ⟨#[c]⟩)) (st := st)
    (fun c : Nat => Val.str ⟨#[c]⟩) (fun _ => .bl true) (keep_str _ _ _ _) t.cps.toList [] (fun c hc => by
      obtain ⟨c1, c2⟩ := h.az c hc
      have l1 : ¬ ((⟨#[c]⟩ : Str).cps.toList < ("a" : Str).cps.toList) := by
        show ¬ ([c] < [97])
        intro hlt
        rcases List.cons_lt_cons_iff.mp hlt with h1 | ⟨h1, h2⟩
        · omega
        · exact absurd h2 (by simp)
      have l2 : ¬ (("z" : Str).cps.toList < (⟨#[c]⟩ : Str).cps.toList) := by
        show ¬ ([122] < [c])
        intro hlt
        rcases List.cons_lt_cons_iff.mp hlt with h1 | ⟨h1, h2⟩
        · omega
        · exact absurd h2 (by simp)
      refine ⟨_, rfl, ?_⟩
      simp only [e_is_name_1, runF, exSs, exS, evE, evEs, R.bind_ok, R.bind_bad, R.bind_exc, ofO_some, ofO_none, bindT, setAll, List.length_cons, List.length_nil, List.map_cons, List.map_nil, List.getElem?_cons_zero, List.getElem?_cons_succ, List.cons_append, List.nil_append, List.set_cons_zero, List.set_cons_succ, Nat.zero_add, Nat.add_zero, Nat.le_refl, and_self, if_true, true_and, and_true, List.replicate_succ, List.replicate_zero, Nat.sub_self, Nat.reduceSub, Nat.reduceAdd, Nat.reduceLeDiff, Nat.reduceEqDiff, Nat.zero_le, small, tru_bl, isNon, Bool.not_true, Bool.not_false, le_str, decide_eq_false l1, decide_eq_false l2]) (by rw [List.length_nil, hsz]; omega)
  have hg : g_MAX_NAME = .int 12 := rfl
  simp only [d_is_name, runF, exSs, exS, evE, evEs, R.bind_ok, R.bind_bad, R.bind_exc, ofO_some, ofO_none, bindT, setAll, List.length_cons, List.length_nil, List.map_cons, List.map_nil, List.getElem?_cons_zero, List.getElem?_cons_succ, List.cons_append, List.nil_append, List.set_cons_zero, List.set_cons_succ, Nat.zero_add, Nat.add_zero, Nat.le_refl, and_self, if_true, true_and, and_true, List.replicate_succ, List.replicate_zero, Nat.sub_self, Nat.reduceSub, Nat.reduceAdd, Nat.reduceLeDiff, Nat.reduceEqDiff, Nat.zero_le, small, tru_bl, isNon, Bool.not_true, Bool.not_false, hi, hlen, hg, le_int, hw, key, List.nil_append, all_tt, decide_eq_true (show (1 : Int) ≤ (t.length : Int) by omega), decide_eq_true (show (t.length : Int) ≤ 12 by omega)]
theorem v_is_name (n : Nat) (t : Str) (h : NameOk t) (st : Store) : callV (callN prog (n + 1)) "is_name" [.str t] st = .ok (.bl true) st := callV_p rfl (c_is_name n t h [])
theorem c_are_names (n : Nat) (l : List Str) (h : ∀ t ∈ l, NameOk t) (ha : l.Pairwise ltS) (hl : l.length ≤ 900) (st : Store) : callN prog (n + 2) "are_names" [.tup (l.map Val.str)] st = .ok (.bl true) st := by
  rw [callN_at lk_are_names]
  have hi : isiV st (.tup (l.map Val.str)) .tuple = some true := rfl
  have key := lc_map (f := evE (callN prog (n + 1)) e_are_names_1) (tg := .nm 1) (env := [some (.tup (l.map Val.str)), none]) (keep := keepW .of [.tup (l.map Val.str)] (l.map Val.str)) (st := st)
    Val.str (fun _ => .bl true) (keep_tup _ _ _ _) l [] (fun c hc => ⟨_, rfl, by simp only [e_are_names_1, runF, exSs, exS, evE, evEs, R.bind_ok, R.bind_bad, R.bind_exc, ofO_some, ofO_none, bindT, setAll, List.length_cons, List.length_nil, List.map_cons, List.map_nil, List.getElem?_cons_zero, List.getElem?_cons_succ, List.cons_append, List.nil_append, List.set_cons_zero, List.set_cons_succ, Nat.zero_add, Nat.add_zero, Nat.le_refl, and_self, if_true, true_and, and_true, List.replicate_succ, List.replicate_zero, Nat.sub_self, Nat.reduceSub, Nat.reduceAdd, Nat.reduceLeDiff, Nat.reduceEqDiff, Nat.zero_le, small, tru_bl, isNon, Bool.not_true, Bool.not_false, v_is_name n c (h c hc)]⟩) (by simp; omega)
  simp only [d_are_names, runF, exSs, exS, evE, evEs, R.bind_ok, R.bind_bad, R.bind_exc, ofO_some, ofO_none, bindT, setAll, List.length_cons, List.length_nil, List.map_cons, List.map_nil, List.getElem?_cons_zero, List.getElem?_cons_succ, List.cons_append, List.nil_append, List.set_cons_zero, List.set_cons_succ, Nat.zero_add, Nat.add_zero, Nat.le_refl, and_self, if_true, true_and, and_true, List.replicate_succ, List.replicate_zero, Nat.sub_self, Nat.reduceSub, Nat.reduceAdd, Nat.reduceLeDiff, Nat.reduceEqDiff, Nat.zero_le, small, tru_bl, isNon, Bool.not_true, Bool.not_false, hi, walk_tup, key, List.nil_append, all_tt, v_is_ascending n _ l (.inl rfl) hl, ascB_of ha]
theorem v_are_names (n : Nat) (l : List Str) (h : ∀ t ∈ l, NameOk t) (ha : l.Pairwise ltS) (hl : l.length ≤ 900) (st : Store) : callV (callN prog (n + 2)) "are_names" [.tup (l.map Val.str)] st = .ok (.bl true) st :=
  callV_p (pure1 (da_seq (.inl rfl))) (c_are_names n l h ha hl [])
/-! ### values that cells show -/
theorem c_is_worth (n : Nat) (v : Val) (sz : Int) (st : Store) (h : v.da = true) : callN prog (n + 3) "is_worth" [v, .int sz] st = .ok (.bl (btw 0 (sz - 1) v)) st := by
  rw [callN_at lk_is_worth]
  simp only [d_is_worth, runF, exSs, exS, evE, evEs, R.bind_ok, R.bind_bad, R.bind_exc, ofO_some, ofO_none, bindT, setAll, List.length_cons, List.length_nil, List.map_cons, List.map_nil, List.getElem?_cons_zero, List.getElem?_cons_succ, List.cons_append, List.nil_append, List.set_cons_zero, List.set_cons_succ, Nat.zero_add, Nat.add_zero, Nat.le_refl, and_self, if_true, true_and, and_true, List.replicate_succ, List.replicate_zero, Nat.sub_self, Nat.reduceSub, Nat.reduceAdd, Nat.reduceLeDiff, Nat.reduceEqDiff, Nat.zero_le, small, tru_bl, isNon, Bool.not_true, Bool.not_false, op_sub, v_is_between n v 0 (sz - 1) st h]
theorem v_is_worth (n : Nat) (v : Val) (sz : Int) (st : Store) (h : v.da = true) : callV (callN prog (n + 3)) "is_worth" [v, .int sz] st = .ok (.bl (btw 0 (sz - 1) v)) st :=
  callV_p (pure2 h rfl) (c_is_worth n v sz [] h)
theorem v_is_worth_or_none (n : Nat) (v : Val) (sz : Int) (st : Store) (h : v.da = true) : callV (callN prog (n + 4)) "is_worth_or_none" [v, .int sz] st = .ok (.bl (isNon v || btw 0 (sz - 1) v)) st := by
  refine callV_p (pure2 h rfl) ?_
  rw [callN_at lk_is_worth_or_none]
  simp only [d_is_worth_or_none, runF, exSs, exS, evE, evEs, R.bind_ok, R.bind_bad, R.bind_exc, ofO_some, ofO_none, bindT, setAll, List.length_cons, List.length_nil, List.map_cons, List.map_nil, List.getElem?_cons_zero, List.getElem?_cons_succ, List.cons_append, List.nil_append, List.set_cons_zero, List.set_cons_succ, Nat.zero_add, Nat.add_zero, Nat.le_refl, and_self, if_true, true_and, and_true, List.replicate_succ, List.replicate_zero, Nat.sub_self, Nat.reduceSub, Nat.reduceAdd, Nat.reduceLeDiff, Nat.reduceEqDiff, Nat.zero_le, small, tru_bl, isNon, Bool.not_true, Bool.not_false, v_is_worth n v sz [] h]
  cases v <;> simp [isNon]
theorem v_is_table (n : Nat) (ws : List Int) (sz : Int) (hl : (ws.length : Int) = sz) (hs : sz ≤ 900) (hw : ∀ w ∈ ws, 0 ≤ w ∧ w < sz) (st : Store) : callV (callN prog (n + 4)) "is_table" [.tup (ws.map Val.int), .int sz] st = .ok (.bl true) st := by
  have hd : (Val.tup (ws.map Val.int)).da = true := by simp only [Val.da, da_ints]
  refine callV_p (pure2 hd rfl) ?_
  rw [callN_at lk_is_table]
  have key := lc_map (f := evE (callN prog (n + 3)) e_is_table_1) (tg := .nm 2) (env := [some (.tup (ws.map Val.int)), some (.int sz), none]) (keep := keepW .of [.tup (ws.map Val.int)] (ws.map Val.int)) (st := [])
    Val.int (fun _ => .bl true) (keep_tup _ _ _ _) ws [] (fun c hc => ⟨_, rfl, by
      obtain ⟨c1, c2⟩ := hw c hc
      simp only [e_is_table_1, runF, exSs, exS, evE, evEs, R.bind_ok, R.bind_bad, R.bind_exc, ofO_some, ofO_none, bindT, setAll, List.length_cons, List.length_nil, List.map_cons, List.map_nil, List.getElem?_cons_zero, List.getElem?_cons_succ, List.cons_append, List.nil_append, List.set_cons_zero, List.set_cons_succ, Nat.zero_add, Nat.add_zero, Nat.le_refl, and_self, if_true, true_and, and_true, List.replicate_succ, List.replicate_zero, Nat.sub_self, Nat.reduceSub, Nat.reduceAdd, Nat.reduceLeDiff, Nat.reduceEqDiff, Nat.zero_le, small, tru_bl, isNon, Bool.not_true, Bool.not_false, v_is_worth n (.int c) sz [] rfl, btw, decide_eq_true c1, decide_eq_true (show c ≤ sz - 1 by omega)]
      rfl⟩) (by simp; omega)
  simp only [d_is_table, runF, exSs, exS, evE, evEs, R.bind_ok, R.bind_bad, R.bind_exc, ofO_some, ofO_none, bindT, setAll, List.length_cons, List.length_nil, List.map_cons, List.map_nil, List.getElem?_cons_zero, List.getElem?_cons_succ, List.cons_append, List.nil_append, List.set_cons_zero, List.set_cons_succ, Nat.zero_add, Nat.add_zero, Nat.le_refl, and_self, if_true, true_and, and_true, List.replicate_succ, List.replicate_zero, Nat.sub_self, Nat.reduceSub, Nat.reduceAdd, Nat.reduceLeDiff, Nat.reduceEqDiff, Nat.zero_le, small, tru_bl, isNon, Bool.not_true, Bool.not_false, v_is_row (n + 2) _ sz [] hd, isRow, List.length_map, decide_eq_true hl, walk_tup, key, List.nil_append, all_tt]
end PV
end

section
set_option Elab.async false
set_option linter.all false
set_option maxRecDepth 100000
set_option maxHeartbeats 1000000
namespace PV
open PySem L2
/-! ### forms -/
inductive Kd where
  | late | mat | oth
  deriving DecidableEq
def pairs_ : List Str := ["add", "times", "least", "most", "alike", "less"]
def twos_ : List Str := ["add", "times", "least", "most", "alike", "less", "when", "else"]
theorem in_c (st : Store) (a : Str) (l : List Str) (b : Bool) (h : (PyData.strOk a && l.all PyData.strOk && (decide (a ∈ l) == b)) = true) : cmpV st .isin (.str a) (.tup (l.map Val.str)) = some b := by
  simp only [Bool.and_eq_true, beq_iff_eq] at h
  rw [in_tup st h.1.1 (fun t ht => List.all_eq_true.mp h.1.2 t ht), h.2]
theorem sok_c {a : Str} (h : PyData.strOk a = true) : Sok a := h
theorem eq_c (st : Store) (a b : Str) (c : Bool) (h : (PyData.strOk a && PyData.strOk b && (decide (a = b) == c)) = true) : cmpV st .eq (.str a) (.str b) = some c := by
  simp only [Bool.and_eq_true, beq_iff_eq] at h
  rw [eq_str st h.1.1 h.1.2, h.2]
/-- forms as they are drawn, with their names -/
inductive FormOk (sz : Int) : Val → List Str → Kd → Prop
  | worth (w : Int) (h0 : 0 ≤ w) (h1 : w < sz) : FormOk sz (.tup [.str "worth", .int w]) [] .oth
  | copy (x : Str) (hx : NameOk x) : FormOk sz (.tup [.str "copy", .str x]) [x] .oth
  | there (x : Str) (hx : NameOk x) : FormOk sz (.tup [.str "there", .str x]) [x] .oth
  | turn (x : Str) (ws : List Int) (hx : NameOk x) (hl : (ws.length : Int) = sz) (hw : ∀ w ∈ ws, 0 ≤ w ∧ w < sz) : FormOk sz (.tup [.str "turn", .str x, .tup (ws.map Val.int)]) [x] .oth
  | held (x : Str) (w : Int) (hx : NameOk x) (h0 : 0 ≤ w) (h1 : w < sz) : FormOk sz (.tup [.str "held", .str x, .int w]) [x] .oth
  | before (x : Str) (w : Int) (hx : NameOk x) (h0 : 0 ≤ w) (h1 : w < sz) : FormOk sz (.tup [.str "before", .str x, .int w]) [x] .oth
  | lateN (x : Str) (hx : NameOk x) : FormOk sz (.tup [.str "late", .str x, .non]) [x] .late
  | lateW (x : Str) (w : Int) (hx : NameOk x) (h0 : 0 ≤ w) (h1 : w < sz) : FormOk sz (.tup [.str "late", .str x, .int w]) [x] .late
  | mat (op x y : Str) (h : op ∈ pairs_) (hx : NameOk x) (hy : NameOk y) : FormOk sz (.tup [.str "match", .str op, .str x, .str y]) [x, y] .mat
  | two (wd x y : Str) (h : wd ∈ twos_) (hx : NameOk x) (hy : NameOk y) : FormOk sz (.tup [.str wd, .str x, .str y]) [x, y] .oth
theorem twos_cases {wd : Str} (h : wd ∈ twos_) : wd = "add" ∨ wd = "times" ∨ wd = "least" ∨ wd = "most" ∨ wd = "alike" ∨ wd = "less" ∨ wd = "when" ∨ wd = "else" := by simpa [twos_] using h
theorem pairs_cases {wd : Str} (h : wd ∈ pairs_) : wd = "add" ∨ wd = "times" ∨ wd = "least" ∨ wd = "most" ∨ wd = "alike" ∨ wd = "less" := by simpa [pairs_] using h
theorem FormOk.names {sz : Int} {fm : Val} {ns : List Str} {k : Kd} (h : FormOk sz fm ns k) : ∀ x ∈ ns, NameOk x := by
  intro z hz
  cases h <;> simp at hz <;> (try (rcases hz with rfl | rfl)) <;> (try subst hz) <;> assumption
theorem FormOk.short {sz : Int} {fm : Val} {ns : List Str} {k : Kd} (h : FormOk sz fm ns k) : ns.length ≤ 2 := by
  cases h <;> simp
theorem FormOk.da {sz : Int} {fm : Val} {ns : List Str} {k : Kd} (h : FormOk sz fm ns k) : fm.da = true := by
  cases h <;> simp [Val.da, daAll, da_ints]
/-- the word of a form -/
theorem FormOk.word {sz : Int} {fm : Val} {ns : List Str} {k : Kd} (h : FormOk sz fm ns k) : ∃ wd : Str, (∀ st, itemV st fm (.int 0) = some (.str wd)) ∧ decide (wd = "late") = decide (k = .late) ∧ decide (wd = "match") = decide (k = .mat) ∧ Sok wd := by
  cases h with
  | two wd x y h hx hy => exact ⟨wd, fun st => rfl, by rcases twos_cases h with rfl | rfl | rfl | rfl | rfl | rfl | rfl | rfl <;> decide, by rcases twos_cases h with rfl | rfl | rfl | rfl | rfl | rfl | rfl | rfl <;> decide, by rcases twos_cases h with rfl | rfl | rfl | rfl | rfl | rfl | rfl | rfl <;> exact sok_c (by decide +kernel)⟩
  | _ => exact ⟨_, fun st => rfl, by decide, by decide, sok_c (by decide +kernel)⟩
theorem lk_names_in : List.lookup ("names_in" : Str) prog = some d_names_in.fn := rfl
theorem lk_lnames_in : List.lookup ("_law_names_in" : Str) prog = some d__law_names_in.fn := rfl
theorem lk_now_names : List.lookup ("now_names" : Str) prog = some d_now_names.fn := rfl
theorem lk_is_form : List.lookup ("is_form" : Str) prog = some d_is_form.fn := rfl
theorem lk_is_pairing : List.lookup ("is_pairing" : Str) prog = some d_is_pairing.fn := rfl
theorem c_names_in {sz : Int} {fm : Val} {ns : List Str} {k : Kd} (h : FormOk sz fm ns k) (n : Nat) (st : Store) : callN prog (n + 1) "names_in" [fm] st = .ok (.tup (ns.map Val.str)) st := by
  rw [callN_at lk_names_in]
  cases h with
  | two wd x y h hx hy => rcases twos_cases h with rfl | rfl | rfl | rfl | rfl | rfl | rfl | rfl <;> kernel_rfl
  | _ => kernel_rfl
theorem c_lnames_in {sz : Int} {fm : Val} {ns : List Str} {k : Kd} (h : FormOk sz fm ns k) (n : Nat) (st : Store) : callN prog (n + 1) "_law_names_in" [fm] st = .ok (.tup (ns.map Val.str)) st := by
  rw [callN_at lk_lnames_in]
  cases h with
  | two wd x y h hx hy => rcases twos_cases h with rfl | rfl | rfl | rfl | rfl | rfl | rfl | rfl <;> kernel_rfl
  | _ => kernel_rfl
theorem v_names_in {sz : Int} {fm : Val} {ns : List Str} {k : Kd} (h : FormOk sz fm ns k) (n : Nat) (st : Store) : callV (callN prog (n + 1)) "names_in" [fm] st = .ok (.tup (ns.map Val.str)) st :=
  callV_p (pure1 h.da) (c_names_in h n [])
theorem v_lnames_in {sz : Int} {fm : Val} {ns : List Str} {k : Kd} (h : FormOk sz fm ns k) (n : Nat) (st : Store) : callV (callN prog (n + 1)) "_law_names_in" [fm] st = .ok (.tup (ns.map Val.str)) st :=
  callV_p (pure1 h.da) (c_lnames_in h n [])
def nowOf (ns : List Str) (k : Kd) : List Str := if k = .late then [] else ns
theorem v_now_names {sz : Int} {fm : Val} {ns : List Str} {k : Kd} (h : FormOk sz fm ns k) (n : Nat) (st : Store) : callV (callN prog (n + 2)) "now_names" [fm] st = .ok (.tup ((nowOf ns k).map Val.str)) st := by
  refine callV_p (pure1 h.da) ?_
  rw [callN_at lk_now_names]
  obtain ⟨wd, h1, h2, h3, h4⟩ := h.word
  have e := v_names_in h n []
  have q : cmpV [] .eq (.str wd) (.str "late") = some (decide (wd = "late")) := eq_str _ h4 (sok_c (by decide +kernel))
  simp only [d_now_names, runF, exSs, exS, evE, evEs, R.bind_ok, R.bind_bad, R.bind_exc, ofO_some, ofO_none, bindT, setAll, List.length_cons, List.length_nil, List.map_cons, List.map_nil, List.getElem?_cons_zero, List.getElem?_cons_succ, List.cons_append, List.nil_append, List.set_cons_zero, List.set_cons_succ, Nat.zero_add, Nat.add_zero, Nat.le_refl, and_self, if_true, true_and, and_true, List.replicate_succ, List.replicate_zero, Nat.sub_self, Nat.reduceSub, Nat.reduceAdd, Nat.reduceLeDiff, Nat.reduceEqDiff, Nat.zero_le, small, tru_bl, isNon, Bool.not_true, Bool.not_false, h1, q, h2, nowOf]
  by_cases hk : k = .late
  · simp only [hk, decide_true, if_true, runF, exSs, exS, evE, evEs, R.bind_ok, R.bind_bad, R.bind_exc, ofO_some, ofO_none, bindT, setAll, List.length_cons, List.length_nil, List.map_cons, List.map_nil, List.getElem?_cons_zero, List.getElem?_cons_succ, List.cons_append, List.nil_append, List.set_cons_zero, List.set_cons_succ, Nat.zero_add, Nat.add_zero, Nat.le_refl, and_self, if_true, true_and, and_true, List.replicate_succ, List.replicate_zero, Nat.sub_self, Nat.reduceSub, Nat.reduceAdd, Nat.reduceLeDiff, Nat.reduceEqDiff, Nat.zero_le, small, tru_bl, isNon, Bool.not_true, Bool.not_false]
  · simp only [decide_eq_false hk, if_neg hk, e, runF, exSs, exS, evE, evEs, R.bind_ok, R.bind_bad, R.bind_exc, ofO_some, ofO_none, bindT, setAll, List.length_cons, List.length_nil, List.map_cons, List.map_nil, List.getElem?_cons_zero, List.getElem?_cons_succ, List.cons_append, List.nil_append, List.set_cons_zero, List.set_cons_succ, Nat.zero_add, Nat.add_zero, Nat.le_refl, and_self, if_true, true_and, and_true, List.replicate_succ, List.replicate_zero, Nat.sub_self, Nat.reduceSub, Nat.reduceAdd, Nat.reduceLeDiff, Nat.reduceEqDiff, Nat.zero_le, small, tru_bl, isNon, Bool.not_true, Bool.not_false]
theorem v_is_pairing (op x y : Str) (h : op ∈ pairs_) (hx : NameOk x) (hy : NameOk y) (n : Nat) (st : Store) : callV (callN prog (n + 2)) "is_pairing" [.tup [.str "match", .str op, .str x, .str y]] st = .ok (.bl true) st := by
  refine callV_p rfl ?_
  rw [callN_at lk_is_pairing]
  have i1 : itemV [] (.tup [.str "match", .str op, .str x, .str y]) (.int 1) = some (.str op) := rfl
  have i2 : itemV [] (.tup [.str "match", .str op, .str x, .str y]) (.int 2) = some (.str x) := rfl
  have i3 : itemV [] (.tup [.str "match", .str op, .str x, .str y]) (.int 3) = some (.str y) := rfl
  have i4 : isiV [] (.str op) .str = some true := rfl
  have i5 : cmpV [] .isin (.str op) g_PAIRS = some true := by rcases pairs_cases h with rfl | rfl | rfl | rfl | rfl | rfl <;> exact in_c [] _ pairs_ true (by decide +kernel)
  simp only [d_is_pairing, runF, exSs, exS, evE, evEs, R.bind_ok, R.bind_bad, R.bind_exc, ofO_some, ofO_none, bindT, setAll, List.length_cons, List.length_nil, List.map_cons, List.map_nil, List.getElem?_cons_zero, List.getElem?_cons_succ, List.cons_append, List.nil_append, List.set_cons_zero, List.set_cons_succ, Nat.zero_add, Nat.add_zero, Nat.le_refl, and_self, if_true, true_and, and_true, List.replicate_succ, List.replicate_zero, Nat.sub_self, Nat.reduceSub, Nat.reduceAdd, Nat.reduceLeDiff, Nat.reduceEqDiff, Nat.zero_le, small, tru_bl, isNon, Bool.not_true, Bool.not_false, i1, i2, i3, i4, i5, v_is_name n x hx, v_is_name n y hy]
theorem c_is_form {sz : Int} {fm : Val} {ns : List Str} {k : Kd} (h : FormOk sz fm ns k) (hs : sz ≤ 900) (n : Nat) (st : Store) : callN prog (n + 5) "is_form" [fm, .int sz] st = .ok (.bl true) st := by
  rw [callN_at lk_is_form]
  have bt : ∀ w : Int, 0 ≤ w → w < sz → btw 0 (sz - 1) (.int w) = true := fun w h0 h1 => by
    simp only [btw, decide_eq_true h0, decide_eq_true (show w ≤ sz - 1 by omega), Bool.and_self]
  cases h with
  | worth w h0 h1 =>
    have t0 : ∀ st : Store, isiV st (.tup [.str "worth", .int w]) .tuple = some true := fun st => rfl
    have t1 : ∀ st : Store, b1V st .len (.tup [.str "worth", .int w]) = some (.int 2) := fun st => rfl
    have t2 : ∀ st : Store, cmpV st .eq (.int 2) (.int 0) = some false := fun st => rfl
    have t3 : ∀ st : Store, isiV st (.str "worth") .str = some true := fun st => rfl
    have dd : (Val.da (.tup [.str "worth", .int w])) = true := by simp [Val.da, daAll, da_ints]
    have t4 := v_is_row (n + 3) (.tup [.str "worth", .int w]) 2 st dd
    have t5 : isRow 2 (.tup [.str "worth", .int w]) = true := rfl
    have i0 : ∀ st : Store, itemV st (.tup [.str "worth", .int w]) (.int 0) = some (.str "worth") := fun st => rfl
    have i1 : ∀ st : Store, itemV st (.tup [.str "worth", .int w]) (.int 1) = some (.int w) := fun st => rfl
    have k0 : ∀ st : Store, cmpV st .eq (.str "worth") (.str "worth") = some true := fun st => eq_c st _ _ true (by decide +kernel)
    simp only [d_is_form, runF, exSs, exS, evE, evEs, R.bind_ok, R.bind_bad, R.bind_exc, ofO_some, ofO_none, bindT, setAll, List.length_cons, List.length_nil, List.map_cons, List.map_nil, List.getElem?_cons_zero, List.getElem?_cons_succ, List.cons_append, List.nil_append, List.set_cons_zero, List.set_cons_succ, Nat.zero_add, Nat.add_zero, Nat.le_refl, and_self, if_true, true_and, and_true, List.replicate_succ, List.replicate_zero, Nat.sub_self, Nat.reduceSub, Nat.reduceAdd, Nat.reduceLeDiff, Nat.reduceEqDiff, Nat.zero_le, small, tru_bl, isNon, Bool.not_true, Bool.not_false, t0, t1, t2, t3, t4, t5, i0, i1, k0, v_is_worth (n + 1) (.int w) sz st rfl, bt w h0 h1]
  | copy x hx =>
    have t0 : ∀ st : Store, isiV st (.tup [.str "copy", .str x]) .tuple = some true := fun st => rfl
    have t1 : ∀ st : Store, b1V st .len (.tup [.str "copy", .str x]) = some (.int 2) := fun st => rfl
    have t2 : ∀ st : Store, cmpV st .eq (.int 2) (.int 0) = some false := fun st => rfl
    have t3 : ∀ st : Store, isiV st (.str "copy") .str = some true := fun st => rfl
    have dd : (Val.da (.tup [.str "copy", .str x])) = true := by simp [Val.da, daAll, da_ints]
    have t4 := v_is_row (n + 3) (.tup [.str "copy", .str x]) 2 st dd
    have t5 : isRow 2 (.tup [.str "copy", .str x]) = true := rfl
    have i0 : ∀ st : Store, itemV st (.tup [.str "copy", .str x]) (.int 0) = some (.str "copy") := fun st => rfl
    have i1 : ∀ st : Store, itemV st (.tup [.str "copy", .str x]) (.int 1) = some (.str x) := fun st => rfl
    have k0 : ∀ st : Store, cmpV st .eq (.str "copy") (.str "worth") = some false := fun st => eq_c st _ _ false (by decide +kernel)
    have k1 : ∀ st : Store, cmpV st .isin (.str "copy") (.tup [.str "copy", .str "there"]) = some true := fun st => in_c st "copy" ["copy", "there"] true (by decide +kernel)
    simp only [d_is_form, runF, exSs, exS, evE, evEs, R.bind_ok, R.bind_bad, R.bind_exc, ofO_some, ofO_none, bindT, setAll, List.length_cons, List.length_nil, List.map_cons, List.map_nil, List.getElem?_cons_zero, List.getElem?_cons_succ, List.cons_append, List.nil_append, List.set_cons_zero, List.set_cons_succ, Nat.zero_add, Nat.add_zero, Nat.le_refl, and_self, if_true, true_and, and_true, List.replicate_succ, List.replicate_zero, Nat.sub_self, Nat.reduceSub, Nat.reduceAdd, Nat.reduceLeDiff, Nat.reduceEqDiff, Nat.zero_le, small, tru_bl, isNon, Bool.not_true, Bool.not_false, t0, t1, t2, t3, t4, t5, i0, i1, k0, k1, v_is_name (n + 3) x hx]
  | there x hx =>
    have t0 : ∀ st : Store, isiV st (.tup [.str "there", .str x]) .tuple = some true := fun st => rfl
    have t1 : ∀ st : Store, b1V st .len (.tup [.str "there", .str x]) = some (.int 2) := fun st => rfl
    have t2 : ∀ st : Store, cmpV st .eq (.int 2) (.int 0) = some false := fun st => rfl
    have t3 : ∀ st : Store, isiV st (.str "there") .str = some true := fun st => rfl
    have dd : (Val.da (.tup [.str "there", .str x])) = true := by simp [Val.da, daAll, da_ints]
    have t4 := v_is_row (n + 3) (.tup [.str "there", .str x]) 2 st dd
    have t5 : isRow 2 (.tup [.str "there", .str x]) = true := rfl
    have i0 : ∀ st : Store, itemV st (.tup [.str "there", .str x]) (.int 0) = some (.str "there") := fun st => rfl
    have i1 : ∀ st : Store, itemV st (.tup [.str "there", .str x]) (.int 1) = some (.str x) := fun st => rfl
    have k0 : ∀ st : Store, cmpV st .eq (.str "there") (.str "worth") = some false := fun st => eq_c st _ _ false (by decide +kernel)
    have k1 : ∀ st : Store, cmpV st .isin (.str "there") (.tup [.str "copy", .str "there"]) = some true := fun st => in_c st "there" ["copy", "there"] true (by decide +kernel)
    simp only [d_is_form, runF, exSs, exS, evE, evEs, R.bind_ok, R.bind_bad, R.bind_exc, ofO_some, ofO_none, bindT, setAll, List.length_cons, List.length_nil, List.map_cons, List.map_nil, List.getElem?_cons_zero, List.getElem?_cons_succ, List.cons_append, List.nil_append, List.set_cons_zero, List.set_cons_succ, Nat.zero_add, Nat.add_zero, Nat.le_refl, and_self, if_true, true_and, and_true, List.replicate_succ, List.replicate_zero, Nat.sub_self, Nat.reduceSub, Nat.reduceAdd, Nat.reduceLeDiff, Nat.reduceEqDiff, Nat.zero_le, small, tru_bl, isNon, Bool.not_true, Bool.not_false, t0, t1, t2, t3, t4, t5, i0, i1, k0, k1, v_is_name (n + 3) x hx]
  | turn x ws hx hl hw =>
    have t0 : ∀ st : Store, isiV st (.tup [.str "turn", .str x, .tup (ws.map Val.int)]) .tuple = some true := fun st => rfl
    have t1 : ∀ st : Store, b1V st .len (.tup [.str "turn", .str x, .tup (ws.map Val.int)]) = some (.int 3) := fun st => rfl
    have t2 : ∀ st : Store, cmpV st .eq (.int 3) (.int 0) = some false := fun st => rfl
    have t3 : ∀ st : Store, isiV st (.str "turn") .str = some true := fun st => rfl
    have dd : (Val.da (.tup [.str "turn", .str x, .tup (ws.map Val.int)])) = true := by simp [Val.da, daAll, da_ints]
    have t4 := v_is_row (n + 3) (.tup [.str "turn", .str x, .tup (ws.map Val.int)]) 3 st dd
    have t5 : isRow 3 (.tup [.str "turn", .str x, .tup (ws.map Val.int)]) = true := rfl
    have i0 : ∀ st : Store, itemV st (.tup [.str "turn", .str x, .tup (ws.map Val.int)]) (.int 0) = some (.str "turn") := fun st => rfl
    have i1 : ∀ st : Store, itemV st (.tup [.str "turn", .str x, .tup (ws.map Val.int)]) (.int 1) = some (.str x) := fun st => rfl
    have i2 : ∀ st : Store, itemV st (.tup [.str "turn", .str x, .tup (ws.map Val.int)]) (.int 2) = some (.tup (ws.map Val.int)) := fun st => rfl
    have k0 : ∀ st : Store, cmpV st .eq (.str "turn") (.str "worth") = some false := fun st => eq_c st _ _ false (by decide +kernel)
    have k1 : ∀ st : Store, cmpV st .isin (.str "turn") (.tup [.str "copy", .str "there"]) = some false := fun st => in_c st "turn" ["copy", "there"] false (by decide +kernel)
    have k2 : ∀ st : Store, cmpV st .isin (.str "turn") (g_PAIRS) = some false := fun st => in_c st "turn" pairs_ false (by decide +kernel)
    have k3 : ∀ st : Store, cmpV st .isin (.str "turn") (.tup [.str "when", .str "else"]) = some false := fun st => in_c st "turn" ["when", "else"] false (by decide +kernel)
    have k4 : ∀ st : Store, cmpV st .eq (.str "turn") (.str "turn") = some true := fun st => eq_c st _ _ true (by decide +kernel)
    simp only [d_is_form, runF, exSs, exS, evE, evEs, R.bind_ok, R.bind_bad, R.bind_exc, ofO_some, ofO_none, bindT, setAll, List.length_cons, List.length_nil, List.map_cons, List.map_nil, List.getElem?_cons_zero, List.getElem?_cons_succ, List.cons_append, List.nil_append, List.set_cons_zero, List.set_cons_succ, Nat.zero_add, Nat.add_zero, Nat.le_refl, and_self, if_true, true_and, and_true, List.replicate_succ, List.replicate_zero, Nat.sub_self, Nat.reduceSub, Nat.reduceAdd, Nat.reduceLeDiff, Nat.reduceEqDiff, Nat.zero_le, small, tru_bl, isNon, Bool.not_true, Bool.not_false, t0, t1, t2, t3, t4, t5, i0, i1, i2, k0, k1, k2, k3, k4, v_is_name (n + 3) x hx, v_is_table n ws sz hl hs hw]
  | held x w hx h0 h1 =>
    have t0 : ∀ st : Store, isiV st (.tup [.str "held", .str x, .int w]) .tuple = some true := fun st => rfl
    have t1 : ∀ st : Store, b1V st .len (.tup [.str "held", .str x, .int w]) = some (.int 3) := fun st => rfl
    have t2 : ∀ st : Store, cmpV st .eq (.int 3) (.int 0) = some false := fun st => rfl
    have t3 : ∀ st : Store, isiV st (.str "held") .str = some true := fun st => rfl
    have dd : (Val.da (.tup [.str "held", .str x, .int w])) = true := by simp [Val.da, daAll, da_ints]
    have t4 := v_is_row (n + 3) (.tup [.str "held", .str x, .int w]) 3 st dd
    have t5 : isRow 3 (.tup [.str "held", .str x, .int w]) = true := rfl
    have i0 : ∀ st : Store, itemV st (.tup [.str "held", .str x, .int w]) (.int 0) = some (.str "held") := fun st => rfl
    have i1 : ∀ st : Store, itemV st (.tup [.str "held", .str x, .int w]) (.int 1) = some (.str x) := fun st => rfl
    have i2 : ∀ st : Store, itemV st (.tup [.str "held", .str x, .int w]) (.int 2) = some (.int w) := fun st => rfl
    have k0 : ∀ st : Store, cmpV st .eq (.str "held") (.str "worth") = some false := fun st => eq_c st _ _ false (by decide +kernel)
    have k1 : ∀ st : Store, cmpV st .isin (.str "held") (.tup [.str "copy", .str "there"]) = some false := fun st => in_c st "held" ["copy", "there"] false (by decide +kernel)
    have k2 : ∀ st : Store, cmpV st .isin (.str "held") (g_PAIRS) = some false := fun st => in_c st "held" pairs_ false (by decide +kernel)
    have k3 : ∀ st : Store, cmpV st .isin (.str "held") (.tup [.str "when", .str "else"]) = some false := fun st => in_c st "held" ["when", "else"] false (by decide +kernel)
    have k4 : ∀ st : Store, cmpV st .eq (.str "held") (.str "turn") = some false := fun st => eq_c st _ _ false (by decide +kernel)
    have k5 : ∀ st : Store, cmpV st .isin (.str "held") (.tup [.str "held", .str "before"]) = some true := fun st => in_c st "held" ["held", "before"] true (by decide +kernel)
    simp only [d_is_form, runF, exSs, exS, evE, evEs, R.bind_ok, R.bind_bad, R.bind_exc, ofO_some, ofO_none, bindT, setAll, List.length_cons, List.length_nil, List.map_cons, List.map_nil, List.getElem?_cons_zero, List.getElem?_cons_succ, List.cons_append, List.nil_append, List.set_cons_zero, List.set_cons_succ, Nat.zero_add, Nat.add_zero, Nat.le_refl, and_self, if_true, true_and, and_true, List.replicate_succ, List.replicate_zero, Nat.sub_self, Nat.reduceSub, Nat.reduceAdd, Nat.reduceLeDiff, Nat.reduceEqDiff, Nat.zero_le, small, tru_bl, isNon, Bool.not_true, Bool.not_false, t0, t1, t2, t3, t4, t5, i0, i1, i2, k0, k1, k2, k3, k4, k5, v_is_name (n + 3) x hx, v_is_worth (n + 1) (.int w) sz st rfl, bt w h0 h1]
  | before x w hx h0 h1 =>
    have t0 : ∀ st : Store, isiV st (.tup [.str "before", .str x, .int w]) .tuple = some true := fun st => rfl
    have t1 : ∀ st : Store, b1V st .len (.tup [.str "before", .str x, .int w]) = some (.int 3) := fun st => rfl
    have t2 : ∀ st : Store, cmpV st .eq (.int 3) (.int 0) = some false := fun st => rfl
    have t3 : ∀ st : Store, isiV st (.str "before") .str = some true := fun st => rfl
    have dd : (Val.da (.tup [.str "before", .str x, .int w])) = true := by simp [Val.da, daAll, da_ints]
    have t4 := v_is_row (n + 3) (.tup [.str "before", .str x, .int w]) 3 st dd
    have t5 : isRow 3 (.tup [.str "before", .str x, .int w]) = true := rfl
    have i0 : ∀ st : Store, itemV st (.tup [.str "before", .str x, .int w]) (.int 0) = some (.str "before") := fun st => rfl
    have i1 : ∀ st : Store, itemV st (.tup [.str "before", .str x, .int w]) (.int 1) = some (.str x) := fun st => rfl
    have i2 : ∀ st : Store, itemV st (.tup [.str "before", .str x, .int w]) (.int 2) = some (.int w) := fun st => rfl
    have k0 : ∀ st : Store, cmpV st .eq (.str "before") (.str "worth") = some false := fun st => eq_c st _ _ false (by decide +kernel)
    have k1 : ∀ st : Store, cmpV st .isin (.str "before") (.tup [.str "copy", .str "there"]) = some false := fun st => in_c st "before" ["copy", "there"] false (by decide +kernel)
    have k2 : ∀ st : Store, cmpV st .isin (.str "before") (g_PAIRS) = some false := fun st => in_c st "before" pairs_ false (by decide +kernel)
    have k3 : ∀ st : Store, cmpV st .isin (.str "before") (.tup [.str "when", .str "else"]) = some false := fun st => in_c st "before" ["when", "else"] false (by decide +kernel)
    have k4 : ∀ st : Store, cmpV st .eq (.str "before") (.str "turn") = some false := fun st => eq_c st _ _ false (by decide +kernel)
    have k5 : ∀ st : Store, cmpV st .isin (.str "before") (.tup [.str "held", .str "before"]) = some true := fun st => in_c st "before" ["held", "before"] true (by decide +kernel)
    simp only [d_is_form, runF, exSs, exS, evE, evEs, R.bind_ok, R.bind_bad, R.bind_exc, ofO_some, ofO_none, bindT, setAll, List.length_cons, List.length_nil, List.map_cons, List.map_nil, List.getElem?_cons_zero, List.getElem?_cons_succ, List.cons_append, List.nil_append, List.set_cons_zero, List.set_cons_succ, Nat.zero_add, Nat.add_zero, Nat.le_refl, and_self, if_true, true_and, and_true, List.replicate_succ, List.replicate_zero, Nat.sub_self, Nat.reduceSub, Nat.reduceAdd, Nat.reduceLeDiff, Nat.reduceEqDiff, Nat.zero_le, small, tru_bl, isNon, Bool.not_true, Bool.not_false, t0, t1, t2, t3, t4, t5, i0, i1, i2, k0, k1, k2, k3, k4, k5, v_is_name (n + 3) x hx, v_is_worth (n + 1) (.int w) sz st rfl, bt w h0 h1]
  | lateN x hx =>
    have t0 : ∀ st : Store, isiV st (.tup [.str "late", .str x, .non]) .tuple = some true := fun st => rfl
    have t1 : ∀ st : Store, b1V st .len (.tup [.str "late", .str x, .non]) = some (.int 3) := fun st => rfl
    have t2 : ∀ st : Store, cmpV st .eq (.int 3) (.int 0) = some false := fun st => rfl
    have t3 : ∀ st : Store, isiV st (.str "late") .str = some true := fun st => rfl
    have dd : (Val.da (.tup [.str "late", .str x, .non])) = true := by simp [Val.da, daAll, da_ints]
    have t4 := v_is_row (n + 3) (.tup [.str "late", .str x, .non]) 3 st dd
    have t5 : isRow 3 (.tup [.str "late", .str x, .non]) = true := rfl
    have i0 : ∀ st : Store, itemV st (.tup [.str "late", .str x, .non]) (.int 0) = some (.str "late") := fun st => rfl
    have i1 : ∀ st : Store, itemV st (.tup [.str "late", .str x, .non]) (.int 1) = some (.str x) := fun st => rfl
    have i2 : ∀ st : Store, itemV st (.tup [.str "late", .str x, .non]) (.int 2) = some (.non) := fun st => rfl
    have k0 : ∀ st : Store, cmpV st .eq (.str "late") (.str "worth") = some false := fun st => eq_c st _ _ false (by decide +kernel)
    have k1 : ∀ st : Store, cmpV st .isin (.str "late") (.tup [.str "copy", .str "there"]) = some false := fun st => in_c st "late" ["copy", "there"] false (by decide +kernel)
    have k2 : ∀ st : Store, cmpV st .isin (.str "late") (g_PAIRS) = some false := fun st => in_c st "late" pairs_ false (by decide +kernel)
    have k3 : ∀ st : Store, cmpV st .isin (.str "late") (.tup [.str "when", .str "else"]) = some false := fun st => in_c st "late" ["when", "else"] false (by decide +kernel)
    have k4 : ∀ st : Store, cmpV st .eq (.str "late") (.str "turn") = some false := fun st => eq_c st _ _ false (by decide +kernel)
    have k5 : ∀ st : Store, cmpV st .isin (.str "late") (.tup [.str "held", .str "before"]) = some false := fun st => in_c st "late" ["held", "before"] false (by decide +kernel)
    have k6 : ∀ st : Store, cmpV st .eq (.str "late") (.str "late") = some true := fun st => eq_c st _ _ true (by decide +kernel)
    simp only [d_is_form, runF, exSs, exS, evE, evEs, R.bind_ok, R.bind_bad, R.bind_exc, ofO_some, ofO_none, bindT, setAll, List.length_cons, List.length_nil, List.map_cons, List.map_nil, List.getElem?_cons_zero, List.getElem?_cons_succ, List.cons_append, List.nil_append, List.set_cons_zero, List.set_cons_succ, Nat.zero_add, Nat.add_zero, Nat.le_refl, and_self, if_true, true_and, and_true, List.replicate_succ, List.replicate_zero, Nat.sub_self, Nat.reduceSub, Nat.reduceAdd, Nat.reduceLeDiff, Nat.reduceEqDiff, Nat.zero_le, small, tru_bl, isNon, Bool.not_true, Bool.not_false, t0, t1, t2, t3, t4, t5, i0, i1, i2, k0, k1, k2, k3, k4, k5, k6, v_is_name (n + 3) x hx, v_is_worth_or_none n .non sz st rfl, isNon, Bool.true_or]
  | lateW x w hx h0 h1 =>
    have t0 : ∀ st : Store, isiV st (.tup [.str "late", .str x, .int w]) .tuple = some true := fun st => rfl
    have t1 : ∀ st : Store, b1V st .len (.tup [.str "late", .str x, .int w]) = some (.int 3) := fun st => rfl
    have t2 : ∀ st : Store, cmpV st .eq (.int 3) (.int 0) = some false := fun st => rfl
    have t3 : ∀ st : Store, isiV st (.str "late") .str = some true := fun st => rfl
    have dd : (Val.da (.tup [.str "late", .str x, .int w])) = true := by simp [Val.da, daAll, da_ints]
    have t4 := v_is_row (n + 3) (.tup [.str "late", .str x, .int w]) 3 st dd
    have t5 : isRow 3 (.tup [.str "late", .str x, .int w]) = true := rfl
    have i0 : ∀ st : Store, itemV st (.tup [.str "late", .str x, .int w]) (.int 0) = some (.str "late") := fun st => rfl
    have i1 : ∀ st : Store, itemV st (.tup [.str "late", .str x, .int w]) (.int 1) = some (.str x) := fun st => rfl
    have i2 : ∀ st : Store, itemV st (.tup [.str "late", .str x, .int w]) (.int 2) = some (.int w) := fun st => rfl
    have k0 : ∀ st : Store, cmpV st .eq (.str "late") (.str "worth") = some false := fun st => eq_c st _ _ false (by decide +kernel)
    have k1 : ∀ st : Store, cmpV st .isin (.str "late") (.tup [.str "copy", .str "there"]) = some false := fun st => in_c st "late" ["copy", "there"] false (by decide +kernel)
    have k2 : ∀ st : Store, cmpV st .isin (.str "late") (g_PAIRS) = some false := fun st => in_c st "late" pairs_ false (by decide +kernel)
    have k3 : ∀ st : Store, cmpV st .isin (.str "late") (.tup [.str "when", .str "else"]) = some false := fun st => in_c st "late" ["when", "else"] false (by decide +kernel)
    have k4 : ∀ st : Store, cmpV st .eq (.str "late") (.str "turn") = some false := fun st => eq_c st _ _ false (by decide +kernel)
    have k5 : ∀ st : Store, cmpV st .isin (.str "late") (.tup [.str "held", .str "before"]) = some false := fun st => in_c st "late" ["held", "before"] false (by decide +kernel)
    have k6 : ∀ st : Store, cmpV st .eq (.str "late") (.str "late") = some true := fun st => eq_c st _ _ true (by decide +kernel)
    simp only [d_is_form, runF, exSs, exS, evE, evEs, R.bind_ok, R.bind_bad, R.bind_exc, ofO_some, ofO_none, bindT, setAll, List.length_cons, List.length_nil, List.map_cons, List.map_nil, List.getElem?_cons_zero, List.getElem?_cons_succ, List.cons_append, List.nil_append, List.set_cons_zero, List.set_cons_succ, Nat.zero_add, Nat.add_zero, Nat.le_refl, and_self, if_true, true_and, and_true, List.replicate_succ, List.replicate_zero, Nat.sub_self, Nat.reduceSub, Nat.reduceAdd, Nat.reduceLeDiff, Nat.reduceEqDiff, Nat.zero_le, small, tru_bl, isNon, Bool.not_true, Bool.not_false, t0, t1, t2, t3, t4, t5, i0, i1, i2, k0, k1, k2, k3, k4, k5, k6, v_is_name (n + 3) x hx, v_is_worth_or_none n (.int w) sz st rfl, bt w h0 h1, isNon, Bool.or_true]
  | mat op x y h hx hy =>
    have pr := v_is_pairing op x y h hx hy (n + 2) st
    have t0 : ∀ st : Store, isiV st (.tup [.str "match", .str op, .str x, .str y]) .tuple = some true := fun st => rfl
    have t1 : ∀ st : Store, b1V st .len (.tup [.str "match", .str op, .str x, .str y]) = some (.int 4) := fun st => rfl
    have t2 : ∀ st : Store, cmpV st .eq (.int 4) (.int 0) = some false := fun st => rfl
    have t3 : ∀ st : Store, isiV st (.str "match") .str = some true := fun st => rfl
    have dd : (Val.da (.tup [.str "match", .str op, .str x, .str y])) = true := by simp [Val.da, daAll, da_ints]
    have t4 := v_is_row (n + 3) (.tup [.str "match", .str op, .str x, .str y]) 4 st dd
    have t5 : isRow 4 (.tup [.str "match", .str op, .str x, .str y]) = true := rfl
    have i0 : ∀ st : Store, itemV st (.tup [.str "match", .str op, .str x, .str y]) (.int 0) = some (.str "match") := fun st => rfl
    have i1 : ∀ st : Store, itemV st (.tup [.str "match", .str op, .str x, .str y]) (.int 1) = some (.str op) := fun st => rfl
    have i2 : ∀ st : Store, itemV st (.tup [.str "match", .str op, .str x, .str y]) (.int 2) = some (.str x) := fun st => rfl
    have i3 : ∀ st : Store, itemV st (.tup [.str "match", .str op, .str x, .str y]) (.int 3) = some (.str y) := fun st => rfl
    have k0 : ∀ st : Store, cmpV st .eq (.str "match") (.str "worth") = some false := fun st => eq_c st _ _ false (by decide +kernel)
    have k1 : ∀ st : Store, cmpV st .isin (.str "match") (.tup [.str "copy", .str "there"]) = some false := fun st => in_c st "match" ["copy", "there"] false (by decide +kernel)
    have k2 : ∀ st : Store, cmpV st .isin (.str "match") (g_PAIRS) = some false := fun st => in_c st "match" pairs_ false (by decide +kernel)
    have k3 : ∀ st : Store, cmpV st .isin (.str "match") (.tup [.str "when", .str "else"]) = some false := fun st => in_c st "match" ["when", "else"] false (by decide +kernel)
    have k4 : ∀ st : Store, cmpV st .eq (.str "match") (.str "turn") = some false := fun st => eq_c st _ _ false (by decide +kernel)
    have k5 : ∀ st : Store, cmpV st .isin (.str "match") (.tup [.str "held", .str "before"]) = some false := fun st => in_c st "match" ["held", "before"] false (by decide +kernel)
    have k6 : ∀ st : Store, cmpV st .eq (.str "match") (.str "late") = some false := fun st => eq_c st _ _ false (by decide +kernel)
    have k7 : ∀ st : Store, cmpV st .eq (.str "match") (.str "match") = some true := fun st => eq_c st _ _ true (by decide +kernel)
    simp only [d_is_form, runF, exSs, exS, evE, evEs, R.bind_ok, R.bind_bad, R.bind_exc, ofO_some, ofO_none, bindT, setAll, List.length_cons, List.length_nil, List.map_cons, List.map_nil, List.getElem?_cons_zero, List.getElem?_cons_succ, List.cons_append, List.nil_append, List.set_cons_zero, List.set_cons_succ, Nat.zero_add, Nat.add_zero, Nat.le_refl, and_self, if_true, true_and, and_true, List.replicate_succ, List.replicate_zero, Nat.sub_self, Nat.reduceSub, Nat.reduceAdd, Nat.reduceLeDiff, Nat.reduceEqDiff, Nat.zero_le, small, tru_bl, isNon, Bool.not_true, Bool.not_false, t0, t1, t2, t3, t4, t5, i0, i1, i2, i3, k0, k1, k2, k3, k4, k5, k6, k7, pr]
  | two wd x y h hx hy =>
    have t0 : ∀ st : Store, isiV st (.tup [.str wd, .str x, .str y]) .tuple = some true := fun st => rfl
    have t1 : ∀ st : Store, b1V st .len (.tup [.str wd, .str x, .str y]) = some (.int 3) := fun st => rfl
    have t2 : ∀ st : Store, cmpV st .eq (.int 3) (.int 0) = some false := fun st => rfl
    have t3 : ∀ st : Store, isiV st (.str wd) .str = some true := fun st => rfl
    have dd : (Val.da (.tup [.str wd, .str x, .str y])) = true := by simp [Val.da, daAll, da_ints]
    have t4 := v_is_row (n + 3) (.tup [.str wd, .str x, .str y]) 3 st dd
    have t5 : isRow 3 (.tup [.str wd, .str x, .str y]) = true := rfl
    have i0 : ∀ st : Store, itemV st (.tup [.str wd, .str x, .str y]) (.int 0) = some (.str wd) := fun st => rfl
    have i1 : ∀ st : Store, itemV st (.tup [.str wd, .str x, .str y]) (.int 1) = some (.str x) := fun st => rfl
    have i2 : ∀ st : Store, itemV st (.tup [.str wd, .str x, .str y]) (.int 2) = some (.str y) := fun st => rfl
    have k0 : ∀ st : Store, cmpV st .eq (.str wd) (.str "worth") = some false := fun st => by rcases twos_cases h with rfl | rfl | rfl | rfl | rfl | rfl | rfl | rfl <;> exact eq_c st _ _ false (by decide +kernel)
    have k1 : ∀ st : Store, cmpV st .isin (.str wd) (.tup [.str "copy", .str "there"]) = some false := fun st => by rcases twos_cases h with rfl | rfl | rfl | rfl | rfl | rfl | rfl | rfl <;> exact in_c st _ ["copy", "there"] false (by decide +kernel)
    have k2 : (∀ st : Store, cmpV st .isin (.str wd) g_PAIRS = some true) ∨ ((∀ st : Store, cmpV st .isin (.str wd) g_PAIRS = some false) ∧ (∀ st : Store, cmpV st .isin (.str wd) (.tup [.str "when", .str "else"]) = some true)) := by
      rcases twos_cases h with rfl | rfl | rfl | rfl | rfl | rfl | rfl | rfl <;> first | exact .inl fun st => in_c st _ pairs_ true (by decide +kernel) | exact .inr ⟨fun st => in_c st _ pairs_ false (by decide +kernel), fun st => in_c st _ ["when", "else"] true (by decide +kernel)⟩
    rcases k2 with k2 | ⟨k2, k3⟩
    · simp only [d_is_form, runF, exSs, exS, evE, evEs, R.bind_ok, R.bind_bad, R.bind_exc, ofO_some, ofO_none, bindT, setAll, List.length_cons, List.length_nil, List.map_cons, List.map_nil, List.getElem?_cons_zero, List.getElem?_cons_succ, List.cons_append, List.nil_append, List.set_cons_zero, List.set_cons_succ, Nat.zero_add, Nat.add_zero, Nat.le_refl, and_self, if_true, true_and, and_true, List.replicate_succ, List.replicate_zero, Nat.sub_self, Nat.reduceSub, Nat.reduceAdd, Nat.reduceLeDiff, Nat.reduceEqDiff, Nat.zero_le, small, tru_bl, isNon, Bool.not_true, Bool.not_false, t0, t1, t2, t3, t4, t5, i0, i1, i2, k0, k1, k2, v_is_name (n + 3) x hx, v_is_name (n + 3) y hy]
    · simp only [d_is_form, runF, exSs, exS, evE, evEs, R.bind_ok, R.bind_bad, R.bind_exc, ofO_some, ofO_none, bindT, setAll, List.length_cons, List.length_nil, List.map_cons, List.map_nil, List.getElem?_cons_zero, List.getElem?_cons_succ, List.cons_append, List.nil_append, List.set_cons_zero, List.set_cons_succ, Nat.zero_add, Nat.add_zero, Nat.le_refl, and_self, if_true, true_and, and_true, List.replicate_succ, List.replicate_zero, Nat.sub_self, Nat.reduceSub, Nat.reduceAdd, Nat.reduceLeDiff, Nat.reduceEqDiff, Nat.zero_le, small, tru_bl, isNon, Bool.not_true, Bool.not_false, t0, t1, t2, t3, t4, t5, i0, i1, i2, k0, k1, k2, k3, v_is_name (n + 3) x hx, v_is_name (n + 3) y hy]
theorem v_is_form {sz : Int} {fm : Val} {ns : List Str} {k : Kd} (h : FormOk sz fm ns k) (hs : sz ≤ 900) (n : Nat) (st : Store) : callV (callN prog (n + 5)) "is_form" [fm, .int sz] st = .ok (.bl true) st :=
  callV_p (pure2 h.da rfl) (c_is_form h hs n [])
end PV
end

section
set_option Elab.async false
set_option linter.all false
set_option maxRecDepth 100000
set_option maxHeartbeats 1000000
namespace PV
open PySem L2
/-! ### nets -/
structure Cell where
  nm : Str
  fm : Val
  ns : List Str
  kd : Kd
structure Net where
  sz : Int
  ins : List Str
  cells : List Cell
def cellV (c : Cell) : Val := .tup [.str c.nm, c.fm]
def Net.val (N : Net) : Val := .tup [.int N.sz, .tup (N.ins.map Val.str), .tup (N.cells.map cellV)]
def Net.nms (N : Net) : List Str := N.cells.map (·.nm)
structure NetOk (N : Net) : Prop where
  s0 : 2 ≤ N.sz
  s1 : N.sz ≤ 5
  i0 : 0 < N.ins.length
  i1 : N.ins.length ≤ 3
  all : N.ins.length + N.cells.length ≤ 11
  inm : ∀ x ∈ N.ins, NameOk x
  ia : N.ins.Pairwise ltS
  cnm : ∀ c ∈ N.cells, NameOk c.nm
  ca : N.nms.Pairwise ltS
  dis : ∀ c ∈ N.cells, c.nm ∉ N.ins
  fok : ∀ c ∈ N.cells, FormOk N.sz c.fm c.ns c.kd
  cl : ∀ c ∈ N.cells, ∀ x ∈ c.ns, x ∈ N.ins ∨ x ∈ N.nms
theorem ltS_irrefl (a : Str) : ¬ ltS a a := fun h => List.lt_irrefl _ h
theorem NetOk.nodup {N : Net} (h : NetOk N) : N.nms.Nodup := by
  refine List.Pairwise.imp ?_ h.ca
  intro a b hab he
  subst he
  exact ltS_irrefl _ hab
theorem NetOk.da {N : Net} (h : NetOk N) : N.val.da = true := by
  have hc : daAll (N.cells.map cellV) = true := by
    rw [daAll_iff]
    intro v hv
    obtain ⟨c, hc, rfl⟩ := List.mem_map.mp hv
    simp [cellV, Val.da, daAll, (h.fok c hc).da]
  simp [Net.val, Val.da, daAll, da_strs, hc]
theorem cells_da {N : Net} (h : NetOk N) : (Val.tup (N.cells.map cellV)).da = true := by
  have := h.da
  simp [Net.val, Val.da, daAll] at this ⊢
  exact this.2
theorem net_0 (N : Net) (st : Store) : itemV st N.val (.int 0) = some (.int N.sz) := rfl
theorem net_1 (N : Net) (st : Store) : itemV st N.val (.int 1) = some (.tup (N.ins.map Val.str)) := rfl
theorem net_2 (N : Net) (st : Store) : itemV st N.val (.int 2) = some (.tup (N.cells.map cellV)) := rfl
/-! ### the order -/
def rdy (done : List Str) (c : Cell) : Bool := !decide (c.nm ∈ done) && (decide (c.kd = .late) || c.ns.all fun x => decide (x ∈ done))
def ordG (cells : List Cell) : Nat → List Str → List Str → List Str
  | 0, _, row => row
  | k + 1, done, row => match cells.find? (rdy done) with
    | some c => ordG cells k (done ++ [c.nm]) (row ++ [c.nm])
    | none => row
theorem len_ref {st : Store} {a : Nat} {xs : List Val} (h : st[a]? = some (.lst xs)) : b1V st .len (.ref a) = some (.int (xs.length : Int)) := by simp only [b1V, h]
theorem len_tup (st : Store) (xs : List Val) : b1V st .len (.tup xs) = some (.int (xs.length : Int)) := rfl
theorem len_lsv (st : Store) (xs : List Val) : b1V st .len (.ls xs) = some (.int (xs.length : Int)) := rfl
theorem nx_ {cf : CallF} {s : S} {ss : List S} {env env' : Env} {st st' : Store} (h : exS cf s env st = .ok (.nx, env') st') : exSs cf (s :: ss) env st = exSs cf ss env' st' := by simp only [exSs, h, R.bind_ok]
theorem rt_ {cf : CallF} {s : S} {ss : List S} {env env' : Env} {st st' : Store} {v : Val} (h : exS cf s env st = .ok (.rt v, env') st') : exSs cf (s :: ss) env st = .ok (.rt v, env') st' := by simp only [exSs, h, R.bind_ok]
theorem run_ {cf : CallF} {fn : Fn} {vs : List Val} {env' : Env} {st st' : Store} {v : Val} (hl : vs.length = fn.params ∧ fn.params ≤ fn.slots) (env0 : Env) (he : vs.map some ++ List.replicate (fn.slots - fn.params) none = env0) (h : exSs cf fn.body env0 st = .ok (.rt v, env') st') : runF cf fn vs st = .ok v st' := by
  rw [runF, if_pos hl, he, h]
  rfl
theorem lk_lorder : List.lookup ("_law_order" : Str) prog = some d__law_order.fn := rfl
theorem gt_int (st : Store) (p q : Int) : cmpV st .gt (.int p) (.int q) = some (decide (q < p)) := rfl
/-- one cell looked at -/
theorem ord_1 {sz : Int} (c : Cell) (hf : FormOk sz c.fm c.ns c.kd) (n : Nat) (c0 c6 : Option Val) (step : Nat) (done row : List Str) (hl : row.length < 1000) (hcn : Sok c.nm) (hds : ∀ t ∈ done, Sok t) :
    exSs (callN prog (n + 1)) b__law_order_2 [c0, some (.ref 0), some (.ref 1), some (.int (step : Int)), some (.str c.nm), some c.fm, c6] [.lst (done.map Val.str), .lst (row.map Val.str)]
      = .ok (.nx, [c0, some (.ref 0), some (.ref 1), some (.int (step : Int)), some (.str c.nm), some c.fm, c6]) [.lst (done.map Val.str), .lst ((if row.length = step ∧ rdy done c = true then row ++ [c.nm] else row).map Val.str)] := by
  obtain ⟨wd, h1, h2, h3, h4⟩ := hf.word
  have lq : ∀ st : Store, cmpV st .eq (.str wd) (.str "late") = some (decide (wd = "late")) := fun st => eq_str _ h4 (sok_c (by decide +kernel))
  have l1 : b1V [.lst (done.map Val.str), .lst (row.map Val.str)] .len (.ref 1) = some (.int (row.length : Int)) := by
    rw [len_ref (xs := row.map Val.str) rfl, List.length_map]
  have l2 : cmpV [.lst (done.map Val.str), .lst (row.map Val.str)] .notin (.str c.nm) (.ref 0) = some (!decide (c.nm ∈ done)) := notin_of (in_ref _ 0 rfl hcn hds)
  have l3 := v_lnames_in hf n [.lst (done.map Val.str), .lst (row.map Val.str)]
  have lx : ∀ x ∈ c.ns, cmpV [.lst (done.map Val.str), .lst (row.map Val.str)] .isin (.str x) (.ref 0) = some (decide (x ∈ done)) := fun x hx => in_ref _ 0 rfl (hf.names x hx).sok hds
  have key := lc_map (f := evE (callN prog (n + 1)) e__law_order_1) (tg := .nm 6) (env := [c0, some (.ref 0), some (.ref 1), some (.int (step : Int)), some (.str c.nm), some c.fm, c6]) (keep := keepW .of [.tup (c.ns.map Val.str)] (c.ns.map Val.str)) (st := [.lst (done.map Val.str), .lst (row.map Val.str)])
    Val.str (fun x => .bl (decide (x ∈ done))) (keep_tup _ _ _ _) c.ns [] (fun x hx => ⟨_, rfl, by simp only [e__law_order_1, runF, exSs, exS, evE, evEs, R.bind_ok, R.bind_bad, R.bind_exc, ofO_some, ofO_none, bindT, setAll, List.length_cons, List.length_nil, List.map_cons, List.map_nil, List.getElem?_cons_zero, List.getElem?_cons_succ, List.cons_append, List.nil_append, List.set_cons_zero, List.set_cons_succ, Nat.zero_add, Nat.add_zero, Nat.le_refl, and_self, if_true, true_and, and_true, List.replicate_succ, List.replicate_zero, Nat.sub_self, Nat.reduceSub, Nat.reduceAdd, Nat.reduceLeDiff, Nat.reduceEqDiff, Nat.zero_le, small, tru_bl, isNon, Bool.not_true, Bool.not_false, lx x hx]⟩) (by have := hf.short; simp; omega)
  have ha : appV [.lst (done.map Val.str), .lst (row.map Val.str)] (.ref 1) (.str c.nm) = .ok () [.lst (done.map Val.str), .lst ((row ++ [c.nm]).map Val.str)] := by
    have : (row.map Val.str).length < small := by
      have : small = 100000 := rfl
      rw [List.length_map]
      omega
    simp only [appV, List.getElem?_cons_succ, List.getElem?_cons_zero, if_pos this, List.set_cons_succ, List.set_cons_zero, List.map_append, List.map_cons, List.map_nil]
  simp only [b__law_order_2, runF, exSs, exS, evE, evEs, R.bind_ok, R.bind_bad, R.bind_exc, ofO_some, ofO_none, bindT, setAll, List.length_cons, List.length_nil, List.map_cons, List.map_nil, List.getElem?_cons_zero, List.getElem?_cons_succ, List.cons_append, List.nil_append, List.set_cons_zero, List.set_cons_succ, Nat.zero_add, Nat.add_zero, Nat.le_refl, and_self, if_true, true_and, and_true, List.replicate_succ, List.replicate_zero, Nat.sub_self, Nat.reduceSub, Nat.reduceAdd, Nat.reduceLeDiff, Nat.reduceEqDiff, Nat.zero_le, small, tru_bl, isNon, Bool.not_true, Bool.not_false, l1, eq_int]
  by_cases q1 : row.length = step
  · have q1' : (row.length : Int) = (step : Int) := by omega
    simp only [decide_eq_true q1', runF, exSs, exS, evE, evEs, R.bind_ok, R.bind_bad, R.bind_exc, ofO_some, ofO_none, bindT, setAll, List.length_cons, List.length_nil, List.map_cons, List.map_nil, List.getElem?_cons_zero, List.getElem?_cons_succ, List.cons_append, List.nil_append, List.set_cons_zero, List.set_cons_succ, Nat.zero_add, Nat.add_zero, Nat.le_refl, and_self, if_true, true_and, and_true, List.replicate_succ, List.replicate_zero, Nat.sub_self, Nat.reduceSub, Nat.reduceAdd, Nat.reduceLeDiff, Nat.reduceEqDiff, Nat.zero_le, small, tru_bl, isNon, Bool.not_true, Bool.not_false, l2]
    by_cases q2 : c.nm ∈ done
    · have : ¬ (row.length = step ∧ rdy done c = true) := by simp [rdy, q2]
      simp only [decide_eq_true q2, Bool.not_true, runF, exSs, exS, evE, evEs, R.bind_ok, R.bind_bad, R.bind_exc, ofO_some, ofO_none, bindT, setAll, List.length_cons, List.length_nil, List.map_cons, List.map_nil, List.getElem?_cons_zero, List.getElem?_cons_succ, List.cons_append, List.nil_append, List.set_cons_zero, List.set_cons_succ, Nat.zero_add, Nat.add_zero, Nat.le_refl, and_self, if_true, true_and, and_true, List.replicate_succ, List.replicate_zero, Nat.sub_self, Nat.reduceSub, Nat.reduceAdd, Nat.reduceLeDiff, Nat.reduceEqDiff, Nat.zero_le, small, tru_bl, isNon, Bool.not_true, Bool.not_false, if_neg this]
    · simp only [decide_eq_false q2, Bool.not_false, runF, exSs, exS, evE, evEs, R.bind_ok, R.bind_bad, R.bind_exc, ofO_some, ofO_none, bindT, setAll, List.length_cons, List.length_nil, List.map_cons, List.map_nil, List.getElem?_cons_zero, List.getElem?_cons_succ, List.cons_append, List.nil_append, List.set_cons_zero, List.set_cons_succ, Nat.zero_add, Nat.add_zero, Nat.le_refl, and_self, if_true, true_and, and_true, List.replicate_succ, List.replicate_zero, Nat.sub_self, Nat.reduceSub, Nat.reduceAdd, Nat.reduceLeDiff, Nat.reduceEqDiff, Nat.zero_le, small, tru_bl, isNon, Bool.not_true, Bool.not_false, h1, lq, h2]
      by_cases q3 : c.kd = .late
      · have : row.length = step ∧ rdy done c = true := by simp [rdy, q1, q2, q3]
        simp only [decide_eq_true q3, runF, exSs, exS, evE, evEs, R.bind_ok, R.bind_bad, R.bind_exc, ofO_some, ofO_none, bindT, setAll, List.length_cons, List.length_nil, List.map_cons, List.map_nil, List.getElem?_cons_zero, List.getElem?_cons_succ, List.cons_append, List.nil_append, List.set_cons_zero, List.set_cons_succ, Nat.zero_add, Nat.add_zero, Nat.le_refl, and_self, if_true, true_and, and_true, List.replicate_succ, List.replicate_zero, Nat.sub_self, Nat.reduceSub, Nat.reduceAdd, Nat.reduceLeDiff, Nat.reduceEqDiff, Nat.zero_le, small, tru_bl, isNon, Bool.not_true, Bool.not_false, isLst, lstOf, Option.isSome_some, ha, if_pos this]
      · simp only [decide_eq_false q3, runF, exSs, exS, evE, evEs, R.bind_ok, R.bind_bad, R.bind_exc, ofO_some, ofO_none, bindT, setAll, List.length_cons, List.length_nil, List.map_cons, List.map_nil, List.getElem?_cons_zero, List.getElem?_cons_succ, List.cons_append, List.nil_append, List.set_cons_zero, List.set_cons_succ, Nat.zero_add, Nat.add_zero, Nat.le_refl, and_self, if_true, true_and, and_true, List.replicate_succ, List.replicate_zero, Nat.sub_self, Nat.reduceSub, Nat.reduceAdd, Nat.reduceLeDiff, Nat.reduceEqDiff, Nat.zero_le, small, tru_bl, isNon, Bool.not_true, Bool.not_false, l3, walk_tup, key, all_bl]
        cases q4 : (c.ns.all fun x => decide (x ∈ done)) with
        | true =>
          have : row.length = step ∧ rdy done c = true := by simp only [rdy, q1, q4]; simp [q2]
          simp only [runF, exSs, exS, evE, evEs, R.bind_ok, R.bind_bad, R.bind_exc, ofO_some, ofO_none, bindT, setAll, List.length_cons, List.length_nil, List.map_cons, List.map_nil, List.getElem?_cons_zero, List.getElem?_cons_succ, List.cons_append, List.nil_append, List.set_cons_zero, List.set_cons_succ, Nat.zero_add, Nat.add_zero, Nat.le_refl, and_self, if_true, true_and, and_true, List.replicate_succ, List.replicate_zero, Nat.sub_self, Nat.reduceSub, Nat.reduceAdd, Nat.reduceLeDiff, Nat.reduceEqDiff, Nat.zero_le, small, tru_bl, isNon, Bool.not_true, Bool.not_false, isLst, lstOf, Option.isSome_some, ha, if_pos this]
        | false =>
          have : ¬ (row.length = step ∧ rdy done c = true) := by simp only [rdy, q4]; simp [q3]
          simp only [runF, exSs, exS, evE, evEs, R.bind_ok, R.bind_bad, R.bind_exc, ofO_some, ofO_none, bindT, setAll, List.length_cons, List.length_nil, List.map_cons, List.map_nil, List.getElem?_cons_zero, List.getElem?_cons_succ, List.cons_append, List.nil_append, List.set_cons_zero, List.set_cons_succ, Nat.zero_add, Nat.add_zero, Nat.le_refl, and_self, if_true, true_and, and_true, List.replicate_succ, List.replicate_zero, Nat.sub_self, Nat.reduceSub, Nat.reduceAdd, Nat.reduceLeDiff, Nat.reduceEqDiff, Nat.zero_le, small, tru_bl, isNon, Bool.not_true, Bool.not_false, if_neg this]
  · have q1' : ¬ (row.length : Int) = (step : Int) := by omega
    have : ¬ (row.length = step ∧ rdy done c = true) := fun h => q1 h.1
    simp only [decide_eq_false q1', runF, exSs, exS, evE, evEs, R.bind_ok, R.bind_bad, R.bind_exc, ofO_some, ofO_none, bindT, setAll, List.length_cons, List.length_nil, List.map_cons, List.map_nil, List.getElem?_cons_zero, List.getElem?_cons_succ, List.cons_append, List.nil_append, List.set_cons_zero, List.set_cons_succ, Nat.zero_add, Nat.add_zero, Nat.le_refl, and_self, if_true, true_and, and_true, List.replicate_succ, List.replicate_zero, Nat.sub_self, Nat.reduceSub, Nat.reduceAdd, Nat.reduceLeDiff, Nat.reduceEqDiff, Nat.zero_le, small, tru_bl, isNon, Bool.not_true, Bool.not_false, if_neg this]
/-- the row behind a look at all cells -/
def next1 (cs : List Cell) (step : Nat) (done row : List Str) : List Str := if row.length = step then (match cs.find? (rdy done) with
  | some c => row ++ [c.nm]
  | none => row) else row
theorem ord_2 {sz : Int} (n : Nat) (c0 : Option Val) (step : Nat) (done : List Str) (hds : ∀ t ∈ done, Sok t) (l0 : List Val) : ∀ (cs : List Cell), (∀ c ∈ cs, FormOk sz c.fm c.ns c.kd ∧ Sok c.nm) → ∀ (c4 c5 c6 : Option Val) (row : List Str), row.length + cs.length < 900 →
    ∃ c4' c5', forL (exSs (callN prog (n + 1)) b__law_order_2) (.tp [4, 5]) (keepW .of [.tup l0] l0) (cs.map cellV) [c0, some (.ref 0), some (.ref 1), some (.int (step : Int)), c4, c5, c6] [.lst (done.map Val.str), .lst (row.map Val.str)]
      = .ok (.nx, [c0, some (.ref 0), some (.ref 1), some (.int (step : Int)), c4', c5', c6]) [.lst (done.map Val.str), .lst ((next1 cs step done row).map Val.str)]
  | [], _, c4, c5, c6, row, _ => ⟨c4, c5, by simp only [List.map_nil, forL, keep_tup, if_true, next1, List.find?_nil, ite_self]⟩
  | c :: cs, h, c4, c5, c6, row, hl => by
    simp only [List.length_cons] at hl
    have e1 := ord_1 c (h c List.mem_cons_self).1 n c0 c6 step done row (by omega) (h c List.mem_cons_self).2 hds
    have hs : setAll [c0, some (.ref 0), some (.ref 1), some (.int (step : Int)), c4, c5, c6] [4, 5] [.str c.nm, c.fm] = [c0, some (.ref 0), some (.ref 1), some (.int (step : Int)), some (.str c.nm), some c.fm, c6] := rfl
    by_cases q : row.length = step ∧ rdy done c = true
    · rw [if_pos q] at e1
      obtain ⟨c4', c5', e2⟩ := ord_2 n c0 step done hds l0 cs (fun d hd => h d (List.mem_cons_of_mem _ hd)) (some (.str c.nm)) (some c.fm) c6 (row ++ [c.nm]) (by rw [List.length_append, List.length_singleton]; omega)
      refine ⟨c4', c5', ?_⟩
      have e3 : next1 cs step done (row ++ [c.nm]) = row ++ [c.nm] := by
        unfold next1
        rw [if_neg (by rw [List.length_append, List.length_singleton]; omega)]
      have e4 : next1 (c :: cs) step done row = row ++ [c.nm] := by
        unfold next1
        rw [if_pos q.1, List.find?_cons, q.2]
      rw [e3] at e2
      rw [e4]
      simp only [List.map_cons, forL, keep_tup, cellV, bindT, List.length_cons, List.length_nil, if_true, hs, e1, R.bind_ok]
      exact e2
    · rw [if_neg q] at e1
      obtain ⟨c4', c5', e2⟩ := ord_2 n c0 step done hds l0 cs (fun d hd => h d (List.mem_cons_of_mem _ hd)) (some (.str c.nm)) (some c.fm) c6 row (by omega)
      refine ⟨c4', c5', ?_⟩
      have e4 : next1 (c :: cs) step done row = next1 cs step done row := by
        unfold next1
        by_cases q1 : row.length = step
        · have : rdy done c = false := by
            cases hr : rdy done c with
            | true => exact absurd ⟨q1, hr⟩ q
            | false => rfl
          rw [if_pos q1, if_pos q1, List.find?_cons, this]
        · rw [if_neg q1, if_neg q1]
      rw [e4]
      simp only [List.map_cons, forL, keep_tup, cellV, bindT, List.length_cons, List.length_nil, if_true, hs, e1, R.bind_ok]
      exact e2
theorem app_at {st : Store} {a : Nat} {xs : List Val} (h : st[a]? = some (.lst xs)) (v : Val) (hl : xs.length < 1000) : appV st (.ref a) v = .ok () (st.set a (.lst (xs ++ [v]))) := by
  have : xs.length < small := by
    have : small = 100000 := rfl
    omega
  simp only [appV, h, if_pos this]
theorem sok_app {l : List Str} {x : Str} (h : ∀ t ∈ l, Sok t) (hx : Sok x) : ∀ t ∈ l ++ [x], Sok t := by
  intro t ht
  rcases List.mem_append.mp ht with ht | ht
  · exact h t ht
  · rw [List.mem_singleton.mp ht]
    exact hx
/-- one step of the order -/
theorem ord_3 (N : Net) (hN : NetOk N) (n : Nat) (step : Nat) (c4 c5 c6 : Option Val) (done row : List Str) (hle : row.length ≤ step) (hl : row.length < 500) (hd : done.length < 500) (hds : ∀ t ∈ done, Sok t) :
    ∃ c4' c5', exSs (callN prog (n + 1)) b__law_order_3 [some N.val, some (.ref 0), some (.ref 1), some (.int (step : Int)), c4, c5, c6] [.lst (done.map Val.str), .lst (row.map Val.str)]
      = .ok (.nx, [some N.val, some (.ref 0), some (.ref 1), some (.int (step : Int)), c4', c5', c6]) (if row.length = step then (match N.cells.find? (rdy done) with
          | some c => [.lst ((done ++ [c.nm]).map Val.str), .lst ((row ++ [c.nm]).map Val.str)]
          | none => [.lst (done.map Val.str), .lst (row.map Val.str)]) else [.lst (done.map Val.str), .lst (row.map Val.str)]) := by
  obtain ⟨c4', c5', e⟩ := ord_2 n (some N.val) step done hds (N.cells.map cellV) N.cells (fun c hc => ⟨hN.fok c hc, (hN.cnm c hc).sok⟩) c4 c5 c6 row (by have := hN.all; omega)
  refine ⟨c4', c5', ?_⟩
  have l1 : ∀ rw' : List Str, b1V [.lst (done.map Val.str), .lst (rw'.map Val.str)] .len (.ref 1) = some (.int (rw'.length : Int)) := fun rw' => by
    rw [len_ref (xs := rw'.map Val.str) rfl, List.length_map]
  by_cases q : row.length = step
  · rw [if_pos q]
    cases hf : N.cells.find? (rdy done) with
    | none =>
      have e4 : next1 N.cells step done row = row := by
        unfold next1
        rw [if_pos q, hf]
      rw [e4] at e
      have q2 : ¬ ((step : Int) < (row.length : Int)) := by omega
      simp only [b__law_order_3, runF, exSs, exS, evE, evEs, R.bind_ok, R.bind_bad, R.bind_exc, ofO_some, ofO_none, bindT, setAll, List.length_cons, List.length_nil, List.map_cons, List.map_nil, List.getElem?_cons_zero, List.getElem?_cons_succ, List.cons_append, List.nil_append, List.set_cons_zero, List.set_cons_succ, Nat.zero_add, Nat.add_zero, Nat.le_refl, and_self, if_true, true_and, and_true, List.replicate_succ, List.replicate_zero, Nat.sub_self, Nat.reduceSub, Nat.reduceAdd, Nat.reduceLeDiff, Nat.reduceEqDiff, Nat.zero_le, small, tru_bl, isNon, Bool.not_true, Bool.not_false, net_2, walk_tup, e, l1, gt_int, decide_eq_false q2]
    | some c =>
      have e4 : next1 N.cells step done row = row ++ [c.nm] := by
        unfold next1
        rw [if_pos q, hf]
      rw [e4] at e
      have q2 : (step : Int) < ((row ++ [c.nm]).length : Int) := by rw [List.length_append, List.length_singleton]; omega
      have hi : itemV [.lst (done.map Val.str), .lst ((row ++ [c.nm]).map Val.str)] (.ref 1) (.int (step : Int)) = some (.str c.nm) := by
        have hix : ixAt ((row ++ [c.nm]).map Val.str).length (step : Int) = some step := by
          unfold ixAt
          rw [List.length_map, if_pos (by omega), if_pos q2]
          simp
        simp only [itemV, isDict, List.getElem?_cons_succ, List.getElem?_cons_zero, seqOf, hix, Option.bind_some]
        rw [← q]
        simp
      have ha : appV [.lst (done.map Val.str), .lst ((row ++ [c.nm]).map Val.str)] (.ref 0) (.str c.nm) = .ok () [.lst ((done ++ [c.nm]).map Val.str), .lst ((row ++ [c.nm]).map Val.str)] := by
        rw [app_at (xs := done.map Val.str) rfl _ (by rw [List.length_map]; omega)]
        simp
      simp only [b__law_order_3, runF, exSs, exS, evE, evEs, R.bind_ok, R.bind_bad, R.bind_exc, ofO_some, ofO_none, bindT, setAll, List.length_cons, List.length_nil, List.map_cons, List.map_nil, List.getElem?_cons_zero, List.getElem?_cons_succ, List.cons_append, List.nil_append, List.set_cons_zero, List.set_cons_succ, Nat.zero_add, Nat.add_zero, Nat.le_refl, and_self, if_true, true_and, and_true, List.replicate_succ, List.replicate_zero, Nat.sub_self, Nat.reduceSub, Nat.reduceAdd, Nat.reduceLeDiff, Nat.reduceEqDiff, Nat.zero_le, small, tru_bl, isNon, Bool.not_true, Bool.not_false, net_2, walk_tup, e, l1, gt_int, decide_eq_true q2, isLst, lstOf, Option.isSome_some, hi, ha]
  · rw [if_neg q]
    have e4 : next1 N.cells step done row = row := by
      unfold next1
      rw [if_neg q]
    rw [e4] at e
    have q2 : ¬ ((step : Int) < (row.length : Int)) := by omega
    simp only [b__law_order_3, runF, exSs, exS, evE, evEs, R.bind_ok, R.bind_bad, R.bind_exc, ofO_some, ofO_none, bindT, setAll, List.length_cons, List.length_nil, List.map_cons, List.map_nil, List.getElem?_cons_zero, List.getElem?_cons_succ, List.cons_append, List.nil_append, List.set_cons_zero, List.set_cons_succ, Nat.zero_add, Nat.add_zero, Nat.le_refl, and_self, if_true, true_and, and_true, List.replicate_succ, List.replicate_zero, Nat.sub_self, Nat.reduceSub, Nat.reduceAdd, Nat.reduceLeDiff, Nat.reduceEqDiff, Nat.zero_le, small, tru_bl, isNon, Bool.not_true, Bool.not_false, net_2, walk_tup, e, l1, gt_int, decide_eq_false q2]
theorem ordG_len (cells : List Cell) : ∀ (k : Nat) (done row : List Str), row.length ≤ (ordG cells k done row).length ∧ (ordG cells k done row).length ≤ row.length + k
  | 0, done, row => by simp [ordG]
  | k + 1, done, row => by
    unfold ordG
    cases cells.find? (rdy done) with
    | none => simp
    | some c =>
      have := ordG_len cells k (done ++ [c.nm]) (row ++ [c.nm])
      simp at this ⊢
      omega
/-- the steps of the order behind the first ones -/
theorem ord_4 (N : Net) (hN : NetOk N) (n m : Nat) : ∀ (k s : Nat) (c3 c4 c5 c6 : Option Val) (done row : List Str), row.length ≤ s → done.length + k < 400 → row.length + k < 400 → (∀ t ∈ done, Sok t) →
    ∃ (c3' c4' c5' : Option Val) (done' : List Str), forL (exSs (callN prog (n + 1)) b__law_order_3) (.nm 3) (keepW .range [.int (m : Int)] (rangeV (m : Int))) ((List.range' s k).map fun i : Nat => Val.int (i : Int)) [some N.val, some (.ref 0), some (.ref 1), c3, c4, c5, c6] [.lst (done.map Val.str), .lst (row.map Val.str)]
      = .ok (.nx, [some N.val, some (.ref 0), some (.ref 1), c3', c4', c5', c6]) [.lst (done'.map Val.str), .lst ((if row.length = s then ordG N.cells k done row else row).map Val.str)]
  | 0, s, c3, c4, c5, c6, done, row, _, _, _, _ => ⟨c3, c4, c5, done, by simp only [List.range'_zero, List.map_nil, forL, keep_int, if_true, ordG, ite_self]⟩
  | k + 1, s, c3, c4, c5, c6, done, row, h, hd, hr, hds => by
    obtain ⟨c4', c5', e⟩ := ord_3 N hN n s c4 c5 c6 done row h (by omega) (by omega) hds
    · by_cases q : row.length = s
      · rw [if_pos q] at e
        cases hf : N.cells.find? (rdy done) with
        | none =>
          rw [hf] at e
          obtain ⟨c3'', c4'', c5'', done', e2⟩ := ord_4 N hN n m k (s + 1) (some (.int (s : Int))) c4' c5' c6 done row (by omega) (by omega) (by omega) hds
          refine ⟨c3'', c4'', c5'', done', ?_⟩
          rw [if_neg (by omega)] at e2
          rw [if_pos q]
          have e3 : ordG N.cells (k + 1) done row = row := by
            unfold ordG
            rw [hf]
          rw [e3, List.range'_succ]
          simp only [List.map_cons, forL, keep_int, bindT, setAll, List.set_cons_zero, List.set_cons_succ, e, R.bind_ok]
          exact e2
        | some c =>
          rw [hf] at e
          obtain ⟨c3'', c4'', c5'', done', e2⟩ := ord_4 N hN n m k (s + 1) (some (.int (s : Int))) c4' c5' c6 (done ++ [c.nm]) (row ++ [c.nm]) (by simp; omega) (by simp; omega) (by simp; omega) (sok_app hds (hN.cnm c (List.mem_of_find?_eq_some hf)).sok)
          refine ⟨c3'', c4'', c5'', done', ?_⟩
          rw [if_pos (by simp; omega)] at e2
          rw [if_pos q]
          have e3 : ordG N.cells (k + 1) done row = ordG N.cells k (done ++ [c.nm]) (row ++ [c.nm]) := by
            rw [ordG, hf]
          rw [e3, List.range'_succ]
          simp only [List.map_cons, forL, keep_int, bindT, setAll, List.set_cons_zero, List.set_cons_succ, e, R.bind_ok]
          exact e2
      · rw [if_neg q] at e
        obtain ⟨c3'', c4'', c5'', done', e2⟩ := ord_4 N hN n m k (s + 1) (some (.int (s : Int))) c4' c5' c6 done row (by omega) (by omega) (by omega) hds
        refine ⟨c3'', c4'', c5'', done', ?_⟩
        rw [if_neg (by omega)] at e2
        rw [if_neg q, List.range'_succ]
        simp only [List.map_cons, forL, keep_int, bindT, setAll, List.set_cons_zero, List.set_cons_succ, e, R.bind_ok]
        exact e2
theorem thaw_strsL (st : Store) : ∀ (l : List Str) (fuel : Nat), l.length < fuel → thawAll fuel st 0 (l.map Val.str) = some (l.map Val.str)
  | [], 0, h => by cases h
  | [], k + 1, _ => rfl
  | _ :: _, 0, h => by cases h
  | _ :: _, 1, h => by simp at h
  | i :: r, k + 2, h => by
    have e1 : thaw (k + 1) st 0 (.str i) = some (.str i) := rfl
    have e2 := thaw_strsL st r (k + 1) (by simp at h; omega)
    show (match thaw (k + 1) st 0 (.str i), thawAll (k + 1) st 0 (r.map Val.str) with
      | some y, some ys => some (y :: ys)
      | _, _ => none) = _
    rw [e1, e2]
    rfl
/-- a call that gives back a list of texts of its own -/
theorem callV_lst {cf : CallF} {f : Str} {vs : List Val} {st st' : Store} {a : Nat} {l : List Str} (hp : pureAll vs = true) (h : cf f vs [] = .ok (.ref a) st') (ha : st'[a]? = some (.lst (l.map Val.str))) (hl : l.length ≤ 1000) :
    callV cf f vs st = .ok (.ls (l.map Val.str)) st := by
  have hne : ¬ st'.length = 0 := by
    intro h0
    have := (List.getElem?_eq_some_iff.mp ha).1
    omega
  have hu : allUnder 0 st' = true := rfl
  have ht : thaw 100000 st' 0 (.ref a) = some (.ls (l.map Val.str)) := by
    show (match st'[a]? with
      | some (.lst xs) => (thawAll 99999 st' 0 xs).map Val.ls
      | some (.dK kvs) => (thawKV 99999 st' 0 kvs).map Val.dc
      | _ => none) = _
    rw [ha]
    show (thawAll 99999 st' 0 (l.map Val.str)).map Val.ls = _
    rw [thaw_strsL _ l 99999 (by omega)]
    rfl
  simp only [callV, hp, h, leave, if_neg hne, hu, Nat.zero_le, decide_true, Bool.and_self, if_true, ht]
theorem run_lorder (N : Net) (n : Nat) (Q : Val) (L : List Val) (l1 : ∀ st : Store, b1V st .len (.tup (N.cells.map cellV)) = some Q) (w1 : ∀ st : Store, walkV st .range [Q] = some L) (env' : Env) (st' : Store) (r : Val) (hr : env'[2]? = some (some r))
    (e : forL (exSs (callN prog (n + 1)) b__law_order_3) (.nm 3) (keepW .range [Q] L) L [some N.val, some (.ref 0), some (.ref 1), none, none, none, none] [.lst (N.ins.map Val.str), .lst []] = .ok (.nx, env') st') :
    callN prog (n + 2) "_law_order" [N.val] [] = .ok r st' := by
  rw [callN_at lk_lorder]
  have n1 := net_1 N
  have n2 := net_2 N
  have hb : ∀ st : Store, b1V st .list (.tup (N.ins.map Val.str)) = some (.ls (N.ins.map Val.str)) := fun st => rfl
  refine run_ (env' := env') ⟨rfl, by decide⟩ [some N.val, none, none, none, none, none, none] rfl ?_
  refine (nx_ (env' := [some N.val, some (.ref 0), none, none, none, none, none]) (st' := [.lst (N.ins.map Val.str)]) (by simp only [runF, exSs, exS, evE, evEs, R.bind_ok, R.bind_bad, R.bind_exc, ofO_some, ofO_none, bindT, setAll, List.length_cons, List.length_nil, List.map_cons, List.map_nil, List.getElem?_cons_zero, List.getElem?_cons_succ, List.cons_append, List.nil_append, List.set_cons_zero, List.set_cons_succ, Nat.zero_add, Nat.add_zero, Nat.le_refl, and_self, if_true, true_and, and_true, List.replicate_succ, List.replicate_zero, Nat.sub_self, Nat.reduceSub, Nat.reduceAdd, Nat.reduceLeDiff, Nat.reduceEqDiff, Nat.zero_le, small, tru_bl, isNon, Bool.not_true, Bool.not_false, n1, hb, ownV])).trans ?_
  refine (nx_ (env' := [some N.val, some (.ref 0), some (.ref 1), none, none, none, none]) (st' := [.lst (N.ins.map Val.str), .lst []]) (by simp only [runF, exSs, exS, evE, evEs, R.bind_ok, R.bind_bad, R.bind_exc, ofO_some, ofO_none, bindT, setAll, List.length_cons, List.length_nil, List.map_cons, List.map_nil, List.getElem?_cons_zero, List.getElem?_cons_succ, List.cons_append, List.nil_append, List.set_cons_zero, List.set_cons_succ, Nat.zero_add, Nat.add_zero, Nat.le_refl, and_self, if_true, true_and, and_true, List.replicate_succ, List.replicate_zero, Nat.sub_self, Nat.reduceSub, Nat.reduceAdd, Nat.reduceLeDiff, Nat.reduceEqDiff, Nat.zero_le, small, tru_bl, isNon, Bool.not_true, Bool.not_false, ownV])).trans ?_
  refine (nx_ (env' := env') (st' := st') (by simp only [runF, exSs, exS, evE, evEs, R.bind_ok, R.bind_bad, R.bind_exc, ofO_some, ofO_none, bindT, setAll, List.length_cons, List.length_nil, List.map_cons, List.map_nil, List.getElem?_cons_zero, List.getElem?_cons_succ, List.cons_append, List.nil_append, List.set_cons_zero, List.set_cons_succ, Nat.zero_add, Nat.add_zero, Nat.le_refl, and_self, if_true, true_and, and_true, List.replicate_succ, List.replicate_zero, Nat.sub_self, Nat.reduceSub, Nat.reduceAdd, Nat.reduceLeDiff, Nat.reduceEqDiff, Nat.zero_le, small, tru_bl, isNon, Bool.not_true, Bool.not_false, n2, l1, w1, e])).trans ?_
  exact rt_ (by simp only [runF, exSs, exS, evE, evEs, R.bind_ok, R.bind_bad, R.bind_exc, ofO_some, ofO_none, bindT, setAll, List.length_cons, List.length_nil, List.map_cons, List.map_nil, List.getElem?_cons_zero, List.getElem?_cons_succ, List.cons_append, List.nil_append, List.set_cons_zero, List.set_cons_succ, Nat.zero_add, Nat.add_zero, Nat.le_refl, and_self, if_true, true_and, and_true, List.replicate_succ, List.replicate_zero, Nat.sub_self, Nat.reduceSub, Nat.reduceAdd, Nat.reduceLeDiff, Nat.reduceEqDiff, Nat.zero_le, small, tru_bl, isNon, Bool.not_true, Bool.not_false, hr])
theorem c_lorder (N : Net) (hN : NetOk N) (n : Nat) : ∃ done' : List Str, callN prog (n + 2) "_law_order" [N.val] [] = .ok (.ref 1) [.lst (done'.map Val.str), .lst ((ordG N.cells N.cells.length N.ins []).map Val.str)] := by
  have ha := hN.all
  obtain ⟨c3, c4, c5, done', e⟩ := ord_4 N hN n N.cells.length N.cells.length 0 none none none none N.ins [] (by simp) (by omega) (by simp; omega) (fun t ht => (hN.inm t ht).sok)
  refine ⟨done', ?_⟩
  have e0 : rangeV (N.cells.length : Int) = (List.range' 0 N.cells.length).map fun i : Nat => Val.int (i : Int) := by
    unfold rangeV
    rw [List.range_eq_range']
    rfl
  rw [if_pos List.length_nil, ← e0] at e
  exact run_lorder N n (.int (N.cells.length : Int)) (rangeV (N.cells.length : Int)) (fun st => by rw [len_tup, List.length_map]) (fun st => walk_rg _ _ (by omega) (by omega)) _ _ _ rfl e
theorem v_lorder (N : Net) (hN : NetOk N) (n : Nat) (st : Store) : callV (callN prog (n + 2)) "_law_order" [N.val] st = .ok (.ls ((ordG N.cells N.cells.length N.ins []).map Val.str)) st := by
  have ha := hN.all
  obtain ⟨done', e⟩ := c_lorder N hN n
  have hl : (ordG N.cells N.cells.length N.ins []).length ≤ 1000 := by
    have := (ordG_len N.cells N.cells.length N.ins []).2
    rw [List.length_nil] at this
    omega
  exact callV_lst (pure1 hN.da) e (List.getElem?_cons_succ.trans List.getElem?_cons_zero) hl
end PV
end

section
set_option Elab.async false
set_option linter.all false
set_option maxRecDepth 100000
set_option maxHeartbeats 1000000
namespace PV
open PySem L2
/-! ### tables -/
def kvC (c : Cell) : Key × Val := (.inr c.nm, c.fm)
def kvT (x : Str) : Key × Val := (.inr x, .bl true)
def addS (ds : List Str) (x : Str) : List Str := if x ∈ ds then ds else ds ++ [x]
theorem inr_inj {a b : Str} : ((.inr a : Key) = .inr b) ↔ a = b := by simp
theorem put_C (cs : List Cell) (x : Str) (v : Val) (h : ∀ c ∈ cs, c.nm ≠ x) : put (cs.map kvC) (.inr x : Key) v = cs.map kvC ++ [(.inr x, v)] := by
  unfold put
  have : ((cs.map kvC).any fun kv => decide (kv.1 = (.inr x : Key))) = false := by
    rw [List.any_eq_false]
    intro kv hk
    obtain ⟨c, hc, rfl⟩ := List.mem_map.mp hk
    have := h c hc
    simp [kvC, this]
  rw [if_neg (by rw [this]; simp)]
theorem put_T (ds : List Str) (x : Str) : put (ds.map kvT) (.inr x : Key) (.bl true) = (addS ds x).map kvT := by
  unfold put addS
  by_cases h : x ∈ ds
  · have : ((ds.map kvT).any fun kv => decide (kv.1 = (.inr x : Key))) = true := by
      rw [List.any_eq_true]
      exact ⟨kvT x, List.mem_map_of_mem h, by simp [kvT]⟩
    rw [if_pos this, if_pos h, List.map_map]
    refine List.map_congr_left fun y _ => ?_
    by_cases e : y = x <;> simp [kvT, e]
  · have : ((ds.map kvT).any fun kv => decide (kv.1 = (.inr x : Key))) = false := by
      rw [List.any_eq_false]
      intro kv hk
      obtain ⟨c, hc, rfl⟩ := List.mem_map.mp hk
      have : c ≠ x := fun e => h (e ▸ hc)
      simp [kvT, this]
    rw [if_neg (by rw [this]; simp), if_neg h, List.map_append]
    rfl
theorem look_T (ds : List Str) (x : Str) : (look (ds.map kvT) (.inr x : Key)).isSome = decide (x ∈ ds) := by
  unfold look
  rw [Option.isSome_map]
  rw [List.find?_map, Option.isSome_map]
  by_cases h : x ∈ ds
  · rw [decide_eq_true h, List.find?_isSome]
    exact ⟨x, h, by simp [kvT]⟩
  · rw [decide_eq_false h]
    cases hf : List.find? ((fun kv => decide (kv.1 = (.inr x : Key))) ∘ kvT) ds with
    | none => rfl
    | some y =>
      have h1 := List.find?_some hf
      have h2 := List.mem_of_find?_eq_some hf
      have : y = x := by simpa [kvT] using h1
      exact absurd (this ▸ h2) h
theorem look_C (cs : List Cell) (x : Str) : look (cs.map kvC) (.inr x : Key) = (cs.find? fun c => decide (c.nm = x)).map (·.fm) := by
  unfold look
  rw [List.find?_map, Option.map_map]
  have : ((fun kv : Key × Val => decide (kv.1 = (.inr x : Key))) ∘ kvC) = fun c => decide (c.nm = x) := by
    funext c
    simp [kvC]
  rw [this]
  rfl
theorem in_dC (st : Store) (cs : List Cell) (x : Str) : cmpV st .isin (.str x) (.dc (cs.map kvC)) = some (cs.find? fun c => decide (c.nm = x)).isSome := by
  simp only [cmpV, inV, isDict, dictGet, keyOf, Option.map_some, look_C, Option.isSome_map]
theorem in_dT (st : Store) (a : Nat) (ds : List Str) (x : Str) (h : st[a]? = some (.dK (ds.map kvT))) : cmpV st .isin (.str x) (.ref a) = some (decide (x ∈ ds)) := by
  simp only [cmpV, inV, isDict, h, dictGet, keyOf, Option.map_some, look_T]
theorem in_cT (st : Store) (ds : List Str) (x : Str) : cmpV st .isin (.str x) (.dc (ds.map kvT)) = some (decide (x ∈ ds)) := by
  simp only [cmpV, inV, isDict, dictGet, keyOf, Option.map_some, look_T]
theorem item_C (st : Store) (cs : List Cell) (x : Str) : itemV st (.dc (cs.map kvC)) (.str x) = (cs.find? fun c => decide (c.nm = x)).map (·.fm) := by
  simp only [itemV, isDict, dictGet, keyOf, Option.map_some, Option.bind_some, id, look_C]
theorem find_nm {cs : List Cell} (hn : (cs.map (·.nm)).Nodup) {c : Cell} (hc : c ∈ cs) : (cs.find? fun d => decide (d.nm = c.nm)) = some c := by
  induction cs with
  | nil => simp at hc
  | cons d cs ih =>
    rw [List.map_cons, List.nodup_cons] at hn
    rw [List.find?_cons]
    by_cases e : d.nm = c.nm
    · rw [decide_eq_true e]
      rcases List.mem_cons.mp hc with rfl | hc
      · rfl
      · exact absurd (List.mem_map_of_mem hc) (e ▸ hn.1)
    · rw [decide_eq_false e]
      rcases List.mem_cons.mp hc with rfl | hc
      · exact absurd rfl e
      · exact ih hn.2 hc
theorem dc_cells {cf : CallF} {keep : Store → Bool} {env : Env} {st : Store} {f g : E} (hk : keep st = true) (i j : Nat) (hf : ∀ a b : Val, evE cf f (setAll env [i, j] [a, b]) st = .ok a st ∧ evE cf g (setAll env [i, j] [a, b]) st = .ok b st) :
    ∀ (cs as_ : List Cell), ((as_ ++ cs).map (·.nm)).Nodup → as_.length + cs.length < 1000 → dcL (evE cf f) (evE cf g) (.tp [i, j]) keep env (cs.map cellV) (as_.map kvC) st = .ok ((as_ ++ cs).map kvC) st
  | [], as_, _, _ => by simp only [List.map_nil, dcL, hk, if_true, List.append_nil]
  | c :: cs, as_, hn, hl => by
    simp only [List.length_cons] at hl
    obtain ⟨h1, h2⟩ := hf (.str c.nm) c.fm
    have hne : ∀ d ∈ as_, d.nm ≠ c.nm := by
      rw [List.map_append, List.nodup_append] at hn
      intro d hd
      exact hn.2.2 _ (List.mem_map_of_mem hd) _ (by simp)
    have hs : (as_.map kvC).length < small := by
      have : small = 100000 := rfl
      rw [List.length_map]
      omega
    have ih := dc_cells hk i j hf cs (as_ ++ [c]) (by simpa using hn) (by simp; omega)
    simp only [List.map_cons, dcL, hk, cellV, bindT, List.length_cons, List.length_nil, if_true, h1, h2, R.bind_ok, keyOf, if_pos hs, put_C as_ c.nm c.fm hne]
    have e : as_.map kvC ++ [((.inr c.nm : Key), c.fm)] = (as_ ++ [c]).map kvC := by rw [List.map_append]; rfl
    have e2 : (as_ ++ [c]) ++ cs = as_ ++ c :: cs := by simp
    rw [e]
    rw [e2] at ih
    exact ih
theorem lk_form_table : List.lookup ("form_table" : Str) prog = some d_form_table.fn := rfl
theorem lk_cell_names : List.lookup ("cell_names" : Str) prog = some d_cell_names.fn := rfl
theorem lk_order_of : List.lookup ("order_of" : Str) prog = some d_order_of.fn := rfl
theorem v_form_table (N : Net) (hN : NetOk N) (n : Nat) (st : Store) : callV (callN prog (n + 1)) "form_table" [N.val] st = .ok (.dc (N.cells.map kvC)) st := by
  refine callV_p (pure1 hN.da) ?_
  rw [callN_at lk_form_table]
  have key := dc_cells (cf := callN prog n) (keep := keepW .of [.tup (N.cells.map cellV)] (N.cells.map cellV)) (env := [some N.val, none, none]) (st := []) (f := e_form_table_1) (g := e_form_table_2) (keep_tup _ _ _ _) 1 2 (fun a b => ⟨rfl, rfl⟩) N.cells [] hN.nodup (by have := hN.all; simp; omega)
  simp only [List.map_nil, List.nil_append] at key
  simp only [d_form_table, runF, exSs, exS, evE, evEs, R.bind_ok, R.bind_bad, R.bind_exc, ofO_some, ofO_none, bindT, setAll, List.length_cons, List.length_nil, List.map_cons, List.map_nil, List.getElem?_cons_zero, List.getElem?_cons_succ, List.cons_append, List.nil_append, List.set_cons_zero, List.set_cons_succ, Nat.zero_add, Nat.add_zero, Nat.le_refl, and_self, if_true, true_and, and_true, List.replicate_succ, List.replicate_zero, Nat.sub_self, Nat.reduceSub, Nat.reduceAdd, Nat.reduceLeDiff, Nat.reduceEqDiff, Nat.zero_le, small, tru_bl, isNon, Bool.not_true, Bool.not_false, net_2, walk_tup, key]
theorem c_cell_names (N : Net) (hN : NetOk N) (n : Nat) (st : Store) : callN prog (n + 1) "cell_names" [N.val] st = .ok (.ref st.length) (st ++ [.lst (N.cells.map fun c => .str c.nm)]) := by
  rw [callN_at lk_cell_names]
  have key := lc_map (f := evE (callN prog n) e_cell_names_1) (tg := .tp [1, 2]) (env := [some N.val, none, none]) (keep := keepW .of [.tup (N.cells.map cellV)] (N.cells.map cellV)) (st := st)
    cellV (fun c => .str c.nm) (keep_tup _ _ _ _) N.cells [] (fun c hc => ⟨_, rfl, rfl⟩) (by have := hN.all; simp; omega)
  simp only [List.nil_append] at key
  simp only [d_cell_names, runF, exSs, exS, evE, evEs, R.bind_ok, R.bind_bad, R.bind_exc, ofO_some, ofO_none, bindT, setAll, List.length_cons, List.length_nil, List.map_cons, List.map_nil, List.getElem?_cons_zero, List.getElem?_cons_succ, List.cons_append, List.nil_append, List.set_cons_zero, List.set_cons_succ, Nat.zero_add, Nat.add_zero, Nat.le_refl, and_self, if_true, true_and, and_true, List.replicate_succ, List.replicate_zero, Nat.sub_self, Nat.reduceSub, Nat.reduceAdd, Nat.reduceLeDiff, Nat.reduceEqDiff, Nat.zero_le, small, tru_bl, isNon, Bool.not_true, Bool.not_false, net_2, walk_tup, key, ownV]
def addAll (ds : List Str) (xs : List Str) : List Str := xs.foldl addS ds
theorem addAll_nodup : ∀ (xs ds : List Str), (ds ++ xs).Nodup → addAll ds xs = ds ++ xs
  | [], ds, _ => by simp [addAll]
  | x :: xs, ds, h => by
    have hx : x ∉ ds := by
      rw [List.nodup_append] at h
      intro hm
      exact h.2.2 _ hm _ List.mem_cons_self rfl
    have := addAll_nodup xs (ds ++ [x]) (by simpa using h)
    simp only [addAll, List.foldl_cons, addS, if_neg hx] at this ⊢
    rw [this]
    simp
theorem dc_T {cf : CallF} {keep : Store → Bool} {env : Env} {st : Store} {f g : E} (hk : keep st = true) (i : Nat) (hf : ∀ a : Val, evE cf f (setAll env [i] [a]) st = .ok a st ∧ evE cf g (setAll env [i] [a]) st = .ok (.bl true) st) :
    ∀ (xs ds : List Str), ds.length + xs.length < 1000 → dcL (evE cf f) (evE cf g) (.nm i) keep env (xs.map Val.str) (ds.map kvT) st = .ok ((addAll ds xs).map kvT) st
  | [], ds, _ => by simp only [List.map_nil, dcL, hk, if_true, addAll, List.foldl_nil]
  | x :: xs, ds, hl => by
    simp only [List.length_cons] at hl
    obtain ⟨h1, h2⟩ := hf (.str x)
    have hs : (ds.map kvT).length < small := by
      have : small = 100000 := rfl
      rw [List.length_map]
      omega
    have hq : (addS ds x).length ≤ ds.length + 1 := by unfold addS; split <;> simp
    simp only [List.map_cons, dcL, hk, bindT, h1, h2, R.bind_ok, keyOf, if_pos hs, put_T]
    exact dc_T hk i hf xs (addS ds x) (by omega)
/-! ### the program's own order -/
def ndn (done : List Str) (c : Cell) : Bool := !decide (c.nm ∈ done)
def pdn (done : List Str) (c : Cell) : Bool := (nowOf c.ns c.kd).all fun x => decide (x ∈ done)
theorem rdy_eq (done : List Str) (c : Cell) : rdy done c = (ndn done c && pdn done c) := by
  unfold rdy ndn pdn nowOf
  by_cases h : c.kd = .late <;> simp [h]
theorem nmL (cs : List Cell) : strsOf (cs.map fun c => Val.str c.nm) = some (cs.map (·.nm)) := by
  induction cs with
  | nil => rfl
  | cons c cs ih => simp only [List.map_cons, strsOf, ih, Option.map_some]
theorem under_T (n : Nat) : ∀ ds : List Str, underKV n (ds.map kvT) = true
  | [] => rfl
  | d :: ds => by simp only [List.map_cons, kvT, underKV, Val.under, Bool.true_and]; exact under_T n ds
theorem under_S (n : Nat) : ∀ ds : List Str, underAll n (ds.map Val.str) = true
  | [] => rfl
  | d :: ds => by simp only [List.map_cons, underAll, Val.under, Bool.true_and]; exact under_S n ds
theorem oo_loop (N : Net) (hN : NetOk N) (n : Nat) : ∀ (k fuel : Nat) (done row : List Str) (c5 c6 c7 : Option Val), (N.cells.filter (ndn done)).length ≤ k → k < fuel → row.length + k < 500 → done.length + k < 500 → (∀ t ∈ done, Sok t) →
    ∃ env' st', whlL (evE (callN prog (n + 2)) (.cst (.bl true))) (exSs (callN prog (n + 2)) b_order_of_6) fuel [some N.val, some (.dc (N.cells.map kvC)), some (.ref 0), some (.ref 1), some (.ref 2), c5, c6, c7] [.dK (done.map kvT), .lst (row.map Val.str), .lst ((N.cells.filter (ndn done)).map fun c => .str c.nm)] = .ok (.rt (.ref 1), env') st'
      ∧ st'[1]? = some (.lst ((ordG N.cells k done row).map Val.str)) := by
  intro k fuel
  induction fuel generalizing k with
  | zero => intro done row c5 c6 c7 h1 h2; omega
  | succ fuel ih =>
    intro done row c5 c6 c7 h1 h2 h3 h4 hds
    have hall := hN.all
    have hlen : (N.cells.filter (ndn done)).length ≤ N.cells.length := List.length_filter_le _ _
    -- the cells that are ready
    have hfind : ∀ c ∈ N.cells, itemV [.dK (done.map kvT), .lst (row.map Val.str), .lst ((N.cells.filter (ndn done)).map fun c => .str c.nm)] (.dc (N.cells.map kvC)) (.str c.nm) = some c.fm := fun c hc => by
      rw [item_C, find_nm hN.nodup hc]
      rfl
    have hin : ∀ x, cmpV [.dK (done.map kvT), .lst (row.map Val.str), .lst ((N.cells.filter (ndn done)).map fun c => .str c.nm)] .isin (.str x) (.ref 0) = some (decide (x ∈ done)) := fun x => in_dT _ 0 done x rfl
    have hw : walkV [.dK (done.map kvT), .lst (row.map Val.str), .lst ((N.cells.filter (ndn done)).map fun c => .str c.nm)] .of [.ref 2] = some ((N.cells.filter (ndn done)).map fun c => .str c.nm) := walk_ref _ 2 _ rfl
    have key := lc_filter (f := evE (callN prog (n + 2)) e_order_of_3) (t := evE (callN prog (n + 2)) e_order_of_5) (tg := .nm 6) (env := [some N.val, some (.dc (N.cells.map kvC)), some (.ref 0), some (.ref 1), some (.ref 2), c5, c6, c7])
      (keep := keepW .of [.ref 2] ((N.cells.filter (ndn done)).map fun c => .str c.nm)) (st := [.dK (done.map kvT), .lst (row.map Val.str), .lst ((N.cells.filter (ndn done)).map fun c => .str c.nm)])
      (fun c : Cell => Val.str c.nm) (fun c : Cell => Val.str c.nm) (pdn done) (keep_ref 2 _ _ rfl) (N.cells.filter (ndn done)) [] (fun c hc => by
        have hc2 := (List.mem_filter.mp hc).1
        have hnow := v_now_names (hN.fok c hc2) n [.dK (done.map kvT), .lst (row.map Val.str), .lst ((N.cells.filter (ndn done)).map fun c => .str c.nm)]
        have k2 := lc_map (f := evE (callN prog (n + 2)) e_order_of_4) (tg := .nm 7) (env := [some N.val, some (.dc (N.cells.map kvC)), some (.ref 0), some (.ref 1), some (.ref 2), c5, some (.str c.nm), c7])
          (keep := keepW .of [.tup ((nowOf c.ns c.kd).map Val.str)] ((nowOf c.ns c.kd).map Val.str)) (st := [.dK (done.map kvT), .lst (row.map Val.str), .lst ((N.cells.filter (ndn done)).map fun c => .str c.nm)])
          Val.str (fun x => .bl (decide (x ∈ done))) (keep_tup _ _ _ _) (nowOf c.ns c.kd) [] (fun x hx => ⟨_, rfl, by simp only [e_order_of_4, runF, exSs, exS, evE, evEs, R.bind_ok, R.bind_bad, R.bind_exc, ofO_some, ofO_none, bindT, setAll, List.length_cons, List.length_nil, List.map_cons, List.map_nil, List.getElem?_cons_zero, List.getElem?_cons_succ, List.cons_append, List.nil_append, List.set_cons_zero, List.set_cons_succ, Nat.zero_add, Nat.add_zero, Nat.le_refl, and_self, if_true, true_and, and_true, List.replicate_succ, List.replicate_zero, Nat.sub_self, Nat.reduceSub, Nat.reduceAdd, Nat.reduceLeDiff, Nat.reduceEqDiff, Nat.zero_le, small, tru_bl, isNon, Bool.not_true, Bool.not_false, hin x]⟩) (by
            have := (hN.fok c hc2).short
            have h5 : (nowOf c.ns c.kd).length ≤ 2 := by
              unfold nowOf
              split
              · simp
              · exact this
            simp; omega)
        refine ⟨[some N.val, some (.dc (N.cells.map kvC)), some (.ref 0), some (.ref 1), some (.ref 2), c5, some (.str c.nm), c7], rfl, ?_, fun _ => ?_⟩
        · simp only [e_order_of_5, runF, exSs, exS, evE, evEs, R.bind_ok, R.bind_bad, R.bind_exc, ofO_some, ofO_none, bindT, setAll, List.length_cons, List.length_nil, List.map_cons, List.map_nil, List.getElem?_cons_zero, List.getElem?_cons_succ, List.cons_append, List.nil_append, List.set_cons_zero, List.set_cons_succ, Nat.zero_add, Nat.add_zero, Nat.le_refl, and_self, if_true, true_and, and_true, List.replicate_succ, List.replicate_zero, Nat.sub_self, Nat.reduceSub, Nat.reduceAdd, Nat.reduceLeDiff, Nat.reduceEqDiff, Nat.zero_le, small, tru_bl, isNon, Bool.not_true, Bool.not_false, hfind c hc2, hnow, walk_tup, k2, all_bl]
          rfl
        · simp only [e_order_of_3, runF, exSs, exS, evE, evEs, R.bind_ok, R.bind_bad, R.bind_exc, ofO_some, ofO_none, bindT, setAll, List.length_cons, List.length_nil, List.map_cons, List.map_nil, List.getElem?_cons_zero, List.getElem?_cons_succ, List.cons_append, List.nil_append, List.set_cons_zero, List.set_cons_succ, Nat.zero_add, Nat.add_zero, Nat.le_refl, and_self, if_true, true_and, and_true, List.replicate_succ, List.replicate_zero, Nat.sub_self, Nat.reduceSub, Nat.reduceAdd, Nat.reduceLeDiff, Nat.reduceEqDiff, Nat.zero_le, small, tru_bl, isNon, Bool.not_true, Bool.not_false]) (by simp; omega)
    rw [List.nil_append] at key
    have hfd : N.cells.find? (rdy done) = ((N.cells.filter (ndn done)).filter (pdn done)).head? := by
      rw [List.filter_filter, List.head?_filter]
      congr 1
      funext c
      rw [rdy_eq, Bool.and_comm]
    have hb1 : exS (callN prog (n + 2)) (.asg (.nm 5) (.lc e_order_of_3 (.nm 6) .of [(.var 4)] [e_order_of_5])) [some N.val, some (.dc (N.cells.map kvC)), some (.ref 0), some (.ref 1), some (.ref 2), c5, c6, c7] [.dK (done.map kvT), .lst (row.map Val.str), .lst ((N.cells.filter (ndn done)).map fun c => .str c.nm)]
        = .ok (.nx, [some N.val, some (.dc (N.cells.map kvC)), some (.ref 0), some (.ref 1), some (.ref 2), some (.ls (((N.cells.filter (ndn done)).filter (pdn done)).map fun c => .str c.nm)), c6, c7]) [.dK (done.map kvT), .lst (row.map Val.str), .lst ((N.cells.filter (ndn done)).map fun c => .str c.nm)] := by
      simp only [runF, exSs, exS, evE, evEs, R.bind_ok, R.bind_bad, R.bind_exc, ofO_some, ofO_none, bindT, setAll, List.length_cons, List.length_nil, List.map_cons, List.map_nil, List.getElem?_cons_zero, List.getElem?_cons_succ, List.cons_append, List.nil_append, List.set_cons_zero, List.set_cons_succ, Nat.zero_add, Nat.add_zero, Nat.le_refl, and_self, if_true, true_and, and_true, List.replicate_succ, List.replicate_zero, Nat.sub_self, Nat.reduceSub, Nat.reduceAdd, Nat.reduceLeDiff, Nat.reduceEqDiff, Nat.zero_le, small, tru_bl, isNon, Bool.not_true, Bool.not_false, hw, key]
    have hc0 : ∀ env st, evE (callN prog (n + 2)) (.cst (.bl true)) env st = .ok (.bl true) st := fun env st => by simp only [evE]
    cases hr : (N.cells.filter (ndn done)).filter (pdn done) with
    | nil =>
      rw [hr] at hb1 hfd
      have hbody : exSs (callN prog (n + 2)) b_order_of_6 [some N.val, some (.dc (N.cells.map kvC)), some (.ref 0), some (.ref 1), some (.ref 2), c5, c6, c7] [.dK (done.map kvT), .lst (row.map Val.str), .lst ((N.cells.filter (ndn done)).map fun c => .str c.nm)]
        = .ok (.rt (.ref 1), [some N.val, some (.dc (N.cells.map kvC)), some (.ref 0), some (.ref 1), some (.ref 2), some (.ls []), c6, c7]) [.dK (done.map kvT), .lst (row.map Val.str), .lst ((N.cells.filter (ndn done)).map fun c => .str c.nm)] := by
        refine (nx_ hb1).trans ?_
        refine rt_ ?_
        have ht : ∀ st, truV st (.ls ([].map fun c : Cell => Val.str c.nm)) = some false := fun st => rfl
        simp only [runF, exSs, exS, evE, evEs, R.bind_ok, R.bind_bad, R.bind_exc, ofO_some, ofO_none, bindT, setAll, List.length_cons, List.length_nil, List.map_cons, List.map_nil, List.getElem?_cons_zero, List.getElem?_cons_succ, List.cons_append, List.nil_append, List.set_cons_zero, List.set_cons_succ, Nat.zero_add, Nat.add_zero, Nat.le_refl, and_self, if_true, true_and, and_true, List.replicate_succ, List.replicate_zero, Nat.sub_self, Nat.reduceSub, Nat.reduceAdd, Nat.reduceLeDiff, Nat.reduceEqDiff, Nat.zero_le, small, tru_bl, isNon, Bool.not_true, Bool.not_false, ht]
        rfl
      refine ⟨[some N.val, some (.dc (N.cells.map kvC)), some (.ref 0), some (.ref 1), some (.ref 2), some (.ls []), c6, c7], [.dK (done.map kvT), .lst (row.map Val.str), .lst ((N.cells.filter (ndn done)).map fun c => .str c.nm)], ?_, ?_⟩
      · simp only [whlL, hc0, R.bind_ok, tru_bl, ofO_some, hbody]
      · have : ordG N.cells k done row = row := by
          cases k with
          | zero => rfl
          | succ k => rw [ordG, hfd]; rfl
        rw [this]
        rfl
    | cons c rest =>
      rw [hr] at hb1 hfd
      obtain ⟨rv, hrv⟩ : ∃ rv, rv = (c :: rest).map fun c => Val.str c.nm := ⟨_, rfl⟩
      rw [← hrv] at hb1
      have hcm : c ∈ (N.cells.filter (ndn done)).filter (pdn done) := by rw [hr]; exact List.mem_cons_self
      have hc1 := List.mem_filter.mp hcm
      have hc2 := List.mem_filter.mp hc1.1
      have hnd : c.nm ∉ done := by
        have := hc2.2
        simpa [ndn] using this
      have hpos : 0 < (N.cells.filter (ndn done)).length := List.length_pos_of_mem hc1.1
      obtain ⟨k', rfl⟩ : ∃ k', k = k' + 1 := ⟨k - 1, by omega⟩
      have herase : ((N.cells.filter (ndn done)).map (·.nm)).erase c.nm = (N.cells.filter (ndn (done ++ [c.nm]))).map (·.nm) := by
        have hn : ((N.cells.filter (ndn done)).map (·.nm)).Nodup := hN.nodup.sublist (List.filter_sublist.map _)
        rw [hn.erase_eq_filter, List.filter_map, List.filter_filter]
        congr 1
        apply List.filter_congr
        intro d hd
        simp only [ndn, Function.comp, List.mem_append, List.mem_singleton]
        by_cases e1 : d.nm ∈ done <;> by_cases e2 : d.nm = c.nm <;> simp [e1, e2]
      have hlt : (N.cells.filter (ndn (done ++ [c.nm]))).length + 1 ≤ (N.cells.filter (ndn done)).length := by
        have h5 := congrArg List.length herase
        have hmem : c.nm ∈ (N.cells.filter (ndn done)).map (·.nm) := List.mem_map_of_mem hc1.1
        rw [List.length_erase_of_mem hmem, List.length_map, List.length_map] at h5
        omega
      have hmm : ∀ cs : List Cell, (cs.map (·.nm)).map Val.str = cs.map fun c => .str c.nm := fun cs => by rw [List.map_map]; rfl
      have hi : ∀ st, itemV st (.ls rv) (.int 0) = some (.str c.nm) := fun st => by
        rw [hrv]
        have hix : ixAt ((c :: rest).map fun c => Val.str c.nm).length 0 = some 0 := by
          unfold ixAt
          rw [if_pos (by decide), if_pos (by rw [List.length_map, List.length_cons]; omega)]
          rfl
        simp only [itemV, isDict, seqOf]
        rw [hix]
        rfl
      have hbody : exSs (callN prog (n + 2)) b_order_of_6 [some N.val, some (.dc (N.cells.map kvC)), some (.ref 0), some (.ref 1), some (.ref 2), c5, c6, c7] [.dK (done.map kvT), .lst (row.map Val.str), .lst ((N.cells.filter (ndn done)).map fun c => .str c.nm)]
        = .ok (.nx, [some N.val, some (.dc (N.cells.map kvC)), some (.ref 0), some (.ref 1), some (.ref 2), some (.ls rv), c6, c7]) [.dK ((done ++ [c.nm]).map kvT), .lst ((row ++ [c.nm]).map Val.str), .lst ((N.cells.filter (ndn (done ++ [c.nm]))).map fun c => .str c.nm)] := by
        refine (nx_ hb1).trans ?_
        have ht : ∀ st, truV st (.ls rv) = some true := fun st => by rw [hrv]; rfl
        refine (nx_ (env' := [some N.val, some (.dc (N.cells.map kvC)), some (.ref 0), some (.ref 1), some (.ref 2), some (.ls rv), c6, c7]) (st' := [.dK (done.map kvT), .lst (row.map Val.str), .lst ((N.cells.filter (ndn done)).map fun c => .str c.nm)]) (by simp only [runF, exSs, exS, evE, evEs, R.bind_ok, R.bind_bad, R.bind_exc, ofO_some, ofO_none, bindT, setAll, List.length_cons, List.length_nil, List.map_cons, List.map_nil, List.getElem?_cons_zero, List.getElem?_cons_succ, List.cons_append, List.nil_append, List.set_cons_zero, List.set_cons_succ, Nat.zero_add, Nat.add_zero, Nat.le_refl, and_self, if_true, true_and, and_true, List.replicate_succ, List.replicate_zero, Nat.sub_self, Nat.reduceSub, Nat.reduceAdd, Nat.reduceLeDiff, Nat.reduceEqDiff, Nat.zero_le, small, tru_bl, isNon, Bool.not_true, Bool.not_false, ht])).trans ?_
        have ha : appV [.dK (done.map kvT), .lst (row.map Val.str), .lst ((N.cells.filter (ndn done)).map fun c => .str c.nm)] (.ref 1) (.str c.nm) = .ok () [.dK (done.map kvT), .lst ((row ++ [c.nm]).map Val.str), .lst ((N.cells.filter (ndn done)).map fun c => .str c.nm)] := by
          rw [app_at (xs := row.map Val.str) rfl _ (by rw [List.length_map]; omega)]
          simp
        refine (nx_ (env' := [some N.val, some (.dc (N.cells.map kvC)), some (.ref 0), some (.ref 1), some (.ref 2), some (.ls rv), c6, c7]) (st' := [.dK (done.map kvT), .lst ((row ++ [c.nm]).map Val.str), .lst ((N.cells.filter (ndn done)).map fun c => .str c.nm)]) (by simp only [runF, exSs, exS, evE, evEs, R.bind_ok, R.bind_bad, R.bind_exc, ofO_some, ofO_none, bindT, setAll, List.length_cons, List.length_nil, List.map_cons, List.map_nil, List.getElem?_cons_zero, List.getElem?_cons_succ, List.cons_append, List.nil_append, List.set_cons_zero, List.set_cons_succ, Nat.zero_add, Nat.add_zero, Nat.le_refl, and_self, if_true, true_and, and_true, List.replicate_succ, List.replicate_zero, Nat.sub_self, Nat.reduceSub, Nat.reduceAdd, Nat.reduceLeDiff, Nat.reduceEqDiff, Nat.zero_le, small, tru_bl, isNon, Bool.not_true, Bool.not_false, hi, isLst, lstOf, Option.isSome_some, ha])).trans ?_
        have hset : setV [.dK (done.map kvT), .lst ((row ++ [c.nm]).map Val.str), .lst ((N.cells.filter (ndn done)).map fun c => .str c.nm)] (.ref 0) (.str c.nm) (.bl true) = .ok () [.dK ((done ++ [c.nm]).map kvT), .lst ((row ++ [c.nm]).map Val.str), .lst ((N.cells.filter (ndn done)).map fun c => .str c.nm)] := by
          have hs : (done.map kvT).length < small := by
            have : small = 100000 := rfl
            rw [List.length_map]
            omega
          have hadd : addS done c.nm = done ++ [c.nm] := by unfold addS; rw [if_neg hnd]
          simp only [setV, List.getElem?_cons_zero, keyOf, if_pos hs, put_T, hadd, List.set_cons_zero]
        refine (nx_ (env' := [some N.val, some (.dc (N.cells.map kvC)), some (.ref 0), some (.ref 1), some (.ref 2), some (.ls rv), c6, c7]) (st' := [.dK ((done ++ [c.nm]).map kvT), .lst ((row ++ [c.nm]).map Val.str), .lst ((N.cells.filter (ndn done)).map fun c => .str c.nm)]) (by simp only [runF, exSs, exS, evE, evEs, R.bind_ok, R.bind_bad, R.bind_exc, ofO_some, ofO_none, bindT, setAll, List.length_cons, List.length_nil, List.map_cons, List.map_nil, List.getElem?_cons_zero, List.getElem?_cons_succ, List.cons_append, List.nil_append, List.set_cons_zero, List.set_cons_succ, Nat.zero_add, Nat.add_zero, Nat.le_refl, and_self, if_true, true_and, and_true, List.replicate_succ, List.replicate_zero, Nat.sub_self, Nat.reduceSub, Nat.reduceAdd, Nat.reduceLeDiff, Nat.reduceEqDiff, Nat.zero_le, small, tru_bl, isNon, Bool.not_true, Bool.not_false, hi, hset])).trans ?_
        have hrem : remV [.dK ((done ++ [c.nm]).map kvT), .lst ((row ++ [c.nm]).map Val.str), .lst ((N.cells.filter (ndn done)).map fun c => .str c.nm)] (.ref 2) (.str c.nm) = .ok () [.dK ((done ++ [c.nm]).map kvT), .lst ((row ++ [c.nm]).map Val.str), .lst ((N.cells.filter (ndn (done ++ [c.nm]))).map fun c => .str c.nm)] := by
          have hmem : c.nm ∈ (N.cells.filter (ndn done)).map (·.nm) := List.mem_map_of_mem hc1.1
          simp only [remV, List.getElem?_cons_succ, List.getElem?_cons_zero, nmL, if_pos hmem, herase, hmm, List.set_cons_succ, List.set_cons_zero]
        refine (nx_ (env' := [some N.val, some (.dc (N.cells.map kvC)), some (.ref 0), some (.ref 1), some (.ref 2), some (.ls rv), c6, c7]) (st' := [.dK ((done ++ [c.nm]).map kvT), .lst ((row ++ [c.nm]).map Val.str), .lst ((N.cells.filter (ndn (done ++ [c.nm]))).map fun c => .str c.nm)]) (by simp only [runF, exSs, exS, evE, evEs, R.bind_ok, R.bind_bad, R.bind_exc, ofO_some, ofO_none, bindT, setAll, List.length_cons, List.length_nil, List.map_cons, List.map_nil, List.getElem?_cons_zero, List.getElem?_cons_succ, List.cons_append, List.nil_append, List.set_cons_zero, List.set_cons_succ, Nat.zero_add, Nat.add_zero, Nat.le_refl, and_self, if_true, true_and, and_true, List.replicate_succ, List.replicate_zero, Nat.sub_self, Nat.reduceSub, Nat.reduceAdd, Nat.reduceLeDiff, Nat.reduceEqDiff, Nat.zero_le, small, tru_bl, isNon, Bool.not_true, Bool.not_false, hi, isLst, lstOf, Option.isSome_some, hrem])).trans ?_
        simp only [exSs]
      obtain ⟨env', st', e1, e2⟩ := ih k' (done ++ [c.nm]) (row ++ [c.nm]) (some (.ls rv)) c6 c7 (by omega) (by omega) (by simp; omega) (by simp; omega) (sok_app hds (hN.cnm c hc2.1).sok)
      refine ⟨env', st', ?_, ?_⟩
      · simp only [whlL, hc0, R.bind_ok, tru_bl, ofO_some, hbody]
        exact e1
      · rw [ordG, hfd]
        exact e2
theorem v_order_of (N : Net) (hN : NetOk N) (n : Nat) (st : Store) : callV (callN prog (n + 3)) "order_of" [N.val] st = .ok (.ls ((ordG N.cells N.cells.length N.ins []).map Val.str)) st := by
  have hall := hN.all
  have hl : (ordG N.cells N.cells.length N.ins []).length ≤ 1000 := by
    have := (ordG_len N.cells N.cells.length N.ins []).2
    rw [List.length_nil] at this
    omega
  have hf0 : N.cells.filter (ndn N.ins) = N.cells := by
    rw [List.filter_eq_self]
    intro c hc
    simp [ndn, hN.dis c hc]
  have hle : (N.cells.filter (ndn N.ins)).length ≤ N.cells.length := List.length_filter_le _ _
  obtain ⟨env', st', e, e2⟩ := oo_loop N hN n N.cells.length turns N.ins [] none none none hle (by have : turns = 100000 := rfl; omega) (by simp; omega) (by omega) (fun t ht => (hN.inm t ht).sok)
  rw [hf0] at e
  refine callV_lst (st' := st') (a := 1) (pure1 hN.da) ?_ e2 hl
  rw [callN_at lk_order_of]
  have n1 := net_1 N
  have ft := v_form_table N hN (n + 1) []
  have hnd : N.ins.Nodup := by
    refine List.Pairwise.imp ?_ hN.ia
    intro a b hab he
    subst he
    exact ltS_irrefl _ hab
  have dT := dc_T (cf := callN prog (n + 2)) (keep := keepW .of [.tup (N.ins.map Val.str)] (N.ins.map Val.str)) (env := [some N.val, some (.dc (N.cells.map kvC)), none, none, none, none, none, none]) (st := []) (f := e_order_of_1) (g := e_order_of_2) (keep_tup _ _ _ _) 6 (fun a => ⟨rfl, rfl⟩) N.ins [] (by simp; omega)
  rw [addAll_nodup N.ins [] (by simpa using hnd)] at dT
  simp only [List.map_nil, List.nil_append] at dT
  refine run_ (env' := env') ⟨rfl, by decide⟩ [some N.val, none, none, none, none, none, none, none] rfl ?_
  refine (nx_ (env' := [some N.val, some (.dc (N.cells.map kvC)), none, none, none, none, none, none]) (st' := []) (by simp only [runF, exSs, exS, evE, evEs, R.bind_ok, R.bind_bad, R.bind_exc, ofO_some, ofO_none, bindT, setAll, List.length_cons, List.length_nil, List.map_cons, List.map_nil, List.getElem?_cons_zero, List.getElem?_cons_succ, List.cons_append, List.nil_append, List.set_cons_zero, List.set_cons_succ, Nat.zero_add, Nat.add_zero, Nat.le_refl, and_self, if_true, true_and, and_true, List.replicate_succ, List.replicate_zero, Nat.sub_self, Nat.reduceSub, Nat.reduceAdd, Nat.reduceLeDiff, Nat.reduceEqDiff, Nat.zero_le, small, tru_bl, isNon, Bool.not_true, Bool.not_false, ft])).trans ?_
  refine (nx_ (env' := [some N.val, some (.dc (N.cells.map kvC)), some (.ref 0), none, none, none, none, none]) (st' := [.dK (N.ins.map kvT)]) (by simp only [runF, exSs, exS, evE, evEs, R.bind_ok, R.bind_bad, R.bind_exc, ofO_some, ofO_none, bindT, setAll, List.length_cons, List.length_nil, List.map_cons, List.map_nil, List.getElem?_cons_zero, List.getElem?_cons_succ, List.cons_append, List.nil_append, List.set_cons_zero, List.set_cons_succ, Nat.zero_add, Nat.add_zero, Nat.le_refl, and_self, if_true, true_and, and_true, List.replicate_succ, List.replicate_zero, Nat.sub_self, Nat.reduceSub, Nat.reduceAdd, Nat.reduceLeDiff, Nat.reduceEqDiff, Nat.zero_le, small, tru_bl, isNon, Bool.not_true, Bool.not_false, n1, walk_tup, dT, ownV])).trans ?_
  refine (nx_ (env' := [some N.val, some (.dc (N.cells.map kvC)), some (.ref 0), some (.ref 1), none, none, none, none]) (st' := [.dK (N.ins.map kvT), .lst []]) (by simp only [runF, exSs, exS, evE, evEs, R.bind_ok, R.bind_bad, R.bind_exc, ofO_some, ofO_none, bindT, setAll, List.length_cons, List.length_nil, List.map_cons, List.map_nil, List.getElem?_cons_zero, List.getElem?_cons_succ, List.cons_append, List.nil_append, List.set_cons_zero, List.set_cons_succ, Nat.zero_add, Nat.add_zero, Nat.le_refl, and_self, if_true, true_and, and_true, List.replicate_succ, List.replicate_zero, Nat.sub_self, Nat.reduceSub, Nat.reduceAdd, Nat.reduceLeDiff, Nat.reduceEqDiff, Nat.zero_le, small, tru_bl, isNon, Bool.not_true, Bool.not_false, ownV])).trans ?_
  have hown : leaveOwn 2 (callN prog (n + 2) "cell_names" [N.val] [.dK (N.ins.map kvT), .lst []]) = .ok (.ref 2) [.dK (N.ins.map kvT), .lst [], .lst (N.cells.map fun c => .str c.nm)] := by
    rw [c_cell_names N hN (n + 1)]
    have u1 : underKV 2 (N.ins.map kvT) = true := under_T 2 _
    have u2 : underAll 2 (N.cells.map fun c => Val.str c.nm) = true := by
      have := under_S 2 (N.cells.map (·.nm))
      rw [List.map_map] at this
      exact this
    have u3 : allUnder 2 [.dK (N.ins.map kvT), .lst [], .lst (N.cells.map fun c => .str c.nm)] = true := by
      simp [allUnder, Obj.under, u1, underAll]
    show (if 2 ≤ 2 ∧ allUnder 2 [.dK (N.ins.map kvT), .lst [], .lst (N.cells.map fun c => .str c.nm)] = true ∧ 2 ≤ 3 then (if underAll 2 (N.cells.map fun c => Val.str c.nm) = true then (.ok (.ref 2) [.dK (N.ins.map kvT), .lst [], .lst (N.cells.map fun c => .str c.nm)] : R Val) else .bad) else .bad) = _
    rw [if_pos ⟨Nat.le_refl _, u3, by decide⟩, if_pos u2]
  refine (nx_ (env' := [some N.val, some (.dc (N.cells.map kvC)), some (.ref 0), some (.ref 1), some (.ref 2), none, none, none]) (st' := [.dK (N.ins.map kvT), .lst [], .lst (N.cells.map fun c => .str c.nm)]) (by simp only [runF, exSs, exS, evE, evEs, R.bind_ok, R.bind_bad, R.bind_exc, ofO_some, ofO_none, bindT, setAll, List.length_cons, List.length_nil, List.map_cons, List.map_nil, List.getElem?_cons_zero, List.getElem?_cons_succ, List.cons_append, List.nil_append, List.set_cons_zero, List.set_cons_succ, Nat.zero_add, Nat.add_zero, Nat.le_refl, and_self, if_true, true_and, and_true, List.replicate_succ, List.replicate_zero, Nat.sub_self, Nat.reduceSub, Nat.reduceAdd, Nat.reduceLeDiff, Nat.reduceEqDiff, Nat.zero_le, small, tru_bl, isNon, Bool.not_true, Bool.not_false, hown])).trans ?_
  exact rt_ (by
    rw [exS]
    exact e)
end PV
end

section
set_option Elab.async false
set_option linter.all false
set_option maxRecDepth 100000
set_option maxHeartbeats 1000000
namespace PV
open PySem L2
/-! ### on what names hang -/
def Net.univ (N : Net) : List Str := N.ins ++ N.nms
def Closed (N : Net) (U : List Str) : Prop := ∀ c ∈ N.cells, c.nm ∈ U → ∀ x ∈ c.ns, x ∈ U
def pot (u ds : List Str) : Nat := ds.length + 2 * (u.filter fun x => !decide (x ∈ ds)).length
theorem flt_le {α : Type} (p q : α → Bool) : ∀ l : List α, (∀ x ∈ l, q x = true → p x = true) → (l.filter q).length ≤ (l.filter p).length
  | [], _ => by simp
  | x :: l, h => by
    have ih := flt_le p q l fun y hy => h y (List.mem_cons_of_mem _ hy)
    have h0 := h x List.mem_cons_self
    cases hq : q x with
    | true => rw [List.filter_cons_of_pos hq, List.filter_cons_of_pos (h0 hq), List.length_cons, List.length_cons]; omega
    | false =>
      rw [List.filter_cons_of_neg (by simp [hq])]
      cases hp : p x with
      | true => rw [List.filter_cons_of_pos hp, List.length_cons]; omega
      | false => rw [List.filter_cons_of_neg (by simp [hp])]; exact ih
theorem flt_lt {α : Type} (p q : α → Bool) (a : α) (ha : p a = true) (hb : q a = false) : ∀ l : List α, (∀ x ∈ l, q x = true → p x = true) → a ∈ l → (l.filter q).length + 1 ≤ (l.filter p).length
  | [], _, hm => by simp at hm
  | x :: l, h, hm => by
    have h0 := h x List.mem_cons_self
    have hl := fun y hy => h y (List.mem_cons_of_mem _ hy)
    rcases List.mem_cons.mp hm with rfl | hm
    · have := flt_le p q l hl
      rw [List.filter_cons_of_pos ha, List.filter_cons_of_neg (by simp [hb]), List.length_cons]
      omega
    · have ih := flt_lt p q a ha hb l hl hm
      cases hq : q x with
      | true => rw [List.filter_cons_of_pos hq, List.filter_cons_of_pos (h0 hq), List.length_cons, List.length_cons]; omega
      | false =>
        rw [List.filter_cons_of_neg (by simp [hq])]
        cases hp : p x with
        | true => rw [List.filter_cons_of_pos hp, List.length_cons]; omega
        | false => rw [List.filter_cons_of_neg (by simp [hp])]; exact ih
/-- at most two more names, one of them new: the measure does not grow -/
theorem pot_app (u ds more : List Str) (h2 : more.length ≤ 2) (hu : ∀ x ∈ more, x ∈ u) (hn : ∀ x ∈ more, x ∉ ds) : pot u (ds ++ more) ≤ pot u ds := by
  unfold pot
  cases more with
  | nil => simp
  | cons x more =>
    have := flt_lt (fun y => !decide (y ∈ ds)) (fun y => !decide (y ∈ ds ++ x :: more)) x (by simp [hn x List.mem_cons_self]) (by simp) u (fun y _ hy => by
      simp at hy ⊢
      exact hy.1) (hu x List.mem_cons_self)
    rw [List.length_append]
    omega
theorem pot_addS (u ds : List Str) (x : Str) (hu : x ∈ u) : pot u (addS ds x) ≤ pot u ds := by
  unfold addS
  split
  · exact Nat.le_refl _
  · next h => exact pot_app u ds [x] (by simp) (by simpa using hu) (by simpa using h)
theorem pot_addAll (u : List Str) : ∀ (xs ds : List Str), (∀ x ∈ xs, x ∈ u) → pot u (addAll ds xs) ≤ pot u ds
  | [], ds, _ => Nat.le_refl _
  | x :: xs, ds, h => Nat.le_trans (pot_addAll u xs (addS ds x) fun y hy => h y (List.mem_cons_of_mem _ hy)) (pot_addS u ds x (h x List.mem_cons_self))
theorem mem_addS (ds : List Str) (x y : Str) : y ∈ addS ds x ↔ y ∈ ds ∨ y = x := by
  unfold addS
  split
  · next h =>
    constructor
    · exact .inl
    · rintro (h2 | rfl)
      · exact h2
      · exact h
  · simp
theorem mem_addAll : ∀ (xs ds : List Str) (y : Str), y ∈ addAll ds xs ↔ y ∈ ds ∨ y ∈ xs
  | [], ds, y => by simp [addAll]
  | x :: xs, ds, y => by
    have := mem_addAll xs (addS ds x) y
    simp only [addAll, List.foldl_cons] at this ⊢
    rw [this, mem_addS, List.mem_cons, or_assoc]
theorem addAll_len : ∀ (xs ds : List Str), ds.length ≤ (addAll ds xs).length
  | [], ds => Nat.le_refl _
  | x :: xs, ds => by
    have := addAll_len xs (addS ds x)
    have h2 : ds.length ≤ (addS ds x).length := by unfold addS; split <;> simp
    simp only [addAll, List.foldl_cons] at this ⊢
    omega
theorem lk_reached : List.lookup ("reached_from" : Str) prog = some d_reached_from.fn := rfl
theorem lk_lunder : List.lookup ("_law_under" : Str) prog = some d__law_under.fn := rfl
theorem rf_1 (cf : CallF) (c0 c1 c2 c5 c6 : Option Val) (x : Str) (ds : List Str) (hl : ds.length < 500) :
    exSs cf b_reached_from_3 [c0, c1, c2, some (.ref 0), some (.ref 1), c5, c6, some (.str x)] [.dK (ds.map kvT), .lst (ds.map Val.str)]
      = .ok (.nx, [c0, c1, c2, some (.ref 0), some (.ref 1), c5, c6, some (.str x)]) [.dK ((addS ds x).map kvT), .lst ((addS ds x).map Val.str)] := by
  have h1 : cmpV [.dK (ds.map kvT), .lst (ds.map Val.str)] .notin (.str x) (.ref 0) = some (!decide (x ∈ ds)) := notin_of (in_dT _ 0 ds x rfl)
  by_cases h : x ∈ ds
  · have e : addS ds x = ds := by unfold addS; rw [if_pos h]
    simp only [b_reached_from_3, runF, exSs, exS, evE, evEs, R.bind_ok, R.bind_bad, R.bind_exc, ofO_some, ofO_none, bindT, setAll, List.length_cons, List.length_nil, List.map_cons, List.map_nil, List.getElem?_cons_zero, List.getElem?_cons_succ, List.cons_append, List.nil_append, List.set_cons_zero, List.set_cons_succ, Nat.zero_add, Nat.add_zero, Nat.le_refl, and_self, if_true, true_and, and_true, List.replicate_succ, List.replicate_zero, Nat.sub_self, Nat.reduceSub, Nat.reduceAdd, Nat.reduceLeDiff, Nat.reduceEqDiff, Nat.zero_le, small, tru_bl, isNon, Bool.not_true, Bool.not_false, h1, decide_eq_true h, e]
  · have hs : (ds.map kvT).length < small := by
      have : small = 100000 := rfl
      rw [List.length_map]
      omega
    have h2 : setV [.dK (ds.map kvT), .lst (ds.map Val.str)] (.ref 0) (.str x) (.bl true) = .ok () [.dK ((addS ds x).map kvT), .lst (ds.map Val.str)] := by
      simp only [setV, List.getElem?_cons_zero, keyOf, if_pos hs, put_T, List.set_cons_zero]
    have h3 : appV [.dK ((addS ds x).map kvT), .lst (ds.map Val.str)] (.ref 1) (.str x) = .ok () [.dK ((addS ds x).map kvT), .lst ((addS ds x).map Val.str)] := by
      have e : addS ds x = ds ++ [x] := by unfold addS; rw [if_neg h]
      rw [app_at (xs := ds.map Val.str) rfl _ (by rw [List.length_map]; omega), e]
      simp
    simp only [b_reached_from_3, runF, exSs, exS, evE, evEs, R.bind_ok, R.bind_bad, R.bind_exc, ofO_some, ofO_none, bindT, setAll, List.length_cons, List.length_nil, List.map_cons, List.map_nil, List.getElem?_cons_zero, List.getElem?_cons_succ, List.cons_append, List.nil_append, List.set_cons_zero, List.set_cons_succ, Nat.zero_add, Nat.add_zero, Nat.le_refl, and_self, if_true, true_and, and_true, List.replicate_succ, List.replicate_zero, Nat.sub_self, Nat.reduceSub, Nat.reduceAdd, Nat.reduceLeDiff, Nat.reduceEqDiff, Nat.zero_le, small, tru_bl, isNon, Bool.not_true, Bool.not_false, h1, decide_eq_false h, h2, isLst, lstOf, Option.isSome_some, h3]
theorem rf_2 (cf : CallF) (c0 c1 c2 c5 c6 : Option Val) (l0 : List Val) : ∀ (xs : List Str) (c7 : Option Val) (ds : List Str), ds.length + xs.length < 500 →
    ∃ c7', forL (exSs cf b_reached_from_3) (.nm 7) (keepW .of [.tup l0] l0) (xs.map Val.str) [c0, c1, c2, some (.ref 0), some (.ref 1), c5, c6, c7] [.dK (ds.map kvT), .lst (ds.map Val.str)]
      = .ok (.nx, [c0, c1, c2, some (.ref 0), some (.ref 1), c5, c6, c7']) [.dK ((addAll ds xs).map kvT), .lst ((addAll ds xs).map Val.str)]
  | [], c7, ds, _ => ⟨c7, by simp only [List.map_nil, forL, keep_tup, if_true, addAll, List.foldl_nil]⟩
  | x :: xs, c7, ds, h => by
    simp only [List.length_cons] at h
    have hl : (addS ds x).length ≤ ds.length + 1 := by unfold addS; split <;> simp
    obtain ⟨c7', e⟩ := rf_2 cf c0 c1 c2 c5 c6 l0 xs (some (.str x)) (addS ds x) (by omega)
    refine ⟨c7', ?_⟩
    have e1 := rf_1 cf c0 c1 c2 c5 c6 x ds (by omega)
    simp only [List.map_cons, forL, keep_tup, bindT, setAll, List.set_cons_zero, List.set_cons_succ, e1, R.bind_ok]
    exact e
theorem item_ref (st : Store) (a : Nat) (ds : List Str) (h : st[a]? = some (.lst (ds.map Val.str))) (k : Nat) (hk : k < ds.length) : itemV st (.ref a) (.int (k : Int)) = some (.str ds[k]) := by
  have hix : ixAt (ds.map Val.str).length (k : Int) = some k := by
    unfold ixAt
    rw [List.length_map, if_pos (by omega), if_pos (by omega)]
    simp
  simp only [itemV, isDict, h, seqOf, hix, Option.bind_some, List.getElem?_map, List.getElem?_eq_getElem hk, Option.map_some]
theorem item_lsS (st : Store) (ds : List Str) (k : Nat) (hk : k < ds.length) : itemV st (.ls (ds.map Val.str)) (.int (k : Int)) = some (.str ds[k]) := by
  have hix : ixAt (ds.map Val.str).length (k : Int) = some k := by
    unfold ixAt
    rw [List.length_map, if_pos (by omega), if_pos (by omega)]
    simp
  simp only [itemV, isDict, seqOf, hix, Option.bind_some, List.getElem?_map, List.getElem?_eq_getElem hk, Option.map_some]
theorem aug1 (p : Int) : augV .add (.int p) (.int 1) = some (.int (p + 1)) := rfl
/-- the names behind a look at one of them -/
def stepN (N : Net) (x : Str) (ds : List Str) : List Str := match N.cells.find? fun c => decide (c.nm = x) with
  | some c => addAll ds c.ns
  | none => ds
theorem find_mem {cs : List Cell} {x : Str} {c : Cell} (h : (cs.find? fun c => decide (c.nm = x)) = some c) : c ∈ cs ∧ c.nm = x := ⟨List.mem_of_find?_eq_some h, by have := List.find?_some h; simpa using this⟩
theorem rf_3 (N : Net) (hN : NetOk N) (n : Nat) (c1 c6 c7 : Option Val) (at_ : Nat) (ds : List Str) (hl : ds.length < 400) (ha : at_ < ds.length) :
    ∃ c7', exSs (callN prog (n + 1)) b_reached_from_4 [some N.val, c1, some (.dc (N.cells.map kvC)), some (.ref 0), some (.ref 1), some (.int (at_ : Int)), c6, c7] [.dK (ds.map kvT), .lst (ds.map Val.str)]
      = .ok (.nx, [some N.val, c1, some (.dc (N.cells.map kvC)), some (.ref 0), some (.ref 1), some (.int ((at_ + 1 : Nat) : Int)), c6, c7']) [.dK ((stepN N ds[at_] ds).map kvT), .lst ((stepN N ds[at_] ds).map Val.str)] := by
  have h1 := item_ref [.dK (ds.map kvT), .lst (ds.map Val.str)] 1 ds rfl at_ ha
  have h2 := in_dC [.dK (ds.map kvT), .lst (ds.map Val.str)] N.cells ds[at_]
  have h3 : ((at_ + 1 : Nat) : Int) = (at_ : Int) + 1 := by omega
  rw [h3]
  cases hf : N.cells.find? fun c => decide (c.nm = ds[at_]) with
  | none =>
    have e : stepN N ds[at_] ds = ds := by unfold stepN; rw [hf]
    rw [hf] at h2
    rw [e]
    refine ⟨c7, ?_⟩
    refine (nx_ (env' := [some N.val, c1, some (.dc (N.cells.map kvC)), some (.ref 0), some (.ref 1), some (.int (at_ : Int)), c6, c7]) (st' := [.dK (ds.map kvT), .lst (ds.map Val.str)]) (by simp only [runF, exSs, exS, evE, evEs, R.bind_ok, R.bind_bad, R.bind_exc, ofO_some, ofO_none, bindT, setAll, List.length_cons, List.length_nil, List.map_cons, List.map_nil, List.getElem?_cons_zero, List.getElem?_cons_succ, List.cons_append, List.nil_append, List.set_cons_zero, List.set_cons_succ, Nat.zero_add, Nat.add_zero, Nat.le_refl, and_self, if_true, true_and, and_true, List.replicate_succ, List.replicate_zero, Nat.sub_self, Nat.reduceSub, Nat.reduceAdd, Nat.reduceLeDiff, Nat.reduceEqDiff, Nat.zero_le, small, tru_bl, isNon, Bool.not_true, Bool.not_false, h1, h2, Option.isSome_none])).trans ?_
    simp only [runF, exSs, exS, evE, evEs, R.bind_ok, R.bind_bad, R.bind_exc, ofO_some, ofO_none, bindT, setAll, List.length_cons, List.length_nil, List.map_cons, List.map_nil, List.getElem?_cons_zero, List.getElem?_cons_succ, List.cons_append, List.nil_append, List.set_cons_zero, List.set_cons_succ, Nat.zero_add, Nat.add_zero, Nat.le_refl, and_self, if_true, true_and, and_true, List.replicate_succ, List.replicate_zero, Nat.sub_self, Nat.reduceSub, Nat.reduceAdd, Nat.reduceLeDiff, Nat.reduceEqDiff, Nat.zero_le, small, tru_bl, isNon, Bool.not_true, Bool.not_false, aug1]
  | some c =>
    have e : stepN N ds[at_] ds = addAll ds c.ns := by unfold stepN; rw [hf]
    obtain ⟨hc, hnm⟩ := find_mem hf
    rw [hf] at h2
    rw [e]
    have h4 : itemV [.dK (ds.map kvT), .lst (ds.map Val.str)] (.dc (N.cells.map kvC)) (.str ds[at_]) = some c.fm := by
      rw [item_C, hf]
      rfl
    have h5 := v_names_in (hN.fok c hc) n [.dK (ds.map kvT), .lst (ds.map Val.str)]
    obtain ⟨c7', h6⟩ := rf_2 (callN prog (n + 1)) (some N.val) c1 (some (.dc (N.cells.map kvC))) (some (.int (at_ : Int))) c6 (c.ns.map Val.str) c.ns c7 ds (by have := (hN.fok c hc).short; omega)
    refine ⟨c7', ?_⟩
    refine (nx_ (env' := [some N.val, c1, some (.dc (N.cells.map kvC)), some (.ref 0), some (.ref 1), some (.int (at_ : Int)), c6, c7']) (st' := [.dK ((addAll ds c.ns).map kvT), .lst ((addAll ds c.ns).map Val.str)]) (by simp only [runF, exSs, exS, evE, evEs, R.bind_ok, R.bind_bad, R.bind_exc, ofO_some, ofO_none, bindT, setAll, List.length_cons, List.length_nil, List.map_cons, List.map_nil, List.getElem?_cons_zero, List.getElem?_cons_succ, List.cons_append, List.nil_append, List.set_cons_zero, List.set_cons_succ, Nat.zero_add, Nat.add_zero, Nat.le_refl, and_self, if_true, true_and, and_true, List.replicate_succ, List.replicate_zero, Nat.sub_self, Nat.reduceSub, Nat.reduceAdd, Nat.reduceLeDiff, Nat.reduceEqDiff, Nat.zero_le, small, tru_bl, isNon, Bool.not_true, Bool.not_false, h1, h2, Option.isSome_some, h4, h5, walk_tup, h6])).trans ?_
    simp only [runF, exSs, exS, evE, evEs, R.bind_ok, R.bind_bad, R.bind_exc, ofO_some, ofO_none, bindT, setAll, List.length_cons, List.length_nil, List.map_cons, List.map_nil, List.getElem?_cons_zero, List.getElem?_cons_succ, List.cons_append, List.nil_append, List.set_cons_zero, List.set_cons_succ, Nat.zero_add, Nat.add_zero, Nat.le_refl, and_self, if_true, true_and, and_true, List.replicate_succ, List.replicate_zero, Nat.sub_self, Nat.reduceSub, Nat.reduceAdd, Nat.reduceLeDiff, Nat.reduceEqDiff, Nat.zero_le, small, tru_bl, isNon, Bool.not_true, Bool.not_false, aug1]
theorem stepN_in (N : Net) (x : Str) (ds U : List Str) (hU : Closed N U) (hx : x ∈ U) (h : ∀ y ∈ ds, y ∈ U) : ∀ y ∈ stepN N x ds, y ∈ U := by
  unfold stepN
  cases hf : N.cells.find? fun c => decide (c.nm = x) with
  | none => exact h
  | some c =>
    obtain ⟨hc, hnm⟩ := find_mem hf
    intro y hy
    rcases (mem_addAll _ _ _).mp hy with hy | hy
    · exact h y hy
    · exact hU c hc (hnm ▸ hx) y hy
theorem stepN_pot (N : Net) (hN : NetOk N) (x : Str) (ds : List Str) : pot N.univ (stepN N x ds) ≤ pot N.univ ds := by
  unfold stepN
  cases hf : N.cells.find? fun c => decide (c.nm = x) with
  | none => exact Nat.le_refl _
  | some c => exact pot_addAll _ _ _ fun y hy => List.mem_append.mpr (hN.cl c (find_mem hf).1 y hy)
theorem stepN_len (N : Net) (x : Str) (ds : List Str) : ds.length ≤ (stepN N x ds).length := by
  unfold stepN
  cases hf : N.cells.find? fun c => decide (c.nm = x) with
  | none => exact Nat.le_refl _
  | some c => exact addAll_len _ _
theorem rf_4 (N : Net) (hN : NetOk N) (n : Nat) (U : List Str) (hU : Closed N U) (c1 c6 : Option Val) : ∀ (k fuel at_ : Nat) (ds : List Str) (c7 : Option Val), at_ + k = 50 → k < fuel → pot N.univ ds ≤ 40 → at_ ≤ ds.length → (∀ y ∈ ds, y ∈ U) →
    ∃ (env' : Env) (ds' : List Str), whlL (evE (callN prog (n + 1)) (.cmp .lt (.var 5) (.b1 .len (.var 4)))) (exSs (callN prog (n + 1)) b_reached_from_4) fuel [some N.val, c1, some (.dc (N.cells.map kvC)), some (.ref 0), some (.ref 1), some (.int (at_ : Int)), c6, c7] [.dK (ds.map kvT), .lst (ds.map Val.str)]
      = .ok (.nx, env') [.dK (ds'.map kvT), .lst (ds'.map Val.str)] ∧ env'[3]? = some (some (.ref 0)) ∧ (∀ y ∈ ds', y ∈ U) ∧ ds'.length ≤ 40 := by
  intro k
  induction k with
  | zero =>
    intro fuel at_ ds c7 h1 h2 h3 h4 h5
    unfold pot at h3
    omega
  | succ k ih =>
    intro fuel at_ ds c7 h1 h2 h3 h4 h5
    obtain ⟨f, rfl⟩ : ∃ f, fuel = f + 1 := ⟨fuel - 1, by omega⟩
    have hlen : ds.length ≤ 40 := by unfold pot at h3; omega
    have hb : b1V [.dK (ds.map kvT), .lst (ds.map Val.str)] .len (.ref 1) = some (.int (ds.length : Int)) := by rw [len_ref (xs := ds.map Val.str) rfl, List.length_map]
    by_cases hlt : at_ < ds.length
    · obtain ⟨c7', e⟩ := rf_3 N hN n c1 c6 c7 at_ ds (by omega) hlt
      have hlt' : (at_ : Int) < (ds.length : Int) := by omega
      obtain ⟨env', ds', e1, e2, e3, e4⟩ := ih f (at_ + 1) (stepN N ds[at_] ds) c7' (by omega) (by omega) (Nat.le_trans (stepN_pot N hN _ _) h3) (by have := stepN_len N ds[at_] ds; omega) (stepN_in N _ ds U hU (h5 _ (List.getElem_mem hlt)) h5)
      refine ⟨env', ds', ?_, e2, e3, e4⟩
      simp only [whlL, evE, List.getElem?_cons_succ, List.getElem?_cons_zero, R.bind_ok, hb, ofO_some, lt_int, decide_eq_true hlt', tru_bl, e]
      exact e1
    · have hlt' : ¬ (at_ : Int) < (ds.length : Int) := by omega
      refine ⟨[some N.val, c1, some (.dc (N.cells.map kvC)), some (.ref 0), some (.ref 1), some (.int (at_ : Int)), c6, c7], ds, ?_, rfl, h5, hlen⟩
      simp only [whlL, evE, List.getElem?_cons_succ, List.getElem?_cons_zero, R.bind_ok, hb, ofO_some, lt_int, decide_eq_false hlt', tru_bl]
theorem thaw_T (st : Store) : ∀ (ds : List Str) (fuel : Nat), ds.length < fuel → thawKV fuel st 0 (ds.map kvT) = some (ds.map kvT)
  | [], 0, h => by cases h
  | [], k + 1, _ => rfl
  | _ :: _, 0, h => by cases h
  | _ :: _, 1, h => by simp at h
  | i :: r, k + 2, h => by
    have e1 : thaw (k + 1) st 0 (.bl true) = some (.bl true) := rfl
    have e2 := thaw_T st r (k + 1) (by simp at h; omega)
    show (match thaw (k + 1) st 0 (.bl true), thawKV (k + 1) st 0 (r.map kvT) with
      | some y, some ys => some ((Sum.inr i, y) :: ys)
      | _, _ => none) = _
    rw [e1, e2]
    rfl
theorem v_reached (N : Net) (hN : NetOk N) (n : Nat) (ns U : List Str) (hU : Closed N U) (hn : ∀ x ∈ ns, x ∈ U) (hu : ∀ x ∈ ns, x ∈ N.univ) (h2 : ns.length ≤ 2) (st : Store) :
    ∃ ds' : List Str, callV (callN prog (n + 2)) "reached_from" [N.val, .tup (ns.map Val.str)] st = .ok (.dc (ds'.map kvT)) st ∧ ∀ y ∈ ds', y ∈ U := by
  have hall := hN.all
  have hd : (Val.tup (ns.map Val.str)).da = true := by simp only [Val.da, da_strs]
  have hp0 : pot N.univ ([] : List Str) ≤ 40 := by
    unfold pot
    have := List.length_filter_le (fun x => !decide (x ∈ ([] : List Str))) N.univ
    have e : N.univ.length = N.ins.length + N.cells.length := by simp [Net.univ, Net.nms]
    rw [List.length_nil]
    omega
  obtain ⟨env', ds', e1, e2, e3, e4⟩ := rf_4 N hN n U hU (some (.tup (ns.map Val.str))) none 50 turns 0 (addAll [] ns) none (by omega) (by have : turns = 100000 := rfl; omega) (Nat.le_trans (pot_addAll _ _ _ hu) hp0) (Nat.zero_le _) (fun y hy => by
    rcases (mem_addAll _ _ _).mp hy with hy | hy
    · simp at hy
    · exact hn y hy)
  refine ⟨ds', ?_, e3⟩
  have ft := v_form_table N hN n []
  have dT := dc_T (cf := callN prog (n + 1)) (keep := keepW .of [.tup (ns.map Val.str)] (ns.map Val.str)) (env := [some N.val, some (.tup (ns.map Val.str)), some (.dc (N.cells.map kvC)), none, none, none, none, none]) (st := []) (f := e_reached_from_1) (g := e_reached_from_2) (keep_tup _ _ _ _) 6 (fun a => ⟨rfl, rfl⟩) ns [] (by simp; omega)
  simp only [List.map_nil] at dT
  have hlist : b1V [.dK ((addAll [] ns).map kvT)] .list (.ref 0) = some (.ls ((addAll [] ns).map Val.str)) := by
    simp only [b1V, List.getElem?_cons_zero, List.map_map]
    rfl
  have hc : callN prog (n + 2) "reached_from" [N.val, .tup (ns.map Val.str)] [] = .ok (.ref 0) [.dK (ds'.map kvT), .lst (ds'.map Val.str)] := by
    rw [callN_at lk_reached]
    refine run_ (env' := env') ⟨rfl, by decide⟩ [some N.val, some (.tup (ns.map Val.str)), none, none, none, none, none, none] rfl ?_
    refine (nx_ (env' := [some N.val, some (.tup (ns.map Val.str)), some (.dc (N.cells.map kvC)), none, none, none, none, none]) (st' := []) (by simp only [runF, exSs, exS, evE, evEs, R.bind_ok, R.bind_bad, R.bind_exc, ofO_some, ofO_none, bindT, setAll, List.length_cons, List.length_nil, List.map_cons, List.map_nil, List.getElem?_cons_zero, List.getElem?_cons_succ, List.cons_append, List.nil_append, List.set_cons_zero, List.set_cons_succ, Nat.zero_add, Nat.add_zero, Nat.le_refl, and_self, if_true, true_and, and_true, List.replicate_succ, List.replicate_zero, Nat.sub_self, Nat.reduceSub, Nat.reduceAdd, Nat.reduceLeDiff, Nat.reduceEqDiff, Nat.zero_le, small, tru_bl, isNon, Bool.not_true, Bool.not_false, ft])).trans ?_
    refine (nx_ (env' := [some N.val, some (.tup (ns.map Val.str)), some (.dc (N.cells.map kvC)), some (.ref 0), none, none, none, none]) (st' := [.dK ((addAll [] ns).map kvT)]) (by simp only [runF, exSs, exS, evE, evEs, R.bind_ok, R.bind_bad, R.bind_exc, ofO_some, ofO_none, bindT, setAll, List.length_cons, List.length_nil, List.map_cons, List.map_nil, List.getElem?_cons_zero, List.getElem?_cons_succ, List.cons_append, List.nil_append, List.set_cons_zero, List.set_cons_succ, Nat.zero_add, Nat.add_zero, Nat.le_refl, and_self, if_true, true_and, and_true, List.replicate_succ, List.replicate_zero, Nat.sub_self, Nat.reduceSub, Nat.reduceAdd, Nat.reduceLeDiff, Nat.reduceEqDiff, Nat.zero_le, small, tru_bl, isNon, Bool.not_true, Bool.not_false, walk_tup, dT, ownV])).trans ?_
    refine (nx_ (env' := [some N.val, some (.tup (ns.map Val.str)), some (.dc (N.cells.map kvC)), some (.ref 0), some (.ref 1), none, none, none]) (st' := [.dK ((addAll [] ns).map kvT), .lst ((addAll [] ns).map Val.str)]) (by simp only [runF, exSs, exS, evE, evEs, R.bind_ok, R.bind_bad, R.bind_exc, ofO_some, ofO_none, bindT, setAll, List.length_cons, List.length_nil, List.map_cons, List.map_nil, List.getElem?_cons_zero, List.getElem?_cons_succ, List.cons_append, List.nil_append, List.set_cons_zero, List.set_cons_succ, Nat.zero_add, Nat.add_zero, Nat.le_refl, and_self, if_true, true_and, and_true, List.replicate_succ, List.replicate_zero, Nat.sub_self, Nat.reduceSub, Nat.reduceAdd, Nat.reduceLeDiff, Nat.reduceEqDiff, Nat.zero_le, small, tru_bl, isNon, Bool.not_true, Bool.not_false, hlist, ownV])).trans ?_
    refine (nx_ (env' := [some N.val, some (.tup (ns.map Val.str)), some (.dc (N.cells.map kvC)), some (.ref 0), some (.ref 1), some (.int ((0 : Nat) : Int)), none, none]) (st' := [.dK ((addAll [] ns).map kvT), .lst ((addAll [] ns).map Val.str)]) (by simp only [runF, exSs, exS, evE, evEs, R.bind_ok, R.bind_bad, R.bind_exc, ofO_some, ofO_none, bindT, setAll, List.length_cons, List.length_nil, List.map_cons, List.map_nil, List.getElem?_cons_zero, List.getElem?_cons_succ, List.cons_append, List.nil_append, List.set_cons_zero, List.set_cons_succ, Nat.zero_add, Nat.add_zero, Nat.le_refl, and_self, if_true, true_and, and_true, List.replicate_succ, List.replicate_zero, Nat.sub_self, Nat.reduceSub, Nat.reduceAdd, Nat.reduceLeDiff, Nat.reduceEqDiff, Nat.zero_le, small, tru_bl, isNon, Bool.not_true, Bool.not_false]; rfl)).trans ?_
    refine (nx_ (env' := env') (st' := [.dK (ds'.map kvT), .lst (ds'.map Val.str)]) (by rw [exS]; exact e1)).trans ?_
    exact rt_ (by simp only [runF, exSs, exS, evE, evEs, R.bind_ok, R.bind_bad, R.bind_exc, ofO_some, ofO_none, bindT, setAll, List.length_cons, List.length_nil, List.map_cons, List.map_nil, List.getElem?_cons_zero, List.getElem?_cons_succ, List.cons_append, List.nil_append, List.set_cons_zero, List.set_cons_succ, Nat.zero_add, Nat.add_zero, Nat.le_refl, and_self, if_true, true_and, and_true, List.replicate_succ, List.replicate_zero, Nat.sub_self, Nat.reduceSub, Nat.reduceAdd, Nat.reduceLeDiff, Nat.reduceEqDiff, Nat.zero_le, small, tru_bl, isNon, Bool.not_true, Bool.not_false, e2])
  have hne : ¬ [Obj.dK (ds'.map kvT), .lst (ds'.map Val.str)].length = 0 := by simp
  have ht : thaw 100000 [.dK (ds'.map kvT), .lst (ds'.map Val.str)] 0 (.ref 0) = some (.dc (ds'.map kvT)) := by
    show (thawKV 99999 [.dK (ds'.map kvT), .lst (ds'.map Val.str)] 0 (ds'.map kvT)).map Val.dc = _
    rw [thaw_T _ ds' 99999 (by omega)]
    rfl
  have hu2 : allUnder 0 [.dK (ds'.map kvT), .lst (ds'.map Val.str)] = true := rfl
  simp only [callV, pure2 hN.da hd, hc, leave, if_neg hne, hu2, Nat.zero_le, decide_true, Bool.and_self, if_true, ht]
end PV
end

section
set_option Elab.async false
set_option linter.all false
set_option maxRecDepth 100000
set_option maxHeartbeats 1000000
namespace PV
open PySem L2
/-! ### the law's own look at what names hang on -/
theorem pairs_C (st : Store) : ∀ cs : List Cell, pairsKV st (cs.map cellV) = some (cs.map kvC)
  | [] => rfl
  | c :: cs => by
    simp only [List.map_cons, cellV, pairsKV, keyOf, pairs_C st cs]
    rfl
theorem putAll_C : ∀ (cs as_ : List Cell), ((as_ ++ cs).map (·.nm)).Nodup → putAll (as_.map kvC) (cs.map kvC) = (as_ ++ cs).map kvC
  | [], as_, _ => by simp [putAll]
  | c :: cs, as_, hn => by
    have hne : ∀ d ∈ as_, d.nm ≠ c.nm := by
      rw [List.map_append, List.nodup_append] at hn
      intro d hd
      exact hn.2.2 _ (List.mem_map_of_mem hd) _ (by simp)
    have ih := putAll_C cs (as_ ++ [c]) (by simpa using hn)
    have e : put (as_.map kvC) (kvC c).1 (kvC c).2 = (as_ ++ [c]).map kvC := by
      show put (as_.map kvC) (.inr c.nm : Key) c.fm = _
      rw [put_C as_ c.nm c.fm hne, List.map_append]
      rfl
    unfold putAll at ih ⊢
    rw [List.map_cons, List.foldl_cons, e, ih]
    simp
theorem dict_C (st : Store) (N : Net) (hN : NetOk N) : b1V st .dict (.tup (N.cells.map cellV)) = some (.dc (N.cells.map kvC)) := by
  have := putAll_C N.cells [] hN.nodup
  simp only [List.map_nil, List.nil_append] at this
  simp only [b1V, pairs_C, Option.map_some, this]
def newN (ds xs : List Str) : List Str := xs.filter fun x => !decide (x ∈ ds)
/-- the names behind a look at one of them -/
def stepU (N : Net) (x : Str) (ds : List Str) : List Str := match N.cells.find? fun c => decide (c.nm = x) with
  | some c => ds ++ newN ds c.ns
  | none => ds
theorem op_catS (st : Store) (a b : List Str) (h : a.length + b.length ≤ 1000) : opS st .add (.ls (a.map Val.str)) (.ls (b.map Val.str)) = some (.ls ((a ++ b).map Val.str)) := by
  have : a.length + b.length ≤ 100000 := by omega
  simp only [opS, lstOf, List.length_map, if_pos this, List.map_append]
theorem newN_len (ds xs : List Str) : (newN ds xs).length ≤ xs.length := List.length_filter_le _ _
theorem un_1 (N : Net) (hN : NetOk N) (n : Nat) (c1 c5 c6 : Option Val) (s : Nat) (ds : List Str) (hl : ds.length < 400) (hs : ∀ t ∈ ds, Sok t) (hlt : s < ds.length) :
    exSs (callN prog (n + 1)) b__law_under_3 [some N.val, c1, some (.dc (N.cells.map kvC)), some (.ls (ds.map Val.str)), some (.int (s : Int)), c5, c6] []
      = .ok (.nx, [some N.val, c1, some (.dc (N.cells.map kvC)), some (.ls ((stepU N ds[s] ds).map Val.str)), some (.int (s : Int)), c5, c6]) [] := by
  have h1 := item_lsS [] ds s hlt
  have h2 := in_dC [] N.cells ds[s]
  have hb : b1V [] .len (.ls (ds.map Val.str)) = some (.int (ds.length : Int)) := by rw [len_lsv, List.length_map]
  have hge : ¬ (ds.length : Int) ≤ (s : Int) := by omega
  refine (nx_ (env' := [some N.val, c1, some (.dc (N.cells.map kvC)), some (.ls (ds.map Val.str)), some (.int (s : Int)), c5, c6]) (st' := []) (by simp only [runF, exSs, exS, evE, evEs, R.bind_ok, R.bind_bad, R.bind_exc, ofO_some, ofO_none, bindT, setAll, List.length_cons, List.length_nil, List.map_cons, List.map_nil, List.getElem?_cons_zero, List.getElem?_cons_succ, List.cons_append, List.nil_append, List.set_cons_zero, List.set_cons_succ, Nat.zero_add, Nat.add_zero, Nat.le_refl, and_self, if_true, true_and, and_true, List.replicate_succ, List.replicate_zero, Nat.sub_self, Nat.reduceSub, Nat.reduceAdd, Nat.reduceLeDiff, Nat.reduceEqDiff, Nat.zero_le, small, tru_bl, isNon, Bool.not_true, Bool.not_false, hb, ge_int, decide_eq_false hge])).trans ?_
  cases hf : N.cells.find? fun c => decide (c.nm = ds[s]) with
  | none =>
    have e : stepU N ds[s] ds = ds := by unfold stepU; rw [hf]
    rw [hf] at h2
    rw [e]
    simp only [runF, exSs, exS, evE, evEs, R.bind_ok, R.bind_bad, R.bind_exc, ofO_some, ofO_none, bindT, setAll, List.length_cons, List.length_nil, List.map_cons, List.map_nil, List.getElem?_cons_zero, List.getElem?_cons_succ, List.cons_append, List.nil_append, List.set_cons_zero, List.set_cons_succ, Nat.zero_add, Nat.add_zero, Nat.le_refl, and_self, if_true, true_and, and_true, List.replicate_succ, List.replicate_zero, Nat.sub_self, Nat.reduceSub, Nat.reduceAdd, Nat.reduceLeDiff, Nat.reduceEqDiff, Nat.zero_le, small, tru_bl, isNon, Bool.not_true, Bool.not_false, h1, h2, Option.isSome_none]
  | some c =>
    have e : stepU N ds[s] ds = ds ++ newN ds c.ns := by unfold stepU; rw [hf]
    obtain ⟨hc, hnm⟩ := find_mem hf
    rw [hf] at h2
    rw [e]
    have h4 : itemV [] (.dc (N.cells.map kvC)) (.str ds[s]) = some c.fm := by
      rw [item_C, hf]
      rfl
    have h5 := v_lnames_in (hN.fok c hc) n []
    have hsh := (hN.fok c hc).short
    have key := lc_filter (f := evE (callN prog (n + 1)) e__law_under_1) (t := evE (callN prog (n + 1)) e__law_under_2) (tg := .nm 6) (env := [some N.val, c1, some (.dc (N.cells.map kvC)), some (.ls (ds.map Val.str)), some (.int (s : Int)), c5, c6])
      (keep := keepW .of [.tup (c.ns.map Val.str)] (c.ns.map Val.str)) (st := []) Val.str Val.str (fun x => !decide (x ∈ ds)) (keep_tup _ _ _ _) c.ns [] (fun x hx => by
        have hq : cmpV [] .notin (.str x) (.ls (ds.map Val.str)) = some (!decide (x ∈ ds)) := notin_of (in_ls [] ((hN.fok c hc).names x hx).sok hs)
        exact ⟨_, rfl, by simp only [e__law_under_2, runF, exSs, exS, evE, evEs, R.bind_ok, R.bind_bad, R.bind_exc, ofO_some, ofO_none, bindT, setAll, List.length_cons, List.length_nil, List.map_cons, List.map_nil, List.getElem?_cons_zero, List.getElem?_cons_succ, List.cons_append, List.nil_append, List.set_cons_zero, List.set_cons_succ, Nat.zero_add, Nat.add_zero, Nat.le_refl, and_self, if_true, true_and, and_true, List.replicate_succ, List.replicate_zero, Nat.sub_self, Nat.reduceSub, Nat.reduceAdd, Nat.reduceLeDiff, Nat.reduceEqDiff, Nat.zero_le, small, tru_bl, isNon, Bool.not_true, Bool.not_false, hq], fun _ => by simp only [e__law_under_1, runF, exSs, exS, evE, evEs, R.bind_ok, R.bind_bad, R.bind_exc, ofO_some, ofO_none, bindT, setAll, List.length_cons, List.length_nil, List.map_cons, List.map_nil, List.getElem?_cons_zero, List.getElem?_cons_succ, List.cons_append, List.nil_append, List.set_cons_zero, List.set_cons_succ, Nat.zero_add, Nat.add_zero, Nat.le_refl, and_self, if_true, true_and, and_true, List.replicate_succ, List.replicate_zero, Nat.sub_self, Nat.reduceSub, Nat.reduceAdd, Nat.reduceLeDiff, Nat.reduceEqDiff, Nat.zero_le, small, tru_bl, isNon, Bool.not_true, Bool.not_false]⟩) (by simp; omega)
    rw [List.nil_append] at key
    have hcat := op_catS [] ds (newN ds c.ns) (by have := newN_len ds c.ns; omega)
    unfold newN at hcat ⊢
    simp only [runF, exSs, exS, evE, evEs, R.bind_ok, R.bind_bad, R.bind_exc, ofO_some, ofO_none, bindT, setAll, List.length_cons, List.length_nil, List.map_cons, List.map_nil, List.getElem?_cons_zero, List.getElem?_cons_succ, List.cons_append, List.nil_append, List.set_cons_zero, List.set_cons_succ, Nat.zero_add, Nat.add_zero, Nat.le_refl, and_self, if_true, true_and, and_true, List.replicate_succ, List.replicate_zero, Nat.sub_self, Nat.reduceSub, Nat.reduceAdd, Nat.reduceLeDiff, Nat.reduceEqDiff, Nat.zero_le, small, tru_bl, isNon, Bool.not_true, Bool.not_false, h1, h2, Option.isSome_some, h4, h5, walk_tup, key, hcat]
theorem un_0 (N : Net) (n : Nat) (c1 c5 c6 : Option Val) (s : Nat) (ds : List Str) (hge : ds.length ≤ s) :
    exSs (callN prog (n + 1)) b__law_under_3 [some N.val, c1, some (.dc (N.cells.map kvC)), some (.ls (ds.map Val.str)), some (.int (s : Int)), c5, c6] []
      = .ok (.br, [some N.val, c1, some (.dc (N.cells.map kvC)), some (.ls (ds.map Val.str)), some (.int (s : Int)), c5, c6]) [] := by
  have hb : b1V [] .len (.ls (ds.map Val.str)) = some (.int (ds.length : Int)) := by rw [len_lsv, List.length_map]
  have hge' : (ds.length : Int) ≤ (s : Int) := by omega
  simp only [b__law_under_3, runF, exSs, exS, evE, evEs, R.bind_ok, R.bind_bad, R.bind_exc, ofO_some, ofO_none, bindT, setAll, List.length_cons, List.length_nil, List.map_cons, List.map_nil, List.getElem?_cons_zero, List.getElem?_cons_succ, List.cons_append, List.nil_append, List.set_cons_zero, List.set_cons_succ, Nat.zero_add, Nat.add_zero, Nat.le_refl, and_self, if_true, true_and, and_true, List.replicate_succ, List.replicate_zero, Nat.sub_self, Nat.reduceSub, Nat.reduceAdd, Nat.reduceLeDiff, Nat.reduceEqDiff, Nat.zero_le, small, tru_bl, isNon, Bool.not_true, Bool.not_false, hb, ge_int, decide_eq_true hge']
theorem stepU_pot (N : Net) (hN : NetOk N) (x : Str) (ds : List Str) : pot N.univ (stepU N x ds) ≤ pot N.univ ds := by
  unfold stepU
  cases hf : N.cells.find? fun c => decide (c.nm = x) with
  | none => exact Nat.le_refl _
  | some c =>
    have hc := (find_mem hf).1
    refine pot_app _ _ _ (Nat.le_trans (newN_len _ _) (hN.fok c hc).short) (fun y hy => ?_) (fun y hy => ?_)
    · exact List.mem_append.mpr (hN.cl c hc y (List.mem_filter.mp hy).1)
    · have := (List.mem_filter.mp hy).2
      simpa using this
theorem stepU_pre (N : Net) (x : Str) (ds : List Str) : ∃ more, stepU N x ds = ds ++ more := by
  unfold stepU
  cases hf : N.cells.find? fun c => decide (c.nm = x) with
  | none => exact ⟨[], by simp⟩
  | some c => exact ⟨_, rfl⟩
theorem stepU_has (N : Net) (hN : NetOk N) (x : Str) (ds : List Str) (c : Cell) (hc : c ∈ N.cells) (hx : c.nm = x) : ∀ y ∈ c.ns, y ∈ stepU N x ds := by
  intro y hy
  subst hx
  unfold stepU
  rw [find_nm hN.nodup hc]
  show y ∈ ds ++ newN ds c.ns
  by_cases h : y ∈ ds
  · exact List.mem_append.mpr (.inl h)
  · exact List.mem_append.mpr (.inr (List.mem_filter.mpr ⟨hy, by simp [h]⟩))
theorem stepU_sok (N : Net) (hN : NetOk N) (x : Str) (ds : List Str) (h : ∀ t ∈ ds, Sok t) : ∀ t ∈ stepU N x ds, Sok t := by
  unfold stepU
  cases hf : N.cells.find? fun c => decide (c.nm = x) with
  | none => exact h
  | some c =>
    intro t ht
    rcases List.mem_append.mp ht with ht | ht
    · exact h t ht
    · exact ((hN.fok c (find_mem hf).1).names t (List.mem_filter.mp ht).1).sok
theorem un_2 (N : Net) (hN : NetOk N) (n : Nat) (c1 c5 c6 : Option Val) (kp : Store → Bool) (hk : kp [] = true) : ∀ (k s : Nat) (ds : List Str) (c4 : Option Val), s + k = 60 → pot N.univ ds ≤ 40 → s ≤ ds.length → (∀ t ∈ ds, Sok t) →
    (∀ (i : Nat) (h : i < ds.length), i < s → ∀ c ∈ N.cells, c.nm = ds[i] → ∀ y ∈ c.ns, y ∈ ds) →
    ∃ (c4' : Option Val) (ds' : List Str), forL (exSs (callN prog (n + 1)) b__law_under_3) (.nm 4) kp ((List.range' s k).map fun i : Nat => Val.int (i : Int)) [some N.val, c1, some (.dc (N.cells.map kvC)), some (.ls (ds.map Val.str)), c4, c5, c6] []
      = .ok (.nx, [some N.val, c1, some (.dc (N.cells.map kvC)), some (.ls (ds'.map Val.str)), c4', c5, c6]) [] ∧ Closed N ds' ∧ (∀ t ∈ ds', Sok t) ∧ ds'.length ≤ 40 ∧ (∀ y ∈ ds, y ∈ ds') := by
  intro k
  induction k with
  | zero =>
    intro s ds c4 h1 h2 h3 h4 h5
    unfold pot at h2
    omega
  | succ k ih =>
    intro s ds c4 h1 h2 h3 h4 h5
    have hlen : ds.length ≤ 40 := by unfold pot at h2; omega
    rw [List.range'_succ]
    by_cases hlt : s < ds.length
    · have e := un_1 N hN n c1 c5 c6 s ds (by omega) h4 hlt
      obtain ⟨more, hm⟩ := stepU_pre N ds[s] ds
      obtain ⟨c4', ds', e1, e2, e3, e4, e5⟩ := ih (s + 1) (stepU N ds[s] ds) (some (.int (s : Int))) (by omega) (Nat.le_trans (stepU_pot N hN _ _) h2) (by rw [hm, List.length_append]; omega) (stepU_sok N hN _ _ h4) (by
        intro i hi hs c hc hnm y hy
        by_cases hi2 : i < s
        · have hi3 : i < ds.length := by omega
          have e6 : (stepU N ds[s] ds)[i] = ds[i] := by
            have : (ds ++ more)[i]'(by rw [List.length_append]; omega) = ds[i] := List.getElem_append_left hi3
            simp only [hm, this]
          have := h5 i hi3 hi2 c hc (hnm.trans e6) y hy
          rw [hm]
          exact List.mem_append.mpr (.inl this)
        · have : i = s := by omega
          subst this
          have e6 : (stepU N ds[i] ds)[i] = ds[i] := by
            have : (ds ++ more)[i]'(by rw [List.length_append]; omega) = ds[i] := List.getElem_append_left hlt
            simp only [hm, this]
          exact stepU_has N hN ds[i] ds c hc (hnm.trans e6) y hy)
      refine ⟨c4', ds', ?_, e2, e3, e4, fun y hy => e5 y (by rw [hm]; exact List.mem_append.mpr (.inl hy))⟩
      simp only [List.map_cons, forL, hk, bindT, setAll, List.set_cons_zero, List.set_cons_succ, e, R.bind_ok]
      exact e1
    · have e := un_0 N n c1 c5 c6 s ds (by omega)
      refine ⟨some (.int (s : Int)), ds, ?_, ?_, h4, hlen, fun y hy => hy⟩
      · simp only [List.map_cons, forL, hk, bindT, setAll, List.set_cons_zero, List.set_cons_succ, e, R.bind_ok]
      · intro c hc hm y hy
        obtain ⟨i, hi, he⟩ := List.getElem_of_mem hm
        exact h5 i hi (by omega) c hc he.symm y hy
theorem cut_lo (st : Store) (ds : List Str) (k : Nat) (hk : k < ds.length) : cutV st (.ls (ds.map Val.str)) none (some (k : Int)) = some (.ls ((ds.take k).map Val.str)) := by
  have h1 : (0 : Int) ≤ (k : Int) := by omega
  have h2 : min ((k : Int).toNat) (ds.map Val.str).length = k := by rw [List.length_map, Int.toNat_natCast]; omega
  simp only [cutV, seqOf, Option.map_some, cut, clip, if_pos h1, h2, List.drop_zero, List.map_take]
theorem run_lunder (N : Net) (n : Nat) (a T F0 U Q : Val) (L1 L2 Rv : List Val) (c4 : Option Val) (hd : b1V [] .dict (.tup (N.cells.map cellV)) = some T) (hlist : b1V [] .list a = some F0) (hw : walkV [] .range [.int 60] = some L1)
    (e1 : forL (exSs (callN prog (n + 1)) b__law_under_3) (.nm 4) (keepW .range [.int 60] L1) L1 [some N.val, some a, some T, some F0, none, none, none] [] = .ok (.nx, [some N.val, some a, some T, some U, c4, none, none]) [])
    (hb : b1V [] .len U = some Q) (hw2 : walkV [] .range [Q] = some L2)
    (key : lcL (evE (callN prog (n + 1)) e__law_under_4) (some (evE (callN prog (n + 1)) e__law_under_5)) (.nm 5) (keepW .range [Q] L2) [some N.val, some a, some T, some U, c4, none, none] L2 [] [] = .ok Rv []) :
    callN prog (n + 2) "_law_under" [N.val, a] [] = .ok (.ls Rv) [] := by
  rw [callN_at lk_lunder]
  have n2 := net_2 N
  refine run_ (env' := [some N.val, some a, some T, some U, c4, none, none]) ⟨rfl, by decide⟩ [some N.val, some a, none, none, none, none, none] rfl ?_
  refine (nx_ (env' := [some N.val, some a, some T, none, none, none, none]) (st' := []) (by simp only [runF, exSs, exS, evE, evEs, R.bind_ok, R.bind_bad, R.bind_exc, ofO_some, ofO_none, bindT, setAll, List.length_cons, List.length_nil, List.map_cons, List.map_nil, List.getElem?_cons_zero, List.getElem?_cons_succ, List.cons_append, List.nil_append, List.set_cons_zero, List.set_cons_succ, Nat.zero_add, Nat.add_zero, Nat.le_refl, and_self, if_true, true_and, and_true, List.replicate_succ, List.replicate_zero, Nat.sub_self, Nat.reduceSub, Nat.reduceAdd, Nat.reduceLeDiff, Nat.reduceEqDiff, Nat.zero_le, small, tru_bl, isNon, Bool.not_true, Bool.not_false, n2, hd])).trans ?_
  refine (nx_ (env' := [some N.val, some a, some T, some F0, none, none, none]) (st' := []) (by simp only [runF, exSs, exS, evE, evEs, R.bind_ok, R.bind_bad, R.bind_exc, ofO_some, ofO_none, bindT, setAll, List.length_cons, List.length_nil, List.map_cons, List.map_nil, List.getElem?_cons_zero, List.getElem?_cons_succ, List.cons_append, List.nil_append, List.set_cons_zero, List.set_cons_succ, Nat.zero_add, Nat.add_zero, Nat.le_refl, and_self, if_true, true_and, and_true, List.replicate_succ, List.replicate_zero, Nat.sub_self, Nat.reduceSub, Nat.reduceAdd, Nat.reduceLeDiff, Nat.reduceEqDiff, Nat.zero_le, small, tru_bl, isNon, Bool.not_true, Bool.not_false, hlist])).trans ?_
  refine (nx_ (env' := [some N.val, some a, some T, some U, c4, none, none]) (st' := []) (by simp only [runF, exSs, exS, evE, evEs, R.bind_ok, R.bind_bad, R.bind_exc, ofO_some, ofO_none, bindT, setAll, List.length_cons, List.length_nil, List.map_cons, List.map_nil, List.getElem?_cons_zero, List.getElem?_cons_succ, List.cons_append, List.nil_append, List.set_cons_zero, List.set_cons_succ, Nat.zero_add, Nat.add_zero, Nat.le_refl, and_self, if_true, true_and, and_true, List.replicate_succ, List.replicate_zero, Nat.sub_self, Nat.reduceSub, Nat.reduceAdd, Nat.reduceLeDiff, Nat.reduceEqDiff, Nat.zero_le, small, tru_bl, isNon, Bool.not_true, Bool.not_false, hw, e1])).trans ?_
  exact rt_ (by simp only [runF, exSs, exS, evE, evEs, R.bind_ok, R.bind_bad, R.bind_exc, ofO_some, ofO_none, bindT, setAll, List.length_cons, List.length_nil, List.map_cons, List.map_nil, List.getElem?_cons_zero, List.getElem?_cons_succ, List.cons_append, List.nil_append, List.set_cons_zero, List.set_cons_succ, Nat.zero_add, Nat.add_zero, Nat.le_refl, and_self, if_true, true_and, and_true, List.replicate_succ, List.replicate_zero, Nat.sub_self, Nat.reduceSub, Nat.reduceAdd, Nat.reduceLeDiff, Nat.reduceEqDiff, Nat.zero_le, small, tru_bl, isNon, Bool.not_true, Bool.not_false, hb, hw2, key])
theorem v_lunder (N : Net) (hN : NetOk N) (n : Nat) (ns : List Str) (hu : ∀ x ∈ ns, x ∈ N.univ) (hs : ∀ x ∈ ns, Sok x) (h2 : ns.length ≤ 2) (st : Store) :
    ∃ U res : List Str, callV (callN prog (n + 2)) "_law_under" [N.val, .tup (ns.map Val.str)] st = .ok (.ls (res.map Val.str)) st ∧ Closed N U ∧ (∀ x ∈ ns, x ∈ U) ∧ (∀ x ∈ U, x ∈ res) ∧ (∀ x ∈ res, Sok x) := by
  have hall := hN.all
  have hd : (Val.tup (ns.map Val.str)).da = true := by simp only [Val.da, da_strs]
  have hp0 : pot N.univ ns ≤ 40 := by
    unfold pot
    have := List.length_filter_le (fun x => !decide (x ∈ ns)) N.univ
    have e : N.univ.length = N.ins.length + N.cells.length := by simp [Net.univ, Net.nms]
    omega
  obtain ⟨c4, U, e1, e2, e3, e4, e5⟩ := un_2 N hN n (some (.tup (ns.map Val.str))) none none (keepW .range [.int 60] (rangeV 60)) (keep_int _ _ _ _) 60 0 ns none (by omega) hp0 (Nat.zero_le _) hs (by intro i _ hi; omega)
  have e0 : rangeV 60 = (List.range' 0 60).map fun i : Nat => Val.int (i : Int) := by
    unfold rangeV
    rw [List.range_eq_range']
    rfl
  rw [← e0] at e1
  refine ⟨U, ((List.range U.length).filter fun k => !decide (U.getD k "" ∈ U.take k)).map fun k => U.getD k "", ?_, e2, fun x hx => e5 x hx, ?_, ?_⟩
  · refine callV_p (pure2 hN.da hd) ?_
    have hdict := dict_C [] N hN
    have hlist : b1V [] .list (.tup (ns.map Val.str)) = some (.ls (ns.map Val.str)) := rfl
    have hw : walkV [] .range [.int 60] = some (rangeV 60) := rfl
    have hb : b1V [] .len (.ls (U.map Val.str)) = some (.int (U.length : Int)) := by rw [len_lsv, List.length_map]
    have hgd : ∀ k, (hk : k < U.length) → U.getD k "" = U[k] := fun k hk => by simp [List.getD, List.getElem?_eq_getElem hk]
    have key := lc_filter (f := evE (callN prog (n + 1)) e__law_under_4) (t := evE (callN prog (n + 1)) e__law_under_5) (tg := .nm 5) (env := [some N.val, some (.tup (ns.map Val.str)), some (.dc (N.cells.map kvC)), some (.ls (U.map Val.str)), c4, none, none])
      (keep := keepW .range [.int (U.length : Int)] (rangeV (U.length : Int))) (st := []) (fun k : Nat => Val.int (k : Int)) (fun k => Val.str (U.getD k "")) (fun k => !decide (U.getD k "" ∈ U.take k)) (keep_int _ _ _ _) (List.range U.length) [] (fun k hk => by
        have hk2 := List.mem_range.mp hk
        have hi := item_lsS [] U k hk2
        have hcut := cut_lo [] U k hk2
        have hso : Sok U[k] := e3 _ (List.getElem_mem hk2)
        have hq : cmpV [] .notin (.str U[k]) (.ls ((U.take k).map Val.str)) = some (!decide (U[k] ∈ U.take k)) := notin_of (in_ls [] hso (fun t ht => e3 t (List.mem_of_mem_take ht)))
        rw [hgd k hk2]
        exact ⟨_, rfl, by simp only [e__law_under_5, runF, exSs, exS, evE, evEs, R.bind_ok, R.bind_bad, R.bind_exc, ofO_some, ofO_none, bindT, setAll, List.length_cons, List.length_nil, List.map_cons, List.map_nil, List.getElem?_cons_zero, List.getElem?_cons_succ, List.cons_append, List.nil_append, List.set_cons_zero, List.set_cons_succ, Nat.zero_add, Nat.add_zero, Nat.le_refl, and_self, if_true, true_and, and_true, List.replicate_succ, List.replicate_zero, Nat.sub_self, Nat.reduceSub, Nat.reduceAdd, Nat.reduceLeDiff, Nat.reduceEqDiff, Nat.zero_le, small, tru_bl, isNon, Bool.not_true, Bool.not_false, hi, optInt, hcut, hq], fun _ => by simp only [e__law_under_4, runF, exSs, exS, evE, evEs, R.bind_ok, R.bind_bad, R.bind_exc, ofO_some, ofO_none, bindT, setAll, List.length_cons, List.length_nil, List.map_cons, List.map_nil, List.getElem?_cons_zero, List.getElem?_cons_succ, List.cons_append, List.nil_append, List.set_cons_zero, List.set_cons_succ, Nat.zero_add, Nat.add_zero, Nat.le_refl, and_self, if_true, true_and, and_true, List.replicate_succ, List.replicate_zero, Nat.sub_self, Nat.reduceSub, Nat.reduceAdd, Nat.reduceLeDiff, Nat.reduceEqDiff, Nat.zero_le, small, tru_bl, isNon, Bool.not_true, Bool.not_false, hi]⟩) (by simp; omega)
    have e6 : rangeV (U.length : Int) = (List.range U.length).map fun k : Nat => Val.int (k : Int) := by unfold rangeV; rw [Int.toNat_natCast]
    rw [← e6, List.nil_append] at key
    have hw2 : walkV [] .range [.int (U.length : Int)] = some (rangeV (U.length : Int)) := walk_rg _ _ (by omega) (by omega)
    have := run_lunder N n _ _ _ _ _ _ _ _ c4 hdict hlist hw e1 hb hw2 key
    rw [this, List.map_map]
    rfl
  · have hgd : ∀ k, (hk : k < U.length) → U.getD k "" = U[k] := fun k hk => by simp [List.getD, List.getElem?_eq_getElem hk]
    have main : ∀ k, (hk : k < U.length) → U[k] ∈ ((List.range U.length).filter fun k => !decide (U.getD k "" ∈ U.take k)).map fun k => U.getD k "" := by
      intro k
      induction k using Nat.strongRecOn with
      | ind k ih =>
        intro hk
        by_cases h : U[k] ∈ U.take k
        · obtain ⟨j, hj, he⟩ := List.getElem_of_mem h
          have hj2 : j < k := by rw [List.length_take] at hj; omega
          rw [List.getElem_take] at he
          rw [← he]
          exact ih j hj2 (by omega)
        · refine List.mem_map.mpr ⟨k, List.mem_filter.mpr ⟨List.mem_range.mpr hk, ?_⟩, hgd k hk⟩
          rw [hgd k hk]
          simp [h]
    intro x hx
    obtain ⟨k, hk, rfl⟩ := List.getElem_of_mem hx
    exact main k hk
  · intro x hx
    obtain ⟨k, hk, rfl⟩ := List.mem_map.mp hx
    have hk2 := List.mem_range.mp (List.mem_filter.mp hk).1
    have : U.getD k "" = U[k] := by simp [List.getD, List.getElem?_eq_getElem hk2]
    rw [this]
    exact e3 _ (List.getElem_mem hk2)
end PV
end

section
set_option Elab.async false
set_option linter.all false
set_option maxRecDepth 100000
set_option maxHeartbeats 1000000
namespace PV
open PySem L2
theorem any_ff {α : Type} (st : Store) (l : List α) : b1V st .any (.ls (l.map fun _ => .bl false)) = some (.bl false) := by
  rw [any_bl st l fun _ => false]
  simp
/-! ### soundness -/
structure NetSnd (N : Net) : Prop where
  ord : N.cells.length ≤ (ordG N.cells N.cells.length N.ins []).length
  mat : ∀ c ∈ N.cells, c.kd = .mat → ∃ U, Closed N U ∧ (∀ x ∈ c.ns, x ∈ U) ∧ c.nm ∉ U
theorem lk_lsound : List.lookup ("_law_sound" : Str) prog = some d__law_sound.fn := rfl
theorem lk_is_sound : List.lookup ("is_sound" : Str) prog = some d_is_sound.fn := rfl
theorem NetOk.insok {N : Net} (h : NetOk N) : ∀ t ∈ N.ins, Sok t := fun t ht => (h.inm t ht).sok
theorem ns_univ {N : Net} (h : NetOk N) {c : Cell} (hc : c ∈ N.cells) : ∀ x ∈ c.ns, x ∈ N.univ := fun x hx => List.mem_append.mpr (h.cl c hc x hx)
theorem ns_sok {N : Net} (h : NetOk N) {c : Cell} (hc : c ∈ N.cells) : ∀ x ∈ c.ns, Sok x := fun x hx => ((h.fok c hc).names x hx).sok
theorem v_lsound (N : Net) (hN : NetOk N) (n : Nat) (st : Store) : ∃ b : Bool, callV (callN prog (n + 3)) "_law_sound" [N.val] st = .ok (.bl b) st ∧ (b = true → NetSnd N) := by
  have ho := v_lorder N hN n []
  have hl : b1V [] .len (.ls ((ordG N.cells N.cells.length N.ins []).map Val.str)) = some (.int ((ordG N.cells N.cells.length N.ins []).length : Int)) := by rw [len_lsv, List.length_map]
  have hl2 : b1V [] .len (.tup (N.cells.map cellV)) = some (.int (N.cells.length : Int)) := by rw [len_tup, List.length_map]
  have n2 := net_2 N
  have hall := hN.all
  have hcell : ∀ c : Cell, ∃ b : Bool, c ∈ N.cells → evE (callN prog (n + 2)) e__law_sound_1 [some N.val, some (.str c.nm), some c.fm] [] = .ok (.bl b) [] ∧ (b = false → c.kd = .mat → ∃ U, Closed N U ∧ (∀ x ∈ c.ns, x ∈ U) ∧ c.nm ∉ U) := by
    intro c
    by_cases hc : c ∈ N.cells
    · obtain ⟨wd, h1, h2, h3, h4⟩ := (hN.fok c hc).word
      have hq : cmpV [] .eq (.str wd) (.str "match") = some (decide (wd = "match")) := eq_str _ h4 (sok_c (by decide +kernel))
      by_cases hk : c.kd = .mat
      · obtain ⟨U, res, e1, e2, e3, e4, e5⟩ := v_lunder N hN n c.ns (ns_univ hN hc) (ns_sok hN hc) (hN.fok c hc).short []
        have e6 := v_lnames_in (hN.fok c hc) (n + 1) []
        have e7 : cmpV [] .isin (.str c.nm) (.ls (res.map Val.str)) = some (decide (c.nm ∈ res)) := in_ls [] (hN.cnm c hc).sok e5
        refine ⟨decide (c.nm ∈ res), fun _ => ⟨?_, fun hb _ => ⟨U, e2, e3, fun hm => ?_⟩⟩⟩
        · simp only [e__law_sound_1, runF, exSs, exS, evE, evEs, R.bind_ok, R.bind_bad, R.bind_exc, ofO_some, ofO_none, bindT, setAll, List.length_cons, List.length_nil, List.map_cons, List.map_nil, List.getElem?_cons_zero, List.getElem?_cons_succ, List.cons_append, List.nil_append, List.set_cons_zero, List.set_cons_succ, Nat.zero_add, Nat.add_zero, Nat.le_refl, and_self, if_true, true_and, and_true, List.replicate_succ, List.replicate_zero, Nat.sub_self, Nat.reduceSub, Nat.reduceAdd, Nat.reduceLeDiff, Nat.reduceEqDiff, Nat.zero_le, small, tru_bl, isNon, Bool.not_true, Bool.not_false, h1, hq, h3, decide_eq_true hk, e6, e1, e7]
        · exact absurd (e4 _ hm) (of_decide_eq_false hb)
      · refine ⟨false, fun _ => ⟨?_, fun _ h => absurd h hk⟩⟩
        simp only [e__law_sound_1, runF, exSs, exS, evE, evEs, R.bind_ok, R.bind_bad, R.bind_exc, ofO_some, ofO_none, bindT, setAll, List.length_cons, List.length_nil, List.map_cons, List.map_nil, List.getElem?_cons_zero, List.getElem?_cons_succ, List.cons_append, List.nil_append, List.set_cons_zero, List.set_cons_succ, Nat.zero_add, Nat.add_zero, Nat.le_refl, and_self, if_true, true_and, and_true, List.replicate_succ, List.replicate_zero, Nat.sub_self, Nat.reduceSub, Nat.reduceAdd, Nat.reduceLeDiff, Nat.reduceEqDiff, Nat.zero_le, small, tru_bl, isNon, Bool.not_true, Bool.not_false, h1, hq, h3, decide_eq_false hk]
    · exact ⟨false, fun h => absurd h hc⟩
  obtain ⟨g, hg⟩ := Classical.axiomOfChoice hcell
  have key := lc_map (f := evE (callN prog (n + 2)) e__law_sound_1) (tg := .tp [1, 2]) (env := [some N.val, none, none]) (keep := keepW .of [.tup (N.cells.map cellV)] (N.cells.map cellV)) (st := [])
    cellV (fun c => .bl (g c)) (keep_tup _ _ _ _) N.cells [] (fun c hc => ⟨_, rfl, (hg c hc).1⟩) (by simp; omega)
  by_cases hlt : ((ordG N.cells N.cells.length N.ins []).length : Int) < (N.cells.length : Int)
  · refine ⟨false, callV_p (pure1 hN.da) ?_, fun h => by cases h⟩
    rw [callN_at lk_lsound]
    refine run_ (env' := [some N.val, none, none]) ⟨rfl, by decide⟩ [some N.val, none, none] rfl ?_
    exact rt_ (by simp only [runF, exSs, exS, evE, evEs, R.bind_ok, R.bind_bad, R.bind_exc, ofO_some, ofO_none, bindT, setAll, List.length_cons, List.length_nil, List.map_cons, List.map_nil, List.getElem?_cons_zero, List.getElem?_cons_succ, List.cons_append, List.nil_append, List.set_cons_zero, List.set_cons_succ, Nat.zero_add, Nat.add_zero, Nat.le_refl, and_self, if_true, true_and, and_true, List.replicate_succ, List.replicate_zero, Nat.sub_self, Nat.reduceSub, Nat.reduceAdd, Nat.reduceLeDiff, Nat.reduceEqDiff, Nat.zero_le, small, tru_bl, isNon, Bool.not_true, Bool.not_false, ho, hl, n2, hl2, lt_int, decide_eq_true hlt])
  · refine ⟨!(N.cells.any g), callV_p (pure1 hN.da) ?_, fun h => ⟨by omega, fun c hc hk => ?_⟩⟩
    · rw [callN_at lk_lsound]
      refine run_ (env' := [some N.val, none, none]) ⟨rfl, by decide⟩ [some N.val, none, none] rfl ?_
      refine (nx_ (env' := [some N.val, none, none]) (st' := []) (by simp only [runF, exSs, exS, evE, evEs, R.bind_ok, R.bind_bad, R.bind_exc, ofO_some, ofO_none, bindT, setAll, List.length_cons, List.length_nil, List.map_cons, List.map_nil, List.getElem?_cons_zero, List.getElem?_cons_succ, List.cons_append, List.nil_append, List.set_cons_zero, List.set_cons_succ, Nat.zero_add, Nat.add_zero, Nat.le_refl, and_self, if_true, true_and, and_true, List.replicate_succ, List.replicate_zero, Nat.sub_self, Nat.reduceSub, Nat.reduceAdd, Nat.reduceLeDiff, Nat.reduceEqDiff, Nat.zero_le, small, tru_bl, isNon, Bool.not_true, Bool.not_false, ho, hl, n2, hl2, lt_int, decide_eq_false hlt])).trans ?_
      exact rt_ (by simp only [runF, exSs, exS, evE, evEs, R.bind_ok, R.bind_bad, R.bind_exc, ofO_some, ofO_none, bindT, setAll, List.length_cons, List.length_nil, List.map_cons, List.map_nil, List.getElem?_cons_zero, List.getElem?_cons_succ, List.cons_append, List.nil_append, List.set_cons_zero, List.set_cons_succ, Nat.zero_add, Nat.add_zero, Nat.le_refl, and_self, if_true, true_and, and_true, List.replicate_succ, List.replicate_zero, Nat.sub_self, Nat.reduceSub, Nat.reduceAdd, Nat.reduceLeDiff, Nat.reduceEqDiff, Nat.zero_le, small, tru_bl, isNon, Bool.not_true, Bool.not_false, n2, walk_tup, key, any_bl])
    · have hf : N.cells.any g = false := by simpa using h
      have := List.any_eq_false.mp hf c hc
      exact (hg c hc).2 (by simpa using this) hk
theorem is_sound_1 (N : Net) (hN : NetOk N) (hS : NetSnd N) (n : Nat) (c : Cell) (hc : c ∈ N.cells) : exSs (callN prog (n + 3)) b_is_sound_1 [some N.val, some (.str c.nm), some c.fm] [] = .ok (.nx, [some N.val, some (.str c.nm), some c.fm]) [] := by
  obtain ⟨wd, h1, h2, h3, h4⟩ := (hN.fok c hc).word
  have hq : cmpV [] .eq (.str wd) (.str "match") = some (decide (wd = "match")) := eq_str _ h4 (sok_c (by decide +kernel))
  by_cases hk : c.kd = .mat
  · obtain ⟨U, hU, h5, h6⟩ := hS.mat c hc hk
    obtain ⟨ds, e1, e2⟩ := v_reached N hN (n + 1) c.ns U hU h5 (ns_univ hN hc) (hN.fok c hc).short []
    have e6 := v_names_in (hN.fok c hc) (n + 2) []
    have e7 := in_cT [] ds c.nm
    have hnd : c.nm ∉ ds := fun h => h6 (e2 _ h)
    simp only [b_is_sound_1, runF, exSs, exS, evE, evEs, R.bind_ok, R.bind_bad, R.bind_exc, ofO_some, ofO_none, bindT, setAll, List.length_cons, List.length_nil, List.map_cons, List.map_nil, List.getElem?_cons_zero, List.getElem?_cons_succ, List.cons_append, List.nil_append, List.set_cons_zero, List.set_cons_succ, Nat.zero_add, Nat.add_zero, Nat.le_refl, and_self, if_true, true_and, and_true, List.replicate_succ, List.replicate_zero, Nat.sub_self, Nat.reduceSub, Nat.reduceAdd, Nat.reduceLeDiff, Nat.reduceEqDiff, Nat.zero_le, small, tru_bl, isNon, Bool.not_true, Bool.not_false, h1, hq, h3, decide_eq_true hk, e6, e1, e7, decide_eq_false hnd]
  · simp only [b_is_sound_1, runF, exSs, exS, evE, evEs, R.bind_ok, R.bind_bad, R.bind_exc, ofO_some, ofO_none, bindT, setAll, List.length_cons, List.length_nil, List.map_cons, List.map_nil, List.getElem?_cons_zero, List.getElem?_cons_succ, List.cons_append, List.nil_append, List.set_cons_zero, List.set_cons_succ, Nat.zero_add, Nat.add_zero, Nat.le_refl, and_self, if_true, true_and, and_true, List.replicate_succ, List.replicate_zero, Nat.sub_self, Nat.reduceSub, Nat.reduceAdd, Nat.reduceLeDiff, Nat.reduceEqDiff, Nat.zero_le, small, tru_bl, isNon, Bool.not_true, Bool.not_false, h1, hq, h3, decide_eq_false hk]
theorem is_sound_2 (N : Net) (hN : NetOk N) (hS : NetSnd N) (n : Nat) (l0 : List Val) : ∀ (cs : List Cell) (c1 c2 : Option Val), (∀ c ∈ cs, c ∈ N.cells) →
    ∃ c1' c2', forL (exSs (callN prog (n + 3)) b_is_sound_1) (.tp [1, 2]) (keepW .of [.tup l0] l0) (cs.map cellV) [some N.val, c1, c2] [] = .ok (.nx, [some N.val, c1', c2']) []
  | [], c1, c2, _ => ⟨c1, c2, by simp only [List.map_nil, forL, keep_tup, if_true]⟩
  | c :: cs, c1, c2, h => by
    obtain ⟨c1', c2', e⟩ := is_sound_2 N hN hS n l0 cs (some (.str c.nm)) (some c.fm) fun d hd => h d (List.mem_cons_of_mem _ hd)
    have e1 := is_sound_1 N hN hS n c (h c List.mem_cons_self)
    refine ⟨c1', c2', ?_⟩
    have hs : setAll [some N.val, c1, c2] [1, 2] [.str c.nm, c.fm] = [some N.val, some (.str c.nm), some c.fm] := rfl
    simp only [List.map_cons, forL, keep_tup, cellV, bindT, List.length_cons, List.length_nil, if_true, hs, e1, R.bind_ok]
    exact e
theorem v_is_sound (N : Net) (hN : NetOk N) (hS : NetSnd N) (n : Nat) (st : Store) : callV (callN prog (n + 4)) "is_sound" [N.val] st = .ok (.bl true) st := by
  have ho := v_order_of N hN n []
  have hl : b1V [] .len (.ls ((ordG N.cells N.cells.length N.ins []).map Val.str)) = some (.int ((ordG N.cells N.cells.length N.ins []).length : Int)) := by rw [len_lsv, List.length_map]
  have hl2 : b1V [] .len (.tup (N.cells.map cellV)) = some (.int (N.cells.length : Int)) := by rw [len_tup, List.length_map]
  have n2 := net_2 N
  have hlt : ¬ ((ordG N.cells N.cells.length N.ins []).length : Int) < (N.cells.length : Int) := by have := hS.ord; omega
  obtain ⟨c1, c2, e⟩ := is_sound_2 N hN hS n (N.cells.map cellV) N.cells none none fun c hc => hc
  refine callV_p (pure1 hN.da) ?_
  rw [callN_at lk_is_sound]
  refine run_ (env' := [some N.val, c1, c2]) ⟨rfl, by decide⟩ [some N.val, none, none] rfl ?_
  refine (nx_ (env' := [some N.val, none, none]) (st' := []) (by simp only [runF, exSs, exS, evE, evEs, R.bind_ok, R.bind_bad, R.bind_exc, ofO_some, ofO_none, bindT, setAll, List.length_cons, List.length_nil, List.map_cons, List.map_nil, List.getElem?_cons_zero, List.getElem?_cons_succ, List.cons_append, List.nil_append, List.set_cons_zero, List.set_cons_succ, Nat.zero_add, Nat.add_zero, Nat.le_refl, and_self, if_true, true_and, and_true, List.replicate_succ, List.replicate_zero, Nat.sub_self, Nat.reduceSub, Nat.reduceAdd, Nat.reduceLeDiff, Nat.reduceEqDiff, Nat.zero_le, small, tru_bl, isNon, Bool.not_true, Bool.not_false, ho, hl, n2, hl2, lt_int, decide_eq_false hlt])).trans ?_
  refine (nx_ (env' := [some N.val, c1, c2]) (st' := []) (by simp only [runF, exSs, exS, evE, evEs, R.bind_ok, R.bind_bad, R.bind_exc, ofO_some, ofO_none, bindT, setAll, List.length_cons, List.length_nil, List.map_cons, List.map_nil, List.getElem?_cons_zero, List.getElem?_cons_succ, List.cons_append, List.nil_append, List.set_cons_zero, List.set_cons_succ, Nat.zero_add, Nat.add_zero, Nat.le_refl, and_self, if_true, true_and, and_true, List.replicate_succ, List.replicate_zero, Nat.sub_self, Nat.reduceSub, Nat.reduceAdd, Nat.reduceLeDiff, Nat.reduceEqDiff, Nat.zero_le, small, tru_bl, isNon, Bool.not_true, Bool.not_false, n2, walk_tup, e])).trans ?_
  exact rt_ (by simp only [runF, exSs, exS, evE, evEs, R.bind_ok, R.bind_bad, R.bind_exc, ofO_some, ofO_none, bindT, setAll, List.length_cons, List.length_nil, List.map_cons, List.map_nil, List.getElem?_cons_zero, List.getElem?_cons_succ, List.cons_append, List.nil_append, List.set_cons_zero, List.set_cons_succ, Nat.zero_add, Nat.add_zero, Nat.le_refl, and_self, if_true, true_and, and_true, List.replicate_succ, List.replicate_zero, Nat.sub_self, Nat.reduceSub, Nat.reduceAdd, Nat.reduceLeDiff, Nat.reduceEqDiff, Nat.zero_le, small, tru_bl, isNon, Bool.not_true, Bool.not_false])
/-! ### faults of nets -/
theorem lk_are_cells : List.lookup ("are_cells" : Str) prog = some d_are_cells.fn := rfl
theorem lk_net_fault : List.lookup ("net_fault" : Str) prog = some d_net_fault.fn := rfl
theorem v_are_cells (N : Net) (hN : NetOk N) (n : Nat) (st : Store) : callV (callN prog (n + 2)) "are_cells" [.tup (N.cells.map cellV)] st = .ok (.bl true) st := by
  refine callV_p (pure1 (cells_da hN)) ?_
  have hall := hN.all
  have h0 : ∀ st : Store, isiV st (.tup (N.cells.map cellV)) .tuple = some true := fun st => rfl
  have hl2 : b1V [] .len (.tup (N.cells.map cellV)) = some (.int (N.cells.length : Int)) := by rw [len_tup, List.length_map]
  have hlt : ¬ (20 : Int) < (N.cells.length : Int) := by omega
  have k1 := lc_map (f := evE (callN prog (n + 1)) e_are_cells_1) (tg := .nm 2) (env := [some (.tup (N.cells.map cellV)), none, none, none]) (keep := keepW .of [.tup (N.cells.map cellV)] (N.cells.map cellV)) (st := [])
    cellV (fun _ => .bl true) (keep_tup _ _ _ _) N.cells [] (fun c hc => ⟨_, rfl, by
      have hd : (cellV c).da = true := by simp [cellV, Val.da, daAll, (hN.fok c hc).da]
      have := v_is_row n (cellV c) 2 [] hd
      have h2 : isRow 2 (cellV c) = true := rfl
      simp only [e_are_cells_1, runF, exSs, exS, evE, evEs, R.bind_ok, R.bind_bad, R.bind_exc, ofO_some, ofO_none, bindT, setAll, List.length_cons, List.length_nil, List.map_cons, List.map_nil, List.getElem?_cons_zero, List.getElem?_cons_succ, List.cons_append, List.nil_append, List.set_cons_zero, List.set_cons_succ, Nat.zero_add, Nat.add_zero, Nat.le_refl, and_self, if_true, true_and, and_true, List.replicate_succ, List.replicate_zero, Nat.sub_self, Nat.reduceSub, Nat.reduceAdd, Nat.reduceLeDiff, Nat.reduceEqDiff, Nat.zero_le, small, tru_bl, isNon, Bool.not_true, Bool.not_false, this, h2]⟩) (by simp; omega)
  have k2 := lc_map (f := evE (callN prog (n + 1)) e_are_cells_2) (tg := .nm 2) (env := [some (.tup (N.cells.map cellV)), none, none, none]) (keep := keepW .of [.tup (N.cells.map cellV)] (N.cells.map cellV)) (st := [])
    cellV (fun c => .str c.nm) (keep_tup _ _ _ _) N.cells [] (fun c hc => ⟨_, rfl, by
      have hi : itemV [] (cellV c) (.int 0) = some (.str c.nm) := rfl
      simp only [e_are_cells_2, runF, exSs, exS, evE, evEs, R.bind_ok, R.bind_bad, R.bind_exc, ofO_some, ofO_none, bindT, setAll, List.length_cons, List.length_nil, List.map_cons, List.map_nil, List.getElem?_cons_zero, List.getElem?_cons_succ, List.cons_append, List.nil_append, List.set_cons_zero, List.set_cons_succ, Nat.zero_add, Nat.add_zero, Nat.le_refl, and_self, if_true, true_and, and_true, List.replicate_succ, List.replicate_zero, Nat.sub_self, Nat.reduceSub, Nat.reduceAdd, Nat.reduceLeDiff, Nat.reduceEqDiff, Nat.zero_le, small, tru_bl, isNon, Bool.not_true, Bool.not_false, hi]⟩) (by simp; omega)
  have hnm : (N.cells.map fun c => Val.str c.nm) = N.nms.map Val.str := by unfold Net.nms; rw [List.map_map]; rfl
  rw [hnm] at k2
  have hlen : N.nms.length = N.cells.length := by simp [Net.nms]
  have k3 := lc_map (f := evE (callN prog (n + 1)) e_are_cells_3) (tg := .nm 3) (env := [some (.tup (N.cells.map cellV)), some (.ls (N.nms.map Val.str)), none, none]) (keep := keepW .of [.ls (N.nms.map Val.str)] (N.nms.map Val.str)) (st := [])
    Val.str (fun _ => .bl true) (keep_ls _ _ _ _) N.nms [] (fun x hx => ⟨_, rfl, by
      obtain ⟨c, hc, rfl⟩ := List.mem_map.mp hx
      simp only [e_are_cells_3, runF, exSs, exS, evE, evEs, R.bind_ok, R.bind_bad, R.bind_exc, ofO_some, ofO_none, bindT, setAll, List.length_cons, List.length_nil, List.map_cons, List.map_nil, List.getElem?_cons_zero, List.getElem?_cons_succ, List.cons_append, List.nil_append, List.set_cons_zero, List.set_cons_succ, Nat.zero_add, Nat.add_zero, Nat.le_refl, and_self, if_true, true_and, and_true, List.replicate_succ, List.replicate_zero, Nat.sub_self, Nat.reduceSub, Nat.reduceAdd, Nat.reduceLeDiff, Nat.reduceEqDiff, Nat.zero_le, small, tru_bl, isNon, Bool.not_true, Bool.not_false, v_is_name n c.nm (hN.cnm c hc)]⟩) (by simp; omega)
  have k4 := v_is_ascending n (.ls (N.nms.map Val.str)) N.nms (.inr rfl) (by omega) []
  have hg : g_MAX_CELLS = .int 20 := rfl
  rw [callN_at lk_are_cells]
  refine run_ (env' := [some (.tup (N.cells.map cellV)), some (.ls (N.nms.map Val.str)), none, none]) ⟨rfl, by decide⟩ [some (.tup (N.cells.map cellV)), none, none, none] rfl ?_
  refine (nx_ (env' := [some (.tup (N.cells.map cellV)), none, none, none]) (st' := []) (by simp only [runF, exSs, exS, evE, evEs, R.bind_ok, R.bind_bad, R.bind_exc, ofO_some, ofO_none, bindT, setAll, List.length_cons, List.length_nil, List.map_cons, List.map_nil, List.getElem?_cons_zero, List.getElem?_cons_succ, List.cons_append, List.nil_append, List.set_cons_zero, List.set_cons_succ, Nat.zero_add, Nat.add_zero, Nat.le_refl, and_self, if_true, true_and, and_true, List.replicate_succ, List.replicate_zero, Nat.sub_self, Nat.reduceSub, Nat.reduceAdd, Nat.reduceLeDiff, Nat.reduceEqDiff, Nat.zero_le, small, tru_bl, isNon, Bool.not_true, Bool.not_false, h0, hl2, hg, gt_int, decide_eq_false hlt, walk_tup, k1, List.nil_append, all_tt])).trans ?_
  refine (nx_ (env' := [some (.tup (N.cells.map cellV)), some (.ls (N.nms.map Val.str)), none, none]) (st' := []) (by simp only [runF, exSs, exS, evE, evEs, R.bind_ok, R.bind_bad, R.bind_exc, ofO_some, ofO_none, bindT, setAll, List.length_cons, List.length_nil, List.map_cons, List.map_nil, List.getElem?_cons_zero, List.getElem?_cons_succ, List.cons_append, List.nil_append, List.set_cons_zero, List.set_cons_succ, Nat.zero_add, Nat.add_zero, Nat.le_refl, and_self, if_true, true_and, and_true, List.replicate_succ, List.replicate_zero, Nat.sub_self, Nat.reduceSub, Nat.reduceAdd, Nat.reduceLeDiff, Nat.reduceEqDiff, Nat.zero_le, small, tru_bl, isNon, Bool.not_true, Bool.not_false, walk_tup, k2, List.nil_append])).trans ?_
  exact rt_ (by simp only [runF, exSs, exS, evE, evEs, R.bind_ok, R.bind_bad, R.bind_exc, ofO_some, ofO_none, bindT, setAll, List.length_cons, List.length_nil, List.map_cons, List.map_nil, List.getElem?_cons_zero, List.getElem?_cons_succ, List.cons_append, List.nil_append, List.set_cons_zero, List.set_cons_succ, Nat.zero_add, Nat.add_zero, Nat.le_refl, and_self, if_true, true_and, and_true, List.replicate_succ, List.replicate_zero, Nat.sub_self, Nat.reduceSub, Nat.reduceAdd, Nat.reduceLeDiff, Nat.reduceEqDiff, Nat.zero_le, small, tru_bl, isNon, Bool.not_true, Bool.not_false, walk_ls, k3, List.nil_append, all_tt, k4, ascB_of hN.ca])
def V3 (a b c : Val) : Val := .tup [a, b, c]
theorem da3 {a b c : Val} (ha : a.da = true) (hb : b.da = true) (hc : c.da = true) : (V3 a b c).da = true := by simp [V3, Val.da, daAll, ha, hb, hc]
theorem V3_row (a b c : Val) : isRow 3 (V3 a b c) = true := rfl
theorem V3_bind (a b c : Val) (e0 : Env) (x1 x2 x3 x4 x5 x6 x7 : Option Val) : bindT (.tp [2, 3, 4]) (V3 a b c) [some (V3 a b c), x1, x2, x3, x4, x5, x6, x7] = some [some (V3 a b c), x1, some a, some b, some c, x5, x6, x7] := rfl
theorem nf_size (n : Nat) (a b c : Val) (ha : a.da = true) (hb : b.da = true) (hc : c.da = true) (h : btw 2 5 a = false) : callN prog (n + 3) "net_fault" [V3 a b c] [] = .ok (.str "size") [] := by
  rw [callN_at lk_net_fault]
  have h1 := v_is_row (n + 1) (V3 a b c) 3 [] (da3 ha hb hc)
  have h2 := v_is_between n a 2 5 [] ha
  have hg : g_MAX_SIZE = .int 5 := rfl
  refine run_ (env' := [some (V3 a b c), none, some a, some b, some c, none, none, none]) ⟨rfl, by decide⟩ [some (V3 a b c), none, none, none, none, none, none, none] rfl ?_
  refine (nx_ (env' := [some (V3 a b c), none, none, none, none, none, none, none]) (st' := []) (by simp only [runF, exSs, exS, evE, evEs, R.bind_ok, R.bind_bad, R.bind_exc, ofO_some, ofO_none, bindT, setAll, List.length_cons, List.length_nil, List.map_cons, List.map_nil, List.getElem?_cons_zero, List.getElem?_cons_succ, List.cons_append, List.nil_append, List.set_cons_zero, List.set_cons_succ, Nat.zero_add, Nat.add_zero, Nat.le_refl, and_self, if_true, true_and, and_true, List.replicate_succ, List.replicate_zero, Nat.sub_self, Nat.reduceSub, Nat.reduceAdd, Nat.reduceLeDiff, Nat.reduceEqDiff, Nat.zero_le, small, tru_bl, isNon, Bool.not_true, Bool.not_false, h1, V3_row])).trans ?_
  refine (nx_ (env' := [some (V3 a b c), none, some a, some b, some c, none, none, none]) (st' := []) (by simp only [exS, evE, List.getElem?_cons_zero, R.bind_ok, V3_bind _ _ _ [], ofO_some])).trans ?_
  exact rt_ (by simp only [runF, exSs, exS, evE, evEs, R.bind_ok, R.bind_bad, R.bind_exc, ofO_some, ofO_none, bindT, setAll, List.length_cons, List.length_nil, List.map_cons, List.map_nil, List.getElem?_cons_zero, List.getElem?_cons_succ, List.cons_append, List.nil_append, List.set_cons_zero, List.set_cons_succ, Nat.zero_add, Nat.add_zero, Nat.le_refl, and_self, if_true, true_and, and_true, List.replicate_succ, List.replicate_zero, Nat.sub_self, Nat.reduceSub, Nat.reduceAdd, Nat.reduceLeDiff, Nat.reduceEqDiff, Nat.zero_le, small, tru_bl, isNon, Bool.not_true, Bool.not_false, hg, h2, h])
theorem nf_a (n : Nat) (a b c : Val) (ha : a.da = true) (hb : b.da = true) (hc : c.da = true) (h : btw 2 5 a = true) (env' : Env) (v : Val)
    (hr : exSs (callN prog (n + 2)) (d_net_fault.fn.body.drop 3) [some (V3 a b c), none, some a, some b, some c, none, none, none] [] = .ok (.rt v, env') []) : callN prog (n + 3) "net_fault" [V3 a b c] [] = .ok v [] := by
  rw [callN_at lk_net_fault]
  have h1 := v_is_row (n + 1) (V3 a b c) 3 [] (da3 ha hb hc)
  have h2 := v_is_between n a 2 5 [] ha
  have hg : g_MAX_SIZE = .int 5 := rfl
  refine run_ (env' := env') ⟨rfl, by decide⟩ [some (V3 a b c), none, none, none, none, none, none, none] rfl ?_
  refine (nx_ (env' := [some (V3 a b c), none, none, none, none, none, none, none]) (st' := []) (by simp only [runF, exSs, exS, evE, evEs, R.bind_ok, R.bind_bad, R.bind_exc, ofO_some, ofO_none, bindT, setAll, List.length_cons, List.length_nil, List.map_cons, List.map_nil, List.getElem?_cons_zero, List.getElem?_cons_succ, List.cons_append, List.nil_append, List.set_cons_zero, List.set_cons_succ, Nat.zero_add, Nat.add_zero, Nat.le_refl, and_self, if_true, true_and, and_true, List.replicate_succ, List.replicate_zero, Nat.sub_self, Nat.reduceSub, Nat.reduceAdd, Nat.reduceLeDiff, Nat.reduceEqDiff, Nat.zero_le, small, tru_bl, isNon, Bool.not_true, Bool.not_false, h1, V3_row])).trans ?_
  refine (nx_ (env' := [some (V3 a b c), none, some a, some b, some c, none, none, none]) (st' := []) (by simp only [exS, evE, List.getElem?_cons_zero, R.bind_ok, V3_bind _ _ _ [], ofO_some])).trans ?_
  refine (nx_ (env' := [some (V3 a b c), none, some a, some b, some c, none, none, none]) (st' := []) (by simp only [runF, exSs, exS, evE, evEs, R.bind_ok, R.bind_bad, R.bind_exc, ofO_some, ofO_none, bindT, setAll, List.length_cons, List.length_nil, List.map_cons, List.map_nil, List.getElem?_cons_zero, List.getElem?_cons_succ, List.cons_append, List.nil_append, List.set_cons_zero, List.set_cons_succ, Nat.zero_add, Nat.add_zero, Nat.le_refl, and_self, if_true, true_and, and_true, List.replicate_succ, List.replicate_zero, Nat.sub_self, Nat.reduceSub, Nat.reduceAdd, Nat.reduceLeDiff, Nat.reduceEqDiff, Nat.zero_le, small, tru_bl, isNon, Bool.not_true, Bool.not_false, hg, h2, h])).trans ?_
  exact hr
theorem nf_inputs (n : Nat) (a b c : Val) (ha : a.da = true) (hb : b.da = true) (hc : c.da = true) (h : btw 2 5 a = true) (hn : callN prog (n + 2) "are_names" [b] [] = .ok (.bl false) []) : callN prog (n + 3) "net_fault" [V3 a b c] [] = .ok (.str "inputs") [] := by
  have h3 := callV_p (st := []) (pure1 hb) hn
  exact nf_a n a b c ha hb hc h _ _ (rt_ (env' := [some (V3 a b c), none, some a, some b, some c, none, none, none]) (by simp only [runF, exSs, exS, evE, evEs, R.bind_ok, R.bind_bad, R.bind_exc, ofO_some, ofO_none, bindT, setAll, List.length_cons, List.length_nil, List.map_cons, List.map_nil, List.getElem?_cons_zero, List.getElem?_cons_succ, List.cons_append, List.nil_append, List.set_cons_zero, List.set_cons_succ, Nat.zero_add, Nat.add_zero, Nat.le_refl, and_self, if_true, true_and, and_true, List.replicate_succ, List.replicate_zero, Nat.sub_self, Nat.reduceSub, Nat.reduceAdd, Nat.reduceLeDiff, Nat.reduceEqDiff, Nat.zero_le, small, tru_bl, isNon, Bool.not_true, Bool.not_false, h3]))
/-- .. with right inputs -/
theorem nf_b (n : Nat) (sz : Int) (ins : List Str) (c : Val) (h0 : 2 ≤ sz) (h1 : sz ≤ 5) (hi : ∀ t ∈ ins, NameOk t) (ha : ins.Pairwise ltS) (hl : ins.length ≤ 4) (hc : c.da = true) (env' : Env) (v : Val)
    (hr : exSs (callN prog (n + 2)) (d_net_fault.fn.body.drop 4) [some (V3 (.int sz) (.tup (ins.map Val.str)) c), none, some (.int sz), some (.tup (ins.map Val.str)), some c, none, none, none] [] = .ok (.rt v, env') []) : callN prog (n + 3) "net_fault" [V3 (.int sz) (.tup (ins.map Val.str)) c] [] = .ok v [] := by
  have h2 : btw 2 5 (.int sz) = true := by simp [btw, h0, h1]
  have h3 := v_are_names n ins hi ha (by omega) []
  have h4 : b1V [] .len (.tup (ins.map Val.str)) = some (.int (ins.length : Int)) := by rw [len_tup, List.length_map]
  have hg : g_MAX_INPUTS = .int 4 := rfl
  have hlt : ¬ (4 : Int) < (ins.length : Int) := by omega
  refine nf_a n (.int sz) (.tup (ins.map Val.str)) c rfl (da_seq (.inl rfl)) hc h2 env' v ?_
  refine (nx_ (env' := [some (V3 (.int sz) (.tup (ins.map Val.str)) c), none, some (.int sz), some (.tup (ins.map Val.str)), some c, none, none, none]) (st' := []) (by simp only [runF, exSs, exS, evE, evEs, R.bind_ok, R.bind_bad, R.bind_exc, ofO_some, ofO_none, bindT, setAll, List.length_cons, List.length_nil, List.map_cons, List.map_nil, List.getElem?_cons_zero, List.getElem?_cons_succ, List.cons_append, List.nil_append, List.set_cons_zero, List.set_cons_succ, Nat.zero_add, Nat.add_zero, Nat.le_refl, and_self, if_true, true_and, and_true, List.replicate_succ, List.replicate_zero, Nat.sub_self, Nat.reduceSub, Nat.reduceAdd, Nat.reduceLeDiff, Nat.reduceEqDiff, Nat.zero_le, small, tru_bl, isNon, Bool.not_true, Bool.not_false, h3, h4, hg, gt_int, decide_eq_false hlt])).trans ?_
  exact hr
theorem nf_cells (n : Nat) (sz : Int) (ins : List Str) (c : Val) (h0 : 2 ≤ sz) (h1 : sz ≤ 5) (hi : ∀ t ∈ ins, NameOk t) (ha : ins.Pairwise ltS) (hl : ins.length ≤ 4) (hc : c.da = true) (hn : callN prog (n + 2) "are_cells" [c] [] = .ok (.bl false) []) : callN prog (n + 3) "net_fault" [V3 (.int sz) (.tup (ins.map Val.str)) c] [] = .ok (.str "cells") [] := by
  have h3 := callV_p (st := []) (pure1 hc) hn
  exact nf_b n sz ins c h0 h1 hi ha hl hc _ _ (rt_ (env' := [some (V3 (.int sz) (.tup (ins.map Val.str)) c), none, some (.int sz), some (.tup (ins.map Val.str)), some c, none, none, none]) (by simp only [runF, exSs, exS, evE, evEs, R.bind_ok, R.bind_bad, R.bind_exc, ofO_some, ofO_none, bindT, setAll, List.length_cons, List.length_nil, List.map_cons, List.map_nil, List.getElem?_cons_zero, List.getElem?_cons_succ, List.cons_append, List.nil_append, List.set_cons_zero, List.set_cons_succ, Nat.zero_add, Nat.add_zero, Nat.le_refl, and_self, if_true, true_and, and_true, List.replicate_succ, List.replicate_zero, Nat.sub_self, Nat.reduceSub, Nat.reduceAdd, Nat.reduceLeDiff, Nat.reduceEqDiff, Nat.zero_le, small, tru_bl, isNon, Bool.not_true, Bool.not_false, h3]))
/-- a right net has no fault -/
theorem nf_ok (N : Net) (hN : NetOk N) (hS : NetSnd N) (n : Nat) : callN prog (n + 6) "net_fault" [N.val] [] = .ok .non [] := by
  have hall := hN.all
  have hs1 := hN.s1
  have hi1 := hN.i1
  have ac := v_are_cells N hN (n + 3) []
  have n5 : bindT (.tp [5, 6]) = bindT (.tp [5, 6]) := rfl
  have k1 := lc_map (f := evE (callN prog (n + 5)) e_net_fault_1) (tg := .tp [5, 6]) (env := [some N.val, none, some (.int N.sz), some (.tup (N.ins.map Val.str)), some (.tup (N.cells.map cellV)), none, none, none]) (keep := keepW .of [.tup (N.cells.map cellV)] (N.cells.map cellV)) (st := [])
    cellV (fun _ => .bl false) (keep_tup _ _ _ _) N.cells [] (fun c hc => ⟨_, rfl, by
      have hq : cmpV [] .isin (.str c.nm) (.tup (N.ins.map Val.str)) = some (decide (c.nm ∈ N.ins)) := in_tup [] (hN.cnm c hc).sok hN.insok
      simp only [e_net_fault_1, runF, exSs, exS, evE, evEs, R.bind_ok, R.bind_bad, R.bind_exc, ofO_some, ofO_none, bindT, setAll, List.length_cons, List.length_nil, List.map_cons, List.map_nil, List.getElem?_cons_zero, List.getElem?_cons_succ, List.cons_append, List.nil_append, List.set_cons_zero, List.set_cons_succ, Nat.zero_add, Nat.add_zero, Nat.le_refl, and_self, if_true, true_and, and_true, List.replicate_succ, List.replicate_zero, Nat.sub_self, Nat.reduceSub, Nat.reduceAdd, Nat.reduceLeDiff, Nat.reduceEqDiff, Nat.zero_le, small, tru_bl, isNon, Bool.not_true, Bool.not_false, hq, decide_eq_false (hN.dis c hc)]⟩) (by simp; omega)
  have k2 := lc_map (f := evE (callN prog (n + 5)) e_net_fault_2) (tg := .tp [5, 6]) (env := [some N.val, none, some (.int N.sz), some (.tup (N.ins.map Val.str)), some (.tup (N.cells.map cellV)), none, none, none]) (keep := keepW .of [.tup (N.cells.map cellV)] (N.cells.map cellV)) (st := [])
    cellV (fun _ => .bl true) (keep_tup _ _ _ _) N.cells [] (fun c hc => ⟨_, rfl, by
      have hq := v_is_form (hN.fok c hc) (by omega) n []
      simp only [e_net_fault_2, runF, exSs, exS, evE, evEs, R.bind_ok, R.bind_bad, R.bind_exc, ofO_some, ofO_none, bindT, setAll, List.length_cons, List.length_nil, List.map_cons, List.map_nil, List.getElem?_cons_zero, List.getElem?_cons_succ, List.cons_append, List.nil_append, List.set_cons_zero, List.set_cons_succ, Nat.zero_add, Nat.add_zero, Nat.le_refl, and_self, if_true, true_and, and_true, List.replicate_succ, List.replicate_zero, Nat.sub_self, Nat.reduceSub, Nat.reduceAdd, Nat.reduceLeDiff, Nat.reduceEqDiff, Nat.zero_le, small, tru_bl, isNon, Bool.not_true, Bool.not_false, hq]⟩) (by simp; omega)
  have k3 := lc_map (f := evE (callN prog (n + 5)) e_net_fault_3) (tg := .tp [5, 6]) (env := [some N.val, none, some (.int N.sz), some (.tup (N.ins.map Val.str)), some (.tup (N.cells.map cellV)), none, none, none]) (keep := keepW .of [.tup (N.cells.map cellV)] (N.cells.map cellV)) (st := [])
    cellV (fun c => .str c.nm) (keep_tup _ _ _ _) N.cells [] (fun c hc => ⟨_, rfl, by simp only [e_net_fault_3, runF, exSs, exS, evE, evEs, R.bind_ok, R.bind_bad, R.bind_exc, ofO_some, ofO_none, bindT, setAll, List.length_cons, List.length_nil, List.map_cons, List.map_nil, List.getElem?_cons_zero, List.getElem?_cons_succ, List.cons_append, List.nil_append, List.set_cons_zero, List.set_cons_succ, Nat.zero_add, Nat.add_zero, Nat.le_refl, and_self, if_true, true_and, and_true, List.replicate_succ, List.replicate_zero, Nat.sub_self, Nat.reduceSub, Nat.reduceAdd, Nat.reduceLeDiff, Nat.reduceEqDiff, Nat.zero_le, small, tru_bl, isNon, Bool.not_true, Bool.not_false]⟩) (by simp; omega)
  have hnm : (N.cells.map fun c => Val.str c.nm) = N.nms.map Val.str := by unfold Net.nms; rw [List.map_map]; rfl
  have hlen : N.nms.length = N.cells.length := by simp [Net.nms]
  rw [hnm] at k3
  have hcat := op_catS [] N.ins N.nms (by omega)
  have hlist : b1V [] .list (.tup (N.ins.map Val.str)) = some (.ls (N.ins.map Val.str)) := rfl
  have husok : ∀ t ∈ N.ins ++ N.nms, Sok t := by
    intro t ht
    rcases List.mem_append.mp ht with ht | ht
    · exact hN.insok t ht
    · obtain ⟨c, hc, rfl⟩ := List.mem_map.mp ht
      exact (hN.cnm c hc).sok
  have k4 := lc_map (f := evE (callN prog (n + 5)) e_net_fault_5) (tg := .tp [5, 6]) (env := [some N.val, some (.ls ((N.ins ++ N.nms).map Val.str)), some (.int N.sz), some (.tup (N.ins.map Val.str)), some (.tup (N.cells.map cellV)), none, none, none]) (keep := keepW .of [.tup (N.cells.map cellV)] (N.cells.map cellV)) (st := [])
    cellV (fun _ => .bl true) (keep_tup _ _ _ _) N.cells [] (fun c hc => ⟨_, rfl, by
      have hq := v_names_in (hN.fok c hc) (n + 4) []
      have k5 := lc_map (f := evE (callN prog (n + 5)) e_net_fault_4) (tg := .nm 7) (env := [some N.val, some (.ls ((N.ins ++ N.nms).map Val.str)), some (.int N.sz), some (.tup (N.ins.map Val.str)), some (.tup (N.cells.map cellV)), some (.str c.nm), some c.fm, none]) (keep := keepW .of [.tup (c.ns.map Val.str)] (c.ns.map Val.str)) (st := [])
        Val.str (fun _ => .bl true) (keep_tup _ _ _ _) c.ns [] (fun x hx => ⟨_, rfl, by
          have hq : cmpV [] .isin (.str x) (.ls ((N.ins ++ N.nms).map Val.str)) = some (decide (x ∈ N.ins ++ N.nms)) := in_ls [] (ns_sok hN hc x hx) husok
          have hm : x ∈ N.ins ++ N.nms := ns_univ hN hc x hx
          simp only [e_net_fault_4, runF, exSs, exS, evE, evEs, R.bind_ok, R.bind_bad, R.bind_exc, ofO_some, ofO_none, bindT, setAll, List.length_cons, List.length_nil, List.map_cons, List.map_nil, List.getElem?_cons_zero, List.getElem?_cons_succ, List.cons_append, List.nil_append, List.set_cons_zero, List.set_cons_succ, Nat.zero_add, Nat.add_zero, Nat.le_refl, and_self, if_true, true_and, and_true, List.replicate_succ, List.replicate_zero, Nat.sub_self, Nat.reduceSub, Nat.reduceAdd, Nat.reduceLeDiff, Nat.reduceEqDiff, Nat.zero_le, small, tru_bl, isNon, Bool.not_true, Bool.not_false, hq, decide_eq_true hm]⟩) (by have := (hN.fok c hc).short; simp; omega)
      simp only [e_net_fault_5, runF, exSs, exS, evE, evEs, R.bind_ok, R.bind_bad, R.bind_exc, ofO_some, ofO_none, bindT, setAll, List.length_cons, List.length_nil, List.map_cons, List.map_nil, List.getElem?_cons_zero, List.getElem?_cons_succ, List.cons_append, List.nil_append, List.set_cons_zero, List.set_cons_succ, Nat.zero_add, Nat.add_zero, Nat.le_refl, and_self, if_true, true_and, and_true, List.replicate_succ, List.replicate_zero, Nat.sub_self, Nat.reduceSub, Nat.reduceAdd, Nat.reduceLeDiff, Nat.reduceEqDiff, Nat.zero_le, small, tru_bl, isNon, Bool.not_true, Bool.not_false, cellV, setAll, hq, walk_tup, k5, List.nil_append, all_tt]⟩) (by simp; omega)
  have hsound := v_is_sound N hN hS (n + 1) []
  refine nf_b (n + 3) N.sz N.ins (.tup (N.cells.map cellV)) hN.s0 hN.s1 hN.inm hN.ia (by omega) (cells_da hN) [some N.val, some (.ls ((N.ins ++ N.nms).map Val.str)), some (.int N.sz), some (.tup (N.ins.map Val.str)), some (.tup (N.cells.map cellV)), none, none, none] _ ?_
  change exSs (callN prog (n + 5)) _ [some N.val, _, _, _, _, _, _, _] _ = _
  refine (nx_ (env' := [some N.val, none, some (.int N.sz), some (.tup (N.ins.map Val.str)), some (.tup (N.cells.map cellV)), none, none, none]) (st' := []) (by simp only [runF, exSs, exS, evE, evEs, R.bind_ok, R.bind_bad, R.bind_exc, ofO_some, ofO_none, bindT, setAll, List.length_cons, List.length_nil, List.map_cons, List.map_nil, List.getElem?_cons_zero, List.getElem?_cons_succ, List.cons_append, List.nil_append, List.set_cons_zero, List.set_cons_succ, Nat.zero_add, Nat.add_zero, Nat.le_refl, and_self, if_true, true_and, and_true, List.replicate_succ, List.replicate_zero, Nat.sub_self, Nat.reduceSub, Nat.reduceAdd, Nat.reduceLeDiff, Nat.reduceEqDiff, Nat.zero_le, small, tru_bl, isNon, Bool.not_true, Bool.not_false, ac, walk_tup, k1, List.nil_append, any_ff])).trans ?_
  refine (nx_ (env' := [some N.val, none, some (.int N.sz), some (.tup (N.ins.map Val.str)), some (.tup (N.cells.map cellV)), none, none, none]) (st' := []) (by simp only [runF, exSs, exS, evE, evEs, R.bind_ok, R.bind_bad, R.bind_exc, ofO_some, ofO_none, bindT, setAll, List.length_cons, List.length_nil, List.map_cons, List.map_nil, List.getElem?_cons_zero, List.getElem?_cons_succ, List.cons_append, List.nil_append, List.set_cons_zero, List.set_cons_succ, Nat.zero_add, Nat.add_zero, Nat.le_refl, and_self, if_true, true_and, and_true, List.replicate_succ, List.replicate_zero, Nat.sub_self, Nat.reduceSub, Nat.reduceAdd, Nat.reduceLeDiff, Nat.reduceEqDiff, Nat.zero_le, small, tru_bl, isNon, Bool.not_true, Bool.not_false, walk_tup, k2, List.nil_append, all_tt])).trans ?_
  refine (nx_ (env' := [some N.val, some (.ls ((N.ins ++ N.nms).map Val.str)), some (.int N.sz), some (.tup (N.ins.map Val.str)), some (.tup (N.cells.map cellV)), none, none, none]) (st' := []) (by simp only [runF, exSs, exS, evE, evEs, R.bind_ok, R.bind_bad, R.bind_exc, ofO_some, ofO_none, bindT, setAll, List.length_cons, List.length_nil, List.map_cons, List.map_nil, List.getElem?_cons_zero, List.getElem?_cons_succ, List.cons_append, List.nil_append, List.set_cons_zero, List.set_cons_succ, Nat.zero_add, Nat.add_zero, Nat.le_refl, and_self, if_true, true_and, and_true, List.replicate_succ, List.replicate_zero, Nat.sub_self, Nat.reduceSub, Nat.reduceAdd, Nat.reduceLeDiff, Nat.reduceEqDiff, Nat.zero_le, small, tru_bl, isNon, Bool.not_true, Bool.not_false, hlist, walk_tup, k3, hcat])).trans ?_
  refine (nx_ (env' := [some N.val, some (.ls ((N.ins ++ N.nms).map Val.str)), some (.int N.sz), some (.tup (N.ins.map Val.str)), some (.tup (N.cells.map cellV)), none, none, none]) (st' := []) (by simp only [runF, exSs, exS, evE, evEs, R.bind_ok, R.bind_bad, R.bind_exc, ofO_some, ofO_none, bindT, setAll, List.length_cons, List.length_nil, List.map_cons, List.map_nil, List.getElem?_cons_zero, List.getElem?_cons_succ, List.cons_append, List.nil_append, List.set_cons_zero, List.set_cons_succ, Nat.zero_add, Nat.add_zero, Nat.le_refl, and_self, if_true, true_and, and_true, List.replicate_succ, List.replicate_zero, Nat.sub_self, Nat.reduceSub, Nat.reduceAdd, Nat.reduceLeDiff, Nat.reduceEqDiff, Nat.zero_le, small, tru_bl, isNon, Bool.not_true, Bool.not_false, walk_tup, k4, List.nil_append, all_tt])).trans ?_
  exact rt_ (by simp only [runF, exSs, exS, evE, evEs, R.bind_ok, R.bind_bad, R.bind_exc, ofO_some, ofO_none, bindT, setAll, List.length_cons, List.length_nil, List.map_cons, List.map_nil, List.getElem?_cons_zero, List.getElem?_cons_succ, List.cons_append, List.nil_append, List.set_cons_zero, List.set_cons_succ, Nat.zero_add, Nat.add_zero, Nat.le_refl, and_self, if_true, true_and, and_true, List.replicate_succ, List.replicate_zero, Nat.sub_self, Nat.reduceSub, Nat.reduceAdd, Nat.reduceLeDiff, Nat.reduceEqDiff, Nat.zero_le, small, tru_bl, isNon, Bool.not_true, Bool.not_false, hsound])
end PV
end

section
set_option Elab.async false
set_option linter.all false
set_option maxRecDepth 100000
set_option maxHeartbeats 1000000
namespace PV
open PySem L2
/-! ### names that are drawn -/
theorem ltS_of {a b : Str} (h : leS a b = true) (hne : a ≠ b) : ltS a b := by
  simp only [leS, Bool.not_eq_true', decide_eq_false_iff_not] at h
  rcases ltN_tri a.cps.toList b.cps.toList with q | q | q
  · exact q
  · exact absurd (by
      have : a.cps = b.cps := by rw [← Array.toList_inj]; exact q
      cases a; cases b; simp at this; rw [this]) hne
  · exact absurd q h
theorem sortS_lt {l : List Str} (h : l.Nodup) : (sortS l).Pairwise ltS := by
  have h1 := sortS_sorted l
  have h2 : (sortS l).Nodup := (sortS_perm l).nodup_iff.mpr h
  have := List.Pairwise.and h1 h2
  exact this.imp fun {a b} hab => ltS_of hab.1 hab.2
theorem ltS_nodup {l : List Str} (h : l.Pairwise ltS) : l.Nodup := by
  refine List.Pairwise.imp ?_ h
  intro a b hab he
  subst he
  exact ltS_irrefl _ hab
structure FndOk (many : Nat) (l : List Str) : Prop where
  nd : l.Nodup
  ok : ∀ t ∈ l, NameOk t
  nq : ∀ t ∈ l, NoQ t
  le : l.length ≤ many
theorem names_draw {o : Obj} (h : BoxO o) (n : Nat) (c1 c3 c4 c5 : Option Val) (r : Store) :
    ∃ (t : Str) (o' : Obj), NameOk t ∧ NoQ t ∧ BoxO o' ∧ evE (callN prog (n + 2)) (.ite (.cmp .eq (.call "_law_take" [(.var 0), (.cst (.int 5))]) (.cst (.int 0))) (.call "_law_pick" [(.var 0), (.var 2)]) (.call "_law_some" [(.var 0), (.cst (.str "abcxyz")), (.bin .add (.cst (.int 1)) (.call "_law_take" [(.var 0), (.cst (.int 3))]))]))
      [some (.ref 0), c1, some (.ls (words.map Val.str)), c3, c4, c5] (o :: r) = .ok (.str t) (o' :: r) := by
  obtain ⟨q, o1, q1, q2, b1, e1⟩ := tk h (n + 1) 5 r (by decide)
  by_cases hq : q = 0
  · obtain ⟨x, o2, hx, b2, e2⟩ := pk b1 n (.ls (words.map Val.str)) (words.map Val.str) (.inl rfl) r (by decide)
    obtain ⟨t, ht, rfl⟩ := List.mem_map.mp hx
    exact ⟨t, o2, words_ok t ht, words_noq t ht, b2, by simp only [runF, exSs, exS, evE, evEs, R.bind_ok, R.bind_bad, R.bind_exc, ofO_some, ofO_none, bindT, setAll, List.length_cons, List.length_nil, List.map_cons, List.map_nil, List.getElem?_cons_zero, List.getElem?_cons_succ, List.cons_append, List.nil_append, List.set_cons_zero, List.set_cons_succ, Nat.zero_add, Nat.add_zero, Nat.le_refl, and_self, if_true, true_and, and_true, List.replicate_succ, List.replicate_zero, Nat.sub_self, Nat.reduceSub, Nat.reduceAdd, Nat.reduceLeDiff, Nat.reduceEqDiff, Nat.zero_le, small, tru_bl, isNon, Bool.not_true, Bool.not_false, e1, eq_int, decide_eq_true hq, e2]⟩
  · obtain ⟨p, o2, p1, p2, b2, e2⟩ := tk b1 (n + 1) 3 r (by decide)
    obtain ⟨t, o3, l1, l2, l3, b3, e3⟩ := sm b2 n (1 + p) r (by omega) (by omega)
    refine ⟨t, o3, ⟨by omega, by omega, l2⟩, l3, b3, by simp only [runF, exSs, exS, evE, evEs, R.bind_ok, R.bind_bad, R.bind_exc, ofO_some, ofO_none, bindT, setAll, List.length_cons, List.length_nil, List.map_cons, List.map_nil, List.getElem?_cons_zero, List.getElem?_cons_succ, List.cons_append, List.nil_append, List.set_cons_zero, List.set_cons_succ, Nat.zero_add, Nat.add_zero, Nat.le_refl, and_self, if_true, true_and, and_true, List.replicate_succ, List.replicate_zero, Nat.sub_self, Nat.reduceSub, Nat.reduceAdd, Nat.reduceLeDiff, Nat.reduceEqDiff, Nat.zero_le, small, tru_bl, isNon, Bool.not_true, Bool.not_false, e1, eq_int, decide_eq_false hq, e2, op_add, e3]⟩
theorem names_1 {o : Obj} (h : BoxO o) (n : Nat) (many : Nat) (hm : many ≤ 11) (c4 c5 : Option Val) (found : List Str) (hf : FndOk many found) :
    ∃ (o' : Obj) (found' : List Str) (c5' : Option Val), BoxO o' ∧ FndOk many found' ∧ exSs (callN prog (n + 2)) b__law_names_1 [some (.ref 0), some (.int (many : Int)), some (.ls (words.map Val.str)), some (.ref 1), c4, c5] [o, .lst (found.map Val.str)]
      = .ok (.nx, [some (.ref 0), some (.int (many : Int)), some (.ls (words.map Val.str)), some (.ref 1), c4, c5']) [o', .lst (found'.map Val.str)] := by
  obtain ⟨t, o', t1, t2, b', e⟩ := names_draw h n (some (.int (many : Int))) (some (.ref 1)) c4 c5 [.lst (found.map Val.str)]
  have hle := hf.le
  have hb : b1V [o', .lst (found.map Val.str)] .len (.ref 1) = some (.int (found.length : Int)) := by rw [len_ref (xs := found.map Val.str) rfl, List.length_map]
  have hnot : cmpV [o', .lst (found.map Val.str)] .notin (.str t) (.ref 1) = some (!decide (t ∈ found)) := notin_of (in_ref _ 1 rfl t1.sok fun t ht => (hf.ok t ht).sok)
  have happ : appV [o', .lst (found.map Val.str)] (.ref 1) (.str t) = .ok () [o', .lst ((found ++ [t]).map Val.str)] := by
    rw [app_at (xs := found.map Val.str) rfl _ (by rw [List.length_map]; omega)]
    simp
  have h1 : exS (callN prog (n + 2)) (.asg (.nm 5) (.ite (.cmp .eq (.call "_law_take" [(.var 0), (.cst (.int 5))]) (.cst (.int 0))) (.call "_law_pick" [(.var 0), (.var 2)]) (.call "_law_some" [(.var 0), (.cst (.str "abcxyz")), (.bin .add (.cst (.int 1)) (.call "_law_take" [(.var 0), (.cst (.int 3))]))])))
      [some (.ref 0), some (.int (many : Int)), some (.ls (words.map Val.str)), some (.ref 1), c4, c5] [o, .lst (found.map Val.str)] = .ok (.nx, [some (.ref 0), some (.int (many : Int)), some (.ls (words.map Val.str)), some (.ref 1), c4, some (.str t)]) [o', .lst (found.map Val.str)] := by
    rw [exS, e]
    rfl
  by_cases q1 : found.length < many
  · have q1' : (found.length : Int) < (many : Int) := by omega
    by_cases q2 : t ∈ found
    · refine ⟨o', found, some (.str t), b', hf, ?_⟩
      refine (nx_ h1).trans ?_
      simp only [runF, exSs, exS, evE, evEs, R.bind_ok, R.bind_bad, R.bind_exc, ofO_some, ofO_none, bindT, setAll, List.length_cons, List.length_nil, List.map_cons, List.map_nil, List.getElem?_cons_zero, List.getElem?_cons_succ, List.cons_append, List.nil_append, List.set_cons_zero, List.set_cons_succ, Nat.zero_add, Nat.add_zero, Nat.le_refl, and_self, if_true, true_and, and_true, List.replicate_succ, List.replicate_zero, Nat.sub_self, Nat.reduceSub, Nat.reduceAdd, Nat.reduceLeDiff, Nat.reduceEqDiff, Nat.zero_le, small, tru_bl, isNon, Bool.not_true, Bool.not_false, hb, lt_int, decide_eq_true q1', hnot, decide_eq_true q2]
    · refine ⟨o', found ++ [t], some (.str t), b', ⟨?_, ?_, ?_, ?_⟩, ?_⟩
      · rw [List.nodup_append]
        refine ⟨hf.nd, by simp, fun a ha b hb => ?_⟩
        rw [List.mem_singleton.mp hb]
        intro he
        exact q2 (he ▸ ha)
      · intro u hu
        rcases List.mem_append.mp hu with hu | hu
        · exact hf.ok u hu
        · rw [List.mem_singleton.mp hu]; exact t1
      · intro u hu
        rcases List.mem_append.mp hu with hu | hu
        · exact hf.nq u hu
        · rw [List.mem_singleton.mp hu]; exact t2
      · rw [List.length_append, List.length_singleton]; omega
      · refine (nx_ h1).trans ?_
        simp only [runF, exSs, exS, evE, evEs, R.bind_ok, R.bind_bad, R.bind_exc, ofO_some, ofO_none, bindT, setAll, List.length_cons, List.length_nil, List.map_cons, List.map_nil, List.getElem?_cons_zero, List.getElem?_cons_succ, List.cons_append, List.nil_append, List.set_cons_zero, List.set_cons_succ, Nat.zero_add, Nat.add_zero, Nat.le_refl, and_self, if_true, true_and, and_true, List.replicate_succ, List.replicate_zero, Nat.sub_self, Nat.reduceSub, Nat.reduceAdd, Nat.reduceLeDiff, Nat.reduceEqDiff, Nat.zero_le, small, tru_bl, isNon, Bool.not_true, Bool.not_false, hb, lt_int, decide_eq_true q1', hnot, decide_eq_false q2, isLst, lstOf, Option.isSome_some, happ]
  · have q1' : ¬ (found.length : Int) < (many : Int) := by omega
    refine ⟨o', found, some (.str t), b', hf, ?_⟩
    refine (nx_ h1).trans ?_
    simp only [runF, exSs, exS, evE, evEs, R.bind_ok, R.bind_bad, R.bind_exc, ofO_some, ofO_none, bindT, setAll, List.length_cons, List.length_nil, List.map_cons, List.map_nil, List.getElem?_cons_zero, List.getElem?_cons_succ, List.cons_append, List.nil_append, List.set_cons_zero, List.set_cons_succ, Nat.zero_add, Nat.add_zero, Nat.le_refl, and_self, if_true, true_and, and_true, List.replicate_succ, List.replicate_zero, Nat.sub_self, Nat.reduceSub, Nat.reduceAdd, Nat.reduceLeDiff, Nat.reduceEqDiff, Nat.zero_le, small, tru_bl, isNon, Bool.not_true, Bool.not_false, hb, lt_int, decide_eq_false q1']
theorem names_2 (n : Nat) (many : Nat) (hm : many ≤ 11) (kp : Store → Bool) (hk : ∀ st, kp st = true) : ∀ (xs : List Val) (o : Obj), BoxO o → ∀ (c4 c5 : Option Val) (found : List Str), FndOk many found →
    ∃ (o' : Obj) (found' : List Str) (c4' c5' : Option Val), BoxO o' ∧ FndOk many found' ∧ forL (exSs (callN prog (n + 2)) b__law_names_1) (.nm 4) kp xs [some (.ref 0), some (.int (many : Int)), some (.ls (words.map Val.str)), some (.ref 1), c4, c5] [o, .lst (found.map Val.str)]
      = .ok (.nx, [some (.ref 0), some (.int (many : Int)), some (.ls (words.map Val.str)), some (.ref 1), c4', c5']) [o', .lst (found'.map Val.str)]
  | [], o, h, c4, c5, found, hf => ⟨o, found, c4, c5, h, hf, by simp only [forL, hk, if_true]⟩
  | x :: xs, o, h, c4, c5, found, hf => by
    obtain ⟨o1, f1, d5, b1, g1, e1⟩ := names_1 h n many hm (some x) c5 found hf
    obtain ⟨o2, f2, d4, d5', b2, g2, e2⟩ := names_2 n many hm kp hk xs o1 b1 (some x) d5 f1 g1
    refine ⟨o2, f2, d4, d5', b2, g2, ?_⟩
    simp only [forL, hk, bindT, setAll, List.set_cons_zero, List.set_cons_succ, e1, R.bind_ok]
    exact e2
/-- q, a sign, q -/
def qn (k : Nat) : Str := ⟨#[113, 97 + k, 113]⟩
theorem qn_ok (k : Nat) (h : k < 26) : NameOk (qn k) := by
  refine ⟨show 0 < 3 by decide, show 3 ≤ 12 by decide, fun c hc => ?_⟩
  have : c = 113 ∨ c = 97 + k ∨ c = 113 := by simpa [qn] using hc
  omega
theorem qn_q (k : Nat) : ¬ NoQ (qn k) := fun h => h 113 (by simp [qn]) rfl
theorem qn_inj {j k : Nat} (h : qn j = qn k) : j = k := by
  have := congrArg (fun t : Str => t.cps.toList) h
  simp [qn] at this
  exact this
theorem qn_cat (st : Store) (k : Nat) (h : k < 26) : ∃ u, itemV st (.str "abcdefghijklmnopqrstuvwxyz") (.int (k : Int)) = some (.str u) ∧ ∃ v, opS st .add (.str "q") (.str u) = some (.str v) ∧ opS st .add (.str v) (.str "q") = some (.str (qn k)) := by
  have e : itemV st (.str "abcdefghijklmnopqrstuvwxyz") (.int (k : Int)) = some (.str ⟨#[97 + k]⟩) := by
    have hh : ∀ k : Nat, k < 26 → ixAt ("abcdefghijklmnopqrstuvwxyz" : Str).length (k : Int) = some k ∧ (("abcdefghijklmnopqrstuvwxyz" : Str).cps.toList[k]?) = some (97 + k) := by decide +kernel
    obtain ⟨h1, h2⟩ := hh k h
    have h3 : ("abcdefghijklmnopqrstuvwxyz" : Str).length ≤ 100000 := by decide +kernel
    simp only [itemV, isDict, h1, if_pos h3, h2, Option.map_some]
  refine ⟨_, e, ⟨#[113, 97 + k]⟩, ?_, ?_⟩
  · rfl
  · rfl
theorem names_3 (cf : CallF) (c1 c2 c5 : Option Val) (o : Obj) (kp : Store → Bool) (hk : ∀ st, kp st = true) : ∀ (m s : Nat) (c4 : Option Val) (l : List Str), s + m ≤ 26 → l.length + m < 500 →
    ∃ c4', forL (exSs cf b__law_names_2) (.nm 4) kp ((List.range' s m).map fun i : Nat => Val.int (i : Int)) [some (.ref 0), c1, c2, some (.ref 1), c4, c5] [o, .lst (l.map Val.str)]
      = .ok (.nx, [some (.ref 0), c1, c2, some (.ref 1), c4', c5]) [o, .lst ((l ++ (List.range' s m).map qn).map Val.str)]
  | 0, s, c4, l, _, _ => ⟨c4, by simp only [List.range'_zero, List.map_nil, forL, hk, if_true, List.append_nil]⟩
  | m + 1, s, c4, l, h, hl => by
    obtain ⟨c4', e⟩ := names_3 cf c1 c2 c5 o kp hk m (s + 1) (some (.int (s : Int))) (l ++ [qn s]) (by omega) (by simp; omega)
    refine ⟨c4', ?_⟩
    obtain ⟨u, h1, v, h2, h3⟩ := qn_cat [o, .lst (l.map Val.str)] s (by omega)
    have happ : appV [o, .lst (l.map Val.str)] (.ref 1) (.str (qn s)) = .ok () [o, .lst ((l ++ [qn s]).map Val.str)] := by
      rw [app_at (xs := l.map Val.str) rfl _ (by rw [List.length_map]; omega)]
      simp
    have hb : exSs cf b__law_names_2 [some (.ref 0), c1, c2, some (.ref 1), some (.int (s : Int)), c5] [o, .lst (l.map Val.str)] = .ok (.nx, [some (.ref 0), c1, c2, some (.ref 1), some (.int (s : Int)), c5]) [o, .lst ((l ++ [qn s]).map Val.str)] := by
      simp only [b__law_names_2, runF, exSs, exS, evE, evEs, R.bind_ok, R.bind_bad, R.bind_exc, ofO_some, ofO_none, bindT, setAll, List.length_cons, List.length_nil, List.map_cons, List.map_nil, List.getElem?_cons_zero, List.getElem?_cons_succ, List.cons_append, List.nil_append, List.set_cons_zero, List.set_cons_succ, Nat.zero_add, Nat.add_zero, Nat.le_refl, and_self, if_true, true_and, and_true, List.replicate_succ, List.replicate_zero, Nat.sub_self, Nat.reduceSub, Nat.reduceAdd, Nat.reduceLeDiff, Nat.reduceEqDiff, Nat.zero_le, small, tru_bl, isNon, Bool.not_true, Bool.not_false, isLst, lstOf, Option.isSome_some, h1, h2, h3, happ]
    rw [List.range'_succ]
    simp only [List.map_cons, forL, hk, bindT, setAll, List.set_cons_zero, List.set_cons_succ, hb, R.bind_ok]
    rw [e, List.append_assoc]
    rfl
theorem qns_nodup (m : Nat) : ((List.range' 0 m).map qn).Nodup := by
  rw [List.nodup_iff_pairwise_ne, List.pairwise_map]
  refine List.Pairwise.imp ?_ (List.nodup_range' (s := 0) (n := m) (step := 1))
  intro a b hab he
  exact hab (qn_inj he)
theorem run_names (n : Nat) (many : Int) (o o' : Obj) (W L1 L2 : List Val) (l1 l2 : List Val) (Q r : Val) (c4 c5 c4' : Option Val) (hW : evE (callN prog (n + 2)) (.lst [(.cst (.str "add")), (.cst (.str "and")), (.cst (.str "any")), (.cst (.str "cell")), (.cst (.str "drop")), (.cst (.str "end")), (.cst (.str "event")), (.cst (.str "held")), (.cst (.str "input")), (.cst (.str "keeps")), (.cst (.str "late")), (.cst (.str "loop")), (.cst (.str "match")), (.cst (.str "net")), (.cst (.str "state")), (.cst (.str "strike")), (.cst (.str "when")), (.cst (.str "worth")), (.cst (.str "yes"))]) [some (.ref 0), some (.int many), none, none, none, none] [o] = .ok (.ls W) [o])
    (w1 : ∀ st, walkV st .range [.int 60] = some L1)
    (e1 : forL (exSs (callN prog (n + 2)) b__law_names_1) (.nm 4) (keepW .range [.int 60] L1) L1 [some (.ref 0), some (.int many), some (.ls W), some (.ref 1), none, none] [o, .lst []] = .ok (.nx, [some (.ref 0), some (.int many), some (.ls W), some (.ref 1), c4, c5]) [o', .lst l1])
    (hb : b1V [o', .lst l1] .len (.ref 1) = some Q) (q : Val) (hs : opS [o', .lst l1] .sub (.int many) Q = some q) (w2 : walkV [o', .lst l1] .range [q] = some L2)
    (e2 : forL (exSs (callN prog (n + 2)) b__law_names_2) (.nm 4) (keepW .range [q] L2) L2 [some (.ref 0), some (.int many), some (.ls W), some (.ref 1), c4, c5] [o', .lst l1] = .ok (.nx, [some (.ref 0), some (.int many), some (.ls W), some (.ref 1), c4', c5]) [o', .lst l2])
    (hr : b1V [o', .lst l2] .sorted (.ref 1) = some r) :
    callN prog (n + 3) "_law_names" [.ref 0, .int many] [o] = .ok r [o', .lst l2] := by
  rw [callN_at lk_names]
  refine run_ (env' := [some (.ref 0), some (.int many), some (.ls W), some (.ref 1), c4', c5]) ⟨rfl, by decide⟩ [some (.ref 0), some (.int many), none, none, none, none] rfl ?_
  refine (nx_ (env' := [some (.ref 0), some (.int many), some (.ls W), none, none, none]) (st' := [o]) (by rw [exS, hW]; rfl)).trans ?_
  refine (nx_ (env' := [some (.ref 0), some (.int many), some (.ls W), some (.ref 1), none, none]) (st' := [o, .lst []]) (by simp only [runF, exSs, exS, evE, evEs, R.bind_ok, R.bind_bad, R.bind_exc, ofO_some, ofO_none, bindT, setAll, List.length_cons, List.length_nil, List.map_cons, List.map_nil, List.getElem?_cons_zero, List.getElem?_cons_succ, List.cons_append, List.nil_append, List.set_cons_zero, List.set_cons_succ, Nat.zero_add, Nat.add_zero, Nat.le_refl, and_self, if_true, true_and, and_true, List.replicate_succ, List.replicate_zero, Nat.sub_self, Nat.reduceSub, Nat.reduceAdd, Nat.reduceLeDiff, Nat.reduceEqDiff, Nat.zero_le, small, tru_bl, isNon, Bool.not_true, Bool.not_false, ownV])).trans ?_
  refine (nx_ (env' := [some (.ref 0), some (.int many), some (.ls W), some (.ref 1), c4, c5]) (st' := [o', .lst l1]) (by simp only [runF, exSs, exS, evE, evEs, R.bind_ok, R.bind_bad, R.bind_exc, ofO_some, ofO_none, bindT, setAll, List.length_cons, List.length_nil, List.map_cons, List.map_nil, List.getElem?_cons_zero, List.getElem?_cons_succ, List.cons_append, List.nil_append, List.set_cons_zero, List.set_cons_succ, Nat.zero_add, Nat.add_zero, Nat.le_refl, and_self, if_true, true_and, and_true, List.replicate_succ, List.replicate_zero, Nat.sub_self, Nat.reduceSub, Nat.reduceAdd, Nat.reduceLeDiff, Nat.reduceEqDiff, Nat.zero_le, small, tru_bl, isNon, Bool.not_true, Bool.not_false, w1, e1])).trans ?_
  refine (nx_ (env' := [some (.ref 0), some (.int many), some (.ls W), some (.ref 1), c4', c5]) (st' := [o', .lst l2]) (by simp only [runF, exSs, exS, evE, evEs, R.bind_ok, R.bind_bad, R.bind_exc, ofO_some, ofO_none, bindT, setAll, List.length_cons, List.length_nil, List.map_cons, List.map_nil, List.getElem?_cons_zero, List.getElem?_cons_succ, List.cons_append, List.nil_append, List.set_cons_zero, List.set_cons_succ, Nat.zero_add, Nat.add_zero, Nat.le_refl, and_self, if_true, true_and, and_true, List.replicate_succ, List.replicate_zero, Nat.sub_self, Nat.reduceSub, Nat.reduceAdd, Nat.reduceLeDiff, Nat.reduceEqDiff, Nat.zero_le, small, tru_bl, isNon, Bool.not_true, Bool.not_false, hb, hs, w2, e2])).trans ?_
  exact rt_ (by simp only [runF, exSs, exS, evE, evEs, R.bind_ok, R.bind_bad, R.bind_exc, ofO_some, ofO_none, bindT, setAll, List.length_cons, List.length_nil, List.map_cons, List.map_nil, List.getElem?_cons_zero, List.getElem?_cons_succ, List.cons_append, List.nil_append, List.set_cons_zero, List.set_cons_succ, Nat.zero_add, Nat.add_zero, Nat.le_refl, and_self, if_true, true_and, and_true, List.replicate_succ, List.replicate_zero, Nat.sub_self, Nat.reduceSub, Nat.reduceAdd, Nat.reduceLeDiff, Nat.reduceEqDiff, Nat.zero_le, small, tru_bl, isNon, Bool.not_true, Bool.not_false, hr])
theorem under_I (n : Nat) : ∀ l : List Int, underAll n (l.map Val.int) = true
  | [] => rfl
  | d :: l => by simp only [List.map_cons, underAll, Val.under, Bool.true_and]; exact under_I n l
theorem boxO_under {o : Obj} (h : BoxO o) (n : Nat) : o.under n = true := by
  obtain ⟨row, i, rfl, _⟩ := h
  simp [boxO, Obj.under, underKV, Val.under, under_I]
theorem v_names {o : Obj} (h : BoxO o) (n : Nat) (many : Nat) (hm : many ≤ 11) : ∃ (o' : Obj) (l : List Str), BoxO o' ∧ l.length = many ∧ (∀ t ∈ l, NameOk t) ∧ l.Pairwise ltS ∧ callV (callN prog (n + 3)) "_law_names" [.ref 0, .int (many : Int)] [o] = .ok (.ls (l.map Val.str)) [o'] := by
  obtain ⟨o', found, c4, c5, b', hf, e1⟩ := names_2 n many hm (keepW .range [.int 60] (rangeV 60)) (fun st => keep_int _ _ _ _) (rangeV 60) o h none none [] ⟨by simp, by simp, by simp, by simp⟩
  have hle := hf.le
  obtain ⟨c4', e2⟩ := names_3 (callN prog (n + 2)) (some (.int (many : Int))) (some (.ls (words.map Val.str))) c5 o' (keepW .range [.int ((many : Int) - (found.length : Int))] (rangeV ((many : Int) - (found.length : Int)))) (fun st => keep_int _ _ _ _) (many - found.length) 0 c4 found (by omega) (by omega)
  have e0 : rangeV ((many : Int) - (found.length : Int)) = (List.range' 0 (many - found.length)).map fun i : Nat => Val.int (i : Int) := by
    have : ((many : Int) - (found.length : Int)).toNat = many - found.length := by omega
    unfold rangeV
    rw [this, List.range_eq_range']
  rw [← e0] at e2
  have hlen : (found ++ (List.range' 0 (many - found.length)).map qn).length = many := by simp; omega
  have hnd : (found ++ (List.range' 0 (many - found.length)).map qn).Nodup := by
    rw [List.nodup_append]
    refine ⟨hf.nd, qns_nodup _, fun a ha b hb he => ?_⟩
    obtain ⟨k, _, rfl⟩ := List.mem_map.mp hb
    exact qn_q k (he ▸ hf.nq a ha)
  have hok : ∀ t ∈ found ++ (List.range' 0 (many - found.length)).map qn, NameOk t := by
    intro t ht
    rcases List.mem_append.mp ht with ht | ht
    · exact hf.ok t ht
    · obtain ⟨k, hk, rfl⟩ := List.mem_map.mp ht
      have := List.mem_range'_1.mp hk
      exact qn_ok k (by omega)
  have hstr : ∀ l : List Str, strsOf (l.map Val.str) = some l := by
    intro l
    induction l with
    | nil => rfl
    | cons t l ih => simp only [List.map_cons, strsOf, ih, Option.map_some]
  have hr : b1V [o', .lst ((found ++ (List.range' 0 (many - found.length)).map qn).map Val.str)] .sorted (.ref 1) = some (.ls ((sortS (found ++ (List.range' 0 (many - found.length)).map qn)).map Val.str)) := by
    have h64 : (found ++ (List.range' 0 (many - found.length)).map qn).length < 64 := by omega
    simp only [b1V, lstOf, List.getElem?_cons_succ, List.getElem?_cons_zero, hstr, Option.bind_some, if_pos h64]
  have hb : b1V [o', .lst (found.map Val.str)] .len (.ref 1) = some (.int (found.length : Int)) := by rw [len_ref (xs := found.map Val.str) rfl, List.length_map]
  have hrun := run_names n (many : Int) o o' (words.map Val.str) (rangeV 60) (rangeV ((many : Int) - (found.length : Int))) (found.map Val.str) _ (.int (found.length : Int)) _ c4 c5 c4' (by simp only [runF, exSs, exS, evE, evEs, R.bind_ok, R.bind_bad, R.bind_exc, ofO_some, ofO_none, bindT, setAll, List.length_cons, List.length_nil, List.map_cons, List.map_nil, List.getElem?_cons_zero, List.getElem?_cons_succ, List.cons_append, List.nil_append, List.set_cons_zero, List.set_cons_succ, Nat.zero_add, Nat.add_zero, Nat.le_refl, and_self, if_true, true_and, and_true, List.replicate_succ, List.replicate_zero, Nat.sub_self, Nat.reduceSub, Nat.reduceAdd, Nat.reduceLeDiff, Nat.reduceEqDiff, Nat.zero_le, small, tru_bl, isNon, Bool.not_true, Bool.not_false]; rfl) (fun st => rfl) e1 hb _ (op_sub _ _ _) (walk_rg _ _ (by omega) (by omega)) e2 hr
  refine ⟨o', sortS (found ++ (List.range' 0 (many - found.length)).map qn), b', ?_, ?_, sortS_lt hnd, ?_⟩
  · rw [(sortS_perm _).length_eq, hlen]
  · intro t ht
    exact hok t ((sortS_perm _).subset ht)
  · have hp : pureAll [.ref 0, .int (many : Int)] = false := rfl
    have hu : allUnder 1 [o', .lst ((found ++ (List.range' 0 (many - found.length)).map qn).map Val.str)] = true := by simp [allUnder, boxO_under b' 1]
    have hv : ∀ l : List Str, thaw 100000 [o', .lst ((found ++ (List.range' 0 (many - found.length)).map qn).map Val.str)] 1 (.ls (l.map Val.str)) = some (.ls (l.map Val.str)) := fun l => by
      show (if (Val.ls (l.map Val.str)).under 1 = true then some (Val.ls (l.map Val.str)) else _) = _
      rw [if_pos (by simp only [Val.under, under_S])]
    have hne : ¬ [o', Obj.lst ((found ++ (List.range' 0 (many - found.length)).map qn).map Val.str)].length = 1 := by simp
    have hle1 : (decide (1 ≤ [o', Obj.lst ((found ++ (List.range' 0 (many - found.length)).map qn).map Val.str)].length)) = true := by simp
    have h1 : [o].length = 1 := rfl
    simp only [callV, hp, hrun, leave, h1, if_neg hne, hu, hle1, Bool.and_self, if_true, hv, List.take_succ_cons, List.take_zero]
end PV
end

section
set_option Elab.async false
set_option linter.all false
set_option maxRecDepth 100000
set_option maxHeartbeats 1000000
namespace PV
open PySem L2
/-! ### forms that are drawn -/
/-- a comprehension that draws, the box first -/
theorem lc_box {α β : Type} {f : Env → Store → R Val} {tg : Tg} {env : Env} {keep : Store → Bool} {r : Store} (hx : α → Val) (hy : β → Val) (P : α → β → Prop) (hk : ∀ o, keep (o :: r) = true) :
    ∀ (xs : List α), (∀ x ∈ xs, ∀ o, BoxO o → ∃ e y o', bindT tg (hx x) env = some e ∧ f e (o :: r) = .ok (hy y) (o' :: r) ∧ P x y ∧ BoxO o') → ∀ (acc : List Val) (o : Obj), BoxO o → acc.length + xs.length ≤ 1000 →
    ∃ (ys : List β) (o' : Obj), lcL f none tg keep env (xs.map hx) acc (o :: r) = .ok (acc ++ ys.map hy) (o' :: r) ∧ ys.length = xs.length ∧ (∀ y ∈ ys, ∃ x ∈ xs, P x y) ∧ BoxO o' ∧ (∀ {γ : Type} (ka : α → γ) (kb : β → γ), (∀ x y, P x y → kb y = ka x) → ys.map kb = xs.map ka)
  | [], _, acc, o, hb, _ => ⟨[], o, by simp only [List.map_nil, lcL, hk, if_true, List.append_nil], rfl, by simp, hb, by intros; rfl⟩
  | x :: xs, hf, acc, o, hb, hl => by
    simp only [List.length_cons] at hl
    obtain ⟨e, y, o1, h1, h2, h3, h4⟩ := hf x List.mem_cons_self o hb
    obtain ⟨ys, o2, h5, h6, h7, h8, h9⟩ := lc_box hx hy P hk xs (fun z hz => hf z (List.mem_cons_of_mem _ hz)) (acc ++ [hy y]) o1 h4 (by simp; omega)
    have hs : acc.length < small := by
      have : small = 100000 := rfl
      omega
    refine ⟨y :: ys, o2, ?_, by simp [h6], ?_, h8, ?_⟩
    · simp only [List.map_cons, lcL, hk, h1, h2, R.bind_ok, if_pos hs, h5]
      simp
    · intro w hw
      rcases List.mem_cons.mp hw with rfl | hw
      · exact ⟨x, List.mem_cons_self, h3⟩
      · obtain ⟨z, hz, hp⟩ := h7 w hw
        exact ⟨z, List.mem_cons_of_mem _ hz, hp⟩
    · intro γ ka kb hp
      rw [List.map_cons, List.map_cons, h9 ka kb hp, hp x y h3]
theorem takes {o : Obj} (h : BoxO o) (n : Nat) (sz : Int) (s0 : 2 ≤ sz) (s1 : sz ≤ 5) (env : Env) (r : Store) (h0 : env[0]? = some (some (.ref 0)) := by rfl) (h1 : env[1]? = some (some (.int sz)) := by rfl) (h6 : ∀ v : Val, (setAll env [6] [v])[0]? = some (some (.ref 0)) ∧ (setAll env [6] [v])[1]? = some (some (.int sz)) := by intro v; exact ⟨rfl, rfl⟩) :
    ∃ (ws : List Int) (o' : Obj), (ws.length : Int) = sz ∧ (∀ w ∈ ws, 0 ≤ w ∧ w < sz) ∧ BoxO o' ∧ lcL (evE (callN prog (n + 2)) e__law_form_1) none (.nm 6) (keepW .range [.int sz] (rangeV sz)) env (rangeV sz) [] (o :: r) = .ok (ws.map Val.int) (o' :: r) := by
  obtain ⟨ws, o', e1, e2, e3, e4, _⟩ := lc_box (f := evE (callN prog (n + 2)) e__law_form_1) (tg := .nm 6) (env := env) (keep := keepW .range [.int sz] (rangeV sz)) (r := r) (fun k : Nat => Val.int (k : Int)) Val.int (fun _ w => 0 ≤ w ∧ w < sz) (fun o => keep_int _ _ _ _) (List.range sz.toNat) (fun k _ o hb => by
    obtain ⟨w, o1, w0, w1, b1, e1⟩ := tk hb (n + 1) sz r (by omega)
    exact ⟨_, w, o1, rfl, by simp only [e__law_form_1, evE, evEs, (h6 _).1, (h6 _).2, R.bind_ok, e1], ⟨w0, w1⟩, b1⟩) [] o h (by simp; omega)
  refine ⟨ws, o', by rw [e2, List.length_range]; omega, fun w hw => ?_, e4, by rw [List.nil_append] at e1; exact e1⟩
  obtain ⟨_, _, hp⟩ := e3 w hw
  exact hp
theorem form_worth {o : Obj} (h : BoxO o) (n : Nat) (sz : Int) (s0 : 2 ≤ sz) (s1 : sz ≤ 5) (nl : List Str) (x y : Str) (hx : NameOk x) (hy : NameOk y) (r : Store) :
    ∃ (fm : Val) (ns : List Str) (kd : Kd) (o' : Obj) (env' : Env), FormOk sz fm ns kd ∧ (∀ z ∈ ns, z = x ∨ z = y) ∧ BoxO o' ∧ exSs (callN prog (n + 2)) (d__law_form.fn.body.drop 2) [some (.ref 0), some (.int sz), some (.ls (nl.map Val.str)), some (.str "worth"), some (.str x), some (.str y), none] (o :: r) = .ok (.rt fm, env') (o' :: r) := by
  have k0 : ∀ st : Store, cmpV st .eq (.str "worth") (.str "worth") = some true := fun st => eq_c st _ _ true (by decide +kernel)
  obtain ⟨w, o1, w0, w1, b1, e1⟩ := tk h (n + 1) sz r (by omega)
  refine ⟨_, _, _, o1, [some (.ref 0), some (.int sz), some (.ls (nl.map Val.str)), some (.str "worth"), some (.str x), some (.str y), none], .worth w w0 w1, by simp, b1, ?_⟩
  simp only [d__law_form, List.drop_succ_cons, List.drop_zero, runF, exSs, exS, evE, evEs, R.bind_ok, R.bind_bad, R.bind_exc, ofO_some, ofO_none, bindT, setAll, List.length_cons, List.length_nil, List.map_cons, List.map_nil, List.getElem?_cons_zero, List.getElem?_cons_succ, List.cons_append, List.nil_append, List.set_cons_zero, List.set_cons_succ, Nat.zero_add, Nat.add_zero, Nat.le_refl, and_self, if_true, true_and, and_true, List.replicate_succ, List.replicate_zero, Nat.sub_self, Nat.reduceSub, Nat.reduceAdd, Nat.reduceLeDiff, Nat.reduceEqDiff, Nat.zero_le, small, tru_bl, isNon, Bool.not_true, Bool.not_false, k0, e1]
theorem form_copy {o : Obj} (h : BoxO o) (n : Nat) (sz : Int) (s0 : 2 ≤ sz) (s1 : sz ≤ 5) (nl : List Str) (x y : Str) (hx : NameOk x) (hy : NameOk y) (r : Store) :
    ∃ (fm : Val) (ns : List Str) (kd : Kd) (o' : Obj) (env' : Env), FormOk sz fm ns kd ∧ (∀ z ∈ ns, z = x ∨ z = y) ∧ BoxO o' ∧ exSs (callN prog (n + 2)) (d__law_form.fn.body.drop 2) [some (.ref 0), some (.int sz), some (.ls (nl.map Val.str)), some (.str "copy"), some (.str x), some (.str y), none] (o :: r) = .ok (.rt fm, env') (o' :: r) := by
  have k0 : ∀ st : Store, cmpV st .eq (.str "copy") (.str "worth") = some false := fun st => eq_c st _ _ false (by decide +kernel)
  have k1 : ∀ st : Store, cmpV st .isin (.str "copy") (.tup [.str "copy", .str "there"]) = some true := fun st => in_c st _ ["copy", "there"] true (by decide +kernel)
  refine ⟨_, _, _, o, [some (.ref 0), some (.int sz), some (.ls (nl.map Val.str)), some (.str "copy"), some (.str x), some (.str y), none], .copy x hx, (by intro z hz; simp at hz; exact .inl hz), h, ?_⟩
  simp only [d__law_form, List.drop_succ_cons, List.drop_zero, runF, exSs, exS, evE, evEs, R.bind_ok, R.bind_bad, R.bind_exc, ofO_some, ofO_none, bindT, setAll, List.length_cons, List.length_nil, List.map_cons, List.map_nil, List.getElem?_cons_zero, List.getElem?_cons_succ, List.cons_append, List.nil_append, List.set_cons_zero, List.set_cons_succ, Nat.zero_add, Nat.add_zero, Nat.le_refl, and_self, if_true, true_and, and_true, List.replicate_succ, List.replicate_zero, Nat.sub_self, Nat.reduceSub, Nat.reduceAdd, Nat.reduceLeDiff, Nat.reduceEqDiff, Nat.zero_le, small, tru_bl, isNon, Bool.not_true, Bool.not_false, k0, k1]
theorem form_there {o : Obj} (h : BoxO o) (n : Nat) (sz : Int) (s0 : 2 ≤ sz) (s1 : sz ≤ 5) (nl : List Str) (x y : Str) (hx : NameOk x) (hy : NameOk y) (r : Store) :
    ∃ (fm : Val) (ns : List Str) (kd : Kd) (o' : Obj) (env' : Env), FormOk sz fm ns kd ∧ (∀ z ∈ ns, z = x ∨ z = y) ∧ BoxO o' ∧ exSs (callN prog (n + 2)) (d__law_form.fn.body.drop 2) [some (.ref 0), some (.int sz), some (.ls (nl.map Val.str)), some (.str "there"), some (.str x), some (.str y), none] (o :: r) = .ok (.rt fm, env') (o' :: r) := by
  have k0 : ∀ st : Store, cmpV st .eq (.str "there") (.str "worth") = some false := fun st => eq_c st _ _ false (by decide +kernel)
  have k1 : ∀ st : Store, cmpV st .isin (.str "there") (.tup [.str "copy", .str "there"]) = some true := fun st => in_c st _ ["copy", "there"] true (by decide +kernel)
  refine ⟨_, _, _, o, [some (.ref 0), some (.int sz), some (.ls (nl.map Val.str)), some (.str "there"), some (.str x), some (.str y), none], .there x hx, (by intro z hz; simp at hz; exact .inl hz), h, ?_⟩
  simp only [d__law_form, List.drop_succ_cons, List.drop_zero, runF, exSs, exS, evE, evEs, R.bind_ok, R.bind_bad, R.bind_exc, ofO_some, ofO_none, bindT, setAll, List.length_cons, List.length_nil, List.map_cons, List.map_nil, List.getElem?_cons_zero, List.getElem?_cons_succ, List.cons_append, List.nil_append, List.set_cons_zero, List.set_cons_succ, Nat.zero_add, Nat.add_zero, Nat.le_refl, and_self, if_true, true_and, and_true, List.replicate_succ, List.replicate_zero, Nat.sub_self, Nat.reduceSub, Nat.reduceAdd, Nat.reduceLeDiff, Nat.reduceEqDiff, Nat.zero_le, small, tru_bl, isNon, Bool.not_true, Bool.not_false, k0, k1]
theorem form_add {o : Obj} (h : BoxO o) (n : Nat) (sz : Int) (s0 : 2 ≤ sz) (s1 : sz ≤ 5) (nl : List Str) (x y : Str) (hx : NameOk x) (hy : NameOk y) (r : Store) :
    ∃ (fm : Val) (ns : List Str) (kd : Kd) (o' : Obj) (env' : Env), FormOk sz fm ns kd ∧ (∀ z ∈ ns, z = x ∨ z = y) ∧ BoxO o' ∧ exSs (callN prog (n + 2)) (d__law_form.fn.body.drop 2) [some (.ref 0), some (.int sz), some (.ls (nl.map Val.str)), some (.str "add"), some (.str x), some (.str y), none] (o :: r) = .ok (.rt fm, env') (o' :: r) := by
  have k0 : ∀ st : Store, cmpV st .eq (.str "add") (.str "worth") = some false := fun st => eq_c st _ _ false (by decide +kernel)
  have k1 : ∀ st : Store, cmpV st .isin (.str "add") (.tup [.str "copy", .str "there"]) = some false := fun st => in_c st _ ["copy", "there"] false (by decide +kernel)
  have k2 : ∀ st : Store, cmpV st .eq (.str "add") (.str "turn") = some false := fun st => eq_c st _ _ false (by decide +kernel)
  have k3 : ∀ st : Store, cmpV st .isin (.str "add") (.tup [.str "held", .str "before"]) = some false := fun st => in_c st _ ["held", "before"] false (by decide +kernel)
  have k4 : ∀ st : Store, cmpV st .eq (.str "add") (.str "late") = some false := fun st => eq_c st _ _ false (by decide +kernel)
  have k5 : ∀ st : Store, cmpV st .eq (.str "add") (.str "match") = some false := fun st => eq_c st _ _ false (by decide +kernel)
  refine ⟨_, _, _, o, [some (.ref 0), some (.int sz), some (.ls (nl.map Val.str)), some (.str "add"), some (.str x), some (.str y), none], .two "add" x y (by decide +kernel) hx hy, (by intro z hz; simpa using hz), h, ?_⟩
  simp only [d__law_form, List.drop_succ_cons, List.drop_zero, runF, exSs, exS, evE, evEs, R.bind_ok, R.bind_bad, R.bind_exc, ofO_some, ofO_none, bindT, setAll, List.length_cons, List.length_nil, List.map_cons, List.map_nil, List.getElem?_cons_zero, List.getElem?_cons_succ, List.cons_append, List.nil_append, List.set_cons_zero, List.set_cons_succ, Nat.zero_add, Nat.add_zero, Nat.le_refl, and_self, if_true, true_and, and_true, List.replicate_succ, List.replicate_zero, Nat.sub_self, Nat.reduceSub, Nat.reduceAdd, Nat.reduceLeDiff, Nat.reduceEqDiff, Nat.zero_le, small, tru_bl, isNon, Bool.not_true, Bool.not_false, k0, k1, k2, k3, k4, k5]
theorem form_times {o : Obj} (h : BoxO o) (n : Nat) (sz : Int) (s0 : 2 ≤ sz) (s1 : sz ≤ 5) (nl : List Str) (x y : Str) (hx : NameOk x) (hy : NameOk y) (r : Store) :
    ∃ (fm : Val) (ns : List Str) (kd : Kd) (o' : Obj) (env' : Env), FormOk sz fm ns kd ∧ (∀ z ∈ ns, z = x ∨ z = y) ∧ BoxO o' ∧ exSs (callN prog (n + 2)) (d__law_form.fn.body.drop 2) [some (.ref 0), some (.int sz), some (.ls (nl.map Val.str)), some (.str "times"), some (.str x), some (.str y), none] (o :: r) = .ok (.rt fm, env') (o' :: r) := by
  have k0 : ∀ st : Store, cmpV st .eq (.str "times") (.str "worth") = some false := fun st => eq_c st _ _ false (by decide +kernel)
  have k1 : ∀ st : Store, cmpV st .isin (.str "times") (.tup [.str "copy", .str "there"]) = some false := fun st => in_c st _ ["copy", "there"] false (by decide +kernel)
  have k2 : ∀ st : Store, cmpV st .eq (.str "times") (.str "turn") = some false := fun st => eq_c st _ _ false (by decide +kernel)
  have k3 : ∀ st : Store, cmpV st .isin (.str "times") (.tup [.str "held", .str "before"]) = some false := fun st => in_c st _ ["held", "before"] false (by decide +kernel)
  have k4 : ∀ st : Store, cmpV st .eq (.str "times") (.str "late") = some false := fun st => eq_c st _ _ false (by decide +kernel)
  have k5 : ∀ st : Store, cmpV st .eq (.str "times") (.str "match") = some false := fun st => eq_c st _ _ false (by decide +kernel)
  refine ⟨_, _, _, o, [some (.ref 0), some (.int sz), some (.ls (nl.map Val.str)), some (.str "times"), some (.str x), some (.str y), none], .two "times" x y (by decide +kernel) hx hy, (by intro z hz; simpa using hz), h, ?_⟩
  simp only [d__law_form, List.drop_succ_cons, List.drop_zero, runF, exSs, exS, evE, evEs, R.bind_ok, R.bind_bad, R.bind_exc, ofO_some, ofO_none, bindT, setAll, List.length_cons, List.length_nil, List.map_cons, List.map_nil, List.getElem?_cons_zero, List.getElem?_cons_succ, List.cons_append, List.nil_append, List.set_cons_zero, List.set_cons_succ, Nat.zero_add, Nat.add_zero, Nat.le_refl, and_self, if_true, true_and, and_true, List.replicate_succ, List.replicate_zero, Nat.sub_self, Nat.reduceSub, Nat.reduceAdd, Nat.reduceLeDiff, Nat.reduceEqDiff, Nat.zero_le, small, tru_bl, isNon, Bool.not_true, Bool.not_false, k0, k1, k2, k3, k4, k5]
theorem form_least {o : Obj} (h : BoxO o) (n : Nat) (sz : Int) (s0 : 2 ≤ sz) (s1 : sz ≤ 5) (nl : List Str) (x y : Str) (hx : NameOk x) (hy : NameOk y) (r : Store) :
    ∃ (fm : Val) (ns : List Str) (kd : Kd) (o' : Obj) (env' : Env), FormOk sz fm ns kd ∧ (∀ z ∈ ns, z = x ∨ z = y) ∧ BoxO o' ∧ exSs (callN prog (n + 2)) (d__law_form.fn.body.drop 2) [some (.ref 0), some (.int sz), some (.ls (nl.map Val.str)), some (.str "least"), some (.str x), some (.str y), none] (o :: r) = .ok (.rt fm, env') (o' :: r) := by
  have k0 : ∀ st : Store, cmpV st .eq (.str "least") (.str "worth") = some false := fun st => eq_c st _ _ false (by decide +kernel)
  have k1 : ∀ st : Store, cmpV st .isin (.str "least") (.tup [.str "copy", .str "there"]) = some false := fun st => in_c st _ ["copy", "there"] false (by decide +kernel)
  have k2 : ∀ st : Store, cmpV st .eq (.str "least") (.str "turn") = some false := fun st => eq_c st _ _ false (by decide +kernel)
  have k3 : ∀ st : Store, cmpV st .isin (.str "least") (.tup [.str "held", .str "before"]) = some false := fun st => in_c st _ ["held", "before"] false (by decide +kernel)
  have k4 : ∀ st : Store, cmpV st .eq (.str "least") (.str "late") = some false := fun st => eq_c st _ _ false (by decide +kernel)
  have k5 : ∀ st : Store, cmpV st .eq (.str "least") (.str "match") = some false := fun st => eq_c st _ _ false (by decide +kernel)
  refine ⟨_, _, _, o, [some (.ref 0), some (.int sz), some (.ls (nl.map Val.str)), some (.str "least"), some (.str x), some (.str y), none], .two "least" x y (by decide +kernel) hx hy, (by intro z hz; simpa using hz), h, ?_⟩
  simp only [d__law_form, List.drop_succ_cons, List.drop_zero, runF, exSs, exS, evE, evEs, R.bind_ok, R.bind_bad, R.bind_exc, ofO_some, ofO_none, bindT, setAll, List.length_cons, List.length_nil, List.map_cons, List.map_nil, List.getElem?_cons_zero, List.getElem?_cons_succ, List.cons_append, List.nil_append, List.set_cons_zero, List.set_cons_succ, Nat.zero_add, Nat.add_zero, Nat.le_refl, and_self, if_true, true_and, and_true, List.replicate_succ, List.replicate_zero, Nat.sub_self, Nat.reduceSub, Nat.reduceAdd, Nat.reduceLeDiff, Nat.reduceEqDiff, Nat.zero_le, small, tru_bl, isNon, Bool.not_true, Bool.not_false, k0, k1, k2, k3, k4, k5]
theorem form_most {o : Obj} (h : BoxO o) (n : Nat) (sz : Int) (s0 : 2 ≤ sz) (s1 : sz ≤ 5) (nl : List Str) (x y : Str) (hx : NameOk x) (hy : NameOk y) (r : Store) :
    ∃ (fm : Val) (ns : List Str) (kd : Kd) (o' : Obj) (env' : Env), FormOk sz fm ns kd ∧ (∀ z ∈ ns, z = x ∨ z = y) ∧ BoxO o' ∧ exSs (callN prog (n + 2)) (d__law_form.fn.body.drop 2) [some (.ref 0), some (.int sz), some (.ls (nl.map Val.str)), some (.str "most"), some (.str x), some (.str y), none] (o :: r) = .ok (.rt fm, env') (o' :: r) := by
  have k0 : ∀ st : Store, cmpV st .eq (.str "most") (.str "worth") = some false := fun st => eq_c st _ _ false (by decide +kernel)
  have k1 : ∀ st : Store, cmpV st .isin (.str "most") (.tup [.str "copy", .str "there"]) = some false := fun st => in_c st _ ["copy", "there"] false (by decide +kernel)
  have k2 : ∀ st : Store, cmpV st .eq (.str "most") (.str "turn") = some false := fun st => eq_c st _ _ false (by decide +kernel)
  have k3 : ∀ st : Store, cmpV st .isin (.str "most") (.tup [.str "held", .str "before"]) = some false := fun st => in_c st _ ["held", "before"] false (by decide +kernel)
  have k4 : ∀ st : Store, cmpV st .eq (.str "most") (.str "late") = some false := fun st => eq_c st _ _ false (by decide +kernel)
  have k5 : ∀ st : Store, cmpV st .eq (.str "most") (.str "match") = some false := fun st => eq_c st _ _ false (by decide +kernel)
  refine ⟨_, _, _, o, [some (.ref 0), some (.int sz), some (.ls (nl.map Val.str)), some (.str "most"), some (.str x), some (.str y), none], .two "most" x y (by decide +kernel) hx hy, (by intro z hz; simpa using hz), h, ?_⟩
  simp only [d__law_form, List.drop_succ_cons, List.drop_zero, runF, exSs, exS, evE, evEs, R.bind_ok, R.bind_bad, R.bind_exc, ofO_some, ofO_none, bindT, setAll, List.length_cons, List.length_nil, List.map_cons, List.map_nil, List.getElem?_cons_zero, List.getElem?_cons_succ, List.cons_append, List.nil_append, List.set_cons_zero, List.set_cons_succ, Nat.zero_add, Nat.add_zero, Nat.le_refl, and_self, if_true, true_and, and_true, List.replicate_succ, List.replicate_zero, Nat.sub_self, Nat.reduceSub, Nat.reduceAdd, Nat.reduceLeDiff, Nat.reduceEqDiff, Nat.zero_le, small, tru_bl, isNon, Bool.not_true, Bool.not_false, k0, k1, k2, k3, k4, k5]
theorem form_alike {o : Obj} (h : BoxO o) (n : Nat) (sz : Int) (s0 : 2 ≤ sz) (s1 : sz ≤ 5) (nl : List Str) (x y : Str) (hx : NameOk x) (hy : NameOk y) (r : Store) :
    ∃ (fm : Val) (ns : List Str) (kd : Kd) (o' : Obj) (env' : Env), FormOk sz fm ns kd ∧ (∀ z ∈ ns, z = x ∨ z = y) ∧ BoxO o' ∧ exSs (callN prog (n + 2)) (d__law_form.fn.body.drop 2) [some (.ref 0), some (.int sz), some (.ls (nl.map Val.str)), some (.str "alike"), some (.str x), some (.str y), none] (o :: r) = .ok (.rt fm, env') (o' :: r) := by
  have k0 : ∀ st : Store, cmpV st .eq (.str "alike") (.str "worth") = some false := fun st => eq_c st _ _ false (by decide +kernel)
  have k1 : ∀ st : Store, cmpV st .isin (.str "alike") (.tup [.str "copy", .str "there"]) = some false := fun st => in_c st _ ["copy", "there"] false (by decide +kernel)
  have k2 : ∀ st : Store, cmpV st .eq (.str "alike") (.str "turn") = some false := fun st => eq_c st _ _ false (by decide +kernel)
  have k3 : ∀ st : Store, cmpV st .isin (.str "alike") (.tup [.str "held", .str "before"]) = some false := fun st => in_c st _ ["held", "before"] false (by decide +kernel)
  have k4 : ∀ st : Store, cmpV st .eq (.str "alike") (.str "late") = some false := fun st => eq_c st _ _ false (by decide +kernel)
  have k5 : ∀ st : Store, cmpV st .eq (.str "alike") (.str "match") = some false := fun st => eq_c st _ _ false (by decide +kernel)
  refine ⟨_, _, _, o, [some (.ref 0), some (.int sz), some (.ls (nl.map Val.str)), some (.str "alike"), some (.str x), some (.str y), none], .two "alike" x y (by decide +kernel) hx hy, (by intro z hz; simpa using hz), h, ?_⟩
  simp only [d__law_form, List.drop_succ_cons, List.drop_zero, runF, exSs, exS, evE, evEs, R.bind_ok, R.bind_bad, R.bind_exc, ofO_some, ofO_none, bindT, setAll, List.length_cons, List.length_nil, List.map_cons, List.map_nil, List.getElem?_cons_zero, List.getElem?_cons_succ, List.cons_append, List.nil_append, List.set_cons_zero, List.set_cons_succ, Nat.zero_add, Nat.add_zero, Nat.le_refl, and_self, if_true, true_and, and_true, List.replicate_succ, List.replicate_zero, Nat.sub_self, Nat.reduceSub, Nat.reduceAdd, Nat.reduceLeDiff, Nat.reduceEqDiff, Nat.zero_le, small, tru_bl, isNon, Bool.not_true, Bool.not_false, k0, k1, k2, k3, k4, k5]
theorem form_less {o : Obj} (h : BoxO o) (n : Nat) (sz : Int) (s0 : 2 ≤ sz) (s1 : sz ≤ 5) (nl : List Str) (x y : Str) (hx : NameOk x) (hy : NameOk y) (r : Store) :
    ∃ (fm : Val) (ns : List Str) (kd : Kd) (o' : Obj) (env' : Env), FormOk sz fm ns kd ∧ (∀ z ∈ ns, z = x ∨ z = y) ∧ BoxO o' ∧ exSs (callN prog (n + 2)) (d__law_form.fn.body.drop 2) [some (.ref 0), some (.int sz), some (.ls (nl.map Val.str)), some (.str "less"), some (.str x), some (.str y), none] (o :: r) = .ok (.rt fm, env') (o' :: r) := by
  have k0 : ∀ st : Store, cmpV st .eq (.str "less") (.str "worth") = some false := fun st => eq_c st _ _ false (by decide +kernel)
  have k1 : ∀ st : Store, cmpV st .isin (.str "less") (.tup [.str "copy", .str "there"]) = some false := fun st => in_c st _ ["copy", "there"] false (by decide +kernel)
  have k2 : ∀ st : Store, cmpV st .eq (.str "less") (.str "turn") = some false := fun st => eq_c st _ _ false (by decide +kernel)
  have k3 : ∀ st : Store, cmpV st .isin (.str "less") (.tup [.str "held", .str "before"]) = some false := fun st => in_c st _ ["held", "before"] false (by decide +kernel)
  have k4 : ∀ st : Store, cmpV st .eq (.str "less") (.str "late") = some false := fun st => eq_c st _ _ false (by decide +kernel)
  have k5 : ∀ st : Store, cmpV st .eq (.str "less") (.str "match") = some false := fun st => eq_c st _ _ false (by decide +kernel)
  refine ⟨_, _, _, o, [some (.ref 0), some (.int sz), some (.ls (nl.map Val.str)), some (.str "less"), some (.str x), some (.str y), none], .two "less" x y (by decide +kernel) hx hy, (by intro z hz; simpa using hz), h, ?_⟩
  simp only [d__law_form, List.drop_succ_cons, List.drop_zero, runF, exSs, exS, evE, evEs, R.bind_ok, R.bind_bad, R.bind_exc, ofO_some, ofO_none, bindT, setAll, List.length_cons, List.length_nil, List.map_cons, List.map_nil, List.getElem?_cons_zero, List.getElem?_cons_succ, List.cons_append, List.nil_append, List.set_cons_zero, List.set_cons_succ, Nat.zero_add, Nat.add_zero, Nat.le_refl, and_self, if_true, true_and, and_true, List.replicate_succ, List.replicate_zero, Nat.sub_self, Nat.reduceSub, Nat.reduceAdd, Nat.reduceLeDiff, Nat.reduceEqDiff, Nat.zero_le, small, tru_bl, isNon, Bool.not_true, Bool.not_false, k0, k1, k2, k3, k4, k5]
theorem form_turn {o : Obj} (h : BoxO o) (n : Nat) (sz : Int) (s0 : 2 ≤ sz) (s1 : sz ≤ 5) (nl : List Str) (x y : Str) (hx : NameOk x) (hy : NameOk y) (r : Store) :
    ∃ (fm : Val) (ns : List Str) (kd : Kd) (o' : Obj) (env' : Env), FormOk sz fm ns kd ∧ (∀ z ∈ ns, z = x ∨ z = y) ∧ BoxO o' ∧ exSs (callN prog (n + 2)) (d__law_form.fn.body.drop 2) [some (.ref 0), some (.int sz), some (.ls (nl.map Val.str)), some (.str "turn"), some (.str x), some (.str y), none] (o :: r) = .ok (.rt fm, env') (o' :: r) := by
  have k0 : ∀ st : Store, cmpV st .eq (.str "turn") (.str "worth") = some false := fun st => eq_c st _ _ false (by decide +kernel)
  have k1 : ∀ st : Store, cmpV st .isin (.str "turn") (.tup [.str "copy", .str "there"]) = some false := fun st => in_c st _ ["copy", "there"] false (by decide +kernel)
  have k2 : ∀ st : Store, cmpV st .eq (.str "turn") (.str "turn") = some true := fun st => eq_c st _ _ true (by decide +kernel)
  obtain ⟨ws, o1, l1, w1, b1, e1⟩ := takes h n sz s0 s1 [some (.ref 0), some (.int sz), some (.ls (nl.map Val.str)), some (.str "turn"), some (.str x), some (.str y), none] r
  have hw : ∀ st, walkV st .range [.int sz] = some (rangeV sz) := fun st => walk_rg _ _ (by omega) (by omega)
  have ht : ∀ (st : Store) (l : List Val), b1V st .tuple (.ls l) = some (.tup l) := fun st l => rfl
  refine ⟨_, _, _, o1, [some (.ref 0), some (.int sz), some (.ls (nl.map Val.str)), some (.str "turn"), some (.str x), some (.str y), none], .turn x ws hx l1 w1, (by intro z hz; simp at hz; exact .inl hz), b1, ?_⟩
  simp only [d__law_form, List.drop_succ_cons, List.drop_zero, runF, exSs, exS, evE, evEs, R.bind_ok, R.bind_bad, R.bind_exc, ofO_some, ofO_none, bindT, setAll, List.length_cons, List.length_nil, List.map_cons, List.map_nil, List.getElem?_cons_zero, List.getElem?_cons_succ, List.cons_append, List.nil_append, List.set_cons_zero, List.set_cons_succ, Nat.zero_add, Nat.add_zero, Nat.le_refl, and_self, if_true, true_and, and_true, List.replicate_succ, List.replicate_zero, Nat.sub_self, Nat.reduceSub, Nat.reduceAdd, Nat.reduceLeDiff, Nat.reduceEqDiff, Nat.zero_le, small, tru_bl, isNon, Bool.not_true, Bool.not_false, k0, k1, k2, hw, e1, ht]
theorem form_when {o : Obj} (h : BoxO o) (n : Nat) (sz : Int) (s0 : 2 ≤ sz) (s1 : sz ≤ 5) (nl : List Str) (x y : Str) (hx : NameOk x) (hy : NameOk y) (r : Store) :
    ∃ (fm : Val) (ns : List Str) (kd : Kd) (o' : Obj) (env' : Env), FormOk sz fm ns kd ∧ (∀ z ∈ ns, z = x ∨ z = y) ∧ BoxO o' ∧ exSs (callN prog (n + 2)) (d__law_form.fn.body.drop 2) [some (.ref 0), some (.int sz), some (.ls (nl.map Val.str)), some (.str "when"), some (.str x), some (.str y), none] (o :: r) = .ok (.rt fm, env') (o' :: r) := by
  have k0 : ∀ st : Store, cmpV st .eq (.str "when") (.str "worth") = some false := fun st => eq_c st _ _ false (by decide +kernel)
  have k1 : ∀ st : Store, cmpV st .isin (.str "when") (.tup [.str "copy", .str "there"]) = some false := fun st => in_c st _ ["copy", "there"] false (by decide +kernel)
  have k2 : ∀ st : Store, cmpV st .eq (.str "when") (.str "turn") = some false := fun st => eq_c st _ _ false (by decide +kernel)
  have k3 : ∀ st : Store, cmpV st .isin (.str "when") (.tup [.str "held", .str "before"]) = some false := fun st => in_c st _ ["held", "before"] false (by decide +kernel)
  have k4 : ∀ st : Store, cmpV st .eq (.str "when") (.str "late") = some false := fun st => eq_c st _ _ false (by decide +kernel)
  have k5 : ∀ st : Store, cmpV st .eq (.str "when") (.str "match") = some false := fun st => eq_c st _ _ false (by decide +kernel)
  refine ⟨_, _, _, o, [some (.ref 0), some (.int sz), some (.ls (nl.map Val.str)), some (.str "when"), some (.str x), some (.str y), none], .two "when" x y (by decide +kernel) hx hy, (by intro z hz; simpa using hz), h, ?_⟩
  simp only [d__law_form, List.drop_succ_cons, List.drop_zero, runF, exSs, exS, evE, evEs, R.bind_ok, R.bind_bad, R.bind_exc, ofO_some, ofO_none, bindT, setAll, List.length_cons, List.length_nil, List.map_cons, List.map_nil, List.getElem?_cons_zero, List.getElem?_cons_succ, List.cons_append, List.nil_append, List.set_cons_zero, List.set_cons_succ, Nat.zero_add, Nat.add_zero, Nat.le_refl, and_self, if_true, true_and, and_true, List.replicate_succ, List.replicate_zero, Nat.sub_self, Nat.reduceSub, Nat.reduceAdd, Nat.reduceLeDiff, Nat.reduceEqDiff, Nat.zero_le, small, tru_bl, isNon, Bool.not_true, Bool.not_false, k0, k1, k2, k3, k4, k5]
theorem form_else {o : Obj} (h : BoxO o) (n : Nat) (sz : Int) (s0 : 2 ≤ sz) (s1 : sz ≤ 5) (nl : List Str) (x y : Str) (hx : NameOk x) (hy : NameOk y) (r : Store) :
    ∃ (fm : Val) (ns : List Str) (kd : Kd) (o' : Obj) (env' : Env), FormOk sz fm ns kd ∧ (∀ z ∈ ns, z = x ∨ z = y) ∧ BoxO o' ∧ exSs (callN prog (n + 2)) (d__law_form.fn.body.drop 2) [some (.ref 0), some (.int sz), some (.ls (nl.map Val.str)), some (.str "else"), some (.str x), some (.str y), none] (o :: r) = .ok (.rt fm, env') (o' :: r) := by
  have k0 : ∀ st : Store, cmpV st .eq (.str "else") (.str "worth") = some false := fun st => eq_c st _ _ false (by decide +kernel)
  have k1 : ∀ st : Store, cmpV st .isin (.str "else") (.tup [.str "copy", .str "there"]) = some false := fun st => in_c st _ ["copy", "there"] false (by decide +kernel)
  have k2 : ∀ st : Store, cmpV st .eq (.str "else") (.str "turn") = some false := fun st => eq_c st _ _ false (by decide +kernel)
  have k3 : ∀ st : Store, cmpV st .isin (.str "else") (.tup [.str "held", .str "before"]) = some false := fun st => in_c st _ ["held", "before"] false (by decide +kernel)
  have k4 : ∀ st : Store, cmpV st .eq (.str "else") (.str "late") = some false := fun st => eq_c st _ _ false (by decide +kernel)
  have k5 : ∀ st : Store, cmpV st .eq (.str "else") (.str "match") = some false := fun st => eq_c st _ _ false (by decide +kernel)
  refine ⟨_, _, _, o, [some (.ref 0), some (.int sz), some (.ls (nl.map Val.str)), some (.str "else"), some (.str x), some (.str y), none], .two "else" x y (by decide +kernel) hx hy, (by intro z hz; simpa using hz), h, ?_⟩
  simp only [d__law_form, List.drop_succ_cons, List.drop_zero, runF, exSs, exS, evE, evEs, R.bind_ok, R.bind_bad, R.bind_exc, ofO_some, ofO_none, bindT, setAll, List.length_cons, List.length_nil, List.map_cons, List.map_nil, List.getElem?_cons_zero, List.getElem?_cons_succ, List.cons_append, List.nil_append, List.set_cons_zero, List.set_cons_succ, Nat.zero_add, Nat.add_zero, Nat.le_refl, and_self, if_true, true_and, and_true, List.replicate_succ, List.replicate_zero, Nat.sub_self, Nat.reduceSub, Nat.reduceAdd, Nat.reduceLeDiff, Nat.reduceEqDiff, Nat.zero_le, small, tru_bl, isNon, Bool.not_true, Bool.not_false, k0, k1, k2, k3, k4, k5]
theorem form_held {o : Obj} (h : BoxO o) (n : Nat) (sz : Int) (s0 : 2 ≤ sz) (s1 : sz ≤ 5) (nl : List Str) (x y : Str) (hx : NameOk x) (hy : NameOk y) (r : Store) :
    ∃ (fm : Val) (ns : List Str) (kd : Kd) (o' : Obj) (env' : Env), FormOk sz fm ns kd ∧ (∀ z ∈ ns, z = x ∨ z = y) ∧ BoxO o' ∧ exSs (callN prog (n + 2)) (d__law_form.fn.body.drop 2) [some (.ref 0), some (.int sz), some (.ls (nl.map Val.str)), some (.str "held"), some (.str x), some (.str y), none] (o :: r) = .ok (.rt fm, env') (o' :: r) := by
  have k0 : ∀ st : Store, cmpV st .eq (.str "held") (.str "worth") = some false := fun st => eq_c st _ _ false (by decide +kernel)
  have k1 : ∀ st : Store, cmpV st .isin (.str "held") (.tup [.str "copy", .str "there"]) = some false := fun st => in_c st _ ["copy", "there"] false (by decide +kernel)
  have k2 : ∀ st : Store, cmpV st .eq (.str "held") (.str "turn") = some false := fun st => eq_c st _ _ false (by decide +kernel)
  have k3 : ∀ st : Store, cmpV st .isin (.str "held") (.tup [.str "held", .str "before"]) = some true := fun st => in_c st _ ["held", "before"] true (by decide +kernel)
  obtain ⟨w, o1, w0, w1, b1, e1⟩ := tk h (n + 1) sz r (by omega)
  refine ⟨_, _, _, o1, [some (.ref 0), some (.int sz), some (.ls (nl.map Val.str)), some (.str "held"), some (.str x), some (.str y), none], .held x w hx w0 w1, (by intro z hz; simp at hz; exact .inl hz), b1, ?_⟩
  simp only [d__law_form, List.drop_succ_cons, List.drop_zero, runF, exSs, exS, evE, evEs, R.bind_ok, R.bind_bad, R.bind_exc, ofO_some, ofO_none, bindT, setAll, List.length_cons, List.length_nil, List.map_cons, List.map_nil, List.getElem?_cons_zero, List.getElem?_cons_succ, List.cons_append, List.nil_append, List.set_cons_zero, List.set_cons_succ, Nat.zero_add, Nat.add_zero, Nat.le_refl, and_self, if_true, true_and, and_true, List.replicate_succ, List.replicate_zero, Nat.sub_self, Nat.reduceSub, Nat.reduceAdd, Nat.reduceLeDiff, Nat.reduceEqDiff, Nat.zero_le, small, tru_bl, isNon, Bool.not_true, Bool.not_false, k0, k1, k2, k3, e1]
theorem form_before {o : Obj} (h : BoxO o) (n : Nat) (sz : Int) (s0 : 2 ≤ sz) (s1 : sz ≤ 5) (nl : List Str) (x y : Str) (hx : NameOk x) (hy : NameOk y) (r : Store) :
    ∃ (fm : Val) (ns : List Str) (kd : Kd) (o' : Obj) (env' : Env), FormOk sz fm ns kd ∧ (∀ z ∈ ns, z = x ∨ z = y) ∧ BoxO o' ∧ exSs (callN prog (n + 2)) (d__law_form.fn.body.drop 2) [some (.ref 0), some (.int sz), some (.ls (nl.map Val.str)), some (.str "before"), some (.str x), some (.str y), none] (o :: r) = .ok (.rt fm, env') (o' :: r) := by
  have k0 : ∀ st : Store, cmpV st .eq (.str "before") (.str "worth") = some false := fun st => eq_c st _ _ false (by decide +kernel)
  have k1 : ∀ st : Store, cmpV st .isin (.str "before") (.tup [.str "copy", .str "there"]) = some false := fun st => in_c st _ ["copy", "there"] false (by decide +kernel)
  have k2 : ∀ st : Store, cmpV st .eq (.str "before") (.str "turn") = some false := fun st => eq_c st _ _ false (by decide +kernel)
  have k3 : ∀ st : Store, cmpV st .isin (.str "before") (.tup [.str "held", .str "before"]) = some true := fun st => in_c st _ ["held", "before"] true (by decide +kernel)
  obtain ⟨w, o1, w0, w1, b1, e1⟩ := tk h (n + 1) sz r (by omega)
  refine ⟨_, _, _, o1, [some (.ref 0), some (.int sz), some (.ls (nl.map Val.str)), some (.str "before"), some (.str x), some (.str y), none], .before x w hx w0 w1, (by intro z hz; simp at hz; exact .inl hz), b1, ?_⟩
  simp only [d__law_form, List.drop_succ_cons, List.drop_zero, runF, exSs, exS, evE, evEs, R.bind_ok, R.bind_bad, R.bind_exc, ofO_some, ofO_none, bindT, setAll, List.length_cons, List.length_nil, List.map_cons, List.map_nil, List.getElem?_cons_zero, List.getElem?_cons_succ, List.cons_append, List.nil_append, List.set_cons_zero, List.set_cons_succ, Nat.zero_add, Nat.add_zero, Nat.le_refl, and_self, if_true, true_and, and_true, List.replicate_succ, List.replicate_zero, Nat.sub_self, Nat.reduceSub, Nat.reduceAdd, Nat.reduceLeDiff, Nat.reduceEqDiff, Nat.zero_le, small, tru_bl, isNon, Bool.not_true, Bool.not_false, k0, k1, k2, k3, e1]
theorem form_late {o : Obj} (h : BoxO o) (n : Nat) (sz : Int) (s0 : 2 ≤ sz) (s1 : sz ≤ 5) (nl : List Str) (x y : Str) (hx : NameOk x) (hy : NameOk y) (r : Store) :
    ∃ (fm : Val) (ns : List Str) (kd : Kd) (o' : Obj) (env' : Env), FormOk sz fm ns kd ∧ (∀ z ∈ ns, z = x ∨ z = y) ∧ BoxO o' ∧ exSs (callN prog (n + 2)) (d__law_form.fn.body.drop 2) [some (.ref 0), some (.int sz), some (.ls (nl.map Val.str)), some (.str "late"), some (.str x), some (.str y), none] (o :: r) = .ok (.rt fm, env') (o' :: r) := by
  have k0 : ∀ st : Store, cmpV st .eq (.str "late") (.str "worth") = some false := fun st => eq_c st _ _ false (by decide +kernel)
  have k1 : ∀ st : Store, cmpV st .isin (.str "late") (.tup [.str "copy", .str "there"]) = some false := fun st => in_c st _ ["copy", "there"] false (by decide +kernel)
  have k2 : ∀ st : Store, cmpV st .eq (.str "late") (.str "turn") = some false := fun st => eq_c st _ _ false (by decide +kernel)
  have k3 : ∀ st : Store, cmpV st .isin (.str "late") (.tup [.str "held", .str "before"]) = some false := fun st => in_c st _ ["held", "before"] false (by decide +kernel)
  have k4 : ∀ st : Store, cmpV st .eq (.str "late") (.str "late") = some true := fun st => eq_c st _ _ true (by decide +kernel)
  obtain ⟨w, o1, w0, w1, b1, e1⟩ := tk h (n + 1) sz r (by omega)
  obtain ⟨v, o2, hv, b2, e2⟩ := pk b1 n (.ls [.non, .int w]) [.non, .int w] (.inl rfl) r (show 0 < 2 by decide)
  have hv2 : v = .non ∨ v = .int w := by simpa using hv
  rcases hv2 with rfl | rfl
  · refine ⟨_, _, _, o2, [some (.ref 0), some (.int sz), some (.ls (nl.map Val.str)), some (.str "late"), some (.str x), some (.str y), none], .lateN x hx, (by intro z hz; simp at hz; exact .inl hz), b2, ?_⟩
    simp only [d__law_form, List.drop_succ_cons, List.drop_zero, runF, exSs, exS, evE, evEs, R.bind_ok, R.bind_bad, R.bind_exc, ofO_some, ofO_none, bindT, setAll, List.length_cons, List.length_nil, List.map_cons, List.map_nil, List.getElem?_cons_zero, List.getElem?_cons_succ, List.cons_append, List.nil_append, List.set_cons_zero, List.set_cons_succ, Nat.zero_add, Nat.add_zero, Nat.le_refl, and_self, if_true, true_and, and_true, List.replicate_succ, List.replicate_zero, Nat.sub_self, Nat.reduceSub, Nat.reduceAdd, Nat.reduceLeDiff, Nat.reduceEqDiff, Nat.zero_le, small, tru_bl, isNon, Bool.not_true, Bool.not_false, k0, k1, k2, k3, k4, e1, e2]
  · refine ⟨_, _, _, o2, [some (.ref 0), some (.int sz), some (.ls (nl.map Val.str)), some (.str "late"), some (.str x), some (.str y), none], .lateW x w hx w0 w1, (by intro z hz; simp at hz; exact .inl hz), b2, ?_⟩
    simp only [d__law_form, List.drop_succ_cons, List.drop_zero, runF, exSs, exS, evE, evEs, R.bind_ok, R.bind_bad, R.bind_exc, ofO_some, ofO_none, bindT, setAll, List.length_cons, List.length_nil, List.map_cons, List.map_nil, List.getElem?_cons_zero, List.getElem?_cons_succ, List.cons_append, List.nil_append, List.set_cons_zero, List.set_cons_succ, Nat.zero_add, Nat.add_zero, Nat.le_refl, and_self, if_true, true_and, and_true, List.replicate_succ, List.replicate_zero, Nat.sub_self, Nat.reduceSub, Nat.reduceAdd, Nat.reduceLeDiff, Nat.reduceEqDiff, Nat.zero_le, small, tru_bl, isNon, Bool.not_true, Bool.not_false, k0, k1, k2, k3, k4, e1, e2]
theorem form_match {o : Obj} (h : BoxO o) (n : Nat) (sz : Int) (s0 : 2 ≤ sz) (s1 : sz ≤ 5) (nl : List Str) (x y : Str) (hx : NameOk x) (hy : NameOk y) (r : Store) :
    ∃ (fm : Val) (ns : List Str) (kd : Kd) (o' : Obj) (env' : Env), FormOk sz fm ns kd ∧ (∀ z ∈ ns, z = x ∨ z = y) ∧ BoxO o' ∧ exSs (callN prog (n + 2)) (d__law_form.fn.body.drop 2) [some (.ref 0), some (.int sz), some (.ls (nl.map Val.str)), some (.str "match"), some (.str x), some (.str y), none] (o :: r) = .ok (.rt fm, env') (o' :: r) := by
  have k0 : ∀ st : Store, cmpV st .eq (.str "match") (.str "worth") = some false := fun st => eq_c st _ _ false (by decide +kernel)
  have k1 : ∀ st : Store, cmpV st .isin (.str "match") (.tup [.str "copy", .str "there"]) = some false := fun st => in_c st _ ["copy", "there"] false (by decide +kernel)
  have k2 : ∀ st : Store, cmpV st .eq (.str "match") (.str "turn") = some false := fun st => eq_c st _ _ false (by decide +kernel)
  have k3 : ∀ st : Store, cmpV st .isin (.str "match") (.tup [.str "held", .str "before"]) = some false := fun st => in_c st _ ["held", "before"] false (by decide +kernel)
  have k4 : ∀ st : Store, cmpV st .eq (.str "match") (.str "late") = some false := fun st => eq_c st _ _ false (by decide +kernel)
  have k5 : ∀ st : Store, cmpV st .eq (.str "match") (.str "match") = some true := fun st => eq_c st _ _ true (by decide +kernel)
  obtain ⟨v, o1, hv, b1, e1⟩ := pk h n (.ls (pairs_.map Val.str)) (pairs_.map Val.str) (.inl rfl) r (by decide)
  obtain ⟨op, hop, rfl⟩ := List.mem_map.mp hv
  simp only [pairs_, runF, exSs, exS, evE, evEs, R.bind_ok, R.bind_bad, R.bind_exc, ofO_some, ofO_none, bindT, setAll, List.length_cons, List.length_nil, List.map_cons, List.map_nil, List.getElem?_cons_zero, List.getElem?_cons_succ, List.cons_append, List.nil_append, List.set_cons_zero, List.set_cons_succ, Nat.zero_add, Nat.add_zero, Nat.le_refl, and_self, if_true, true_and, and_true, List.replicate_succ, List.replicate_zero, Nat.sub_self, Nat.reduceSub, Nat.reduceAdd, Nat.reduceLeDiff, Nat.reduceEqDiff, Nat.zero_le, small, tru_bl, isNon, Bool.not_true, Bool.not_false] at e1
  refine ⟨_, _, _, o1, [some (.ref 0), some (.int sz), some (.ls (nl.map Val.str)), some (.str "match"), some (.str x), some (.str y), none], .mat op x y hop hx hy, (by intro z hz; simpa using hz), b1, ?_⟩
  simp only [d__law_form, List.drop_succ_cons, List.drop_zero, runF, exSs, exS, evE, evEs, R.bind_ok, R.bind_bad, R.bind_exc, ofO_some, ofO_none, bindT, setAll, List.length_cons, List.length_nil, List.map_cons, List.map_nil, List.getElem?_cons_zero, List.getElem?_cons_succ, List.cons_append, List.nil_append, List.set_cons_zero, List.set_cons_succ, Nat.zero_add, Nat.add_zero, Nat.le_refl, and_self, if_true, true_and, and_true, List.replicate_succ, List.replicate_zero, Nat.sub_self, Nat.reduceSub, Nat.reduceAdd, Nat.reduceLeDiff, Nat.reduceEqDiff, Nat.zero_le, small, tru_bl, isNon, Bool.not_true, Bool.not_false, k0, k1, k2, k3, k4, k5, e1]
def formWords : List Str := ["worth", "copy", "there", "add", "times", "least", "most", "alike", "less", "turn", "when", "when", "else", "else", "held", "held", "before", "late", "late", "match"]
theorem formWords_cases {wd : Str} (h : wd ∈ formWords) : wd = "worth" ∨ wd = "copy" ∨ wd = "there" ∨ wd = "add" ∨ wd = "times" ∨ wd = "least" ∨ wd = "most" ∨ wd = "alike" ∨ wd = "less" ∨ wd = "turn" ∨ wd = "when" ∨ wd = "else" ∨ wd = "held" ∨ wd = "before" ∨ wd = "late" ∨ wd = "match" := by
  simp only [formWords, List.mem_cons, List.not_mem_nil, or_false] at h
  rcases h with rfl | rfl | rfl | rfl | rfl | rfl | rfl | rfl | rfl | rfl | rfl | rfl | rfl | rfl | rfl | rfl | rfl | rfl | rfl | rfl <;> simp
theorem form_fin {o : Obj} (h : BoxO o) (n : Nat) (sz : Int) (s0 : 2 ≤ sz) (s1 : sz ≤ 5) (nl : List Str) (wd x y : Str) (hw : wd ∈ formWords) (hx : NameOk x) (hy : NameOk y) (r : Store) :
    ∃ (fm : Val) (ns : List Str) (kd : Kd) (o' : Obj) (env' : Env), FormOk sz fm ns kd ∧ (∀ z ∈ ns, z = x ∨ z = y) ∧ BoxO o' ∧ exSs (callN prog (n + 2)) (d__law_form.fn.body.drop 2) [some (.ref 0), some (.int sz), some (.ls (nl.map Val.str)), some (.str wd), some (.str x), some (.str y), none] (o :: r) = .ok (.rt fm, env') (o' :: r) := by
  rcases formWords_cases hw with rfl | rfl | rfl | rfl | rfl | rfl | rfl | rfl | rfl | rfl | rfl | rfl | rfl | rfl | rfl | rfl
  · exact form_worth h n sz s0 s1 nl x y hx hy r
  · exact form_copy h n sz s0 s1 nl x y hx hy r
  · exact form_there h n sz s0 s1 nl x y hx hy r
  · exact form_add h n sz s0 s1 nl x y hx hy r
  · exact form_times h n sz s0 s1 nl x y hx hy r
  · exact form_least h n sz s0 s1 nl x y hx hy r
  · exact form_most h n sz s0 s1 nl x y hx hy r
  · exact form_alike h n sz s0 s1 nl x y hx hy r
  · exact form_less h n sz s0 s1 nl x y hx hy r
  · exact form_turn h n sz s0 s1 nl x y hx hy r
  · exact form_when h n sz s0 s1 nl x y hx hy r
  · exact form_else h n sz s0 s1 nl x y hx hy r
  · exact form_held h n sz s0 s1 nl x y hx hy r
  · exact form_before h n sz s0 s1 nl x y hx hy r
  · exact form_late h n sz s0 s1 nl x y hx hy r
  · exact form_match h n sz s0 s1 nl x y hx hy r
theorem lk_form : List.lookup ("_law_form" : Str) prog = some d__law_form.fn := rfl
theorem v_form {o : Obj} (h : BoxO o) (n : Nat) (sz : Int) (s0 : 2 ≤ sz) (s1 : sz ≤ 5) (nl : List Str) (hn : ∀ t ∈ nl, NameOk t) (hl : 0 < nl.length) (r : Store) :
    ∃ (fm : Val) (ns : List Str) (kd : Kd) (o' : Obj), FormOk sz fm ns kd ∧ (∀ z ∈ ns, z ∈ nl) ∧ BoxO o' ∧ callV (callN prog (n + 3)) "_law_form" [.ref 0, .int sz, .ls (nl.map Val.str)] (o :: r) = .ok fm (o' :: r) := by
  obtain ⟨v, o1, hv, b1, e1⟩ := pk h n (.ls (formWords.map Val.str)) (formWords.map Val.str) (.inl rfl) r (by decide)
  obtain ⟨wd, hwd, rfl⟩ := List.mem_map.mp hv
  obtain ⟨v, o2, hv, b2, e2⟩ := pk b1 n (.ls (nl.map Val.str)) (nl.map Val.str) (.inl rfl) r (by rw [List.length_map]; exact hl)
  obtain ⟨x, hx, rfl⟩ := List.mem_map.mp hv
  obtain ⟨v, o3, hv, b3, e3⟩ := pk b2 n (.ls (nl.map Val.str)) (nl.map Val.str) (.inl rfl) r (by rw [List.length_map]; exact hl)
  obtain ⟨y, hy, rfl⟩ := List.mem_map.mp hv
  obtain ⟨fm, ns, kd, o', env', f1, f2, f3, f4⟩ := form_fin b3 n sz s0 s1 nl wd x y hwd (hn x hx) (hn y hy) r
  refine ⟨fm, ns, kd, o', f1, fun z hz => ?_, f3, ?_⟩
  · rcases f2 z hz with rfl | rfl
    · exact hx
    · exact hy
  · refine callV_ref _ _ _ _ _ _ _ ?_ rfl
    rw [callN_at lk_form]
    refine run_ (env' := env') ⟨rfl, by decide⟩ [some (.ref 0), some (.int sz), some (.ls (nl.map Val.str)), none, none, none, none] rfl ?_
    simp only [formWords, runF, exSs, exS, evE, evEs, R.bind_ok, R.bind_bad, R.bind_exc, ofO_some, ofO_none, bindT, setAll, List.length_cons, List.length_nil, List.map_cons, List.map_nil, List.getElem?_cons_zero, List.getElem?_cons_succ, List.cons_append, List.nil_append, List.set_cons_zero, List.set_cons_succ, Nat.zero_add, Nat.add_zero, Nat.le_refl, and_self, if_true, true_and, and_true, List.replicate_succ, List.replicate_zero, Nat.sub_self, Nat.reduceSub, Nat.reduceAdd, Nat.reduceLeDiff, Nat.reduceEqDiff, Nat.zero_le, small, tru_bl, isNon, Bool.not_true, Bool.not_false] at e1
    refine (nx_ (env' := [some (.ref 0), some (.int sz), some (.ls (nl.map Val.str)), some (.str wd), none, none, none]) (st' := o1 :: r) (by simp only [runF, exSs, exS, evE, evEs, R.bind_ok, R.bind_bad, R.bind_exc, ofO_some, ofO_none, bindT, setAll, List.length_cons, List.length_nil, List.map_cons, List.map_nil, List.getElem?_cons_zero, List.getElem?_cons_succ, List.cons_append, List.nil_append, List.set_cons_zero, List.set_cons_succ, Nat.zero_add, Nat.add_zero, Nat.le_refl, and_self, if_true, true_and, and_true, List.replicate_succ, List.replicate_zero, Nat.sub_self, Nat.reduceSub, Nat.reduceAdd, Nat.reduceLeDiff, Nat.reduceEqDiff, Nat.zero_le, small, tru_bl, isNon, Bool.not_true, Bool.not_false, e1])).trans ?_
    refine (nx_ (env' := [some (.ref 0), some (.int sz), some (.ls (nl.map Val.str)), some (.str wd), some (.str x), some (.str y), none]) (st' := o3 :: r) (by simp only [runF, exSs, exS, evE, evEs, R.bind_ok, R.bind_bad, R.bind_exc, ofO_some, ofO_none, bindT, setAll, List.length_cons, List.length_nil, List.map_cons, List.map_nil, List.getElem?_cons_zero, List.getElem?_cons_succ, List.cons_append, List.nil_append, List.set_cons_zero, List.set_cons_succ, Nat.zero_add, Nat.add_zero, Nat.le_refl, and_self, if_true, true_and, and_true, List.replicate_succ, List.replicate_zero, Nat.sub_self, Nat.reduceSub, Nat.reduceAdd, Nat.reduceLeDiff, Nat.reduceEqDiff, Nat.zero_le, small, tru_bl, isNon, Bool.not_true, Bool.not_false, e2, e3]; rfl)).trans ?_
    exact f4
end PV
end

section
set_option Elab.async false
set_option linter.all false
set_option maxRecDepth 100000
set_option maxHeartbeats 1000000
namespace PV
open PySem L2
/-! ### nets that are drawn -/
theorem lk_net : List.lookup ("_law_net" : Str) prog = some d__law_net.fn := rfl
theorem map_eraseIdx {α β : Type} (f : α → β) : ∀ (l : List α) (k : Nat), (l.map f).eraseIdx k = (l.eraseIdx k).map f
  | [], k => by simp
  | x :: l, 0 => by simp
  | x :: l, k + 1 => by simp [map_eraseIdx f l k]
theorem erase_perm {α : Type} : ∀ (l : List α) (k : Nat) (h : k < l.length), (l[k] :: l.eraseIdx k).Perm l
  | [], k, h => by simp at h
  | x :: l, 0, h => by simp
  | x :: l, k + 1, h => by
    have h2 : k < l.length := by simpa using h
    have := erase_perm l k h2
    simp only [List.getElem_cons_succ, List.eraseIdx_cons_succ]
    exact (List.Perm.swap x l[k] _).trans (this.cons x)
/-- inputs taken out of the names -/
theorem pop_1 {o : Obj} (h : BoxO o) (n : Nat) (env : Env) (left : List Str) (hl : 0 < left.length) (hl2 : left.length < 500) (h0 : env[0]? = some (some (.ref 0))) (h8 : env[8]? = some (some (.ref 1))) :
    ∃ (x : Str) (left' : List Str) (o' : Obj), BoxO o' ∧ evE (callN prog (n + 1)) e__law_net_1 env [o, .lst (left.map Val.str)] = .ok (.str x) [o', .lst (left'.map Val.str)] ∧ (x :: left').Perm left ∧ left'.Sublist left := by
  obtain ⟨q, o1, q0, q1, b1, e1⟩ := tk h n (left.length : Int) [.lst (left.map Val.str)] (by omega)
  have hq : q.toNat < left.length := by omega
  have hb : b1V [o, .lst (left.map Val.str)] .len (.ref 1) = some (.int (left.length : Int)) := by rw [len_ref (xs := left.map Val.str) rfl, List.length_map]
  have hix : ixAt (left.map Val.str).length q = some q.toNat := by
    unfold ixAt
    rw [List.length_map, if_pos q0, if_pos q1]
  have hsm : (left.map Val.str).length ≤ small := by
    have : small = 100000 := rfl
    rw [List.length_map]
    omega
  have hp : popV [o1, .lst (left.map Val.str)] (.ref 1) (.int q) = .ok (.str left[q.toNat]) [o1, .lst ((left.eraseIdx q.toNat).map Val.str)] := by
    simp only [popV, List.getElem?_cons_succ, List.getElem?_cons_zero, hix, List.getElem?_map, List.getElem?_eq_getElem hq, Option.map_some, if_pos hsm, List.set_cons_succ, List.set_cons_zero, map_eraseIdx]
  refine ⟨left[q.toNat], left.eraseIdx q.toNat, o1, b1, ?_, ?_, List.eraseIdx_sublist _ _⟩
  · simp only [e__law_net_1, evE, evEs, h0, h8, R.bind_ok, isLst, lstOf, List.getElem?_cons_succ, List.getElem?_cons_zero, Option.isSome_some, hb, ofO_some, e1, hp]
  · exact erase_perm left q.toNat hq
theorem pop_2 (n : Nat) (env : Env) (kp : Store → Bool) (hk : ∀ st, kp st = true) (h0 : ∀ v : Val, (setAll env [14] [v])[0]? = some (some (.ref 0))) (h8 : ∀ v : Val, (setAll env [14] [v])[8]? = some (some (.ref 1))) : ∀ (xs : List Val) (o : Obj) (left : List Str) (acc : List Val), BoxO o → xs.length ≤ left.length → left.length < 500 → acc.length + xs.length < 1000 →
    ∃ (ps left' : List Str) (o' : Obj), BoxO o' ∧ lcL (evE (callN prog (n + 1)) e__law_net_1) none (.nm 14) kp env xs acc [o, .lst (left.map Val.str)] = .ok (acc ++ ps.map Val.str) [o', .lst (left'.map Val.str)] ∧ (ps ++ left').Perm left ∧ left'.Sublist left ∧ ps.length = xs.length
  | [], o, left, acc, h, _, _, _ => ⟨[], left, o, h, by simp only [lcL, hk, if_true, List.map_nil, List.append_nil], by simp, List.Sublist.refl _, rfl⟩
  | x :: xs, o, left, acc, h, h1, h2, h3 => by
    simp only [List.length_cons] at h1 h3
    obtain ⟨p, l1, o1, b1, e1, p1, s1⟩ := pop_1 h n (setAll env [14] [x]) left (by omega) h2 (h0 x) (h8 x)
    have hll : l1.length + 1 = left.length := by
      have := p1.length_eq
      rw [List.length_cons] at this
      exact this
    obtain ⟨ps, l2, o2, b2, e2, p2, s2, n2⟩ := pop_2 n env kp hk h0 h8 xs o1 l1 (acc ++ [.str p]) b1 (by omega) (by omega) (by simp; omega)
    have hs : acc.length < small := by
      have : small = 100000 := rfl
      omega
    refine ⟨p :: ps, l2, o2, b2, ?_, ?_, s2.trans s1, by simp [n2]⟩
    · simp only [lcL, hk, bindT, e1, R.bind_ok, if_pos hs, e2]
      simp
    · exact (List.Perm.cons p p2).trans p1
/-- the net with another form for a name -/
def Net.upd (N : Net) (x : Str) (fm : Val) (ns : List Str) (kd : Kd) : Net := ⟨N.sz, N.ins, N.cells.map fun c => if c.nm = x then ⟨c.nm, fm, ns, kd⟩ else c⟩
theorem upd_nms (N : Net) (x : Str) (fm : Val) (ns : List Str) (kd : Kd) : (N.upd x fm ns kd).nms = N.nms := by
  unfold Net.upd Net.nms
  rw [List.map_map]
  refine List.map_congr_left fun c _ => ?_
  simp only [Function.comp]
  split <;> rfl
theorem upd_ok {N : Net} (hN : NetOk N) {x : Str} {fm : Val} {ns : List Str} {kd : Kd} (hf : FormOk N.sz fm ns kd) (hn : ∀ z ∈ ns, z ∈ N.ins ∨ z ∈ N.nms) : NetOk (N.upd x fm ns kd) := by
  have hmem : ∀ c ∈ (N.upd x fm ns kd).cells, (∃ d ∈ N.cells, c.nm = d.nm) ∧ ((c.fm = fm ∧ c.ns = ns ∧ c.kd = kd) ∨ c ∈ N.cells) := by
    intro c hc
    obtain ⟨d, hd, rfl⟩ := List.mem_map.mp hc
    by_cases h : d.nm = x
    · simp only [h, if_true]
      exact ⟨⟨d, hd, h.symm⟩, .inl ⟨trivial, trivial, trivial⟩⟩
    · simp only [if_neg h]
      exact ⟨⟨d, hd, rfl⟩, .inr hd⟩
  refine ⟨hN.s0, hN.s1, hN.i0, hN.i1, ?_, hN.inm, hN.ia, ?_, ?_, ?_, ?_, ?_⟩
  · show N.ins.length + (N.cells.map _).length ≤ 11
    rw [List.length_map]
    exact hN.all
  · intro c hc
    obtain ⟨⟨d, hd, e⟩, _⟩ := hmem c hc
    rw [e]
    exact hN.cnm d hd
  · rw [upd_nms]
    exact hN.ca
  · intro c hc
    obtain ⟨⟨d, hd, e⟩, _⟩ := hmem c hc
    rw [e]
    exact hN.dis d hd
  · intro c hc
    rcases (hmem c hc).2 with ⟨e1, e2, e3⟩ | h
    · rw [e1, e2, e3]
      exact hf
    · exact hN.fok c h
  · intro c hc z hz
    rw [upd_nms]
    rcases (hmem c hc).2 with ⟨e1, e2, e3⟩ | h
    · rw [e2] at hz
      exact hn z hz
    · exact hN.cl c h z hz
structure Inv (sz : Int) (left nl : List Str) (N : Net) : Prop where
  ok : NetOk N
  snd : NetSnd N
  sz : N.sz = sz
  nms : N.nms = left
  nl : ∀ z ∈ nl, z ∈ N.ins ∨ z ∈ N.nms
/-- one cell gets a form, or keeps its own -/
theorem net_1c {o : Obj} (h : BoxO o) (n : Nat) (sz : Int) (left nl : List Str) (hn : ∀ t ∈ nl, NameOk t) (hl : 0 < nl.length) (N : Net) (hI : Inv sz left nl N) (x : Str) (hx : NameOk x) (c1 c2 c3 c6 c9 c11 c13 c14 c15 c16 c17 : Option Val) :
    ∃ (o' : Obj) (N' : Net) (d13 d15 : Option Val), BoxO o' ∧ Inv sz left nl N' ∧ exSs (callN prog (n + 3)) b__law_net_4 [some (.ref 0), c1, c2, c3, some (.bl true), some (.int sz), c6, some (.ls (nl.map Val.str)), some (.ref 1), c9, some N.val, c11, some (.str x), c13, c14, c15, c16, c17] [o, .lst (left.map Val.str)]
      = .ok (.nx, [some (.ref 0), c1, c2, c3, some (.bl true), some (.int sz), c6, some (.ls (nl.map Val.str)), some (.ref 1), c9, some N'.val, c11, some (.str x), d13, c14, d15, c16, c17]) [o', .lst (left.map Val.str)] := by
  have hs := hI.sz
  have hok := hI.ok
  obtain ⟨fm, ns, kd, o', f1, f2, b', e1⟩ := v_form h n sz (hs ▸ hok.s0) (hs ▸ hok.s1) nl hn hl [.lst (left.map Val.str)]
  have hok' : NetOk (N.upd x fm ns kd) := upd_ok hok (hs.symm ▸ f1) fun z hz => hI.nl z (f2 z hz)
  obtain ⟨wd, w1, w2, w3, w4⟩ := f1.word
  have hq : ∀ st, cmpV st .ne (.str wd) (.str "match") = some (!decide (wd = "match")) := fun st => ne_str _ w4 (sok_c (by decide +kernel))
  have n1 := net_1 N
  have n2 := net_2 N
  have hall := hok.all
  have k1 := lc_map (f := evE (callN prog (n + 3)) e__law_net_3) (tg := .tp [16, 17]) (env := [some (.ref 0), c1, c2, c3, some (.bl true), some (.int sz), c6, some (.ls (nl.map Val.str)), some (.ref 1), c9, some N.val, c11, some (.str x), some fm, c14, c15, c16, c17]) (keep := keepW .of [.tup (N.cells.map cellV)] (N.cells.map cellV)) (st := [o', .lst (left.map Val.str)])
    cellV (fun c => cellV (if c.nm = x then ⟨c.nm, fm, ns, kd⟩ else c)) (keep_tup _ _ _ _) N.cells [] (fun c hc => ⟨_, rfl, by
      have hq : ∀ st, cmpV st .eq (.str c.nm) (.str x) = some (decide (c.nm = x)) := fun st => eq_str _ (hok.cnm c hc).sok hx.sok
      by_cases hcx : c.nm = x
      · simp only [e__law_net_3, runF, exSs, exS, evE, evEs, R.bind_ok, R.bind_bad, R.bind_exc, ofO_some, ofO_none, bindT, setAll, List.length_cons, List.length_nil, List.map_cons, List.map_nil, List.getElem?_cons_zero, List.getElem?_cons_succ, List.cons_append, List.nil_append, List.set_cons_zero, List.set_cons_succ, Nat.zero_add, Nat.add_zero, Nat.le_refl, and_self, if_true, true_and, and_true, List.replicate_succ, List.replicate_zero, Nat.sub_self, Nat.reduceSub, Nat.reduceAdd, Nat.reduceLeDiff, Nat.reduceEqDiff, Nat.zero_le, small, tru_bl, isNon, Bool.not_true, Bool.not_false, cellV, hq, decide_eq_true hcx, if_pos hcx]
      · simp only [e__law_net_3, runF, exSs, exS, evE, evEs, R.bind_ok, R.bind_bad, R.bind_exc, ofO_some, ofO_none, bindT, setAll, List.length_cons, List.length_nil, List.map_cons, List.map_nil, List.getElem?_cons_zero, List.getElem?_cons_succ, List.cons_append, List.nil_append, List.set_cons_zero, List.set_cons_succ, Nat.zero_add, Nat.add_zero, Nat.le_refl, and_self, if_true, true_and, and_true, List.replicate_succ, List.replicate_zero, Nat.sub_self, Nat.reduceSub, Nat.reduceAdd, Nat.reduceLeDiff, Nat.reduceEqDiff, Nat.zero_le, small, tru_bl, isNon, Bool.not_true, Bool.not_false, cellV, hq, decide_eq_false hcx, if_neg hcx]⟩) (by simp; omega)
  have hmm : (N.cells.map fun c => cellV (if c.nm = x then ⟨c.nm, fm, ns, kd⟩ else c)) = (N.upd x fm ns kd).cells.map cellV := by
    unfold Net.upd
    rw [List.map_map]
    rfl
  rw [hmm, List.nil_append] at k1
  have ht : ∀ (st : Store) (l : List Val), b1V st .tuple (.ls l) = some (.tup l) := fun st l => rfl
  have hval : (N.upd x fm ns kd).val = .tup [.int sz, .tup (N.ins.map Val.str), .tup ((N.upd x fm ns kd).cells.map cellV)] := by rw [← hs]; rfl
  obtain ⟨b, e2, hb⟩ := v_lsound _ hok' n [o', .lst (left.map Val.str)]
  rw [hval] at e2
  have s1 : exS (callN prog (n + 3)) (.asg (.nm 13) (.call "_law_form" [(.var 0), (.var 5), (.var 7)])) [some (.ref 0), c1, c2, c3, some (.bl true), some (.int sz), c6, some (.ls (nl.map Val.str)), some (.ref 1), c9, some N.val, c11, some (.str x), c13, c14, c15, c16, c17] [o, .lst (left.map Val.str)]
      = .ok (.nx, [some (.ref 0), c1, c2, c3, some (.bl true), some (.int sz), c6, some (.ls (nl.map Val.str)), some (.ref 1), c9, some N.val, c11, some (.str x), some fm, c14, c15, c16, c17]) [o', .lst (left.map Val.str)] := by
    simp only [runF, exSs, exS, evE, evEs, R.bind_ok, R.bind_bad, R.bind_exc, ofO_some, ofO_none, bindT, setAll, List.length_cons, List.length_nil, List.map_cons, List.map_nil, List.getElem?_cons_zero, List.getElem?_cons_succ, List.cons_append, List.nil_append, List.set_cons_zero, List.set_cons_succ, Nat.zero_add, Nat.add_zero, Nat.le_refl, and_self, if_true, true_and, and_true, List.replicate_succ, List.replicate_zero, Nat.sub_self, Nat.reduceSub, Nat.reduceAdd, Nat.reduceLeDiff, Nat.reduceEqDiff, Nat.zero_le, small, tru_bl, isNon, Bool.not_true, Bool.not_false, e1]
  have s2 : evE (callN prog (n + 3)) (.or (.cmp .ne (.ix (.var 13) (.cst (.int 0))) (.cst (.str "match"))) (.var 4)) [some (.ref 0), c1, c2, c3, some (.bl true), some (.int sz), c6, some (.ls (nl.map Val.str)), some (.ref 1), c9, some N.val, c11, some (.str x), some fm, c14, c15, c16, c17] [o', .lst (left.map Val.str)] = .ok (.bl true) [o', .lst (left.map Val.str)] := by
    by_cases hw : wd = "match"
    · simp only [runF, exSs, exS, evE, evEs, R.bind_ok, R.bind_bad, R.bind_exc, ofO_some, ofO_none, bindT, setAll, List.length_cons, List.length_nil, List.map_cons, List.map_nil, List.getElem?_cons_zero, List.getElem?_cons_succ, List.cons_append, List.nil_append, List.set_cons_zero, List.set_cons_succ, Nat.zero_add, Nat.add_zero, Nat.le_refl, and_self, if_true, true_and, and_true, List.replicate_succ, List.replicate_zero, Nat.sub_self, Nat.reduceSub, Nat.reduceAdd, Nat.reduceLeDiff, Nat.reduceEqDiff, Nat.zero_le, small, tru_bl, isNon, Bool.not_true, Bool.not_false, w1, hq, decide_eq_true hw]
    · simp only [runF, exSs, exS, evE, evEs, R.bind_ok, R.bind_bad, R.bind_exc, ofO_some, ofO_none, bindT, setAll, List.length_cons, List.length_nil, List.map_cons, List.map_nil, List.getElem?_cons_zero, List.getElem?_cons_succ, List.cons_append, List.nil_append, List.set_cons_zero, List.set_cons_succ, Nat.zero_add, Nat.add_zero, Nat.le_refl, and_self, if_true, true_and, and_true, List.replicate_succ, List.replicate_zero, Nat.sub_self, Nat.reduceSub, Nat.reduceAdd, Nat.reduceLeDiff, Nat.reduceEqDiff, Nat.zero_le, small, tru_bl, isNon, Bool.not_true, Bool.not_false, w1, hq, decide_eq_false hw]
  have s3 : exS (callN prog (n + 3)) (.asg (.nm 15) (.tup [(.var 5), (.ix (.var 10) (.cst (.int 1))), (.b1 .tuple (.lc e__law_net_3 (.tp [16, 17]) .of [(.ix (.var 10) (.cst (.int 2)))] []))])) [some (.ref 0), c1, c2, c3, some (.bl true), some (.int sz), c6, some (.ls (nl.map Val.str)), some (.ref 1), c9, some N.val, c11, some (.str x), some fm, c14, c15, c16, c17] [o', .lst (left.map Val.str)]
      = .ok (.nx, [some (.ref 0), c1, c2, c3, some (.bl true), some (.int sz), c6, some (.ls (nl.map Val.str)), some (.ref 1), c9, some N.val, c11, some (.str x), some fm, c14, some (.tup [.int sz, .tup (N.ins.map Val.str), .tup ((N.upd x fm ns kd).cells.map cellV)]), c16, c17]) [o', .lst (left.map Val.str)] := by
    simp only [runF, exSs, exS, evE, evEs, R.bind_ok, R.bind_bad, R.bind_exc, ofO_some, ofO_none, bindT, setAll, List.length_cons, List.length_nil, List.map_cons, List.map_nil, List.getElem?_cons_zero, List.getElem?_cons_succ, List.cons_append, List.nil_append, List.set_cons_zero, List.set_cons_succ, Nat.zero_add, Nat.add_zero, Nat.le_refl, and_self, if_true, true_and, and_true, List.replicate_succ, List.replicate_zero, Nat.sub_self, Nat.reduceSub, Nat.reduceAdd, Nat.reduceLeDiff, Nat.reduceEqDiff, Nat.zero_le, small, tru_bl, isNon, Bool.not_true, Bool.not_false, n1, n2, walk_tup, k1, ht]
  cases b with
  | true =>
    refine ⟨o', N.upd x fm ns kd, some fm, some (.tup [.int sz, .tup (N.ins.map Val.str), .tup ((N.upd x fm ns kd).cells.map cellV)]), b', ⟨hok', hb rfl, hs, ?_, ?_⟩, ?_⟩
    · rw [upd_nms]; exact hI.nms
    · rw [upd_nms]; exact hI.nl
    · refine (nx_ s1).trans ?_
      rw [exSs, exS, s2, R.bind_ok, tru_bl, ofO_some, R.bind_ok]
      show ((exSs _ _ _ _).bind _ : R (Flow × Env)) = _
      rw [nx_ s3, hval]
      simp only [runF, exSs, exS, evE, evEs, R.bind_ok, R.bind_bad, R.bind_exc, ofO_some, ofO_none, bindT, setAll, List.length_cons, List.length_nil, List.map_cons, List.map_nil, List.getElem?_cons_zero, List.getElem?_cons_succ, List.cons_append, List.nil_append, List.set_cons_zero, List.set_cons_succ, Nat.zero_add, Nat.add_zero, Nat.le_refl, and_self, if_true, true_and, and_true, List.replicate_succ, List.replicate_zero, Nat.sub_self, Nat.reduceSub, Nat.reduceAdd, Nat.reduceLeDiff, Nat.reduceEqDiff, Nat.zero_le, small, tru_bl, isNon, Bool.not_true, Bool.not_false, e2]
  | false =>
    refine ⟨o', N, some fm, some (.tup [.int sz, .tup (N.ins.map Val.str), .tup ((N.upd x fm ns kd).cells.map cellV)]), b', hI, ?_⟩
    refine (nx_ s1).trans ?_
    rw [exSs, exS, s2, R.bind_ok, tru_bl, ofO_some, R.bind_ok]
    show ((exSs _ _ _ _).bind _ : R (Flow × Env)) = _
    rw [nx_ s3]
    simp only [runF, exSs, exS, evE, evEs, R.bind_ok, R.bind_bad, R.bind_exc, ofO_some, ofO_none, bindT, setAll, List.length_cons, List.length_nil, List.map_cons, List.map_nil, List.getElem?_cons_zero, List.getElem?_cons_succ, List.cons_append, List.nil_append, List.set_cons_zero, List.set_cons_succ, Nat.zero_add, Nat.add_zero, Nat.le_refl, and_self, if_true, true_and, and_true, List.replicate_succ, List.replicate_zero, Nat.sub_self, Nat.reduceSub, Nat.reduceAdd, Nat.reduceLeDiff, Nat.reduceEqDiff, Nat.zero_le, small, tru_bl, isNon, Bool.not_true, Bool.not_false, e2]
theorem net_2c (n : Nat) (sz : Int) (left nl : List Str) (hn : ∀ t ∈ nl, NameOk t) (hl : 0 < nl.length) (c1 c2 c3 c6 c9 c11 c14 c16 c17 : Option Val) : ∀ (xs : List Str), (∀ x ∈ xs, NameOk x) → ∀ (o : Obj), BoxO o → ∀ (N : Net), Inv sz left nl N → ∀ (c12 c13 c15 : Option Val),
    ∃ (o' : Obj) (N' : Net) (d12 d13 d15 : Option Val), BoxO o' ∧ Inv sz left nl N' ∧ forL (exSs (callN prog (n + 3)) b__law_net_4) (.nm 12) (keepW .of [.ref 1] (left.map Val.str)) (xs.map Val.str) [some (.ref 0), c1, c2, c3, some (.bl true), some (.int sz), c6, some (.ls (nl.map Val.str)), some (.ref 1), c9, some N.val, c11, c12, c13, c14, c15, c16, c17] [o, .lst (left.map Val.str)]
      = .ok (.nx, [some (.ref 0), c1, c2, c3, some (.bl true), some (.int sz), c6, some (.ls (nl.map Val.str)), some (.ref 1), c9, some N'.val, c11, d12, d13, c14, d15, c16, c17]) [o', .lst (left.map Val.str)]
  | [], _, o, h, N, hI, c12, c13, c15 => ⟨o, N, c12, c13, c15, h, hI, by
      have hk : keepW .of [.ref 1] (left.map Val.str) [o, .lst (left.map Val.str)] = true := keep_ref 1 _ _ rfl
      simp only [List.map_nil, forL, hk, if_true]⟩
  | x :: xs, hx, o, h, N, hI, c12, c13, c15 => by
    have hk : keepW .of [.ref 1] (left.map Val.str) [o, .lst (left.map Val.str)] = true := keep_ref 1 _ _ rfl
    obtain ⟨o1, N1, d13, d15, b1, I1, e1⟩ := net_1c h n sz left nl hn hl N hI x (hx x List.mem_cons_self) c1 c2 c3 c6 c9 c11 c13 c14 c15 c16 c17
    obtain ⟨o2, N2, f12, f13, f15, b2, I2, e2⟩ := net_2c n sz left nl hn hl c1 c2 c3 c6 c9 c11 c14 c16 c17 xs (fun y hy => hx y (List.mem_cons_of_mem _ hy)) o1 b1 N1 I1 (some (.str x)) d13 d15
    refine ⟨o2, N2, f12, f13, f15, b2, I2, ?_⟩
    simp only [List.map_cons, forL, hk, bindT, setAll, List.set_cons_zero, List.set_cons_succ, e1, R.bind_ok]
    exact e2
theorem net_3c (n : Nat) (sz : Int) (left nl : List Str) (hn : ∀ t ∈ nl, NameOk t) (hl : 0 < nl.length) (hleft : ∀ t ∈ left, NameOk t) (kp : Store → Bool) (hk : ∀ st, kp st = true) (c1 c2 c3 c6 c9 c14 c16 c17 : Option Val) : ∀ (xs : List Val) (o : Obj), BoxO o → ∀ (N : Net), Inv sz left nl N → ∀ (c11 c12 c13 c15 : Option Val),
    ∃ (o' : Obj) (N' : Net) (d11 d12 d13 d15 : Option Val), BoxO o' ∧ Inv sz left nl N' ∧ forL (exSs (callN prog (n + 3)) b__law_net_5) (.nm 11) kp xs [some (.ref 0), c1, c2, c3, some (.bl true), some (.int sz), c6, some (.ls (nl.map Val.str)), some (.ref 1), c9, some N.val, c11, c12, c13, c14, c15, c16, c17] [o, .lst (left.map Val.str)]
      = .ok (.nx, [some (.ref 0), c1, c2, c3, some (.bl true), some (.int sz), c6, some (.ls (nl.map Val.str)), some (.ref 1), c9, some N'.val, d11, d12, d13, c14, d15, c16, c17]) [o', .lst (left.map Val.str)]
  | [], o, h, N, hI, c11, c12, c13, c15 => ⟨o, N, c11, c12, c13, c15, h, hI, by simp only [forL, hk, if_true]⟩
  | x :: xs, o, h, N, hI, c11, c12, c13, c15 => by
    have hw : walkV [o, .lst (left.map Val.str)] .of [.ref 1] = some (left.map Val.str) := walk_ref _ 1 _ rfl
    obtain ⟨o1, N1, d12, d13, d15, b1, I1, e1⟩ := net_2c n sz left nl hn hl c1 c2 c3 c6 c9 (some x) c14 c16 c17 left hleft o h N hI c12 c13 c15
    obtain ⟨o2, N2, f11, f12, f13, f15, b2, I2, e2⟩ := net_3c n sz left nl hn hl hleft kp hk c1 c2 c3 c6 c9 c14 c16 c17 xs o1 b1 N1 I1 (some x) d12 d13 d15
    have e3 : exSs (callN prog (n + 3)) b__law_net_5 [some (.ref 0), c1, c2, c3, some (.bl true), some (.int sz), c6, some (.ls (nl.map Val.str)), some (.ref 1), c9, some N.val, some x, c12, c13, c14, c15, c16, c17] [o, .lst (left.map Val.str)]
      = .ok (.nx, [some (.ref 0), c1, c2, c3, some (.bl true), some (.int sz), c6, some (.ls (nl.map Val.str)), some (.ref 1), c9, some N1.val, some x, d12, d13, c14, d15, c16, c17]) [o1, .lst (left.map Val.str)] := by
      simp only [b__law_net_5, runF, exSs, exS, evE, evEs, R.bind_ok, R.bind_bad, R.bind_exc, ofO_some, ofO_none, bindT, setAll, List.length_cons, List.length_nil, List.map_cons, List.map_nil, List.getElem?_cons_zero, List.getElem?_cons_succ, List.cons_append, List.nil_append, List.set_cons_zero, List.set_cons_succ, Nat.zero_add, Nat.add_zero, Nat.le_refl, and_self, if_true, true_and, and_true, List.replicate_succ, List.replicate_zero, Nat.sub_self, Nat.reduceSub, Nat.reduceAdd, Nat.reduceLeDiff, Nat.reduceEqDiff, Nat.zero_le, small, tru_bl, isNon, Bool.not_true, Bool.not_false, hw, e1]
    refine ⟨o2, N2, f11, f12, f13, f15, b2, I2, ?_⟩
    simp only [forL, hk, bindT, setAll, List.set_cons_zero, List.set_cons_succ, e3, R.bind_ok]
    exact e2
/-- where all cells show a fixed value, all are ready -/
theorem ordG_all (cells : List Cell) (hn : (cells.map (·.nm)).Nodup) (hk : ∀ c ∈ cells, c.ns = []) : ∀ (k : Nat) (done row : List Str), (cells.filter (ndn done)).length = k → (ordG cells k done row).length = row.length + k := by
  intro k
  induction k with
  | zero => intro done row _; rfl
  | succ k ih =>
    intro done row h
    have hf : cells.find? (rdy done) = (cells.filter (ndn done)).head? := by
      rw [List.head?_filter]
      have : ∀ l : List Cell, (∀ c ∈ l, c.ns = []) → l.find? (rdy done) = l.find? (ndn done) := by
        intro l
        induction l with
        | nil => intro _; rfl
        | cons c l ih2 =>
          intro hl
          have e : rdy done c = ndn done c := by
            rw [rdy_eq]
            have : pdn done c = true := by
              unfold pdn nowOf
              split
              · rfl
              · rw [hl c List.mem_cons_self]; rfl
            rw [this, Bool.and_true]
          rw [List.find?_cons, List.find?_cons, e, ih2 fun d hd => hl d (List.mem_cons_of_mem _ hd)]
      exact this cells hk
    cases hq : cells.filter (ndn done) with
    | nil => rw [hq] at h; simp at h
    | cons c rest =>
      rw [hq, List.head?_cons] at hf
      have hcm : c ∈ cells.filter (ndn done) := by rw [hq]; exact List.mem_cons_self
      have herase : ((cells.filter (ndn done)).map (·.nm)).erase c.nm = (cells.filter (ndn (done ++ [c.nm]))).map (·.nm) := by
        have hnd : ((cells.filter (ndn done)).map (·.nm)).Nodup := hn.sublist (List.filter_sublist.map _)
        rw [hnd.erase_eq_filter, List.filter_map, List.filter_filter]
        congr 1
        apply List.filter_congr
        intro d hd
        simp only [ndn, Function.comp, List.mem_append, List.mem_singleton]
        by_cases e1 : d.nm ∈ done <;> by_cases e2 : d.nm = c.nm <;> simp [e1, e2]
      have hlen := congrArg List.length herase
      rw [List.length_erase_of_mem (List.mem_map_of_mem hcm), List.length_map, List.length_map, h] at hlen
      have := ih (done ++ [c.nm]) (row ++ [c.nm]) (by omega)
      rw [ordG, hf]
      show (ordG cells k (done ++ [c.nm]) (row ++ [c.nm])).length = _
      rw [this, List.length_append, List.length_singleton]
      omega
end PV
end

section
set_option Elab.async false
set_option linter.all false
set_option maxRecDepth 100000
set_option maxHeartbeats 1000000
namespace PV
open PySem L2
mutual
theorem da_under (n : Nat) : ∀ v : Val, v.da = true → v.under n = true
  | .non, _ => rfl
  | .bl _, _ => rfl
  | .int _, _ => rfl
  | .str _, _ => rfl
  | .tup xs, h => by
    simp only [Val.da] at h
    simp only [Val.under, daAll_under n xs h]
  | .ls xs, h => by
    simp only [Val.da] at h
    simp only [Val.under, daAll_under n xs h]
  | .sc _, h => by simp [Val.da] at h
  | .dc _, h => by simp [Val.da] at h
  | .ref _, h => by simp [Val.da] at h
theorem daAll_under (n : Nat) : ∀ vs : List Val, daAll vs = true → underAll n vs = true
  | [], _ => rfl
  | v :: vs, h => by
    simp only [daAll, Bool.and_eq_true] at h
    simp only [underAll, da_under n v h.1, daAll_under n vs h.2, Bool.and_self]
end
theorem ok0 (sz : Int) (s0 : 2 ≤ sz) (s1 : sz ≤ 5) (names ps left : List Str) (cs : List Cell) (hn : ∀ t ∈ names, NameOk t) (hp : names.Pairwise ltS) (hl : names.length ≤ 11) (p1 : 0 < ps.length) (p2 : ps.length ≤ 3) (hperm : (ps ++ left).Perm names) (hsub : left.Sublist names)
    (hcs : cs.map (·.nm) = left) (hf : ∀ c ∈ cs, FormOk sz c.fm c.ns c.kd ∧ c.ns = [] ∧ c.kd = .oth) : Inv sz left names ⟨sz, sortS ps, cs⟩ := by
  have hnd : (ps ++ left).Nodup := hperm.nodup_iff.mpr (ltS_nodup hp)
  have hnd2 := List.nodup_append.mp hnd
  have hlen := hperm.length_eq
  rw [List.length_append] at hlen
  have hcl : cs.length = left.length := by rw [← hcs, List.length_map]
  have hsl : (sortS ps).length = ps.length := (sortS_perm ps).length_eq
  have hmn : ∀ t, t ∈ ps ∨ t ∈ left → NameOk t := fun t ht => hn t (hperm.subset (List.mem_append.mpr ht))
  have hcm : ∀ c ∈ cs, c.nm ∈ left := fun c hc => by rw [← hcs]; exact List.mem_map_of_mem hc
  have hok : NetOk ⟨sz, sortS ps, cs⟩ := by
    refine ⟨s0, s1, by show 0 < (sortS ps).length; omega, by show (sortS ps).length ≤ 3; omega, by show (sortS ps).length + cs.length ≤ 11; omega, fun x hx => hmn x (.inl ((sortS_perm ps).subset hx)), sortS_lt hnd2.1, fun c hc => hmn _ (.inr (hcm c hc)), ?_, ?_, fun c hc => (hf c hc).1, ?_⟩
    · show (cs.map (·.nm)).Pairwise ltS
      rw [hcs]
      exact hp.sublist hsub
    · intro c hc hm
      exact hnd2.2.2 _ ((sortS_perm ps).subset hm) _ (hcm c hc) rfl
    · intro c hc x hx
      rw [(hf c hc).2.1] at hx
      simp at hx
  refine ⟨hok, ⟨?_, ?_⟩, rfl, hcs, ?_⟩
  · have h0 : cs.filter (ndn (sortS ps)) = cs := by
      rw [List.filter_eq_self]
      intro c hc
      have := hok.dis c hc
      simp only [ndn]
      exact by simpa using this
    have := ordG_all cs hok.nodup (fun c hc => (hf c hc).2.1) cs.length (sortS ps) [] (by rw [h0])
    show cs.length ≤ (ordG cs cs.length (sortS ps) []).length
    rw [this]
    simp
  · intro c hc hk
    rw [(hf c hc).2.2] at hk
    cases hk
  · intro z hz
    rcases List.mem_append.mp (hperm.symm.subset hz) with h | h
    · exact .inl ((sortS_perm ps).symm.subset h)
    · refine .inr ?_
      show z ∈ cs.map (·.nm)
      rw [hcs]
      exact h
theorem strs_map : ∀ l : List Str, strsOf (l.map Val.str) = some l := by
  intro l
  induction l with
  | nil => rfl
  | cons t l ih => simp only [List.map_cons, strsOf, ih, Option.map_some]
theorem v_net {o : Obj} (h : BoxO o) (n : Nat) : ∃ (o' : Obj) (N : Net), BoxO o' ∧ NetOk N ∧ NetSnd N ∧ callV (callN prog (n + 4)) "_law_net" [.ref 0, .int 3, .int 8, .int 5, .bl true] [o] = .ok N.val [o'] := by
  obtain ⟨q, o1, q0, q1, b1, e1⟩ := tk h (n + 2) (5 - 1) [] (by decide)
  obtain ⟨p, o2, p0, p1, b2, e2⟩ := tk b1 (n + 2) 3 [] (by decide)
  obtain ⟨t, o3, t0, t1, b3, e3⟩ := tk b2 (n + 2) (8 - 1) [] (by decide)
  obtain ⟨m, hm⟩ : ∃ m : Nat, (m : Int) = 1 + p + 2 + t := ⟨(1 + p + 2 + t).toNat, by omega⟩
  obtain ⟨o4, names, b4, nl, nn, np, e4⟩ := v_names b3 n m (by omega)
  rw [hm] at e4
  obtain ⟨sz, hsz⟩ : ∃ sz : Int, sz = 2 + q := ⟨_, rfl⟩
  obtain ⟨mi, hmi⟩ : ∃ mi : Int, mi = 1 + p := ⟨_, rfl⟩
  have hrl : (rangeV mi).length = mi.toNat := by unfold rangeV; simp
  obtain ⟨ps, left, o5, b5, e5, hperm, hsub, hpl⟩ := pop_2 (n + 2) [some (.ref 0), some (.int 3), some (.int 8), some (.int 5), some (.bl true), some (.int sz), some (.int mi), some (.ls (names.map Val.str)), some (.ref 1), none, none, none, none, none, none, none, none, none] (keepW .range [.int mi] (rangeV mi)) (fun st => keep_int _ _ _ _) (fun v => rfl) (fun v => rfl) (rangeV mi) o4 names [] b4 (by omega) (by omega) (by simp; omega)
  rw [List.nil_append] at e5
  have hlen := hperm.length_eq
  rw [List.length_append] at hlen
  have hll : left.length ≤ 11 := by omega
  obtain ⟨cs, o6, e6, c6, f6, b6, g6⟩ := lc_box (f := evE (callN prog (n + 3)) e__law_net_2) (tg := .nm 12) (env := [some (.ref 0), some (.int 3), some (.int 8), some (.int 5), some (.bl true), some (.int sz), some (.int mi), some (.ls (names.map Val.str)), some (.ref 1), some (.ls ((sortS ps).map Val.str)), none, none, none, none, none, none, none, none]) (keep := keepW .of [.ref 1] (left.map Val.str)) (r := [.lst (left.map Val.str)])
    Val.str cellV (fun x (c : Cell) => c.nm = x ∧ FormOk sz c.fm c.ns c.kd ∧ c.ns = [] ∧ c.kd = .oth) (fun o => keep_ref 1 _ _ rfl) left (fun x hx o hb => by
      obtain ⟨w, oa, w0, w1, ba, ea⟩ := tk hb (n + 2) sz [.lst (left.map Val.str)] (by omega)
      exact ⟨_, ⟨x, .tup [.str "worth", .int w], [], .oth⟩, oa, rfl, by simp only [e__law_net_2, runF, exSs, exS, evE, evEs, R.bind_ok, R.bind_bad, R.bind_exc, ofO_some, ofO_none, bindT, setAll, List.length_cons, List.length_nil, List.map_cons, List.map_nil, List.getElem?_cons_zero, List.getElem?_cons_succ, List.cons_append, List.nil_append, List.set_cons_zero, List.set_cons_succ, Nat.zero_add, Nat.add_zero, Nat.le_refl, and_self, if_true, true_and, and_true, List.replicate_succ, List.replicate_zero, Nat.sub_self, Nat.reduceSub, Nat.reduceAdd, Nat.reduceLeDiff, Nat.reduceEqDiff, Nat.zero_le, small, tru_bl, isNon, Bool.not_true, Bool.not_false, ea, cellV], ⟨rfl, .worth w w0 w1, rfl, rfl⟩, ba⟩) [] o5 b5 (by simp; omega)
  rw [List.nil_append] at e6
  have hcs : cs.map (·.nm) = left := by
    have := g6 id (fun c : Cell => c.nm) fun x c hp => hp.1
    simpa using this
  have hI := ok0 sz (by omega) (by omega) names ps left cs nn np (by omega) (by omega) (by omega) hperm hsub hcs (fun c hc => by
    obtain ⟨x, _, hp⟩ := f6 c hc
    exact hp.2)
  have hleft : ∀ t ∈ left, NameOk t := fun t ht => nn t (hsub.subset ht)
  obtain ⟨o7, N, d11, d12, d13, d15, b7, I7, e7⟩ := net_3c n sz left names nn (by omega) hleft (keepW .range [.int 2] (rangeV 2)) (fun st => keep_int _ _ _ _) (some (.int 3)) (some (.int 8)) (some (.int 5)) (some (.int mi)) (some (.ls ((sortS ps).map Val.str))) none none none (rangeV 2) o6 b6 ⟨sz, sortS ps, cs⟩ hI none none none none
  refine ⟨o7, N, b7, I7.ok, I7.snd, ?_⟩
  have hlist : ∀ st : Store, b1V st .list (.ls (names.map Val.str)) = some (.ls (names.map Val.str)) := fun st => rfl
  have w6 : ∀ st : Store, walkV st .range [.int mi] = some (rangeV mi) := fun st => walk_rg _ _ (by omega) (by omega)
  have w2 : ∀ st : Store, walkV st .range [.int 2] = some (rangeV 2) := fun st => rfl
  have hps64 : ps.length < 64 := by omega
  have hsort : ∀ st : Store, b1V st .sorted (.ls (ps.map Val.str)) = some (.ls ((sortS ps).map Val.str)) := fun st => by
    simp only [b1V, lstOf, strs_map, Option.bind_some, if_pos hps64]
  have ht : ∀ (st : Store) (l : List Val), b1V st .tuple (.ls l) = some (.tup l) := fun st l => rfl
  have wr : ∀ o : Obj, walkV [o, .lst (left.map Val.str)] .of [.ref 1] = some (left.map Val.str) := fun o => walk_ref _ 1 _ rfl
  have hval : Net.val ⟨sz, sortS ps, cs⟩ = .tup [.int sz, .tup ((sortS ps).map Val.str), .tup (cs.map cellV)] := rfl
  have hrun : callN prog (n + 4) "_law_net" [.ref 0, .int 3, .int 8, .int 5, .bl true] [o] = .ok N.val [o7, .lst (left.map Val.str)] := by
    rw [callN_at lk_net]
    refine run_ (env' := [some (.ref 0), some (.int 3), some (.int 8), some (.int 5), some (.bl true), some (.int sz), some (.int mi), some (.ls (names.map Val.str)), some (.ref 1), some (.ls ((sortS ps).map Val.str)), some N.val, d11, d12, d13, none, d15, none, none]) ⟨rfl, by decide⟩ [some (.ref 0), some (.int 3), some (.int 8), some (.int 5), some (.bl true), none, none, none, none, none, none, none, none, none, none, none, none, none] rfl ?_
    refine (nx_ (env' := [some (.ref 0), some (.int 3), some (.int 8), some (.int 5), some (.bl true), some (.int sz), none, none, none, none, none, none, none, none, none, none, none, none]) (st' := [o1]) (by rw [hsz]; simp only [runF, exSs, exS, evE, evEs, R.bind_ok, R.bind_bad, R.bind_exc, ofO_some, ofO_none, bindT, setAll, List.length_cons, List.length_nil, List.map_cons, List.map_nil, List.getElem?_cons_zero, List.getElem?_cons_succ, List.cons_append, List.nil_append, List.set_cons_zero, List.set_cons_succ, Nat.zero_add, Nat.add_zero, Nat.le_refl, and_self, if_true, true_and, and_true, List.replicate_succ, List.replicate_zero, Nat.sub_self, Nat.reduceSub, Nat.reduceAdd, Nat.reduceLeDiff, Nat.reduceEqDiff, Nat.zero_le, small, tru_bl, isNon, Bool.not_true, Bool.not_false, op_sub, e1, op_add])).trans ?_
    refine (nx_ (env' := [some (.ref 0), some (.int 3), some (.int 8), some (.int 5), some (.bl true), some (.int sz), some (.int mi), none, none, none, none, none, none, none, none, none, none, none]) (st' := [o2]) (by rw [hmi]; simp only [runF, exSs, exS, evE, evEs, R.bind_ok, R.bind_bad, R.bind_exc, ofO_some, ofO_none, bindT, setAll, List.length_cons, List.length_nil, List.map_cons, List.map_nil, List.getElem?_cons_zero, List.getElem?_cons_succ, List.cons_append, List.nil_append, List.set_cons_zero, List.set_cons_succ, Nat.zero_add, Nat.add_zero, Nat.le_refl, and_self, if_true, true_and, and_true, List.replicate_succ, List.replicate_zero, Nat.sub_self, Nat.reduceSub, Nat.reduceAdd, Nat.reduceLeDiff, Nat.reduceEqDiff, Nat.zero_le, small, tru_bl, isNon, Bool.not_true, Bool.not_false, e2, op_add])).trans ?_
    refine (nx_ (env' := [some (.ref 0), some (.int 3), some (.int 8), some (.int 5), some (.bl true), some (.int sz), some (.int mi), some (.ls (names.map Val.str)), none, none, none, none, none, none, none, none, none, none]) (st' := [o4]) (by rw [hmi]; simp only [runF, exSs, exS, evE, evEs, R.bind_ok, R.bind_bad, R.bind_exc, ofO_some, ofO_none, bindT, setAll, List.length_cons, List.length_nil, List.map_cons, List.map_nil, List.getElem?_cons_zero, List.getElem?_cons_succ, List.cons_append, List.nil_append, List.set_cons_zero, List.set_cons_succ, Nat.zero_add, Nat.add_zero, Nat.le_refl, and_self, if_true, true_and, and_true, List.replicate_succ, List.replicate_zero, Nat.sub_self, Nat.reduceSub, Nat.reduceAdd, Nat.reduceLeDiff, Nat.reduceEqDiff, Nat.zero_le, small, tru_bl, isNon, Bool.not_true, Bool.not_false, op_sub, op_add, e3, e4])).trans ?_
    refine (nx_ (env' := [some (.ref 0), some (.int 3), some (.int 8), some (.int 5), some (.bl true), some (.int sz), some (.int mi), some (.ls (names.map Val.str)), some (.ref 1), none, none, none, none, none, none, none, none, none]) (st' := [o4, .lst (names.map Val.str)]) (by simp only [runF, exSs, exS, evE, evEs, R.bind_ok, R.bind_bad, R.bind_exc, ofO_some, ofO_none, bindT, setAll, List.length_cons, List.length_nil, List.map_cons, List.map_nil, List.getElem?_cons_zero, List.getElem?_cons_succ, List.cons_append, List.nil_append, List.set_cons_zero, List.set_cons_succ, Nat.zero_add, Nat.add_zero, Nat.le_refl, and_self, if_true, true_and, and_true, List.replicate_succ, List.replicate_zero, Nat.sub_self, Nat.reduceSub, Nat.reduceAdd, Nat.reduceLeDiff, Nat.reduceEqDiff, Nat.zero_le, small, tru_bl, isNon, Bool.not_true, Bool.not_false, hlist, ownV])).trans ?_
    refine (nx_ (env' := [some (.ref 0), some (.int 3), some (.int 8), some (.int 5), some (.bl true), some (.int sz), some (.int mi), some (.ls (names.map Val.str)), some (.ref 1), some (.ls ((sortS ps).map Val.str)), none, none, none, none, none, none, none, none]) (st' := [o5, .lst (left.map Val.str)]) (by simp only [runF, exSs, exS, evE, evEs, R.bind_ok, R.bind_bad, R.bind_exc, ofO_some, ofO_none, bindT, setAll, List.length_cons, List.length_nil, List.map_cons, List.map_nil, List.getElem?_cons_zero, List.getElem?_cons_succ, List.cons_append, List.nil_append, List.set_cons_zero, List.set_cons_succ, Nat.zero_add, Nat.add_zero, Nat.le_refl, and_self, if_true, true_and, and_true, List.replicate_succ, List.replicate_zero, Nat.sub_self, Nat.reduceSub, Nat.reduceAdd, Nat.reduceLeDiff, Nat.reduceEqDiff, Nat.zero_le, small, tru_bl, isNon, Bool.not_true, Bool.not_false, w6, e5, hsort])).trans ?_
    refine (nx_ (env' := [some (.ref 0), some (.int 3), some (.int 8), some (.int 5), some (.bl true), some (.int sz), some (.int mi), some (.ls (names.map Val.str)), some (.ref 1), some (.ls ((sortS ps).map Val.str)), some (Net.val ⟨sz, sortS ps, cs⟩), none, none, none, none, none, none, none]) (st' := [o6, .lst (left.map Val.str)]) (by rw [hval]; simp only [runF, exSs, exS, evE, evEs, R.bind_ok, R.bind_bad, R.bind_exc, ofO_some, ofO_none, bindT, setAll, List.length_cons, List.length_nil, List.map_cons, List.map_nil, List.getElem?_cons_zero, List.getElem?_cons_succ, List.cons_append, List.nil_append, List.set_cons_zero, List.set_cons_succ, Nat.zero_add, Nat.add_zero, Nat.le_refl, and_self, if_true, true_and, and_true, List.replicate_succ, List.replicate_zero, Nat.sub_self, Nat.reduceSub, Nat.reduceAdd, Nat.reduceLeDiff, Nat.reduceEqDiff, Nat.zero_le, small, tru_bl, isNon, Bool.not_true, Bool.not_false, ht, wr, e6])).trans ?_
    refine (nx_ (env' := [some (.ref 0), some (.int 3), some (.int 8), some (.int 5), some (.bl true), some (.int sz), some (.int mi), some (.ls (names.map Val.str)), some (.ref 1), some (.ls ((sortS ps).map Val.str)), some N.val, d11, d12, d13, none, d15, none, none]) (st' := [o7, .lst (left.map Val.str)]) (by simp only [runF, exSs, exS, evE, evEs, R.bind_ok, R.bind_bad, R.bind_exc, ofO_some, ofO_none, bindT, setAll, List.length_cons, List.length_nil, List.map_cons, List.map_nil, List.getElem?_cons_zero, List.getElem?_cons_succ, List.cons_append, List.nil_append, List.set_cons_zero, List.set_cons_succ, Nat.zero_add, Nat.add_zero, Nat.le_refl, and_self, if_true, true_and, and_true, List.replicate_succ, List.replicate_zero, Nat.sub_self, Nat.reduceSub, Nat.reduceAdd, Nat.reduceLeDiff, Nat.reduceEqDiff, Nat.zero_le, small, tru_bl, isNon, Bool.not_true, Bool.not_false, w2, e7])).trans ?_
    exact rt_ (by simp only [runF, exSs, exS, evE, evEs, R.bind_ok, R.bind_bad, R.bind_exc, ofO_some, ofO_none, bindT, setAll, List.length_cons, List.length_nil, List.map_cons, List.map_nil, List.getElem?_cons_zero, List.getElem?_cons_succ, List.cons_append, List.nil_append, List.set_cons_zero, List.set_cons_succ, Nat.zero_add, Nat.add_zero, Nat.le_refl, and_self, if_true, true_and, and_true, List.replicate_succ, List.replicate_zero, Nat.sub_self, Nat.reduceSub, Nat.reduceAdd, Nat.reduceLeDiff, Nat.reduceEqDiff, Nat.zero_le, small, tru_bl, isNon, Bool.not_true, Bool.not_false])
  have hp : pureAll [.ref 0, .int 3, .int 8, .int 5, .bl true] = false := rfl
  have hu : allUnder 1 [o7, .lst (left.map Val.str)] = true := by simp [allUnder, boxO_under b7 1]
  have hv : thaw 100000 [o7, .lst (left.map Val.str)] 1 N.val = some N.val := by
    show (if N.val.under 1 = true then some N.val else _) = _
    rw [if_pos (da_under 1 _ I7.ok.da)]
  have hne : ¬ [o7, Obj.lst (left.map Val.str)].length = 1 := by simp
  have hle1 : (decide (1 ≤ [o7, Obj.lst (left.map Val.str)].length)) = true := by simp
  have h1 : [o].length = 1 := rfl
  simp only [callV, hp, hrun, leave, h1, if_neg hne, hu, hle1, Bool.and_self, if_true, hv, List.take_succ_cons, List.take_zero]
end PV
end

section
set_option Elab.async false
set_option linter.all false
set_option maxRecDepth 100000
set_option maxHeartbeats 1000000
namespace PV
open PySem L2
/-! ### values that are turned -/
/-- plain values of a depth, no row of more than so many members -/
def Dep (L : Nat) : Nat → Val → Prop
  | 0, v => (match v with
    | .non => True
    | .bl _ => True
    | .int _ => True
    | .str t => Sok t
    | _ => False)
  | d + 1, v => (match v with
    | .non => True
    | .bl _ => True
    | .int _ => True
    | .str t => Sok t
    | .tup xs => xs.length ≤ L ∧ ∀ x ∈ xs, Dep L d x
    | .ls xs => xs.length ≤ L ∧ ∀ x ∈ xs, Dep L d x
    | _ => False)
theorem Dep.da {L : Nat} : ∀ {d : Nat} {v : Val}, Dep L d v → v.da = true
  | 0, v, h => by cases v <;> first | rfl | exact h.elim
  | d + 1, v, h => by
    cases v with
    | tup xs =>
      simp only [Val.da]
      rw [daAll_iff]
      exact fun x hx => (h.2 x hx).da
    | ls xs =>
      simp only [Val.da]
      rw [daAll_iff]
      exact fun x hx => (h.2 x hx).da
    | sc _ => exact h.elim
    | dc _ => exact h.elim
    | ref _ => exact h.elim
    | _ => rfl
theorem Dep.up {L M : Nat} (hl : L ≤ M) : ∀ {d : Nat} {v : Val}, Dep L d v → Dep M (d + 1) v
  | 0, v, h => by cases v <;> first | exact h | exact h.elim
  | d + 1, v, h => by
    cases v with
    | tup xs => exact ⟨Nat.le_trans h.1 hl, fun x hx => (h.2 x hx).up hl⟩
    | ls xs => exact ⟨Nat.le_trans h.1 hl, fun x hx => (h.2 x hx).up hl⟩
    | _ => exact h
theorem cut_mem {α : Type} (xs : List α) (lo hi : Option Int) : ∀ x ∈ cut xs lo hi, x ∈ xs := fun x hx => List.mem_of_mem_take (List.mem_of_mem_drop hx)
theorem cut_len {α : Type} (xs : List α) (lo hi : Option Int) : (cut xs lo hi).length ≤ xs.length := by
  unfold cut
  rw [List.length_drop, List.length_take]
  omega
theorem cut_tup (st : Store) (xs : List Val) (lo hi : Option Int) : cutV st (.tup xs) lo hi = some (.tup (cut xs lo hi)) := rfl
theorem op_tup (st : Store) (a b : List Val) (h : a.length + b.length ≤ 1000) : opS st .add (.tup a) (.tup b) = some (.tup (a ++ b)) := by
  have : a.length + b.length ≤ 100000 := by omega
  simp only [opS, lstOf, opV, if_pos this]
theorem lk_turned : List.lookup ("_law_turned" : Str) prog = some d__law_turned.fn := rfl
theorem v_whole (n : Nat) (v : Val) (st : Store) (h : v.da = true) : callV (callN prog (n + 1)) "_law_whole" [v] st = .ok (.bl (isInt v)) st := callV_p (pure1 h) (c_whole n v [] h)
theorem isi_t {v : Val} (h : v.da = true) (t : Ty) (st : Store) : ∃ b, isiV st v t = some b := by
  cases v <;> first | exact ⟨_, rfl⟩ | simp [Val.da] at h
def oddS : List Str := ["", "a", "b", "none", "A", "late", "row", "ever"]
/-- the last picks -/
theorem turned_c {o : Obj} (h : BoxO o) (n d : Nat) (v : Val) (hv : Dep 20 d v) (r : Store) : ∃ (v' : Val) (o' : Obj) (env' : Env), BoxO o' ∧ Dep 70 (d + 1) v' ∧ exSs (callN prog (n + 2)) (d__law_turned.fn.body.drop 2) [some (.ref 0), some v, none, none] (o :: r) = .ok (.rt v', env') (o' :: r) := by
  have hw := v_whole (n + 1) v (o :: r) hv.da
  have fin : isInt v = false → (∀ st, isiV st v .str = some false) → ∃ (v' : Val) (o' : Obj) (env' : Env), BoxO o' ∧ Dep 70 (d + 1) v' ∧ exSs (callN prog (n + 2)) (d__law_turned.fn.body.drop 2) [some (.ref 0), some v, none, none] (o :: r) = .ok (.rt v', env') (o' :: r) := by
    intro h1 h2
    obtain ⟨x, o1, hx, b1, e1⟩ := pk h n (.ls [.tup [], .non, .int 0, .int 1, .str "a", .tup [.str "a", .int 1]]) _ (.inl rfl) r (show 0 < 6 by decide)
    refine ⟨x, o1, [some (.ref 0), some v, none, none], b1, ?_, ?_⟩
    · simp only [List.mem_cons, List.not_mem_nil, or_false] at hx
      rcases hx with rfl | rfl | rfl | rfl | rfl | rfl
      · exact ⟨by simp, by simp⟩
      · trivial
      · trivial
      · trivial
      · exact sok_c (by decide +kernel)
      · refine ⟨by simp, ?_⟩
        intro y hy
        simp only [List.mem_cons, List.not_mem_nil, or_false] at hy
        rcases hy with rfl | rfl
        · cases d <;> exact sok_c (by decide +kernel)
        · cases d <;> trivial
    · simp only [d__law_turned, List.drop_succ_cons, List.drop_zero, runF, exSs, exS, evE, evEs, R.bind_ok, R.bind_bad, R.bind_exc, ofO_some, ofO_none, bindT, setAll, List.length_cons, List.length_nil, List.map_cons, List.map_nil, List.getElem?_cons_zero, List.getElem?_cons_succ, List.cons_append, List.nil_append, List.set_cons_zero, List.set_cons_succ, Nat.zero_add, Nat.add_zero, Nat.le_refl, and_self, if_true, true_and, and_true, List.replicate_succ, List.replicate_zero, Nat.sub_self, Nat.reduceSub, Nat.reduceAdd, Nat.reduceLeDiff, Nat.reduceEqDiff, Nat.zero_le, small, tru_bl, isNon, Bool.not_true, Bool.not_false, hw, h1, h2, e1]
  cases v with
  | int i =>
    have hin : ∀ st, ∃ b, cmpV st .isin (.int i) (.tup [.int 0, .int 1]) = some b := fun st => ⟨_, rfl⟩
    have hi0 : isInt (.int i) = true := rfl
    rw [hi0] at hw
    have fin2 : ∀ o1, BoxO o1 → ∃ (v' : Val) (o' : Obj), BoxO o' ∧ Dep 70 (d + 1) v' ∧ callV (callN prog (n + 2)) "_law_pick" [.ref 0, .ls [.int (i + 1), .int (i - 1), .int 7, .non]] (o1 :: r) = .ok v' (o' :: r) := by
      intro o1 b1
      obtain ⟨x, o2, hx, b2, e2⟩ := pk b1 n (.ls [.int (i + 1), .int (i - 1), .int 7, .non]) _ (.inl rfl) r (show 0 < 4 by decide)
      refine ⟨x, o2, b2, ?_, e2⟩
      simp only [List.mem_cons, List.not_mem_nil, or_false] at hx
      rcases hx with rfl | rfl | rfl | rfl <;> trivial
    obtain ⟨b, hb⟩ := hin (o :: r)
    cases b with
    | false =>
      obtain ⟨v', o', b', dv, e⟩ := fin2 o h
      exact ⟨v', o', [some (.ref 0), some (.int i), none, none], b', dv, by simp only [d__law_turned, List.drop_succ_cons, List.drop_zero, runF, exSs, exS, evE, evEs, R.bind_ok, R.bind_bad, R.bind_exc, ofO_some, ofO_none, bindT, setAll, List.length_cons, List.length_nil, List.map_cons, List.map_nil, List.getElem?_cons_zero, List.getElem?_cons_succ, List.cons_append, List.nil_append, List.set_cons_zero, List.set_cons_succ, Nat.zero_add, Nat.add_zero, Nat.le_refl, and_self, if_true, true_and, and_true, List.replicate_succ, List.replicate_zero, Nat.sub_self, Nat.reduceSub, Nat.reduceAdd, Nat.reduceLeDiff, Nat.reduceEqDiff, Nat.zero_le, small, tru_bl, isNon, Bool.not_true, Bool.not_false, hw, hb, op_add, op_sub, e]⟩
    | true =>
      obtain ⟨q, o1, q0, q1, b1, e1⟩ := tk h (n + 1) 3 r (by decide)
      by_cases hq : q = 0
      · refine ⟨.bl (decide (i = 1)), o1, [some (.ref 0), some (.int i), none, none], b1, by trivial, ?_⟩
        simp only [d__law_turned, List.drop_succ_cons, List.drop_zero, runF, exSs, exS, evE, evEs, R.bind_ok, R.bind_bad, R.bind_exc, ofO_some, ofO_none, bindT, setAll, List.length_cons, List.length_nil, List.map_cons, List.map_nil, List.getElem?_cons_zero, List.getElem?_cons_succ, List.cons_append, List.nil_append, List.set_cons_zero, List.set_cons_succ, Nat.zero_add, Nat.add_zero, Nat.le_refl, and_self, if_true, true_and, and_true, List.replicate_succ, List.replicate_zero, Nat.sub_self, Nat.reduceSub, Nat.reduceAdd, Nat.reduceLeDiff, Nat.reduceEqDiff, Nat.zero_le, small, tru_bl, isNon, Bool.not_true, Bool.not_false, hw, hb, e1, eq_int, decide_eq_true hq]
      · obtain ⟨v', o', b', dv, e⟩ := fin2 o1 b1
        exact ⟨v', o', [some (.ref 0), some (.int i), none, none], b', dv, by simp only [d__law_turned, List.drop_succ_cons, List.drop_zero, runF, exSs, exS, evE, evEs, R.bind_ok, R.bind_bad, R.bind_exc, ofO_some, ofO_none, bindT, setAll, List.length_cons, List.length_nil, List.map_cons, List.map_nil, List.getElem?_cons_zero, List.getElem?_cons_succ, List.cons_append, List.nil_append, List.set_cons_zero, List.set_cons_succ, Nat.zero_add, Nat.add_zero, Nat.le_refl, and_self, if_true, true_and, and_true, List.replicate_succ, List.replicate_zero, Nat.sub_self, Nat.reduceSub, Nat.reduceAdd, Nat.reduceLeDiff, Nat.reduceEqDiff, Nat.zero_le, small, tru_bl, isNon, Bool.not_true, Bool.not_false, hw, hb, e1, eq_int, decide_eq_false hq, op_add, op_sub, e]⟩
  | str t =>
    have hi0 : isInt (.str t) = false := rfl
    rw [hi0] at hw
    have hs : ∀ st, isiV st (.str t) .str = some true := fun st => rfl
    obtain ⟨x, o1, hx, b1, e1⟩ := pk h n (.ls (oddS.map Val.str)) _ (.inl rfl) r (show 0 < 8 by decide)
    obtain ⟨u, hu, rfl⟩ := List.mem_map.mp hx
    have hus : Sok u := by
      have : oddS.all PyData.strOk = true := by decide +kernel
      exact List.all_eq_true.mp this u hu
    simp only [oddS, runF, exSs, exS, evE, evEs, R.bind_ok, R.bind_bad, R.bind_exc, ofO_some, ofO_none, bindT, setAll, List.length_cons, List.length_nil, List.map_cons, List.map_nil, List.getElem?_cons_zero, List.getElem?_cons_succ, List.cons_append, List.nil_append, List.set_cons_zero, List.set_cons_succ, Nat.zero_add, Nat.add_zero, Nat.le_refl, and_self, if_true, true_and, and_true, List.replicate_succ, List.replicate_zero, Nat.sub_self, Nat.reduceSub, Nat.reduceAdd, Nat.reduceLeDiff, Nat.reduceEqDiff, Nat.zero_le, small, tru_bl, isNon, Bool.not_true, Bool.not_false] at e1
    exact ⟨.str u, o1, [some (.ref 0), some (.str t), none, none], b1, hus, by simp only [d__law_turned, List.drop_succ_cons, List.drop_zero, runF, exSs, exS, evE, evEs, R.bind_ok, R.bind_bad, R.bind_exc, ofO_some, ofO_none, bindT, setAll, List.length_cons, List.length_nil, List.map_cons, List.map_nil, List.getElem?_cons_zero, List.getElem?_cons_succ, List.cons_append, List.nil_append, List.set_cons_zero, List.set_cons_succ, Nat.zero_add, Nat.add_zero, Nat.le_refl, and_self, if_true, true_and, and_true, List.replicate_succ, List.replicate_zero, Nat.sub_self, Nat.reduceSub, Nat.reduceAdd, Nat.reduceLeDiff, Nat.reduceEqDiff, Nat.zero_le, small, tru_bl, isNon, Bool.not_true, Bool.not_false, hw, hs, e1]⟩
  | non => exact fin rfl fun st => rfl
  | bl b => exact fin rfl fun st => rfl
  | tup xs => exact fin rfl fun st => rfl
  | ls xs => exact fin rfl fun st => rfl
  | sc _ => exact absurd hv.da (by simp [Val.da])
  | dc _ => exact absurd hv.da (by simp [Val.da])
  | ref _ => exact absurd hv.da (by simp [Val.da])
theorem turned_b {o : Obj} (h : BoxO o) (n d : Nat) (v : Val) (hv : Dep 20 d v) (r : Store) : ∃ (v' : Val) (o' : Obj) (env' : Env), BoxO o' ∧ Dep 70 (d + 1) v' ∧ exSs (callN prog (n + 2)) (d__law_turned.fn.body.drop 1) [some (.ref 0), some v, none, none] (o :: r) = .ok (.rt v', env') (o' :: r) := by
  have go : (∀ st, isiV st v .tuple = some false) → ∃ (v' : Val) (o' : Obj) (env' : Env), BoxO o' ∧ Dep 70 (d + 1) v' ∧ exSs (callN prog (n + 2)) (d__law_turned.fn.body.drop 1) [some (.ref 0), some v, none, none] (o :: r) = .ok (.rt v', env') (o' :: r) := by
    intro h1
    obtain ⟨v', o', env', b', dv, e⟩ := turned_c h n d v hv r
    refine ⟨v', o', env', b', dv, ?_⟩
    refine (nx_ (env' := [some (.ref 0), some v, none, none]) (st' := o :: r) (by simp only [runF, exSs, exS, evE, evEs, R.bind_ok, R.bind_bad, R.bind_exc, ofO_some, ofO_none, bindT, setAll, List.length_cons, List.length_nil, List.map_cons, List.map_nil, List.getElem?_cons_zero, List.getElem?_cons_succ, List.cons_append, List.nil_append, List.set_cons_zero, List.set_cons_succ, Nat.zero_add, Nat.add_zero, Nat.le_refl, and_self, if_true, true_and, and_true, List.replicate_succ, List.replicate_zero, Nat.sub_self, Nat.reduceSub, Nat.reduceAdd, Nat.reduceLeDiff, Nat.reduceEqDiff, Nat.zero_le, small, tru_bl, isNon, Bool.not_true, Bool.not_false, h1])).trans ?_
    exact e
  cases v with
  | tup xs =>
    have h1 : ∀ st, isiV st (.tup xs) .tuple = some true := fun st => rfl
    obtain ⟨q, o1, q0, q1, b1, e1⟩ := tk h (n + 1) 2 r (by decide)
    by_cases hq : q = 0
    · refine ⟨.ls xs, o1, [some (.ref 0), some (.tup xs), none, none], b1, ?_, ?_⟩
      · cases d with
        | zero => exact hv.elim
        | succ d => exact ⟨Nat.le_trans hv.1 (by decide), fun x hx => (hv.2 x hx).up (by decide)⟩
      · have hl : ∀ st : Store, b1V st .list (.tup xs) = some (.ls xs) := fun st => rfl
        refine rt_ ?_
        simp only [runF, exSs, exS, evE, evEs, R.bind_ok, R.bind_bad, R.bind_exc, ofO_some, ofO_none, bindT, setAll, List.length_cons, List.length_nil, List.map_cons, List.map_nil, List.getElem?_cons_zero, List.getElem?_cons_succ, List.cons_append, List.nil_append, List.set_cons_zero, List.set_cons_succ, Nat.zero_add, Nat.add_zero, Nat.le_refl, and_self, if_true, true_and, and_true, List.replicate_succ, List.replicate_zero, Nat.sub_self, Nat.reduceSub, Nat.reduceAdd, Nat.reduceLeDiff, Nat.reduceEqDiff, Nat.zero_le, small, tru_bl, isNon, Bool.not_true, Bool.not_false, h1, e1, eq_int, decide_eq_true hq, hl]
    · obtain ⟨v', o', env', b', dv, e⟩ := turned_c b1 n d (.tup xs) hv r
      refine ⟨v', o', env', b', dv, ?_⟩
      refine (nx_ (env' := [some (.ref 0), some (.tup xs), none, none]) (st' := o1 :: r) (by simp only [runF, exSs, exS, evE, evEs, R.bind_ok, R.bind_bad, R.bind_exc, ofO_some, ofO_none, bindT, setAll, List.length_cons, List.length_nil, List.map_cons, List.map_nil, List.getElem?_cons_zero, List.getElem?_cons_succ, List.cons_append, List.nil_append, List.set_cons_zero, List.set_cons_succ, Nat.zero_add, Nat.add_zero, Nat.le_refl, and_self, if_true, true_and, and_true, List.replicate_succ, List.replicate_zero, Nat.sub_self, Nat.reduceSub, Nat.reduceAdd, Nat.reduceLeDiff, Nat.reduceEqDiff, Nat.zero_le, small, tru_bl, isNon, Bool.not_true, Bool.not_false, h1, e1, eq_int, decide_eq_false hq])).trans ?_
      exact e
  | int i => exact go fun st => rfl
  | str t => exact go fun st => rfl
  | non => exact go fun st => rfl
  | bl b => exact go fun st => rfl
  | ls xs => exact go fun st => rfl
  | sc _ => exact absurd hv.da (by simp [Val.da])
  | dc _ => exact absurd hv.da (by simp [Val.da])
  | ref _ => exact absurd hv.da (by simp [Val.da])
theorem item_tup (st : Store) (xs : List Val) {q : Int} (h0 : 0 ≤ q) (h1 : q < xs.length) : itemV st (.tup xs) (.int q) = some (xs[q.toNat]'(by omega)) := by
  have hix : ixAt xs.length q = some q.toNat := by
    unfold ixAt
    rw [if_pos h0, if_pos h1]
  simp only [itemV, isDict, seqOf, hix, Option.bind_some, List.getElem?_eq_getElem (show q.toNat < xs.length by omega)]
theorem v_turned : ∀ (d : Nat) (v : Val), Dep 20 d v → ∀ (n : Nat) (o : Obj) (r : Store), BoxO o → ∃ (v' : Val) (o' : Obj), BoxO o' ∧ Dep 70 (d + 1) v' ∧ callV (callN prog (n + d + 3)) "_law_turned" [.ref 0, v] (o :: r) = .ok v' (o' :: r) := by
  intro d
  induction d with
  | zero =>
    intro v hv n o r h
    obtain ⟨v', o', env', b', dv, e⟩ := turned_b h n 0 v hv r
    refine ⟨v', o', b', dv, callV_ref _ _ _ _ _ _ _ ?_ rfl⟩
    have h1 : ∀ st, isiV st v .tuple = some false := by
      intro st
      cases v <;> first | rfl | exact hv.elim
    rw [callN_at lk_turned]
    refine run_ (env' := env') ⟨rfl, by decide⟩ [some (.ref 0), some v, none, none] rfl ?_
    refine (nx_ (env' := [some (.ref 0), some v, none, none]) (st' := o :: r) (by simp only [runF, exSs, exS, evE, evEs, R.bind_ok, R.bind_bad, R.bind_exc, ofO_some, ofO_none, bindT, setAll, List.length_cons, List.length_nil, List.map_cons, List.map_nil, List.getElem?_cons_zero, List.getElem?_cons_succ, List.cons_append, List.nil_append, List.set_cons_zero, List.set_cons_succ, Nat.zero_add, Nat.add_zero, Nat.le_refl, and_self, if_true, true_and, and_true, List.replicate_succ, List.replicate_zero, Nat.sub_self, Nat.reduceSub, Nat.reduceAdd, Nat.reduceLeDiff, Nat.reduceEqDiff, Nat.zero_le, small, tru_bl, isNon, Bool.not_true, Bool.not_false, h1])).trans ?_
    exact e
  | succ d ih =>
    intro v hv n o r h
    have hcf : n + (d + 1) + 3 = (n + d + 1 + 2) + 1 := by omega
    rw [hcf]
    have tail : ∀ o1, BoxO o1 → (exS (callN prog (n + d + 1 + 2)) (.ifs (.and (.isi (.var 1) .tuple) (.and (.cmp .gt (.b1 .len (.var 1)) (.cst (.int 0))) (.cmp .gt (.call "_law_take" [(.var 0), (.cst (.int 6))]) (.cst (.int 0))))) ((match d__law_turned.fn.body.getD 0 .pss with
        | .ifs _ a _ => a
        | _ => [])) []) [some (.ref 0), some v, none, none] (o :: r) = .ok (.nx, [some (.ref 0), some v, none, none]) (o1 :: r)) →
        ∃ (v' : Val) (o' : Obj), BoxO o' ∧ Dep 70 (d + 1 + 1) v' ∧ callV (callN prog (n + d + 1 + 2 + 1)) "_law_turned" [.ref 0, v] (o :: r) = .ok v' (o' :: r) := by
      intro o1 b1 e1
      obtain ⟨v', o', env', b', dv, e⟩ := turned_b b1 (n + d + 1) (d + 1) v hv r
      refine ⟨v', o', b', dv, callV_ref _ _ _ _ _ _ _ ?_ rfl⟩
      rw [callN_at lk_turned]
      refine run_ (env' := env') ⟨rfl, by decide⟩ [some (.ref 0), some v, none, none] rfl ?_
      exact (nx_ e1).trans e
    have notup : (∀ st, isiV st v .tuple = some false) → ∃ (v' : Val) (o' : Obj), BoxO o' ∧ Dep 70 (d + 1 + 1) v' ∧ callV (callN prog (n + d + 1 + 2 + 1)) "_law_turned" [.ref 0, v] (o :: r) = .ok v' (o' :: r) :=
      fun h1 => tail o h (by simp only [runF, exSs, exS, evE, evEs, R.bind_ok, R.bind_bad, R.bind_exc, ofO_some, ofO_none, bindT, setAll, List.length_cons, List.length_nil, List.map_cons, List.map_nil, List.getElem?_cons_zero, List.getElem?_cons_succ, List.cons_append, List.nil_append, List.set_cons_zero, List.set_cons_succ, Nat.zero_add, Nat.add_zero, Nat.le_refl, and_self, if_true, true_and, and_true, List.replicate_succ, List.replicate_zero, Nat.sub_self, Nat.reduceSub, Nat.reduceAdd, Nat.reduceLeDiff, Nat.reduceEqDiff, Nat.zero_le, small, tru_bl, isNon, Bool.not_true, Bool.not_false, h1])
    cases v with
    | tup xs =>
      have h1 : ∀ st, isiV st (.tup xs) .tuple = some true := fun st => rfl
      have hlen : ∀ st, b1V st .len (.tup xs) = some (.int (xs.length : Int)) := fun st => rfl
      have hxl := hv.1
      by_cases hpos : 0 < xs.length
      · have hgt : (0 : Int) < (xs.length : Int) := by omega
        obtain ⟨q, o1, q0, q1, b1, e1⟩ := tk h (n + d + 1 + 1) 6 r (by decide)
        by_cases hq : 0 < q
        · obtain ⟨at_, o2, a0, a1, b2, e2⟩ := tk b1 (n + d + 1 + 1) (xs.length : Int) r hgt
          obtain ⟨kd, o3, k0, k1, b3, e3⟩ := tk b2 (n + d + 1 + 1) 14 r (by decide)
          obtain ⟨len, hlen'⟩ : ∃ len : Int, len = (xs.length : Int) := ⟨_, rfl⟩
          rw [← hlen'] at e2 hgt
          simp only [← hlen'] at hlen
          -- what comes out
          have fin : ∀ (ys : List Val) (o' : Obj) (env' : Env), BoxO o' → ys.length ≤ 70 → (∀ y ∈ ys, Dep 70 (d + 1) y) → exS (callN prog (n + d + 1 + 2)) (d__law_turned.fn.body.getD 0 .pss) [some (.ref 0), some (.tup xs), none, none] (o :: r) = .ok (.rt (.tup ys), env') (o' :: r) →
              ∃ (v' : Val) (o' : Obj), BoxO o' ∧ Dep 70 (d + 1 + 1) v' ∧ callV (callN prog (n + d + 1 + 2 + 1)) "_law_turned" [.ref 0, .tup xs] (o :: r) = .ok v' (o' :: r) := by
            intro ys o' env' b' y1 y2 e
            refine ⟨.tup ys, o', b', ⟨y1, y2⟩, callV_ref _ _ _ _ _ _ _ ?_ rfl⟩
            rw [callN_at lk_turned]
            refine run_ (env' := env') ⟨rfl, by decide⟩ [some (.ref 0), some (.tup xs), none, none] rfl ?_
            exact rt_ e
          have hcut : ∀ lo hi, ∀ y ∈ cut xs lo hi, Dep 70 (d + 1) y := fun lo hi y hy => (hv.2 y (cut_mem xs lo hi y hy)).up (by decide)
          have hcl : ∀ lo hi, (cut xs lo hi).length ≤ 20 := fun lo hi => Nat.le_trans (cut_len xs lo hi) hxl
          have app : ∀ {a b : List Val}, (∀ y ∈ a, Dep 70 (d + 1) y) → (∀ y ∈ b, Dep 70 (d + 1) y) → ∀ y ∈ a ++ b, Dep 70 (d + 1) y := fun ha hb y hy => by
            rcases List.mem_append.mp hy with hy | hy
            · exact ha y hy
            · exact hb y hy
          have l2 : ∀ a b c e, (cut xs a b).length + (cut xs c e).length ≤ 1000 := fun a b c e => by have := hcl a b; have := hcl c e; omega
          have hit : ∀ st, itemV st (.tup xs) (.int at_) = some (xs[at_.toNat]'(by omega)) := fun st => item_tup st xs a0 (by omega)
          have hmem : xs[at_.toNat]'(by omega) ∈ xs := List.getElem_mem _
          by_cases hk2 : kd < 2
          · refine fin (cut xs none (some at_) ++ cut xs (some (at_ + 1)) none) o3 [some (.ref 0), some (.tup xs), some (.int at_), some (.int kd)] b3 (by rw [List.length_append]; have := hcl none (some at_); have := hcl (some (at_ + 1)) none; omega) (app (hcut _ _) (hcut _ _)) ?_
            have o1' := op_tup (o3 :: r) (cut xs none (some at_)) (cut xs (some (at_ + 1)) none) (l2 _ _ _ _)
            simp only [d__law_turned, List.getD_cons_zero, runF, exSs, exS, evE, evEs, R.bind_ok, R.bind_bad, R.bind_exc, ofO_some, ofO_none, bindT, setAll, List.length_cons, List.length_nil, List.map_cons, List.map_nil, List.getElem?_cons_zero, List.getElem?_cons_succ, List.cons_append, List.nil_append, List.set_cons_zero, List.set_cons_succ, Nat.zero_add, Nat.add_zero, Nat.le_refl, and_self, if_true, true_and, and_true, List.replicate_succ, List.replicate_zero, Nat.sub_self, Nat.reduceSub, Nat.reduceAdd, Nat.reduceLeDiff, Nat.reduceEqDiff, Nat.zero_le, small, tru_bl, isNon, Bool.not_true, Bool.not_false, h1, hlen, gt_int, decide_eq_true hgt, e1, decide_eq_true hq, e2, e3, lt_int, decide_eq_true hk2, optInt, cut_tup, op_add, o1']
          · by_cases hk3 : kd = 2 ∧ 0 < at_
            · have hit2 : ∀ st, itemV st (.tup xs) (.int (at_ - 1)) = some (xs[(at_ - 1).toNat]'(by omega)) := fun st => item_tup st xs (by omega) (by omega)
              have hmem2 : xs[(at_ - 1).toNat]'(by omega) ∈ xs := List.getElem_mem _
              refine fin (cut xs none (some (at_ - 1)) ++ [xs[at_.toNat]'(by omega), xs[(at_ - 1).toNat]'(by omega)] ++ cut xs (some (at_ + 1)) none) o3 [some (.ref 0), some (.tup xs), some (.int at_), some (.int kd)] b3 (by rw [List.length_append, List.length_append]; have := hcl none (some (at_ - 1)); have := hcl (some (at_ + 1)) none; simp; omega) (app (app (hcut _ _) ?_) (hcut _ _)) ?_
              · intro y hy
                simp only [List.mem_cons, List.not_mem_nil, or_false] at hy
                rcases hy with rfl | rfl
                · exact (hv.2 _ hmem).up (by decide)
                · exact (hv.2 _ hmem2).up (by decide)
              · have o1' := op_tup (o3 :: r) (cut xs none (some (at_ - 1))) [xs[at_.toNat]'(by omega), xs[(at_ - 1).toNat]'(by omega)] (by have := hcl none (some (at_ - 1)); simp; omega)
                have o2' := op_tup (o3 :: r) (cut xs none (some (at_ - 1)) ++ [xs[at_.toNat]'(by omega), xs[(at_ - 1).toNat]'(by omega)]) (cut xs (some (at_ + 1)) none) (by have := hcl none (some (at_ - 1)); have := hcl (some (at_ + 1)) none; simp; omega)
                simp only [d__law_turned, List.getD_cons_zero, runF, exSs, exS, evE, evEs, R.bind_ok, R.bind_bad, R.bind_exc, ofO_some, ofO_none, bindT, setAll, List.length_cons, List.length_nil, List.map_cons, List.map_nil, List.getElem?_cons_zero, List.getElem?_cons_succ, List.cons_append, List.nil_append, List.set_cons_zero, List.set_cons_succ, Nat.zero_add, Nat.add_zero, Nat.le_refl, and_self, if_true, true_and, and_true, List.replicate_succ, List.replicate_zero, Nat.sub_self, Nat.reduceSub, Nat.reduceAdd, Nat.reduceLeDiff, Nat.reduceEqDiff, Nat.zero_le, small, tru_bl, isNon, Bool.not_true, Bool.not_false, h1, hlen, gt_int, decide_eq_true hgt, e1, decide_eq_true hq, e2, e3, lt_int, decide_eq_false hk2, eq_int, decide_eq_true hk3.1, decide_eq_true hk3.2, optInt, cut_tup, op_add, op_sub, hit, hit2, o1', o2']
            · have hand : ∀ (cf : CallF), evE cf (.and (.cmp .eq (.var 3) (.cst (.int 2))) (.cmp .gt (.var 2) (.cst (.int 0)))) [some (.ref 0), some (.tup xs), some (.int at_), some (.int kd)] (o3 :: r) = .ok (.bl false) (o3 :: r) := by
                intro cf
                by_cases h2 : kd = 2
                · have h3 : ¬ 0 < at_ := fun h => hk3 ⟨h2, h⟩
                  simp only [runF, exSs, exS, evE, evEs, R.bind_ok, R.bind_bad, R.bind_exc, ofO_some, ofO_none, bindT, setAll, List.length_cons, List.length_nil, List.map_cons, List.map_nil, List.getElem?_cons_zero, List.getElem?_cons_succ, List.cons_append, List.nil_append, List.set_cons_zero, List.set_cons_succ, Nat.zero_add, Nat.add_zero, Nat.le_refl, and_self, if_true, true_and, and_true, List.replicate_succ, List.replicate_zero, Nat.sub_self, Nat.reduceSub, Nat.reduceAdd, Nat.reduceLeDiff, Nat.reduceEqDiff, Nat.zero_le, small, tru_bl, isNon, Bool.not_true, Bool.not_false, eq_int, decide_eq_true h2, gt_int, decide_eq_false h3]
                · simp only [runF, exSs, exS, evE, evEs, R.bind_ok, R.bind_bad, R.bind_exc, ofO_some, ofO_none, bindT, setAll, List.length_cons, List.length_nil, List.map_cons, List.map_nil, List.getElem?_cons_zero, List.getElem?_cons_succ, List.cons_append, List.nil_append, List.set_cons_zero, List.set_cons_succ, Nat.zero_add, Nat.add_zero, Nat.le_refl, and_self, if_true, true_and, and_true, List.replicate_succ, List.replicate_zero, Nat.sub_self, Nat.reduceSub, Nat.reduceAdd, Nat.reduceLeDiff, Nat.reduceEqDiff, Nat.zero_le, small, tru_bl, isNon, Bool.not_true, Bool.not_false, eq_int, decide_eq_false h2]
              by_cases hk4 : kd = 3
              · refine fin (cut xs none (some at_) ++ cut xs (some at_) (some (at_ + 1)) ++ cut xs (some at_) none) o3 [some (.ref 0), some (.tup xs), some (.int at_), some (.int kd)] b3 (by rw [List.length_append, List.length_append]; have := hcl none (some at_); have := hcl (some at_) (some (at_ + 1)); have := hcl (some at_) none; omega) (app (app (hcut _ _) (hcut _ _)) (hcut _ _)) ?_
                have o1' := op_tup (o3 :: r) (cut xs none (some at_)) (cut xs (some at_) (some (at_ + 1))) (l2 _ _ _ _)
                have o2' := op_tup (o3 :: r) (cut xs none (some at_) ++ cut xs (some at_) (some (at_ + 1))) (cut xs (some at_) none) (by rw [List.length_append]; have := hcl none (some at_); have := hcl (some at_) (some (at_ + 1)); have := hcl (some at_) none; omega)
                have hk32 : ¬ kd = 2 := by omega
                simp only [d__law_turned, List.getD_cons_zero, runF, exSs, exS, evE, evEs, R.bind_ok, R.bind_bad, R.bind_exc, ofO_some, ofO_none, bindT, setAll, List.length_cons, List.length_nil, List.map_cons, List.map_nil, List.getElem?_cons_zero, List.getElem?_cons_succ, List.cons_append, List.nil_append, List.set_cons_zero, List.set_cons_succ, Nat.zero_add, Nat.add_zero, Nat.le_refl, and_self, if_true, true_and, and_true, List.replicate_succ, List.replicate_zero, Nat.sub_self, Nat.reduceSub, Nat.reduceAdd, Nat.reduceLeDiff, Nat.reduceEqDiff, Nat.zero_le, small, tru_bl, isNon, Bool.not_true, Bool.not_false, h1, hlen, gt_int, decide_eq_true hgt, e1, decide_eq_true hq, e2, e3, lt_int, decide_eq_false hk2, eq_int, decide_eq_false hk32, decide_eq_true hk4, optInt, cut_tup, op_add, o1', o2']
              · obtain ⟨w, o4, b4, dw, e4⟩ := ih (xs[at_.toNat]'(by omega)) (hv.2 _ hmem) n o3 r b3
                have e4' : callV (callN prog (n + d + 1 + 2)) "_law_turned" [.ref 0, xs[at_.toNat]'(by omega)] (o3 :: r) = .ok w (o4 :: r) := by
                  have : n + d + 1 + 2 = n + d + 3 := by omega
                  rw [this]
                  exact e4
                refine fin (cut xs none (some at_) ++ [w] ++ cut xs (some (at_ + 1)) none) o4 [some (.ref 0), some (.tup xs), some (.int at_), some (.int kd)] b4 (by rw [List.length_append, List.length_append]; have := hcl none (some at_); have := hcl (some (at_ + 1)) none; simp; omega) (app (app (hcut _ _) ?_) (hcut _ _)) ?_
                · intro y hy
                  rw [List.mem_singleton.mp hy]
                  exact dw
                · have o1' := op_tup (o4 :: r) (cut xs none (some at_)) [w] (by have := hcl none (some at_); simp; omega)
                  have o2' := op_tup (o4 :: r) (cut xs none (some at_) ++ [w]) (cut xs (some (at_ + 1)) none) (by have := hcl none (some at_); have := hcl (some (at_ + 1)) none; simp; omega)
                  by_cases hk32 : kd = 2
                  · have h3 : ¬ 0 < at_ := fun h => hk3 ⟨hk32, h⟩
                    simp only [d__law_turned, List.getD_cons_zero, runF, exSs, exS, evE, evEs, R.bind_ok, R.bind_bad, R.bind_exc, ofO_some, ofO_none, bindT, setAll, List.length_cons, List.length_nil, List.map_cons, List.map_nil, List.getElem?_cons_zero, List.getElem?_cons_succ, List.cons_append, List.nil_append, List.set_cons_zero, List.set_cons_succ, Nat.zero_add, Nat.add_zero, Nat.le_refl, and_self, if_true, true_and, and_true, List.replicate_succ, List.replicate_zero, Nat.sub_self, Nat.reduceSub, Nat.reduceAdd, Nat.reduceLeDiff, Nat.reduceEqDiff, Nat.zero_le, small, tru_bl, isNon, Bool.not_true, Bool.not_false, h1, hlen, gt_int, decide_eq_true hgt, e1, decide_eq_true hq, e2, e3, lt_int, decide_eq_false hk2, eq_int, decide_eq_true hk32, decide_eq_false h3, decide_eq_false hk4, optInt, cut_tup, op_add, hit, e4', o1', o2']
                  · simp only [d__law_turned, List.getD_cons_zero, runF, exSs, exS, evE, evEs, R.bind_ok, R.bind_bad, R.bind_exc, ofO_some, ofO_none, bindT, setAll, List.length_cons, List.length_nil, List.map_cons, List.map_nil, List.getElem?_cons_zero, List.getElem?_cons_succ, List.cons_append, List.nil_append, List.set_cons_zero, List.set_cons_succ, Nat.zero_add, Nat.add_zero, Nat.le_refl, and_self, if_true, true_and, and_true, List.replicate_succ, List.replicate_zero, Nat.sub_self, Nat.reduceSub, Nat.reduceAdd, Nat.reduceLeDiff, Nat.reduceEqDiff, Nat.zero_le, small, tru_bl, isNon, Bool.not_true, Bool.not_false, h1, hlen, gt_int, decide_eq_true hgt, e1, decide_eq_true hq, e2, e3, lt_int, decide_eq_false hk2, eq_int, decide_eq_false hk32, decide_eq_false hk4, optInt, cut_tup, op_add, hit, e4', o1', o2']
        · exact tail o1 b1 (by simp only [runF, exSs, exS, evE, evEs, R.bind_ok, R.bind_bad, R.bind_exc, ofO_some, ofO_none, bindT, setAll, List.length_cons, List.length_nil, List.map_cons, List.map_nil, List.getElem?_cons_zero, List.getElem?_cons_succ, List.cons_append, List.nil_append, List.set_cons_zero, List.set_cons_succ, Nat.zero_add, Nat.add_zero, Nat.le_refl, and_self, if_true, true_and, and_true, List.replicate_succ, List.replicate_zero, Nat.sub_self, Nat.reduceSub, Nat.reduceAdd, Nat.reduceLeDiff, Nat.reduceEqDiff, Nat.zero_le, small, tru_bl, isNon, Bool.not_true, Bool.not_false, h1, hlen, gt_int, decide_eq_true hgt, e1, decide_eq_false hq])
      · have hgt : ¬ (0 : Int) < (xs.length : Int) := by omega
        exact tail o h (by simp only [runF, exSs, exS, evE, evEs, R.bind_ok, R.bind_bad, R.bind_exc, ofO_some, ofO_none, bindT, setAll, List.length_cons, List.length_nil, List.map_cons, List.map_nil, List.getElem?_cons_zero, List.getElem?_cons_succ, List.cons_append, List.nil_append, List.set_cons_zero, List.set_cons_succ, Nat.zero_add, Nat.add_zero, Nat.le_refl, and_self, if_true, true_and, and_true, List.replicate_succ, List.replicate_zero, Nat.sub_self, Nat.reduceSub, Nat.reduceAdd, Nat.reduceLeDiff, Nat.reduceEqDiff, Nat.zero_le, small, tru_bl, isNon, Bool.not_true, Bool.not_false, h1, hlen, gt_int, decide_eq_false hgt])
    | int i => exact notup fun st => rfl
    | str t => exact notup fun st => rfl
    | non => exact notup fun st => rfl
    | bl b => exact notup fun st => rfl
    | ls xs => exact notup fun st => rfl
    | sc _ => exact absurd hv.da (by simp [Val.da])
    | dc _ => exact absurd hv.da (by simp [Val.da])
    | ref _ => exact absurd hv.da (by simp [Val.da])
end PV
end

section
set_option Elab.async false
set_option linter.all false
set_option maxRecDepth 100000
set_option maxHeartbeats 1000000
namespace PV
open PySem L2
/-! ### events -/
theorem lk_event_fault : List.lookup ("event_fault" : Str) prog = some d_event_fault.fn := rfl
theorem lk_is_event : List.lookup ("_law_is_event" : Str) prog = some d__law_is_event.fn := rfl
theorem lk_lworth : List.lookup ("_law_worth" : Str) prog = some d__law_worth.fn := rfl
theorem lk_levent : List.lookup ("_law_event" : Str) prog = some d__law_event.fn := rfl
theorem v_lworth (n : Nat) (v : Val) (sz : Int) (st : Store) (h : v.da = true) : callV (callN prog (n + 2)) "_law_worth" [v, .int sz] st = .ok (.bl (btw 0 (sz - 1) v)) st := by
  refine callV_p (pure2 h rfl) ?_
  rw [callN_at lk_lworth]
  have e := v_whole n v [] h
  have le_int : ∀ (st : Store) (p q : Int), cmpV st .le (.int p) (.int q) = some (decide (p ≤ q)) := fun st p q => rfl
  cases v with
  | int i =>
    have e0 : isInt (.int i) = true := rfl
    rw [e0] at e
    by_cases h1 : (0 : Int) ≤ i
    · by_cases h2 : i < sz
      · have h3 : i ≤ sz - 1 := by omega
        simp only [d__law_worth, runF, exSs, exS, evE, evEs, R.bind_ok, R.bind_bad, R.bind_exc, ofO_some, ofO_none, bindT, setAll, List.length_cons, List.length_nil, List.map_cons, List.map_nil, List.getElem?_cons_zero, List.getElem?_cons_succ, List.cons_append, List.nil_append, List.set_cons_zero, List.set_cons_succ, Nat.zero_add, Nat.add_zero, Nat.le_refl, and_self, if_true, true_and, and_true, List.replicate_succ, List.replicate_zero, Nat.sub_self, Nat.reduceSub, Nat.reduceAdd, Nat.reduceLeDiff, Nat.reduceEqDiff, Nat.zero_le, small, tru_bl, isNon, Bool.not_true, Bool.not_false, e, le_int, lt_int, btw, decide_eq_true h1, decide_eq_true h2, decide_eq_true h3, Bool.and_self]
      · have h3 : ¬ i ≤ sz - 1 := by omega
        simp only [d__law_worth, runF, exSs, exS, evE, evEs, R.bind_ok, R.bind_bad, R.bind_exc, ofO_some, ofO_none, bindT, setAll, List.length_cons, List.length_nil, List.map_cons, List.map_nil, List.getElem?_cons_zero, List.getElem?_cons_succ, List.cons_append, List.nil_append, List.set_cons_zero, List.set_cons_succ, Nat.zero_add, Nat.add_zero, Nat.le_refl, and_self, if_true, true_and, and_true, List.replicate_succ, List.replicate_zero, Nat.sub_self, Nat.reduceSub, Nat.reduceAdd, Nat.reduceLeDiff, Nat.reduceEqDiff, Nat.zero_le, small, tru_bl, isNon, Bool.not_true, Bool.not_false, e, le_int, lt_int, btw, decide_eq_true h1, decide_eq_false h2, decide_eq_false h3, Bool.true_and]
    · simp only [d__law_worth, runF, exSs, exS, evE, evEs, R.bind_ok, R.bind_bad, R.bind_exc, ofO_some, ofO_none, bindT, setAll, List.length_cons, List.length_nil, List.map_cons, List.map_nil, List.getElem?_cons_zero, List.getElem?_cons_succ, List.cons_append, List.nil_append, List.set_cons_zero, List.set_cons_succ, Nat.zero_add, Nat.add_zero, Nat.le_refl, and_self, if_true, true_and, and_true, List.replicate_succ, List.replicate_zero, Nat.sub_self, Nat.reduceSub, Nat.reduceAdd, Nat.reduceLeDiff, Nat.reduceEqDiff, Nat.zero_le, small, tru_bl, isNon, Bool.not_true, Bool.not_false, e, le_int, lt_int, btw, decide_eq_false h1, Bool.false_and]
  | non =>
    have e0 : isInt .non = false := rfl
    rw [e0] at e
    simp only [d__law_worth, runF, exSs, exS, evE, evEs, R.bind_ok, R.bind_bad, R.bind_exc, ofO_some, ofO_none, bindT, setAll, List.length_cons, List.length_nil, List.map_cons, List.map_nil, List.getElem?_cons_zero, List.getElem?_cons_succ, List.cons_append, List.nil_append, List.set_cons_zero, List.set_cons_succ, Nat.zero_add, Nat.add_zero, Nat.le_refl, and_self, if_true, true_and, and_true, List.replicate_succ, List.replicate_zero, Nat.sub_self, Nat.reduceSub, Nat.reduceAdd, Nat.reduceLeDiff, Nat.reduceEqDiff, Nat.zero_le, small, tru_bl, isNon, Bool.not_true, Bool.not_false, e, btw]
  | bl b =>
    have e0 : isInt (.bl b) = false := rfl
    rw [e0] at e
    simp only [d__law_worth, runF, exSs, exS, evE, evEs, R.bind_ok, R.bind_bad, R.bind_exc, ofO_some, ofO_none, bindT, setAll, List.length_cons, List.length_nil, List.map_cons, List.map_nil, List.getElem?_cons_zero, List.getElem?_cons_succ, List.cons_append, List.nil_append, List.set_cons_zero, List.set_cons_succ, Nat.zero_add, Nat.add_zero, Nat.le_refl, and_self, if_true, true_and, and_true, List.replicate_succ, List.replicate_zero, Nat.sub_self, Nat.reduceSub, Nat.reduceAdd, Nat.reduceLeDiff, Nat.reduceEqDiff, Nat.zero_le, small, tru_bl, isNon, Bool.not_true, Bool.not_false, e, btw]
  | str t =>
    have e0 : isInt (.str t) = false := rfl
    rw [e0] at e
    simp only [d__law_worth, runF, exSs, exS, evE, evEs, R.bind_ok, R.bind_bad, R.bind_exc, ofO_some, ofO_none, bindT, setAll, List.length_cons, List.length_nil, List.map_cons, List.map_nil, List.getElem?_cons_zero, List.getElem?_cons_succ, List.cons_append, List.nil_append, List.set_cons_zero, List.set_cons_succ, Nat.zero_add, Nat.add_zero, Nat.le_refl, and_self, if_true, true_and, and_true, List.replicate_succ, List.replicate_zero, Nat.sub_self, Nat.reduceSub, Nat.reduceAdd, Nat.reduceLeDiff, Nat.reduceEqDiff, Nat.zero_le, small, tru_bl, isNon, Bool.not_true, Bool.not_false, e, btw]
  | tup xs =>
    have e0 : isInt (.tup xs) = false := rfl
    rw [e0] at e
    simp only [d__law_worth, runF, exSs, exS, evE, evEs, R.bind_ok, R.bind_bad, R.bind_exc, ofO_some, ofO_none, bindT, setAll, List.length_cons, List.length_nil, List.map_cons, List.map_nil, List.getElem?_cons_zero, List.getElem?_cons_succ, List.cons_append, List.nil_append, List.set_cons_zero, List.set_cons_succ, Nat.zero_add, Nat.add_zero, Nat.le_refl, and_self, if_true, true_and, and_true, List.replicate_succ, List.replicate_zero, Nat.sub_self, Nat.reduceSub, Nat.reduceAdd, Nat.reduceLeDiff, Nat.reduceEqDiff, Nat.zero_le, small, tru_bl, isNon, Bool.not_true, Bool.not_false, e, btw]
  | ls xs =>
    have e0 : isInt (.ls xs) = false := rfl
    rw [e0] at e
    simp only [d__law_worth, runF, exSs, exS, evE, evEs, R.bind_ok, R.bind_bad, R.bind_exc, ofO_some, ofO_none, bindT, setAll, List.length_cons, List.length_nil, List.map_cons, List.map_nil, List.getElem?_cons_zero, List.getElem?_cons_succ, List.cons_append, List.nil_append, List.set_cons_zero, List.set_cons_succ, Nat.zero_add, Nat.add_zero, Nat.le_refl, and_self, if_true, true_and, and_true, List.replicate_succ, List.replicate_zero, Nat.sub_self, Nat.reduceSub, Nat.reduceAdd, Nat.reduceLeDiff, Nat.reduceEqDiff, Nat.zero_le, small, tru_bl, isNon, Bool.not_true, Bool.not_false, e, btw]
  | _ => simp [Val.da] at h
def prV (p : Val × Val) : Val := .tup [p.1, p.2]
theorem rows_pairs : ∀ xs : List Val, xs.all (isRow 2) = true → ∃ ys : List (Val × Val), xs = ys.map prV
  | [], _ => ⟨[], rfl⟩
  | x :: xs, h => by
    rw [List.all_cons, Bool.and_eq_true] at h
    obtain ⟨ys, rfl⟩ := rows_pairs xs h.2
    cases x with
    | tup zs =>
      have hz : zs.length = 2 := by
        have := h.1
        simp only [isRow, decide_eq_true_eq] at this
        omega
      match zs, hz with
      | [a, b], _ => exact ⟨(a, b) :: ys, rfl⟩
    | _ => simp [isRow] at h
/-- the first member is an input -/
def inB (N : Net) : Val → Bool
  | .str t => decide (t ∈ N.ins)
  | _ => false
def txt : Val → Str
  | .str t => t
  | _ => ""
def evB (N : Net) : Val → Bool
  | .tup xs => xs.all (isRow 2) && (xs.all fun x => match x with
    | .tup [a, b] => inB N a && btw 0 (N.sz - 1) b
    | _ => false) && ascB (xs.map fun x => match x with
    | .tup [a, _] => txt a
    | _ => "")
  | _ => false
theorem evB_pairs (N : Net) (ys : List (Val × Val)) : evB N (.tup (ys.map prV)) = ((ys.all fun p => inB N p.1 && btw 0 (N.sz - 1) p.2) && ascB (ys.map fun p => txt p.1)) := by
  have h1 : (ys.map prV).all (isRow 2) = true := by
    rw [List.all_map, List.all_eq_true]
    intro p _
    rfl
  simp only [evB, h1, Bool.true_and, List.all_map, List.map_map]
  rfl
theorem inB_txt {N : Net} {a : Val} (h : inB N a = true) : a = .str (txt a) := by
  cases a <;> simp [inB] at h <;> rfl
theorem all_split {α : Type} (p q : α → Bool) : ∀ l : List α, (l.all fun x => p x && q x) = (l.all p && l.all q)
  | [] => rfl
  | x :: l => by
    rw [List.all_cons, List.all_cons, List.all_cons, all_split p q l]
    cases p x <;> cases q x <;> cases l.all p <;> cases l.all q <;> rfl
def SokV : Val → Prop
  | .str t => Sok t
  | _ => True
theorem Dep.sokV {L d : Nat} {v : Val} (h : Dep L d v) : SokV v := by
  cases d <;> cases v <;> first | exact h | trivial
structure PrOk (ys : List (Val × Val)) : Prop where
  a : ∀ p ∈ ys, p.1.da = true
  b : ∀ p ∈ ys, p.2.da = true
  s : ∀ p ∈ ys, SokV p.1
  l : ys.length ≤ 70
theorem isi_str (st : Store) (N : Net) {a : Val} (h : a.da = true) : ∃ b, isiV st a .str = some b ∧ (b = true → ∃ t, a = .str t) ∧ (b = false → inB N a = false) := by
  cases a with
  | str t => exact ⟨true, rfl, fun _ => ⟨t, rfl⟩, fun h => by cases h⟩
  | sc _ => simp [Val.da] at h
  | dc _ => simp [Val.da] at h
  | ref _ => simp [Val.da] at h
  | _ => exact ⟨false, rfl, (fun h => by cases h), fun _ => rfl⟩
theorem c_event_fault (N : Net) (hN : NetOk N) (n : Nat) (v : Val) (L d : Nat) (hL : L ≤ 70) (hv : Dep L d v) : callN prog (n + 4) "event_fault" [N.val, v] [] = .ok (if evB N v = true then .non else .str "form") [] := by
  rw [callN_at lk_event_fault]
  have n0 := net_0 N
  have n1 := net_1 N
  have form1 : evB N v = false → (exS (callN prog (n + 3)) (d_event_fault.fn.body.getD 0 .pss) [some N.val, some v, none] [] = .ok (.rt (.str "form"), [some N.val, some v, none]) []) → runF (callN prog (n + 3)) d_event_fault.fn [N.val, v] [] = .ok (if evB N v = true then .non else .str "form") [] := by
    intro h e
    rw [h]
    exact run_ (env' := [some N.val, some v, none]) ⟨rfl, by decide⟩ [some N.val, some v, none] rfl (rt_ e)
  have notup : (∀ st, isiV st v .tuple = some false) → evB N v = false → runF (callN prog (n + 3)) d_event_fault.fn [N.val, v] [] = .ok (if evB N v = true then .non else .str "form") [] :=
    fun h1 h2 => form1 h2 (by simp only [d_event_fault, List.getD_cons_zero, runF, exSs, exS, evE, evEs, R.bind_ok, R.bind_bad, R.bind_exc, ofO_some, ofO_none, bindT, setAll, List.length_cons, List.length_nil, List.map_cons, List.map_nil, List.getElem?_cons_zero, List.getElem?_cons_succ, List.cons_append, List.nil_append, List.set_cons_zero, List.set_cons_succ, Nat.zero_add, Nat.add_zero, Nat.le_refl, and_self, if_true, true_and, and_true, List.replicate_succ, List.replicate_zero, Nat.sub_self, Nat.reduceSub, Nat.reduceAdd, Nat.reduceLeDiff, Nat.reduceEqDiff, Nat.zero_le, small, tru_bl, isNon, Bool.not_true, Bool.not_false, h1])
  cases v with
  | tup xs =>
    have h1 : ∀ st, isiV st (.tup xs) .tuple = some true := fun st => rfl
    cases d with
    | zero => exact hv.elim
    | succ d =>
    have hxl := hv.1
    have k1 := lc_map (f := evE (callN prog (n + 3)) e_event_fault_1) (tg := .nm 2) (env := [some N.val, some (.tup xs), none]) (keep := keepW .of [.tup xs] xs) (st := []) id (fun x => .bl (isRow 2 x)) (keep_tup _ _ _ _) xs [] (fun x hx => ⟨_, rfl, by
      simp only [e_event_fault_1, id, runF, exSs, exS, evE, evEs, R.bind_ok, R.bind_bad, R.bind_exc, ofO_some, ofO_none, bindT, setAll, List.length_cons, List.length_nil, List.map_cons, List.map_nil, List.getElem?_cons_zero, List.getElem?_cons_succ, List.cons_append, List.nil_append, List.set_cons_zero, List.set_cons_succ, Nat.zero_add, Nat.add_zero, Nat.le_refl, and_self, if_true, true_and, and_true, List.replicate_succ, List.replicate_zero, Nat.sub_self, Nat.reduceSub, Nat.reduceAdd, Nat.reduceLeDiff, Nat.reduceEqDiff, Nat.zero_le, small, tru_bl, isNon, Bool.not_true, Bool.not_false, v_is_row (n + 2) x 2 [] (hv.2 x hx).da]⟩) (by simp; omega)
    rw [List.map_id, List.nil_append] at k1
    cases hr : xs.all (isRow 2) with
    | false =>
      refine form1 (by simp only [evB, hr, Bool.false_and]) ?_
      simp only [d_event_fault, List.getD_cons_zero, runF, exSs, exS, evE, evEs, R.bind_ok, R.bind_bad, R.bind_exc, ofO_some, ofO_none, bindT, setAll, List.length_cons, List.length_nil, List.map_cons, List.map_nil, List.getElem?_cons_zero, List.getElem?_cons_succ, List.cons_append, List.nil_append, List.set_cons_zero, List.set_cons_succ, Nat.zero_add, Nat.add_zero, Nat.le_refl, and_self, if_true, true_and, and_true, List.replicate_succ, List.replicate_zero, Nat.sub_self, Nat.reduceSub, Nat.reduceAdd, Nat.reduceLeDiff, Nat.reduceEqDiff, Nat.zero_le, small, tru_bl, isNon, Bool.not_true, Bool.not_false, h1, walk_tup, k1, all_bl, hr]
    | true =>
      obtain ⟨ys, rfl⟩ := rows_pairs xs hr
      have hp : PrOk ys := by
        have hy : ∀ p ∈ ys, Dep L d (prV p) := fun p hp => hv.2 _ (List.mem_map_of_mem hp)
        have hda : ∀ p ∈ ys, p.1.da = true ∧ p.2.da = true := fun p hp => by
          have := (hy p hp).da
          simpa [prV, Val.da, daAll] using this
        refine ⟨fun p hp => (hda p hp).1, fun p hp => (hda p hp).2, fun p hp => ?_, by rw [List.length_map] at hxl; omega⟩
        have := hy p hp
        cases d with
        | zero => exact this.elim
        | succ d => exact (this.2 p.1 (by simp)).sokV
      have hpl := hp.l
      have s1 : exS (callN prog (n + 3)) (.ifs (.or (.not (.isi (.var 1) .tuple)) (.not (.b1 .all (.lc e_event_fault_1 (.nm 2) .of [(.var 1)] [])))) [.ret (.cst (.str "form"))] []) [some N.val, some (.tup (ys.map prV)), none] [] = .ok (.nx, [some N.val, some (.tup (ys.map prV)), none]) [] := by
        simp only [runF, exSs, exS, evE, evEs, R.bind_ok, R.bind_bad, R.bind_exc, ofO_some, ofO_none, bindT, setAll, List.length_cons, List.length_nil, List.map_cons, List.map_nil, List.getElem?_cons_zero, List.getElem?_cons_succ, List.cons_append, List.nil_append, List.set_cons_zero, List.set_cons_succ, Nat.zero_add, Nat.add_zero, Nat.le_refl, and_self, if_true, true_and, and_true, List.replicate_succ, List.replicate_zero, Nat.sub_self, Nat.reduceSub, Nat.reduceAdd, Nat.reduceLeDiff, Nat.reduceEqDiff, Nat.zero_le, small, tru_bl, isNon, Bool.not_true, Bool.not_false, h1, walk_tup, k1, all_bl, hr]
      have k2 := lc_map (f := evE (callN prog (n + 3)) e_event_fault_2) (tg := .nm 2) (env := [some N.val, some (.tup (ys.map prV)), none]) (keep := keepW .of [.tup (ys.map prV)] (ys.map prV)) (st := []) prV (fun p => .bl (inB N p.1)) (keep_tup _ _ _ _) ys [] (fun p hpm => ⟨_, rfl, by
        have i0 : ∀ st, itemV st (prV p) (.int 0) = some p.1 := fun st => rfl
        obtain ⟨b, b1, b2, b3⟩ := isi_str [] N (hp.a p hpm)
        cases b with
        | false => simp only [e_event_fault_2, runF, exSs, exS, evE, evEs, R.bind_ok, R.bind_bad, R.bind_exc, ofO_some, ofO_none, bindT, setAll, List.length_cons, List.length_nil, List.map_cons, List.map_nil, List.getElem?_cons_zero, List.getElem?_cons_succ, List.cons_append, List.nil_append, List.set_cons_zero, List.set_cons_succ, Nat.zero_add, Nat.add_zero, Nat.le_refl, and_self, if_true, true_and, and_true, List.replicate_succ, List.replicate_zero, Nat.sub_self, Nat.reduceSub, Nat.reduceAdd, Nat.reduceLeDiff, Nat.reduceEqDiff, Nat.zero_le, small, tru_bl, isNon, Bool.not_true, Bool.not_false, i0, b1, b3 rfl]
        | true =>
          obtain ⟨t, ht⟩ := b2 rfl
          have hs := hp.s p hpm
          rw [ht] at i0 b1 hs
          have hq : cmpV [] .isin (.str t) (.tup (N.ins.map Val.str)) = some (decide (t ∈ N.ins)) := in_tup [] hs hN.insok
          have hi : inB N p.1 = decide (t ∈ N.ins) := by rw [ht]; rfl
          simp only [e_event_fault_2, runF, exSs, exS, evE, evEs, R.bind_ok, R.bind_bad, R.bind_exc, ofO_some, ofO_none, bindT, setAll, List.length_cons, List.length_nil, List.map_cons, List.map_nil, List.getElem?_cons_zero, List.getElem?_cons_succ, List.cons_append, List.nil_append, List.set_cons_zero, List.set_cons_succ, Nat.zero_add, Nat.add_zero, Nat.le_refl, and_self, if_true, true_and, and_true, List.replicate_succ, List.replicate_zero, Nat.sub_self, Nat.reduceSub, Nat.reduceAdd, Nat.reduceLeDiff, Nat.reduceEqDiff, Nat.zero_le, small, tru_bl, isNon, Bool.not_true, Bool.not_false, i0, b1, n1, hq, hi]⟩) (by simp; omega)
      rw [List.nil_append] at k2
      rw [evB_pairs, all_split]
      cases hin : ys.all (fun p => inB N p.1) with
      | false =>
        refine run_ (env' := [some N.val, some (.tup (ys.map prV)), none]) ⟨rfl, by decide⟩ [some N.val, some (.tup (ys.map prV)), none] rfl ?_
        refine (nx_ s1).trans ?_
        refine rt_ ?_
        simp only [runF, exSs, exS, evE, evEs, R.bind_ok, R.bind_bad, R.bind_exc, ofO_some, ofO_none, bindT, setAll, List.length_cons, List.length_nil, List.map_cons, List.map_nil, List.getElem?_cons_zero, List.getElem?_cons_succ, List.cons_append, List.nil_append, List.set_cons_zero, List.set_cons_succ, Nat.zero_add, Nat.add_zero, Nat.le_refl, and_self, if_true, true_and, and_true, List.replicate_succ, List.replicate_zero, Nat.sub_self, Nat.reduceSub, Nat.reduceAdd, Nat.reduceLeDiff, Nat.reduceEqDiff, Nat.zero_le, small, tru_bl, isNon, Bool.not_true, Bool.not_false, walk_tup, k2, all_bl, hin]
        rfl
      | true =>
        have s2 : exS (callN prog (n + 3)) (.ifs (.not (.b1 .all (.lc e_event_fault_2 (.nm 2) .of [(.var 1)] []))) [.ret (.cst (.str "form"))] []) [some N.val, some (.tup (ys.map prV)), none] [] = .ok (.nx, [some N.val, some (.tup (ys.map prV)), none]) [] := by
          simp only [runF, exSs, exS, evE, evEs, R.bind_ok, R.bind_bad, R.bind_exc, ofO_some, ofO_none, bindT, setAll, List.length_cons, List.length_nil, List.map_cons, List.map_nil, List.getElem?_cons_zero, List.getElem?_cons_succ, List.cons_append, List.nil_append, List.set_cons_zero, List.set_cons_succ, Nat.zero_add, Nat.add_zero, Nat.le_refl, and_self, if_true, true_and, and_true, List.replicate_succ, List.replicate_zero, Nat.sub_self, Nat.reduceSub, Nat.reduceAdd, Nat.reduceLeDiff, Nat.reduceEqDiff, Nat.zero_le, small, tru_bl, isNon, Bool.not_true, Bool.not_false, walk_tup, k2, all_bl, hin]
        have htx : ∀ p ∈ ys, p.1 = .str (txt p.1) := fun p hpm => inB_txt (List.all_eq_true.mp hin p hpm)
        have k3 := lc_map (f := evE (callN prog (n + 3)) e_event_fault_3) (tg := .nm 2) (env := [some N.val, some (.tup (ys.map prV)), none]) (keep := keepW .of [.tup (ys.map prV)] (ys.map prV)) (st := []) prV (fun p => .str (txt p.1)) (keep_tup _ _ _ _) ys [] (fun p hpm => ⟨_, rfl, by
          have i0 : ∀ st, itemV st (prV p) (.int 0) = some (.str (txt p.1)) := fun st => by rw [← htx p hpm]; rfl
          simp only [e_event_fault_3, runF, exSs, exS, evE, evEs, R.bind_ok, R.bind_bad, R.bind_exc, ofO_some, ofO_none, bindT, setAll, List.length_cons, List.length_nil, List.map_cons, List.map_nil, List.getElem?_cons_zero, List.getElem?_cons_succ, List.cons_append, List.nil_append, List.set_cons_zero, List.set_cons_succ, Nat.zero_add, Nat.add_zero, Nat.le_refl, and_self, if_true, true_and, and_true, List.replicate_succ, List.replicate_zero, Nat.sub_self, Nat.reduceSub, Nat.reduceAdd, Nat.reduceLeDiff, Nat.reduceEqDiff, Nat.zero_le, small, tru_bl, isNon, Bool.not_true, Bool.not_false, i0]⟩) (by simp; omega)
        have hmm : (ys.map fun p => Val.str (txt p.1)) = (ys.map fun p => txt p.1).map Val.str := by rw [List.map_map]; rfl
        rw [List.nil_append, hmm] at k3
        have k4 := v_is_ascending (n + 2) (.ls ((ys.map fun p => txt p.1).map Val.str)) (ys.map fun p => txt p.1) (.inr rfl) (by rw [List.length_map]; omega) []
        cases ha : ascB (ys.map fun p => txt p.1) with
        | false =>
          rw [ha] at k4
          refine run_ (env' := [some N.val, some (.tup (ys.map prV)), none]) ⟨rfl, by decide⟩ [some N.val, some (.tup (ys.map prV)), none] rfl ?_
          refine (nx_ s1).trans ((nx_ s2).trans ?_)
          refine rt_ ?_
          simp only [runF, exSs, exS, evE, evEs, R.bind_ok, R.bind_bad, R.bind_exc, ofO_some, ofO_none, bindT, setAll, List.length_cons, List.length_nil, List.map_cons, List.map_nil, List.getElem?_cons_zero, List.getElem?_cons_succ, List.cons_append, List.nil_append, List.set_cons_zero, List.set_cons_succ, Nat.zero_add, Nat.add_zero, Nat.le_refl, and_self, if_true, true_and, and_true, List.replicate_succ, List.replicate_zero, Nat.sub_self, Nat.reduceSub, Nat.reduceAdd, Nat.reduceLeDiff, Nat.reduceEqDiff, Nat.zero_le, small, tru_bl, isNon, Bool.not_true, Bool.not_false, walk_tup, k3, k4, Bool.and_false, if_neg (show ¬ (false = true) by decide)]
        | true =>
          rw [ha] at k4
          have k5 := lc_map (f := evE (callN prog (n + 3)) e_event_fault_4) (tg := .nm 2) (env := [some N.val, some (.tup (ys.map prV)), none]) (keep := keepW .of [.tup (ys.map prV)] (ys.map prV)) (st := []) prV (fun p => .bl (btw 0 (N.sz - 1) p.2)) (keep_tup _ _ _ _) ys [] (fun p hpm => ⟨_, rfl, by
            have i1 : ∀ st, itemV st (prV p) (.int 1) = some p.2 := fun st => rfl
            simp only [e_event_fault_4, runF, exSs, exS, evE, evEs, R.bind_ok, R.bind_bad, R.bind_exc, ofO_some, ofO_none, bindT, setAll, List.length_cons, List.length_nil, List.map_cons, List.map_nil, List.getElem?_cons_zero, List.getElem?_cons_succ, List.cons_append, List.nil_append, List.set_cons_zero, List.set_cons_succ, Nat.zero_add, Nat.add_zero, Nat.le_refl, and_self, if_true, true_and, and_true, List.replicate_succ, List.replicate_zero, Nat.sub_self, Nat.reduceSub, Nat.reduceAdd, Nat.reduceLeDiff, Nat.reduceEqDiff, Nat.zero_le, small, tru_bl, isNon, Bool.not_true, Bool.not_false, i1, n0, op_sub, v_is_between (n + 1) p.2 0 (N.sz - 1) [] (hp.b p hpm)]⟩) (by simp; omega)
          rw [List.nil_append] at k5
          refine run_ (env' := [some N.val, some (.tup (ys.map prV)), none]) ⟨rfl, by decide⟩ [some N.val, some (.tup (ys.map prV)), none] rfl ?_
          refine (nx_ s1).trans ((nx_ s2).trans ?_)
          refine (nx_ (env' := [some N.val, some (.tup (ys.map prV)), none]) (st' := []) (by simp only [runF, exSs, exS, evE, evEs, R.bind_ok, R.bind_bad, R.bind_exc, ofO_some, ofO_none, bindT, setAll, List.length_cons, List.length_nil, List.map_cons, List.map_nil, List.getElem?_cons_zero, List.getElem?_cons_succ, List.cons_append, List.nil_append, List.set_cons_zero, List.set_cons_succ, Nat.zero_add, Nat.add_zero, Nat.le_refl, and_self, if_true, true_and, and_true, List.replicate_succ, List.replicate_zero, Nat.sub_self, Nat.reduceSub, Nat.reduceAdd, Nat.reduceLeDiff, Nat.reduceEqDiff, Nat.zero_le, small, tru_bl, isNon, Bool.not_true, Bool.not_false, walk_tup, k3, k4])).trans ?_
          refine rt_ ?_
          cases hb : ys.all (fun p => btw 0 (N.sz - 1) p.2) with
          | true => simp only [runF, exSs, exS, evE, evEs, R.bind_ok, R.bind_bad, R.bind_exc, ofO_some, ofO_none, bindT, setAll, List.length_cons, List.length_nil, List.map_cons, List.map_nil, List.getElem?_cons_zero, List.getElem?_cons_succ, List.cons_append, List.nil_append, List.set_cons_zero, List.set_cons_succ, Nat.zero_add, Nat.add_zero, Nat.le_refl, and_self, if_true, true_and, and_true, List.replicate_succ, List.replicate_zero, Nat.sub_self, Nat.reduceSub, Nat.reduceAdd, Nat.reduceLeDiff, Nat.reduceEqDiff, Nat.zero_le, small, tru_bl, isNon, Bool.not_true, Bool.not_false, walk_tup, k5, all_bl, hb, Bool.and_self]
          | false => simp only [runF, exSs, exS, evE, evEs, R.bind_ok, R.bind_bad, R.bind_exc, ofO_some, ofO_none, bindT, setAll, List.length_cons, List.length_nil, List.map_cons, List.map_nil, List.getElem?_cons_zero, List.getElem?_cons_succ, List.cons_append, List.nil_append, List.set_cons_zero, List.set_cons_succ, Nat.zero_add, Nat.add_zero, Nat.le_refl, and_self, if_true, true_and, and_true, List.replicate_succ, List.replicate_zero, Nat.sub_self, Nat.reduceSub, Nat.reduceAdd, Nat.reduceLeDiff, Nat.reduceEqDiff, Nat.zero_le, small, tru_bl, isNon, Bool.not_true, Bool.not_false, walk_tup, k5, all_bl, hb, Bool.and_false, Bool.false_and, if_neg (show ¬ (false = true) by decide)]
  | int i => exact notup (fun st => rfl) rfl
  | str t => exact notup (fun st => rfl) rfl
  | non => exact notup (fun st => rfl) rfl
  | bl b => exact notup (fun st => rfl) rfl
  | ls xs => exact notup (fun st => rfl) rfl
  | sc _ => exact absurd hv.da (by simp [Val.da])
  | dc _ => exact absurd hv.da (by simp [Val.da])
  | ref _ => exact absurd hv.da (by simp [Val.da])
theorem c_is_event (N : Net) (hN : NetOk N) (n : Nat) (v : Val) (L d : Nat) (hL : L ≤ 70) (hv : Dep L d v) : callN prog (n + 4) "_law_is_event" [N.val, v] [] = .ok (.bl (evB N v)) [] := by
  rw [callN_at lk_is_event]
  have n0 := net_0 N
  have n1 := net_1 N
  have form1 : evB N v = false → (exS (callN prog (n + 3)) (d__law_is_event.fn.body.getD 0 .pss) [some N.val, some v, none] [] = .ok (.rt (.bl false), [some N.val, some v, none]) []) → runF (callN prog (n + 3)) d__law_is_event.fn [N.val, v] [] = .ok (.bl (evB N v)) [] := by
    intro h e
    rw [h]
    exact run_ (env' := [some N.val, some v, none]) ⟨rfl, by decide⟩ [some N.val, some v, none] rfl (rt_ e)
  have notup : (∀ st, isiV st v .tuple = some false) → evB N v = false → runF (callN prog (n + 3)) d__law_is_event.fn [N.val, v] [] = .ok (.bl (evB N v)) [] :=
    fun h1 h2 => form1 h2 (by simp only [d__law_is_event, List.getD_cons_zero, runF, exSs, exS, evE, evEs, R.bind_ok, R.bind_bad, R.bind_exc, ofO_some, ofO_none, bindT, setAll, List.length_cons, List.length_nil, List.map_cons, List.map_nil, List.getElem?_cons_zero, List.getElem?_cons_succ, List.cons_append, List.nil_append, List.set_cons_zero, List.set_cons_succ, Nat.zero_add, Nat.add_zero, Nat.le_refl, and_self, if_true, true_and, and_true, List.replicate_succ, List.replicate_zero, Nat.sub_self, Nat.reduceSub, Nat.reduceAdd, Nat.reduceLeDiff, Nat.reduceEqDiff, Nat.zero_le, small, tru_bl, isNon, Bool.not_true, Bool.not_false, h1])
  cases v with
  | tup xs =>
    have h1 : ∀ st, isiV st (.tup xs) .tuple = some true := fun st => rfl
    cases d with
    | zero => exact hv.elim
    | succ d =>
    have hxl := hv.1
    have k1 := lc_map (f := evE (callN prog (n + 3)) e__law_is_event_1) (tg := .nm 2) (env := [some N.val, some (.tup xs), none]) (keep := keepW .of [.tup xs] xs) (st := []) id (fun x => .bl (isRow 2 x)) (keep_tup _ _ _ _) xs [] (fun x hx => ⟨_, rfl, by
      have hd := (hv.2 x hx).da
      cases x with
      | tup zs =>
        have i1 : ∀ st, isiV st (.tup zs) .tuple = some true := fun st => rfl
        simp only [e__law_is_event_1, id, runF, exSs, exS, evE, evEs, R.bind_ok, R.bind_bad, R.bind_exc, ofO_some, ofO_none, bindT, setAll, List.length_cons, List.length_nil, List.map_cons, List.map_nil, List.getElem?_cons_zero, List.getElem?_cons_succ, List.cons_append, List.nil_append, List.set_cons_zero, List.set_cons_succ, Nat.zero_add, Nat.add_zero, Nat.le_refl, and_self, if_true, true_and, and_true, List.replicate_succ, List.replicate_zero, Nat.sub_self, Nat.reduceSub, Nat.reduceAdd, Nat.reduceLeDiff, Nat.reduceEqDiff, Nat.zero_le, small, tru_bl, isNon, Bool.not_true, Bool.not_false, i1, len_tup, eq_int, isRow]
      | int i => rfl
      | str t => rfl
      | non => rfl
      | bl b => rfl
      | ls zs => rfl
      | sc _ => simp [Val.da] at hd
      | dc _ => simp [Val.da] at hd
      | ref _ => simp [Val.da] at hd⟩) (by simp; omega)
    rw [List.map_id, List.nil_append] at k1
    cases hr : xs.all (isRow 2) with
    | false =>
      refine form1 (by simp only [evB, hr, Bool.false_and]) ?_
      simp only [d__law_is_event, List.getD_cons_zero, runF, exSs, exS, evE, evEs, R.bind_ok, R.bind_bad, R.bind_exc, ofO_some, ofO_none, bindT, setAll, List.length_cons, List.length_nil, List.map_cons, List.map_nil, List.getElem?_cons_zero, List.getElem?_cons_succ, List.cons_append, List.nil_append, List.set_cons_zero, List.set_cons_succ, Nat.zero_add, Nat.add_zero, Nat.le_refl, and_self, if_true, true_and, and_true, List.replicate_succ, List.replicate_zero, Nat.sub_self, Nat.reduceSub, Nat.reduceAdd, Nat.reduceLeDiff, Nat.reduceEqDiff, Nat.zero_le, small, tru_bl, isNon, Bool.not_true, Bool.not_false, h1, walk_tup, k1, all_bl, hr]
    | true =>
      obtain ⟨ys, rfl⟩ := rows_pairs xs hr
      have hp : PrOk ys := by
        have hy : ∀ p ∈ ys, Dep L d (prV p) := fun p hp => hv.2 _ (List.mem_map_of_mem hp)
        have hda : ∀ p ∈ ys, p.1.da = true ∧ p.2.da = true := fun p hp => by
          have := (hy p hp).da
          simpa [prV, Val.da, daAll] using this
        refine ⟨fun p hp => (hda p hp).1, fun p hp => (hda p hp).2, fun p hp => ?_, by rw [List.length_map] at hxl; omega⟩
        have := hy p hp
        cases d with
        | zero => exact this.elim
        | succ d => exact (this.2 p.1 (by simp)).sokV
      have hpl := hp.l
      have s1 : exS (callN prog (n + 3)) (.ifs (.or (.not (.isi (.var 1) .tuple)) (.not (.b1 .all (.lc e__law_is_event_1 (.nm 2) .of [(.var 1)] [])))) [.ret (.cst (.bl false))] []) [some N.val, some (.tup (ys.map prV)), none] [] = .ok (.nx, [some N.val, some (.tup (ys.map prV)), none]) [] := by
        simp only [runF, exSs, exS, evE, evEs, R.bind_ok, R.bind_bad, R.bind_exc, ofO_some, ofO_none, bindT, setAll, List.length_cons, List.length_nil, List.map_cons, List.map_nil, List.getElem?_cons_zero, List.getElem?_cons_succ, List.cons_append, List.nil_append, List.set_cons_zero, List.set_cons_succ, Nat.zero_add, Nat.add_zero, Nat.le_refl, and_self, if_true, true_and, and_true, List.replicate_succ, List.replicate_zero, Nat.sub_self, Nat.reduceSub, Nat.reduceAdd, Nat.reduceLeDiff, Nat.reduceEqDiff, Nat.zero_le, small, tru_bl, isNon, Bool.not_true, Bool.not_false, h1, walk_tup, k1, all_bl, hr]
      have k2 := lc_map (f := evE (callN prog (n + 3)) e__law_is_event_2) (tg := .nm 2) (env := [some N.val, some (.tup (ys.map prV)), none]) (keep := keepW .of [.tup (ys.map prV)] (ys.map prV)) (st := []) prV (fun p => .bl (inB N p.1 && btw 0 (N.sz - 1) p.2)) (keep_tup _ _ _ _) ys [] (fun p hpm => ⟨_, rfl, by
        have i0 : ∀ st, itemV st (prV p) (.int 0) = some p.1 := fun st => rfl
        have i1 : ∀ st, itemV st (prV p) (.int 1) = some p.2 := fun st => rfl
        have hw := v_lworth (n + 1) p.2 N.sz [] (hp.b p hpm)
        obtain ⟨b, b1, b2, b3⟩ := isi_str [] N (hp.a p hpm)
        cases b with
        | false => simp only [e__law_is_event_2, runF, exSs, exS, evE, evEs, R.bind_ok, R.bind_bad, R.bind_exc, ofO_some, ofO_none, bindT, setAll, List.length_cons, List.length_nil, List.map_cons, List.map_nil, List.getElem?_cons_zero, List.getElem?_cons_succ, List.cons_append, List.nil_append, List.set_cons_zero, List.set_cons_succ, Nat.zero_add, Nat.add_zero, Nat.le_refl, and_self, if_true, true_and, and_true, List.replicate_succ, List.replicate_zero, Nat.sub_self, Nat.reduceSub, Nat.reduceAdd, Nat.reduceLeDiff, Nat.reduceEqDiff, Nat.zero_le, small, tru_bl, isNon, Bool.not_true, Bool.not_false, i0, b1, b3 rfl, Bool.false_and]
        | true =>
          obtain ⟨t, ht⟩ := b2 rfl
          have hs := hp.s p hpm
          rw [ht] at i0 b1 hs
          have hq : cmpV [] .isin (.str t) (.tup (N.ins.map Val.str)) = some (decide (t ∈ N.ins)) := in_tup [] hs hN.insok
          have hi : inB N p.1 = decide (t ∈ N.ins) := by rw [ht]; rfl
          by_cases hm : t ∈ N.ins
          · simp only [e__law_is_event_2, runF, exSs, exS, evE, evEs, R.bind_ok, R.bind_bad, R.bind_exc, ofO_some, ofO_none, bindT, setAll, List.length_cons, List.length_nil, List.map_cons, List.map_nil, List.getElem?_cons_zero, List.getElem?_cons_succ, List.cons_append, List.nil_append, List.set_cons_zero, List.set_cons_succ, Nat.zero_add, Nat.add_zero, Nat.le_refl, and_self, if_true, true_and, and_true, List.replicate_succ, List.replicate_zero, Nat.sub_self, Nat.reduceSub, Nat.reduceAdd, Nat.reduceLeDiff, Nat.reduceEqDiff, Nat.zero_le, small, tru_bl, isNon, Bool.not_true, Bool.not_false, i0, i1, n0, b1, n1, hq, hi, decide_eq_true hm, hw, Bool.true_and]
          · simp only [e__law_is_event_2, runF, exSs, exS, evE, evEs, R.bind_ok, R.bind_bad, R.bind_exc, ofO_some, ofO_none, bindT, setAll, List.length_cons, List.length_nil, List.map_cons, List.map_nil, List.getElem?_cons_zero, List.getElem?_cons_succ, List.cons_append, List.nil_append, List.set_cons_zero, List.set_cons_succ, Nat.zero_add, Nat.add_zero, Nat.le_refl, and_self, if_true, true_and, and_true, List.replicate_succ, List.replicate_zero, Nat.sub_self, Nat.reduceSub, Nat.reduceAdd, Nat.reduceLeDiff, Nat.reduceEqDiff, Nat.zero_le, small, tru_bl, isNon, Bool.not_true, Bool.not_false, i0, b1, n1, hq, hi, decide_eq_false hm, Bool.false_and]⟩) (by simp; omega)
      rw [List.nil_append] at k2
      rw [evB_pairs]
      cases hin : ys.all (fun p => inB N p.1 && btw 0 (N.sz - 1) p.2) with
      | false =>
        refine run_ (env' := [some N.val, some (.tup (ys.map prV)), none]) ⟨rfl, by decide⟩ [some N.val, some (.tup (ys.map prV)), none] rfl ?_
        refine (nx_ s1).trans ?_
        refine rt_ ?_
        simp only [runF, exSs, exS, evE, evEs, R.bind_ok, R.bind_bad, R.bind_exc, ofO_some, ofO_none, bindT, setAll, List.length_cons, List.length_nil, List.map_cons, List.map_nil, List.getElem?_cons_zero, List.getElem?_cons_succ, List.cons_append, List.nil_append, List.set_cons_zero, List.set_cons_succ, Nat.zero_add, Nat.add_zero, Nat.le_refl, and_self, if_true, true_and, and_true, List.replicate_succ, List.replicate_zero, Nat.sub_self, Nat.reduceSub, Nat.reduceAdd, Nat.reduceLeDiff, Nat.reduceEqDiff, Nat.zero_le, small, tru_bl, isNon, Bool.not_true, Bool.not_false, walk_tup, k2, all_bl, hin, Bool.false_and]
      | true =>
        have s2 : exS (callN prog (n + 3)) (.ifs (.not (.b1 .all (.lc e__law_is_event_2 (.nm 2) .of [(.var 1)] []))) [.ret (.cst (.bl false))] []) [some N.val, some (.tup (ys.map prV)), none] [] = .ok (.nx, [some N.val, some (.tup (ys.map prV)), none]) [] := by
          simp only [runF, exSs, exS, evE, evEs, R.bind_ok, R.bind_bad, R.bind_exc, ofO_some, ofO_none, bindT, setAll, List.length_cons, List.length_nil, List.map_cons, List.map_nil, List.getElem?_cons_zero, List.getElem?_cons_succ, List.cons_append, List.nil_append, List.set_cons_zero, List.set_cons_succ, Nat.zero_add, Nat.add_zero, Nat.le_refl, and_self, if_true, true_and, and_true, List.replicate_succ, List.replicate_zero, Nat.sub_self, Nat.reduceSub, Nat.reduceAdd, Nat.reduceLeDiff, Nat.reduceEqDiff, Nat.zero_le, small, tru_bl, isNon, Bool.not_true, Bool.not_false, walk_tup, k2, all_bl, hin]
        have htx : ∀ p ∈ ys, p.1 = .str (txt p.1) := fun p hpm => by
          have := List.all_eq_true.mp hin p hpm
          rw [Bool.and_eq_true] at this
          exact inB_txt this.1
        have k3 := lc_map (f := evE (callN prog (n + 3)) e__law_is_event_3) (tg := .nm 2) (env := [some N.val, some (.tup (ys.map prV)), none]) (keep := keepW .of [.tup (ys.map prV)] (ys.map prV)) (st := []) prV (fun p => .str (txt p.1)) (keep_tup _ _ _ _) ys [] (fun p hpm => ⟨_, rfl, by
          have i0 : ∀ st, itemV st (prV p) (.int 0) = some (.str (txt p.1)) := fun st => by rw [← htx p hpm]; rfl
          simp only [e__law_is_event_3, runF, exSs, exS, evE, evEs, R.bind_ok, R.bind_bad, R.bind_exc, ofO_some, ofO_none, bindT, setAll, List.length_cons, List.length_nil, List.map_cons, List.map_nil, List.getElem?_cons_zero, List.getElem?_cons_succ, List.cons_append, List.nil_append, List.set_cons_zero, List.set_cons_succ, Nat.zero_add, Nat.add_zero, Nat.le_refl, and_self, if_true, true_and, and_true, List.replicate_succ, List.replicate_zero, Nat.sub_self, Nat.reduceSub, Nat.reduceAdd, Nat.reduceLeDiff, Nat.reduceEqDiff, Nat.zero_le, small, tru_bl, isNon, Bool.not_true, Bool.not_false, i0]⟩) (by simp; omega)
        have hmm : (ys.map fun p => Val.str (txt p.1)) = (ys.map fun p => txt p.1).map Val.str := by rw [List.map_map]; rfl
        rw [List.nil_append, hmm] at k3
        have k4 := v_rising (n + 2) (.ls ((ys.map fun p => txt p.1).map Val.str)) (ys.map fun p => txt p.1) (.inr rfl) (by rw [List.length_map]; omega) []
        refine run_ (env' := [some N.val, some (.tup (ys.map prV)), none]) ⟨rfl, by decide⟩ [some N.val, some (.tup (ys.map prV)), none] rfl ?_
        refine (nx_ s1).trans ((nx_ s2).trans ?_)
        refine rt_ ?_
        simp only [runF, exSs, exS, evE, evEs, R.bind_ok, R.bind_bad, R.bind_exc, ofO_some, ofO_none, bindT, setAll, List.length_cons, List.length_nil, List.map_cons, List.map_nil, List.getElem?_cons_zero, List.getElem?_cons_succ, List.cons_append, List.nil_append, List.set_cons_zero, List.set_cons_succ, Nat.zero_add, Nat.add_zero, Nat.le_refl, and_self, if_true, true_and, and_true, List.replicate_succ, List.replicate_zero, Nat.sub_self, Nat.reduceSub, Nat.reduceAdd, Nat.reduceLeDiff, Nat.reduceEqDiff, Nat.zero_le, small, tru_bl, isNon, Bool.not_true, Bool.not_false, walk_tup, k3, k4, Bool.true_and]
  | int i => exact notup (fun st => rfl) rfl
  | str t => exact notup (fun st => rfl) rfl
  | non => exact notup (fun st => rfl) rfl
  | bl b => exact notup (fun st => rfl) rfl
  | ls xs => exact notup (fun st => rfl) rfl
  | sc _ => exact absurd hv.da (by simp [Val.da])
  | dc _ => exact absurd hv.da (by simp [Val.da])
  | ref _ => exact absurd hv.da (by simp [Val.da])
/-- a drawn event is plain -/
theorem lc_boxF {α : Type} {f t : Env → Store → R Val} {tg : Tg} {env : Env} {keep : Store → Bool} {r : Store} (hx : α → Val) (P : Val → Prop) (hk : ∀ o, keep (o :: r) = true) :
    ∀ (xs : List α), (∀ x ∈ xs, ∀ o, BoxO o → ∃ e b o1, bindT tg (hx x) env = some e ∧ t e (o :: r) = .ok (.bl b) (o1 :: r) ∧ BoxO o1 ∧ (b = true → ∃ v o2, f e (o1 :: r) = .ok v (o2 :: r) ∧ BoxO o2 ∧ P v)) → ∀ (acc : List Val) (o : Obj), BoxO o → acc.length + xs.length ≤ 1000 →
    ∃ (vs : List Val) (o' : Obj), lcL f (some t) tg keep env (xs.map hx) acc (o :: r) = .ok (acc ++ vs) (o' :: r) ∧ vs.length ≤ xs.length ∧ (∀ v ∈ vs, P v) ∧ BoxO o'
  | [], _, acc, o, hb, _ => ⟨[], o, by simp only [List.map_nil, lcL, hk, if_true, List.append_nil], by simp, by simp, hb⟩
  | x :: xs, hf, acc, o, hb, hl => by
    simp only [List.length_cons] at hl
    obtain ⟨e, b, o1, h1, h2, h3, h4⟩ := hf x List.mem_cons_self o hb
    cases b with
    | false =>
      obtain ⟨vs, o2, h5, h6, h7, h8⟩ := lc_boxF hx P hk xs (fun z hz => hf z (List.mem_cons_of_mem _ hz)) acc o1 h3 (by omega)
      refine ⟨vs, o2, ?_, by rw [List.length_cons]; omega, h7, h8⟩
      simp only [List.map_cons, lcL, hk, h1, h2, R.bind_ok, tru_bl, ofO_some, h5]
    | true =>
      obtain ⟨v, o2, g1, g2, g3⟩ := h4 rfl
      obtain ⟨vs, o3, h5, h6, h7, h8⟩ := lc_boxF hx P hk xs (fun z hz => hf z (List.mem_cons_of_mem _ hz)) (acc ++ [v]) o2 g2 (by simp; omega)
      have hs : acc.length < small := by
        have : small = 100000 := rfl
        omega
      refine ⟨v :: vs, o3, ?_, by simp; omega, ?_, h8⟩
      · simp only [List.map_cons, lcL, hk, h1, h2, R.bind_ok, tru_bl, ofO_some, g1, if_pos hs, h5]
        simp
      · intro w hw
        rcases List.mem_cons.mp hw with rfl | hw
        · exact g3
        · exact h7 w hw
theorem v_event (N : Net) (hN : NetOk N) {o : Obj} (h : BoxO o) (n : Nat) (r : Store) : ∃ (v : Val) (o' : Obj), BoxO o' ∧ Dep 20 2 v ∧ callV (callN prog (n + 2)) "_law_event" [.ref 0, N.val] (o :: r) = .ok v (o' :: r) := by
  have n0 := net_0 N
  have n1 := net_1 N
  have hi := hN.i1
  have hs0 := hN.s0
  obtain ⟨vs, o', e1, l1, p1, b1⟩ := lc_boxF (f := evE (callN prog (n + 1)) e__law_event_1) (t := evE (callN prog (n + 1)) e__law_event_2) (tg := .nm 2) (env := [some (.ref 0), some N.val, none]) (keep := keepW .of [.tup (N.ins.map Val.str)] (N.ins.map Val.str)) (r := r) Val.str (fun v => Dep 20 1 v) (fun o => keep_tup _ _ _ _) N.ins (fun x hx o hb => by
    obtain ⟨q, o1, q0, q1, b1, e1⟩ := tk hb n 5 r (by decide)
    refine ⟨_, decide (1 < q), o1, rfl, by simp only [e__law_event_2, runF, exSs, exS, evE, evEs, R.bind_ok, R.bind_bad, R.bind_exc, ofO_some, ofO_none, bindT, setAll, List.length_cons, List.length_nil, List.map_cons, List.map_nil, List.getElem?_cons_zero, List.getElem?_cons_succ, List.cons_append, List.nil_append, List.set_cons_zero, List.set_cons_succ, Nat.zero_add, Nat.add_zero, Nat.le_refl, and_self, if_true, true_and, and_true, List.replicate_succ, List.replicate_zero, Nat.sub_self, Nat.reduceSub, Nat.reduceAdd, Nat.reduceLeDiff, Nat.reduceEqDiff, Nat.zero_le, small, tru_bl, isNon, Bool.not_true, Bool.not_false, e1, gt_int], b1, fun _ => ?_⟩
    obtain ⟨w, o2, w0, w1, b2, e2⟩ := tk b1 n N.sz r (by omega)
    refine ⟨.tup [.str x, .int w], o2, by simp only [e__law_event_1, runF, exSs, exS, evE, evEs, R.bind_ok, R.bind_bad, R.bind_exc, ofO_some, ofO_none, bindT, setAll, List.length_cons, List.length_nil, List.map_cons, List.map_nil, List.getElem?_cons_zero, List.getElem?_cons_succ, List.cons_append, List.nil_append, List.set_cons_zero, List.set_cons_succ, Nat.zero_add, Nat.add_zero, Nat.le_refl, and_self, if_true, true_and, and_true, List.replicate_succ, List.replicate_zero, Nat.sub_self, Nat.reduceSub, Nat.reduceAdd, Nat.reduceLeDiff, Nat.reduceEqDiff, Nat.zero_le, small, tru_bl, isNon, Bool.not_true, Bool.not_false, n0, e2], b2, ?_⟩
    refine ⟨by simp, fun y hy => ?_⟩
    simp only [List.mem_cons, List.not_mem_nil, or_false] at hy
    rcases hy with rfl | rfl
    · exact (hN.inm x hx).sok
    · trivial) [] o h (by simp; omega)
  rw [List.nil_append] at e1
  have ht : ∀ (st : Store) (l : List Val), b1V st .tuple (.ls l) = some (.tup l) := fun st l => rfl
  refine ⟨.tup vs, o', b1, ⟨by omega, p1⟩, callV_ref _ _ _ _ _ _ _ ?_ rfl⟩
  rw [callN_at lk_levent]
  refine run_ (env' := [some (.ref 0), some N.val, none]) ⟨rfl, by decide⟩ [some (.ref 0), some N.val, none] rfl ?_
  exact rt_ (by simp only [runF, exSs, exS, evE, evEs, R.bind_ok, R.bind_bad, R.bind_exc, ofO_some, ofO_none, bindT, setAll, List.length_cons, List.length_nil, List.map_cons, List.map_nil, List.getElem?_cons_zero, List.getElem?_cons_succ, List.cons_append, List.nil_append, List.set_cons_zero, List.set_cons_succ, Nat.zero_add, Nat.add_zero, Nat.le_refl, and_self, if_true, true_and, and_true, List.replicate_succ, List.replicate_zero, Nat.sub_self, Nat.reduceSub, Nat.reduceAdd, Nat.reduceLeDiff, Nat.reduceEqDiff, Nat.zero_le, small, tru_bl, isNon, Bool.not_true, Bool.not_false, n1, walk_tup, e1, ht])
end PV
end

section
set_option Elab.async false
set_option linter.all false
set_option maxRecDepth 100000
set_option maxHeartbeats 1000000
namespace PV
open PySem L2
def goodV : Val := .tup [.str "worth", .int 0]
def manyV : Val := .tup ((List.range 21).map fun k => .tup [.str ⟨#[97 + k]⟩, goodV])
def rowZ (k : Nat) : Val := .tup (List.replicate k (.int 0))
def badC : CallF := fun _ _ _ => .bad
def resE (r : R (Flow × Env)) : Env := match r with
  | .ok (_, e) _ => e
  | _ => []
def stmt (i : Nat) : S := d_law.fn.body.getD i .pss
def wrongV (k : Nat) : Option Val := (resE (exSs badC ((d_law.fn.body.drop 12).take 4) [none, none, none, none, some goodV, some manyV, some (rowZ k), none, none, none, none, some (.int (k : Int)), none, none, none] [])).getD 7 none
def ringsV : Option Val := (resE (exSs badC ((d_law.fn.body.drop 18).take 2) [none, none, none, none, none, none, none, none, none, none, none, none, none, none, none] [])).getD 9 none
abbrev lastW : Val := .tup [.str "Worth", .int 0]
abbrev lastN : Val := .tup [.str "else", .str "y", .str "x"]
abbrev lastR : Val := .tup [.tup [.str "a", .tup [.str "match", .str "add", .str "b", .str "x"]], .tup [.str "b", .tup [.str "late", .str "c", .int 0]], .tup [.str "c", .tup [.str "else", .str "b", .str "x"]]]
theorem s8 (n : Nat) (o : Obj) (c0 c2 c3 c6 c7 c8 c9 c10 c11 c12 c13 c14 : Option Val) : exS (callN prog (n + 19)) (stmt 8) [c0, some (.ref 0), c2, c3, some goodV, none, c6, c7, c8, c9, c10, c11, c12, c13, c14] [o] = .ok (.nx, [c0, some (.ref 0), c2, c3, some goodV, some manyV, c6, c7, c8, c9, c10, c11, c12, c13, c14]) [o] := by kernel_rfl
theorem exSs_app (cf : CallF) : ∀ (as_ bs : List S) {env env' : Env} {st st' : Store}, exSs cf as_ env st = .ok (.nx, env') st' → exSs cf (as_ ++ bs) env st = exSs cf bs env' st'
  | [], bs, env, env', st, st', h => by
    rw [exSs] at h
    simp only [R.ok.injEq, Prod.mk.injEq, true_and] at h
    rw [List.nil_append, h.1, h.2]
  | a :: as_, bs, env, env', st, st', h => by
    rw [List.cons_append, exSs]
    rw [exSs] at h
    cases he : exS cf a env st with
    | ok r s =>
      obtain ⟨f, e⟩ := r
      rw [he] at h
      cases f with
      | nx => exact exSs_app cf as_ bs h
      | br => simp at h
      | ct => simp at h
      | rt v => simp at h
    | exc c fs s => rw [he] at h; simp at h
    | bad => rw [he] at h; simp at h
theorem m20_2 (n : Nat) : callN prog (n + 19) "net_fault" [V3 (.int 2) (.tup []) (.tup ((List.range 20).map fun k => .tup [.str ⟨#[97 + k]⟩, goodV]))] [] = .ok .non [] := by kernel_rfl
theorem s11_2 (n : Nat) (o : Obj) (c0 c2 c3 c10 c12 c13 c14 : Option Val) : exS (callN prog (n + 19)) (stmt 11) [c0, some (.ref 0), c2, c3, some goodV, some manyV, none, none, none, none, c10, some (.int 2), c12, c13, c14] [o] = .ok (.nx, [c0, some (.ref 0), c2, c3, some goodV, some manyV, some (rowZ 2), none, none, none, c10, some (.int 2), c12, c13, c14]) [o] := by kernel_rfl
theorem s12_2 (n : Nat) (o : Obj) (c0 c2 c3 c10 c12 c13 c14 : Option Val) : exSs (callN prog (n + 19)) [stmt 12, stmt 13, stmt 14, stmt 15] [c0, some (.ref 0), c2, c3, some goodV, some manyV, some (rowZ 2), none, none, none, c10, some (.int 2), c12, c13, c14] [o] = .ok (.nx, [c0, some (.ref 0), c2, c3, some goodV, some manyV, some (rowZ 2), (wrongV 2), none, none, c10, some (.int 2), c12, c13, c14]) [o] := by kernel_rfl
theorem s16_2 (n : Nat) (o : Obj) (c0 c2 c3 c10 c12 c13 c14 : Option Val) : exS (callN prog (n + 19)) (stmt 16) [c0, some (.ref 0), c2, c3, some goodV, some manyV, some (rowZ 2), (wrongV 2), none, none, c10, some (.int 2), c12, c13, c14] [o] = .ok (.nx, [c0, some (.ref 0), c2, c3, some goodV, some manyV, some (rowZ 2), (wrongV 2), some lastW, none, c10, some (.int 2), c12, c13, c14]) [o] := by kernel_rfl
theorem s17_2 (n : Nat) (o : Obj) (c0 c2 c3 c10 c12 c13 c14 : Option Val) : exS (callN prog (n + 19)) (stmt 17) [c0, some (.ref 0), c2, c3, some goodV, some manyV, some (rowZ 2), (wrongV 2), some lastW, none, c10, some (.int 2), c12, c13, c14] [o] = .ok (.nx, [c0, some (.ref 0), c2, c3, some goodV, some manyV, some (rowZ 2), (wrongV 2), some lastN, none, c10, some (.int 2), c12, c13, c14]) [o] := by kernel_rfl
theorem s18_2 (n : Nat) (o : Obj) (c0 c2 c3 c10 c12 c13 c14 : Option Val) : exSs (callN prog (n + 19)) [stmt 18, stmt 19] [c0, some (.ref 0), c2, c3, some goodV, some manyV, some (rowZ 2), (wrongV 2), some lastN, none, c10, some (.int 2), c12, c13, c14] [o] = .ok (.nx, [c0, some (.ref 0), c2, c3, some goodV, some manyV, some (rowZ 2), (wrongV 2), some lastN, ringsV, c10, some (.int 2), c12, c13, c14]) [o] := by kernel_rfl
theorem s20_2 (n : Nat) (o : Obj) (c0 c2 c3 c10 c12 c13 c14 : Option Val) : exS (callN prog (n + 19)) (stmt 20) [c0, some (.ref 0), c2, c3, some goodV, some manyV, some (rowZ 2), (wrongV 2), some lastN, ringsV, c10, some (.int 2), c12, c13, c14] [o] = .ok (.nx, [c0, some (.ref 0), c2, c3, some goodV, some manyV, some (rowZ 2), (wrongV 2), some lastN, ringsV, c10, some (.int 2), c12, c13, c14]) [o] := by kernel_rfl
theorem s21_2 (n : Nat) (o : Obj) (c0 c2 c3 c10 c12 c13 c14 : Option Val) : exS (callN prog (n + 19)) (stmt 21) [c0, some (.ref 0), c2, c3, some goodV, some manyV, some (rowZ 2), (wrongV 2), some lastN, ringsV, c10, some (.int 2), c12, c13, c14] [o] = .ok (.nx, [c0, some (.ref 0), c2, some lastR, some goodV, some manyV, some (rowZ 2), (wrongV 2), some lastN, ringsV, c10, some (.int 2), c12, c13, c14]) [o] := by kernel_rfl
theorem mid_2 (n : Nat) (o : Obj) (c0 c2 c3 c10 c12 c13 c14 : Option Val) : exSs (callN prog (n + 19)) (d_law.fn.body.drop 11) [c0, some (.ref 0), c2, c3, some goodV, some manyV, none, none, none, none, c10, some (.int 2), c12, c13, c14] [o] = exSs (callN prog (n + 19)) (d_law.fn.body.drop 22) [c0, some (.ref 0), c2, some lastR, some goodV, some manyV, some (rowZ 2), (wrongV 2), some lastN, ringsV, c10, some (.int 2), c12, c13, c14] [o] := by
  refine (nx_ (s11_2 n o c0 c2 c3 c10 c12 c13 c14)).trans ?_
  refine (exSs_app _ [stmt 12, stmt 13, stmt 14, stmt 15] _ (s12_2 n o c0 c2 c3 c10 c12 c13 c14)).trans ?_
  refine (nx_ (s16_2 n o c0 c2 c3 c10 c12 c13 c14)).trans ?_
  refine (nx_ (s17_2 n o c0 c2 c3 c10 c12 c13 c14)).trans ?_
  refine (exSs_app _ [stmt 18, stmt 19] _ (s18_2 n o c0 c2 c3 c10 c12 c13 c14)).trans ?_
  refine (nx_ (s20_2 n o c0 c2 c3 c10 c12 c13 c14)).trans ?_
  exact nx_ (s21_2 n o c0 c2 c3 c10 c12 c13 c14)
theorem m20_3 (n : Nat) : callN prog (n + 19) "net_fault" [V3 (.int 3) (.tup []) (.tup ((List.range 20).map fun k => .tup [.str ⟨#[97 + k]⟩, goodV]))] [] = .ok .non [] := by kernel_rfl
theorem s11_3 (n : Nat) (o : Obj) (c0 c2 c3 c10 c12 c13 c14 : Option Val) : exS (callN prog (n + 19)) (stmt 11) [c0, some (.ref 0), c2, c3, some goodV, some manyV, none, none, none, none, c10, some (.int 3), c12, c13, c14] [o] = .ok (.nx, [c0, some (.ref 0), c2, c3, some goodV, some manyV, some (rowZ 3), none, none, none, c10, some (.int 3), c12, c13, c14]) [o] := by kernel_rfl
theorem s12_3 (n : Nat) (o : Obj) (c0 c2 c3 c10 c12 c13 c14 : Option Val) : exSs (callN prog (n + 19)) [stmt 12, stmt 13, stmt 14, stmt 15] [c0, some (.ref 0), c2, c3, some goodV, some manyV, some (rowZ 3), none, none, none, c10, some (.int 3), c12, c13, c14] [o] = .ok (.nx, [c0, some (.ref 0), c2, c3, some goodV, some manyV, some (rowZ 3), (wrongV 3), none, none, c10, some (.int 3), c12, c13, c14]) [o] := by kernel_rfl
theorem s16_3 (n : Nat) (o : Obj) (c0 c2 c3 c10 c12 c13 c14 : Option Val) : exS (callN prog (n + 19)) (stmt 16) [c0, some (.ref 0), c2, c3, some goodV, some manyV, some (rowZ 3), (wrongV 3), none, none, c10, some (.int 3), c12, c13, c14] [o] = .ok (.nx, [c0, some (.ref 0), c2, c3, some goodV, some manyV, some (rowZ 3), (wrongV 3), some lastW, none, c10, some (.int 3), c12, c13, c14]) [o] := by kernel_rfl
theorem s17_3 (n : Nat) (o : Obj) (c0 c2 c3 c10 c12 c13 c14 : Option Val) : exS (callN prog (n + 19)) (stmt 17) [c0, some (.ref 0), c2, c3, some goodV, some manyV, some (rowZ 3), (wrongV 3), some lastW, none, c10, some (.int 3), c12, c13, c14] [o] = .ok (.nx, [c0, some (.ref 0), c2, c3, some goodV, some manyV, some (rowZ 3), (wrongV 3), some lastN, none, c10, some (.int 3), c12, c13, c14]) [o] := by kernel_rfl
theorem s18_3 (n : Nat) (o : Obj) (c0 c2 c3 c10 c12 c13 c14 : Option Val) : exSs (callN prog (n + 19)) [stmt 18, stmt 19] [c0, some (.ref 0), c2, c3, some goodV, some manyV, some (rowZ 3), (wrongV 3), some lastN, none, c10, some (.int 3), c12, c13, c14] [o] = .ok (.nx, [c0, some (.ref 0), c2, c3, some goodV, some manyV, some (rowZ 3), (wrongV 3), some lastN, ringsV, c10, some (.int 3), c12, c13, c14]) [o] := by kernel_rfl
theorem s20_3 (n : Nat) (o : Obj) (c0 c2 c3 c10 c12 c13 c14 : Option Val) : exS (callN prog (n + 19)) (stmt 20) [c0, some (.ref 0), c2, c3, some goodV, some manyV, some (rowZ 3), (wrongV 3), some lastN, ringsV, c10, some (.int 3), c12, c13, c14] [o] = .ok (.nx, [c0, some (.ref 0), c2, c3, some goodV, some manyV, some (rowZ 3), (wrongV 3), some lastN, ringsV, c10, some (.int 3), c12, c13, c14]) [o] := by kernel_rfl
theorem s21_3 (n : Nat) (o : Obj) (c0 c2 c3 c10 c12 c13 c14 : Option Val) : exS (callN prog (n + 19)) (stmt 21) [c0, some (.ref 0), c2, c3, some goodV, some manyV, some (rowZ 3), (wrongV 3), some lastN, ringsV, c10, some (.int 3), c12, c13, c14] [o] = .ok (.nx, [c0, some (.ref 0), c2, some lastR, some goodV, some manyV, some (rowZ 3), (wrongV 3), some lastN, ringsV, c10, some (.int 3), c12, c13, c14]) [o] := by kernel_rfl
theorem mid_3 (n : Nat) (o : Obj) (c0 c2 c3 c10 c12 c13 c14 : Option Val) : exSs (callN prog (n + 19)) (d_law.fn.body.drop 11) [c0, some (.ref 0), c2, c3, some goodV, some manyV, none, none, none, none, c10, some (.int 3), c12, c13, c14] [o] = exSs (callN prog (n + 19)) (d_law.fn.body.drop 22) [c0, some (.ref 0), c2, some lastR, some goodV, some manyV, some (rowZ 3), (wrongV 3), some lastN, ringsV, c10, some (.int 3), c12, c13, c14] [o] := by
  refine (nx_ (s11_3 n o c0 c2 c3 c10 c12 c13 c14)).trans ?_
  refine (exSs_app _ [stmt 12, stmt 13, stmt 14, stmt 15] _ (s12_3 n o c0 c2 c3 c10 c12 c13 c14)).trans ?_
  refine (nx_ (s16_3 n o c0 c2 c3 c10 c12 c13 c14)).trans ?_
  refine (nx_ (s17_3 n o c0 c2 c3 c10 c12 c13 c14)).trans ?_
  refine (exSs_app _ [stmt 18, stmt 19] _ (s18_3 n o c0 c2 c3 c10 c12 c13 c14)).trans ?_
  refine (nx_ (s20_3 n o c0 c2 c3 c10 c12 c13 c14)).trans ?_
  exact nx_ (s21_3 n o c0 c2 c3 c10 c12 c13 c14)
theorem m20_4 (n : Nat) : callN prog (n + 19) "net_fault" [V3 (.int 4) (.tup []) (.tup ((List.range 20).map fun k => .tup [.str ⟨#[97 + k]⟩, goodV]))] [] = .ok .non [] := by kernel_rfl
theorem s11_4 (n : Nat) (o : Obj) (c0 c2 c3 c10 c12 c13 c14 : Option Val) : exS (callN prog (n + 19)) (stmt 11) [c0, some (.ref 0), c2, c3, some goodV, some manyV, none, none, none, none, c10, some (.int 4), c12, c13, c14] [o] = .ok (.nx, [c0, some (.ref 0), c2, c3, some goodV, some manyV, some (rowZ 4), none, none, none, c10, some (.int 4), c12, c13, c14]) [o] := by kernel_rfl
theorem s12_4 (n : Nat) (o : Obj) (c0 c2 c3 c10 c12 c13 c14 : Option Val) : exSs (callN prog (n + 19)) [stmt 12, stmt 13, stmt 14, stmt 15] [c0, some (.ref 0), c2, c3, some goodV, some manyV, some (rowZ 4), none, none, none, c10, some (.int 4), c12, c13, c14] [o] = .ok (.nx, [c0, some (.ref 0), c2, c3, some goodV, some manyV, some (rowZ 4), (wrongV 4), none, none, c10, some (.int 4), c12, c13, c14]) [o] := by kernel_rfl
theorem s16_4 (n : Nat) (o : Obj) (c0 c2 c3 c10 c12 c13 c14 : Option Val) : exS (callN prog (n + 19)) (stmt 16) [c0, some (.ref 0), c2, c3, some goodV, some manyV, some (rowZ 4), (wrongV 4), none, none, c10, some (.int 4), c12, c13, c14] [o] = .ok (.nx, [c0, some (.ref 0), c2, c3, some goodV, some manyV, some (rowZ 4), (wrongV 4), some lastW, none, c10, some (.int 4), c12, c13, c14]) [o] := by kernel_rfl
theorem s17_4 (n : Nat) (o : Obj) (c0 c2 c3 c10 c12 c13 c14 : Option Val) : exS (callN prog (n + 19)) (stmt 17) [c0, some (.ref 0), c2, c3, some goodV, some manyV, some (rowZ 4), (wrongV 4), some lastW, none, c10, some (.int 4), c12, c13, c14] [o] = .ok (.nx, [c0, some (.ref 0), c2, c3, some goodV, some manyV, some (rowZ 4), (wrongV 4), some lastN, none, c10, some (.int 4), c12, c13, c14]) [o] := by kernel_rfl
theorem s18_4 (n : Nat) (o : Obj) (c0 c2 c3 c10 c12 c13 c14 : Option Val) : exSs (callN prog (n + 19)) [stmt 18, stmt 19] [c0, some (.ref 0), c2, c3, some goodV, some manyV, some (rowZ 4), (wrongV 4), some lastN, none, c10, some (.int 4), c12, c13, c14] [o] = .ok (.nx, [c0, some (.ref 0), c2, c3, some goodV, some manyV, some (rowZ 4), (wrongV 4), some lastN, ringsV, c10, some (.int 4), c12, c13, c14]) [o] := by kernel_rfl
theorem s20_4 (n : Nat) (o : Obj) (c0 c2 c3 c10 c12 c13 c14 : Option Val) : exS (callN prog (n + 19)) (stmt 20) [c0, some (.ref 0), c2, c3, some goodV, some manyV, some (rowZ 4), (wrongV 4), some lastN, ringsV, c10, some (.int 4), c12, c13, c14] [o] = .ok (.nx, [c0, some (.ref 0), c2, c3, some goodV, some manyV, some (rowZ 4), (wrongV 4), some lastN, ringsV, c10, some (.int 4), c12, c13, c14]) [o] := by kernel_rfl
theorem s21_4 (n : Nat) (o : Obj) (c0 c2 c3 c10 c12 c13 c14 : Option Val) : exS (callN prog (n + 19)) (stmt 21) [c0, some (.ref 0), c2, c3, some goodV, some manyV, some (rowZ 4), (wrongV 4), some lastN, ringsV, c10, some (.int 4), c12, c13, c14] [o] = .ok (.nx, [c0, some (.ref 0), c2, some lastR, some goodV, some manyV, some (rowZ 4), (wrongV 4), some lastN, ringsV, c10, some (.int 4), c12, c13, c14]) [o] := by kernel_rfl
theorem mid_4 (n : Nat) (o : Obj) (c0 c2 c3 c10 c12 c13 c14 : Option Val) : exSs (callN prog (n + 19)) (d_law.fn.body.drop 11) [c0, some (.ref 0), c2, c3, some goodV, some manyV, none, none, none, none, c10, some (.int 4), c12, c13, c14] [o] = exSs (callN prog (n + 19)) (d_law.fn.body.drop 22) [c0, some (.ref 0), c2, some lastR, some goodV, some manyV, some (rowZ 4), (wrongV 4), some lastN, ringsV, c10, some (.int 4), c12, c13, c14] [o] := by
  refine (nx_ (s11_4 n o c0 c2 c3 c10 c12 c13 c14)).trans ?_
  refine (exSs_app _ [stmt 12, stmt 13, stmt 14, stmt 15] _ (s12_4 n o c0 c2 c3 c10 c12 c13 c14)).trans ?_
  refine (nx_ (s16_4 n o c0 c2 c3 c10 c12 c13 c14)).trans ?_
  refine (nx_ (s17_4 n o c0 c2 c3 c10 c12 c13 c14)).trans ?_
  refine (exSs_app _ [stmt 18, stmt 19] _ (s18_4 n o c0 c2 c3 c10 c12 c13 c14)).trans ?_
  refine (nx_ (s20_4 n o c0 c2 c3 c10 c12 c13 c14)).trans ?_
  exact nx_ (s21_4 n o c0 c2 c3 c10 c12 c13 c14)
theorem m20_5 (n : Nat) : callN prog (n + 19) "net_fault" [V3 (.int 5) (.tup []) (.tup ((List.range 20).map fun k => .tup [.str ⟨#[97 + k]⟩, goodV]))] [] = .ok .non [] := by kernel_rfl
theorem s11_5 (n : Nat) (o : Obj) (c0 c2 c3 c10 c12 c13 c14 : Option Val) : exS (callN prog (n + 19)) (stmt 11) [c0, some (.ref 0), c2, c3, some goodV, some manyV, none, none, none, none, c10, some (.int 5), c12, c13, c14] [o] = .ok (.nx, [c0, some (.ref 0), c2, c3, some goodV, some manyV, some (rowZ 5), none, none, none, c10, some (.int 5), c12, c13, c14]) [o] := by kernel_rfl
theorem s12_5 (n : Nat) (o : Obj) (c0 c2 c3 c10 c12 c13 c14 : Option Val) : exSs (callN prog (n + 19)) [stmt 12, stmt 13, stmt 14, stmt 15] [c0, some (.ref 0), c2, c3, some goodV, some manyV, some (rowZ 5), none, none, none, c10, some (.int 5), c12, c13, c14] [o] = .ok (.nx, [c0, some (.ref 0), c2, c3, some goodV, some manyV, some (rowZ 5), (wrongV 5), none, none, c10, some (.int 5), c12, c13, c14]) [o] := by kernel_rfl
theorem s16_5 (n : Nat) (o : Obj) (c0 c2 c3 c10 c12 c13 c14 : Option Val) : exS (callN prog (n + 19)) (stmt 16) [c0, some (.ref 0), c2, c3, some goodV, some manyV, some (rowZ 5), (wrongV 5), none, none, c10, some (.int 5), c12, c13, c14] [o] = .ok (.nx, [c0, some (.ref 0), c2, c3, some goodV, some manyV, some (rowZ 5), (wrongV 5), some lastW, none, c10, some (.int 5), c12, c13, c14]) [o] := by kernel_rfl
theorem s17_5 (n : Nat) (o : Obj) (c0 c2 c3 c10 c12 c13 c14 : Option Val) : exS (callN prog (n + 19)) (stmt 17) [c0, some (.ref 0), c2, c3, some goodV, some manyV, some (rowZ 5), (wrongV 5), some lastW, none, c10, some (.int 5), c12, c13, c14] [o] = .ok (.nx, [c0, some (.ref 0), c2, c3, some goodV, some manyV, some (rowZ 5), (wrongV 5), some lastN, none, c10, some (.int 5), c12, c13, c14]) [o] := by kernel_rfl
theorem s18_5 (n : Nat) (o : Obj) (c0 c2 c3 c10 c12 c13 c14 : Option Val) : exSs (callN prog (n + 19)) [stmt 18, stmt 19] [c0, some (.ref 0), c2, c3, some goodV, some manyV, some (rowZ 5), (wrongV 5), some lastN, none, c10, some (.int 5), c12, c13, c14] [o] = .ok (.nx, [c0, some (.ref 0), c2, c3, some goodV, some manyV, some (rowZ 5), (wrongV 5), some lastN, ringsV, c10, some (.int 5), c12, c13, c14]) [o] := by kernel_rfl
theorem s20_5 (n : Nat) (o : Obj) (c0 c2 c3 c10 c12 c13 c14 : Option Val) : exS (callN prog (n + 19)) (stmt 20) [c0, some (.ref 0), c2, c3, some goodV, some manyV, some (rowZ 5), (wrongV 5), some lastN, ringsV, c10, some (.int 5), c12, c13, c14] [o] = .ok (.nx, [c0, some (.ref 0), c2, c3, some goodV, some manyV, some (rowZ 5), (wrongV 5), some lastN, ringsV, c10, some (.int 5), c12, c13, c14]) [o] := by kernel_rfl
theorem s21_5 (n : Nat) (o : Obj) (c0 c2 c3 c10 c12 c13 c14 : Option Val) : exS (callN prog (n + 19)) (stmt 21) [c0, some (.ref 0), c2, c3, some goodV, some manyV, some (rowZ 5), (wrongV 5), some lastN, ringsV, c10, some (.int 5), c12, c13, c14] [o] = .ok (.nx, [c0, some (.ref 0), c2, some lastR, some goodV, some manyV, some (rowZ 5), (wrongV 5), some lastN, ringsV, c10, some (.int 5), c12, c13, c14]) [o] := by kernel_rfl
theorem mid_5 (n : Nat) (o : Obj) (c0 c2 c3 c10 c12 c13 c14 : Option Val) : exSs (callN prog (n + 19)) (d_law.fn.body.drop 11) [c0, some (.ref 0), c2, c3, some goodV, some manyV, none, none, none, none, c10, some (.int 5), c12, c13, c14] [o] = exSs (callN prog (n + 19)) (d_law.fn.body.drop 22) [c0, some (.ref 0), c2, some lastR, some goodV, some manyV, some (rowZ 5), (wrongV 5), some lastN, ringsV, c10, some (.int 5), c12, c13, c14] [o] := by
  refine (nx_ (s11_5 n o c0 c2 c3 c10 c12 c13 c14)).trans ?_
  refine (exSs_app _ [stmt 12, stmt 13, stmt 14, stmt 15] _ (s12_5 n o c0 c2 c3 c10 c12 c13 c14)).trans ?_
  refine (nx_ (s16_5 n o c0 c2 c3 c10 c12 c13 c14)).trans ?_
  refine (nx_ (s17_5 n o c0 c2 c3 c10 c12 c13 c14)).trans ?_
  refine (exSs_app _ [stmt 18, stmt 19] _ (s18_5 n o c0 c2 c3 c10 c12 c13 c14)).trans ?_
  refine (nx_ (s20_5 n o c0 c2 c3 c10 c12 c13 c14)).trans ?_
  exact nx_ (s21_5 n o c0 c2 c3 c10 c12 c13 c14)
end PV
end

section
set_option Elab.async false
set_option linter.all false
set_option maxRecDepth 100000
set_option maxHeartbeats 1000000
namespace PV
open PySem L2
theorem loop_E {body : Env → Store → R (Flow × Env)} {i : Nat} {kp : Store → Bool} {st : Store} (E : Option Val → Env) (hE : ∀ c v, setAll (E c) [i] [v] = E (some v)) (hk : kp st = true) :
    ∀ (vs : List Val) (c : Option Val), (∀ v ∈ vs, body (E (some v)) st = .ok (.nx, E (some v)) st) → ∃ c', forL body (.nm i) kp vs (E c) st = .ok (.nx, E c') st
  | [], c, _ => ⟨c, by simp only [forL, hk, if_true]⟩
  | v :: vs, c, h => by
    obtain ⟨c', e⟩ := loop_E E hE hk vs (some v) fun w hw => h w (List.mem_cons_of_mem _ hw)
    refine ⟨c', ?_⟩
    simp only [forL, hk, bindT, hE, h v List.mem_cons_self, R.bind_ok]
    exact e
theorem nf_form (n : Nat) (v : Val) (hv : v.da = true) (h : isRow 3 v = false) : callN prog (n + 2) "net_fault" [v] [] = .ok (.str "form") [] := by
  rw [callN_at lk_net_fault]
  have h1 := v_is_row n v 3 [] hv
  refine run_ (env' := [some v, none, none, none, none, none, none, none]) ⟨rfl, by decide⟩ [some v, none, none, none, none, none, none, none] rfl ?_
  exact rt_ (by simp only [runF, exSs, exS, evE, evEs, R.bind_ok, R.bind_bad, R.bind_exc, ofO_some, ofO_none, bindT, setAll, List.length_cons, List.length_nil, List.map_cons, List.map_nil, List.getElem?_cons_zero, List.getElem?_cons_succ, List.cons_append, List.nil_append, List.set_cons_zero, List.set_cons_succ, Nat.zero_add, Nat.add_zero, Nat.le_refl, and_self, if_true, true_and, and_true, List.replicate_succ, List.replicate_zero, Nat.sub_self, Nat.reduceSub, Nat.reduceAdd, Nat.reduceLeDiff, Nat.reduceEqDiff, Nat.zero_le, small, tru_bl, isNon, Bool.not_true, Bool.not_false, h1, h])
theorem nf_inputs5 (n : Nat) (a b c : Val) (k : Int) (ha : a.da = true) (hb : b.da = true) (hc : c.da = true) (h : btw 2 5 a = true) (hn : callN prog (n + 2) "are_names" [b] [] = .ok (.bl true) []) (hl : ∀ st, b1V st .len b = some (.int k)) (hk : 4 < k) : callN prog (n + 3) "net_fault" [V3 a b c] [] = .ok (.str "inputs") [] := by
  have h3 := callV_p (st := []) (pure1 hb) hn
  have hg : g_MAX_INPUTS = .int 4 := rfl
  exact nf_a n a b c ha hb hc h _ _ (rt_ (env' := [some (V3 a b c), none, some a, some b, some c, none, none, none]) (by simp only [runF, exSs, exS, evE, evEs, R.bind_ok, R.bind_bad, R.bind_exc, ofO_some, ofO_none, bindT, setAll, List.length_cons, List.length_nil, List.map_cons, List.map_nil, List.getElem?_cons_zero, List.getElem?_cons_succ, List.cons_append, List.nil_append, List.set_cons_zero, List.set_cons_succ, Nat.zero_add, Nat.add_zero, Nat.le_refl, and_self, if_true, true_and, and_true, List.replicate_succ, List.replicate_zero, Nat.sub_self, Nat.reduceSub, Nat.reduceAdd, Nat.reduceLeDiff, Nat.reduceEqDiff, Nat.zero_le, small, tru_bl, isNon, Bool.not_true, Bool.not_false, h3, hl, hg, gt_int, decide_eq_true hk]))
theorem ls_names (n : Nat) (l : List Val) : callN prog (n + 2) "are_names" [.ls l] [] = .ok (.bl false) [] := by
  rw [callN_at lk_are_names]
  have h1 : ∀ st, isiV st (.ls l) .tuple = some false := fun st => rfl
  simp only [d_are_names, runF, exSs, exS, evE, evEs, R.bind_ok, R.bind_bad, R.bind_exc, ofO_some, ofO_none, bindT, setAll, List.length_cons, List.length_nil, List.map_cons, List.map_nil, List.getElem?_cons_zero, List.getElem?_cons_succ, List.cons_append, List.nil_append, List.set_cons_zero, List.set_cons_succ, Nat.zero_add, Nat.add_zero, Nat.le_refl, and_self, if_true, true_and, and_true, List.replicate_succ, List.replicate_zero, Nat.sub_self, Nat.reduceSub, Nat.reduceAdd, Nat.reduceLeDiff, Nat.reduceEqDiff, Nat.zero_le, small, tru_bl, isNon, Bool.not_true, Bool.not_false, h1]
theorem ls_cells (n : Nat) (l : List Val) : callN prog (n + 2) "are_cells" [.ls l] [] = .ok (.bl false) [] := by
  rw [callN_at lk_are_cells]
  have h1 : ∀ st, isiV st (.ls l) .tuple = some false := fun st => rfl
  simp only [d_are_cells, runF, exSs, exS, evE, evEs, R.bind_ok, R.bind_bad, R.bind_exc, ofO_some, ofO_none, bindT, setAll, List.length_cons, List.length_nil, List.map_cons, List.map_nil, List.getElem?_cons_zero, List.getElem?_cons_succ, List.cons_append, List.nil_append, List.set_cons_zero, List.set_cons_succ, Nat.zero_add, Nat.add_zero, Nat.le_refl, and_self, if_true, true_and, and_true, List.replicate_succ, List.replicate_zero, Nat.sub_self, Nat.reduceSub, Nat.reduceAdd, Nat.reduceLeDiff, Nat.reduceEqDiff, Nat.zero_le, small, tru_bl, isNon, Bool.not_true, Bool.not_false, h1]
/-- a cell with an input's name -/
theorem nf_taken (n : Nat) (sz : Int) (h0 : 2 ≤ sz) (h1 : sz ≤ 5) (ins : List Str) (hi : ∀ t ∈ ins, NameOk t) (ha : ins.Pairwise ltS) (hl : ins.length ≤ 4) (x : Str) (hx : x ∈ ins) : callN prog (n + 3) "net_fault" [V3 (.int sz) (.tup (ins.map Val.str)) (.tup [.tup [.str x, goodV]])] [] = .ok (.str "cells") [] := by
  have hnx := hi x hx
  obtain ⟨y, hy, hyx⟩ : ∃ y : Str, NameOk y ∧ y ≠ x := by
    by_cases h : x = "add"
    · exact ⟨"and", words_ok _ (by decide +kernel), by rw [h]; decide +kernel⟩
    · exact ⟨"add", words_ok _ (by decide +kernel), fun e => h e.symm⟩
  have hok : NetOk ⟨sz, [y], [⟨x, goodV, [], .oth⟩]⟩ := by
    refine ⟨h0, h1, by simp, by simp, by simp, ?_, by simp, ?_, by simp [Net.nms], ?_, ?_, ?_⟩
    · intro z hz; rw [List.mem_singleton.mp hz]; exact hy
    · intro c hc; rw [List.mem_singleton.mp hc]; exact hnx
    · intro c hc; rw [List.mem_singleton.mp hc]; simpa using fun e : x = y => hyx e.symm
    · intro c hc; rw [List.mem_singleton.mp hc]; exact .worth 0 (by decide) (show (0 : Int) < sz by omega)
    · intro c hc z hz; rw [List.mem_singleton.mp hc] at hz; simp at hz
  have ac := v_are_cells _ hok n []
  change callV (callN prog (n + 2)) "are_cells" [.tup [.tup [.str x, goodV]]] [] = _ at ac
  have hd : (Val.tup [.tup [.str x, goodV]]).da = true := rfl
  have hq : ∀ c ∈ [x], ∀ st, cmpV st .isin (.str c) (.tup (ins.map Val.str)) = some true := fun c hc st => by
    rw [List.mem_singleton.mp hc, in_tup st hnx.sok fun t ht => (hi t ht).sok, decide_eq_true hx]
  have k1 := lc_map (f := evE (callN prog (n + 2)) e_net_fault_1) (tg := .tp [5, 6]) (env := [some (V3 (.int sz) (.tup (ins.map Val.str)) (.tup [.tup [.str x, goodV]])), none, some (.int sz), some (.tup (ins.map Val.str)), some (.tup [.tup [.str x, goodV]]), none, none, none]) (keep := keepW .of [.tup [.tup [.str x, goodV]]] [.tup [.str x, goodV]]) (st := [])
    (fun y : Str => .tup [.str y, goodV]) (fun _ => .bl true) (keep_tup _ _ _ _) [x] [] (fun c hc => ⟨_, rfl, by simp only [e_net_fault_1, runF, exSs, exS, evE, evEs, R.bind_ok, R.bind_bad, R.bind_exc, ofO_some, ofO_none, bindT, setAll, List.length_cons, List.length_nil, List.map_cons, List.map_nil, List.getElem?_cons_zero, List.getElem?_cons_succ, List.cons_append, List.nil_append, List.set_cons_zero, List.set_cons_succ, Nat.zero_add, Nat.add_zero, Nat.le_refl, and_self, if_true, true_and, and_true, List.replicate_succ, List.replicate_zero, Nat.sub_self, Nat.reduceSub, Nat.reduceAdd, Nat.reduceLeDiff, Nat.reduceEqDiff, Nat.zero_le, small, tru_bl, isNon, Bool.not_true, Bool.not_false, hq c hc]⟩) (by simp)
  simp only [List.map_cons, List.map_nil, List.nil_append] at k1
  have hany : ∀ st, b1V st .any (.ls [.bl true]) = some (.bl true) := fun st => rfl
  exact nf_b n sz ins _ h0 h1 hi ha hl hd _ _ (rt_ (env' := [some (V3 (.int sz) (.tup (ins.map Val.str)) (.tup [.tup [.str x, goodV]])), none, some (.int sz), some (.tup (ins.map Val.str)), some (.tup [.tup [.str x, goodV]]), none, none, none]) (by simp only [runF, exSs, exS, evE, evEs, R.bind_ok, R.bind_bad, R.bind_exc, ofO_some, ofO_none, bindT, setAll, List.length_cons, List.length_nil, List.map_cons, List.map_nil, List.getElem?_cons_zero, List.getElem?_cons_succ, List.cons_append, List.nil_append, List.set_cons_zero, List.set_cons_succ, Nat.zero_add, Nat.add_zero, Nat.le_refl, and_self, if_true, true_and, and_true, List.replicate_succ, List.replicate_zero, Nat.sub_self, Nat.reduceSub, Nat.reduceAdd, Nat.reduceLeDiff, Nat.reduceEqDiff, Nat.zero_le, small, tru_bl, isNon, Bool.not_true, Bool.not_false, ac, walk_tup, k1, hany]))
theorem cells_bad (n : Nat) : ∀ v ∈ [Val.non, .tup [.tup [.str "a"]], .tup [.tup [.str "a", goodV, .int 1]], .tup [.tup [.str "b", goodV], .tup [.str "a", goodV]], .tup [.tup [.str "a", goodV], .tup [.str "a", goodV]], .tup [.tup [.str "A", goodV]], .tup [.tup [.int 3, goodV]], .tup [.ls [.str "a", goodV]], manyV], v.da = true ∧ callN prog (n + 2) "are_cells" [v] [] = .ok (.bl false) [] := by
  intro v hv
  simp only [List.mem_cons, List.not_mem_nil, or_false] at hv
  rcases hv with rfl | rfl | rfl | rfl | rfl | rfl | rfl | rfl | rfl
  · exact ⟨by kernel_rfl, by kernel_rfl⟩
  · exact ⟨by kernel_rfl, by kernel_rfl⟩
  · exact ⟨by kernel_rfl, by kernel_rfl⟩
  · exact ⟨by kernel_rfl, by kernel_rfl⟩
  · exact ⟨by kernel_rfl, by kernel_rfl⟩
  · exact ⟨by kernel_rfl, by kernel_rfl⟩
  · exact ⟨by kernel_rfl, by kernel_rfl⟩
  · exact ⟨by kernel_rfl, by kernel_rfl⟩
  · exact ⟨by kernel_rfl, by kernel_rfl⟩
theorem names_bad (n : Nat) : ∀ v ∈ [Val.non, .tup [.str "b", .str "a"], .tup [.str "a", .str "a"], .tup [.str "A"], .tup [.str ""], .tup [.int 3], .tup [.str "abcdefghijklm"]], v.da = true ∧ callN prog (n + 2) "are_names" [v] [] = .ok (.bl false) [] := by
  intro v hv
  simp only [List.mem_cons, List.not_mem_nil, or_false] at hv
  rcases hv with rfl | rfl | rfl | rfl | rfl | rfl | rfl
  · exact ⟨by kernel_rfl, by kernel_rfl⟩
  · exact ⟨by kernel_rfl, by kernel_rfl⟩
  · exact ⟨by kernel_rfl, by kernel_rfl⟩
  · exact ⟨by kernel_rfl, by kernel_rfl⟩
  · exact ⟨by kernel_rfl, by kernel_rfl⟩
  · exact ⟨by kernel_rfl, by kernel_rfl⟩
  · exact ⟨by kernel_rfl, by kernel_rfl⟩
theorem names_5 (n : Nat) : callN prog (n + 2) "are_names" [.tup [.str "a", .str "b", .str "c", .str "d", .str "e"]] [] = .ok (.bl true) [] := by kernel_rfl
/-- what stands around while the nets are asked -/
def EE (c0 : Option Val) (N : Net) (c3 c4 c5 : Option Val) : Env := [c0, some (.ref 0), some N.val, c3, c4, c5, none, none, none, none, none, some (.int N.sz), some (.tup (N.ins.map Val.str)), some (.tup (N.cells.map cellV)), none]
theorem ne_c (st : Store) (a : Str) (h : PyData.strOk a = true) : cmpV st .ne (.str a) (.str a) = some false := by rw [ne_str st (sok_c h) (sok_c h)]; simp
theorem net_V3 (N : Net) : N.val = V3 (.int N.sz) (.tup (N.ins.map Val.str)) (.tup (N.cells.map cellV)) := rfl
theorem tup3 (v w u : Val) : Val.tup [v, w, u] = V3 v w u := rfl
theorem p4 (N : Net) (hN : NetOk N) (n : Nat) (o : Obj) (c0 : Option Val) : ∃ c3', exS (callN prog (n + 19)) (stmt 4) (EE c0 N none none none) [o] = .ok (.nx, EE c0 N c3' none none) [o] := by
  have hd := hN.da
  have hl : ∀ st, b1V st .list N.val = some (.ls [.int N.sz, .tup (N.ins.map Val.str), .tup (N.cells.map cellV)]) := fun st => rfl
  have hdi : (Val.tup (N.ins.map Val.str)).da = true := da_seq (.inl rfl)
  have hdc := cells_da hN
  obtain ⟨c3', e⟩ := loop_E (body := exSs (callN prog (n + 19)) b_law_1) (i := 3) (kp := keepW .of [.ls [.non, .int 3, .tup [], .tup [.int N.sz, .tup (N.ins.map Val.str)], .tup [.int N.sz, .tup (N.ins.map Val.str), .tup (N.cells.map cellV), .int 1], .ls [.int N.sz, .tup (N.ins.map Val.str), .tup (N.cells.map cellV)], .str "net"]] [.non, .int 3, .tup [], .tup [.int N.sz, .tup (N.ins.map Val.str)], .tup [.int N.sz, .tup (N.ins.map Val.str), .tup (N.cells.map cellV), .int 1], .ls [.int N.sz, .tup (N.ins.map Val.str), .tup (N.cells.map cellV)], .str "net"]) (st := [o]) (fun c => EE c0 N c none none) (fun c v => rfl) (keep_ls _ _ _ _) [.non, .int 3, .tup [], .tup [.int N.sz, .tup (N.ins.map Val.str)], .tup [.int N.sz, .tup (N.ins.map Val.str), .tup (N.cells.map cellV), .int 1], .ls [.int N.sz, .tup (N.ins.map Val.str), .tup (N.cells.map cellV)], .str "net"] none (fun v hv => by
    have hvd : v.da = true ∧ isRow 3 v = false := by
      simp only [List.mem_cons, List.not_mem_nil, or_false] at hv
      rcases hv with rfl | rfl | rfl | rfl | rfl | rfl | rfl
      · exact ⟨rfl, rfl⟩
      · exact ⟨rfl, rfl⟩
      · exact ⟨rfl, rfl⟩
      · exact ⟨by simp only [Val.da, daAll, da_strs, Bool.and_self], rfl⟩
      · simp only [Val.da] at hdc
        exact ⟨by simp only [Val.da, daAll, da_strs, hdc, Bool.and_self], rfl⟩
      · simp only [Val.da] at hdc
        exact ⟨by simp only [Val.da, daAll, da_strs, hdc, Bool.and_self], rfl⟩
      · exact ⟨rfl, rfl⟩
    have e := callV_p (st := [o]) (pure1 hvd.1) (nf_form (n + 17) v hvd.1 hvd.2)
    have q := ne_c [o] "form" (by decide +kernel)
    simp only [EE, b_law_1, runF, exSs, exS, evE, evEs, R.bind_ok, R.bind_bad, R.bind_exc, ofO_some, ofO_none, bindT, setAll, List.length_cons, List.length_nil, List.map_cons, List.map_nil, List.getElem?_cons_zero, List.getElem?_cons_succ, List.cons_append, List.nil_append, List.set_cons_zero, List.set_cons_succ, Nat.zero_add, Nat.add_zero, Nat.le_refl, and_self, if_true, true_and, and_true, List.replicate_succ, List.replicate_zero, Nat.sub_self, Nat.reduceSub, Nat.reduceAdd, Nat.reduceLeDiff, Nat.reduceEqDiff, Nat.zero_le, small, tru_bl, isNon, Bool.not_true, Bool.not_false, e, q])
  refine ⟨c3', ?_⟩
  simp only [EE] at e
  simp only [stmt, d_law, List.getD_cons_succ, List.getD_cons_zero, EE, runF, exSs, exS, evE, evEs, R.bind_ok, R.bind_bad, R.bind_exc, ofO_some, ofO_none, bindT, setAll, List.length_cons, List.length_nil, List.map_cons, List.map_nil, List.getElem?_cons_zero, List.getElem?_cons_succ, List.cons_append, List.nil_append, List.set_cons_zero, List.set_cons_succ, Nat.zero_add, Nat.add_zero, Nat.le_refl, and_self, if_true, true_and, and_true, List.replicate_succ, List.replicate_zero, Nat.sub_self, Nat.reduceSub, Nat.reduceAdd, Nat.reduceLeDiff, Nat.reduceEqDiff, Nat.zero_le, small, tru_bl, isNon, Bool.not_true, Bool.not_false, hl, walk_ls, e]
theorem p5 (N : Net) (hN : NetOk N) (n : Nat) (o : Obj) (c0 c3 : Option Val) : ∃ c3', exS (callN prog (n + 19)) (stmt 5) (EE c0 N c3 none none) [o] = .ok (.nx, EE c0 N c3' none none) [o] := by
  have hdi : (Val.tup (N.ins.map Val.str)).da = true := da_seq (.inl rfl)
  have hdc := cells_da hN
  obtain ⟨c3', e⟩ := loop_E (body := exSs (callN prog (n + 19)) b_law_2) (i := 3) (kp := keepW .of [.ls [.int 1, .int 6, .bl true, .non, .str "2", .tup [.int 2]]] [.int 1, .int 6, .bl true, .non, .str "2", .tup [.int 2]]) (st := [o]) (fun c => EE c0 N c none none) (fun c v => rfl) (keep_ls _ _ _ _) [.int 1, .int 6, .bl true, .non, .str "2", .tup [.int 2]] c3 (fun v hv => by
    have hvd : v.da = true ∧ btw 2 5 v = false := by
      simp only [List.mem_cons, List.not_mem_nil, or_false] at hv
      rcases hv with rfl | rfl | rfl | rfl | rfl | rfl <;> exact ⟨rfl, by decide⟩
    have e := callV_p (st := [o]) (pure1 (da3 hvd.1 hdi hdc)) (nf_size (n + 16) v _ _ hvd.1 hdi hdc hvd.2)
    rw [← tup3] at e
    have q := ne_c [o] "size" (by decide +kernel)
    simp only [EE, b_law_2, runF, exSs, exS, evE, evEs, R.bind_ok, R.bind_bad, R.bind_exc, ofO_some, ofO_none, bindT, setAll, List.length_cons, List.length_nil, List.map_cons, List.map_nil, List.getElem?_cons_zero, List.getElem?_cons_succ, List.cons_append, List.nil_append, List.set_cons_zero, List.set_cons_succ, Nat.zero_add, Nat.add_zero, Nat.le_refl, and_self, if_true, true_and, and_true, List.replicate_succ, List.replicate_zero, Nat.sub_self, Nat.reduceSub, Nat.reduceAdd, Nat.reduceLeDiff, Nat.reduceEqDiff, Nat.zero_le, small, tru_bl, isNon, Bool.not_true, Bool.not_false, e, q])
  refine ⟨c3', ?_⟩
  simp only [EE] at e
  simp only [stmt, d_law, List.getD_cons_succ, List.getD_cons_zero, EE, runF, exSs, exS, evE, evEs, R.bind_ok, R.bind_bad, R.bind_exc, ofO_some, ofO_none, bindT, setAll, List.length_cons, List.length_nil, List.map_cons, List.map_nil, List.getElem?_cons_zero, List.getElem?_cons_succ, List.cons_append, List.nil_append, List.set_cons_zero, List.set_cons_succ, Nat.zero_add, Nat.add_zero, Nat.le_refl, and_self, if_true, true_and, and_true, List.replicate_succ, List.replicate_zero, Nat.sub_self, Nat.reduceSub, Nat.reduceAdd, Nat.reduceLeDiff, Nat.reduceEqDiff, Nat.zero_le, small, tru_bl, isNon, Bool.not_true, Bool.not_false, walk_ls, e]
theorem p6 (N : Net) (hN : NetOk N) (n : Nat) (o : Obj) (c0 c3 : Option Val) : ∃ c3', exS (callN prog (n + 19)) (stmt 6) (EE c0 N c3 none none) [o] = .ok (.nx, EE c0 N c3' none none) [o] := by
  have hl : ∀ st, b1V st .list (.tup (N.ins.map Val.str)) = some (.ls (N.ins.map Val.str)) := fun st => rfl
  have hdc := cells_da hN
  have hb : btw 2 5 (.int N.sz) = true := by simp [btw, hN.s0, hN.s1]
  obtain ⟨c3', e⟩ := loop_E (body := exSs (callN prog (n + 19)) b_law_3) (i := 3) (kp := keepW .of [.ls [.non, .ls (N.ins.map Val.str), .tup [.str "b", .str "a"], .tup [.str "a", .str "a"], .tup [.str "A"], .tup [.str ""], .tup [.int 3], .tup [.str "a", .str "b", .str "c", .str "d", .str "e"], .tup [.str "abcdefghijklm"]]] [.non, .ls (N.ins.map Val.str), .tup [.str "b", .str "a"], .tup [.str "a", .str "a"], .tup [.str "A"], .tup [.str ""], .tup [.int 3], .tup [.str "a", .str "b", .str "c", .str "d", .str "e"], .tup [.str "abcdefghijklm"]]) (st := [o]) (fun c => EE c0 N c none none) (fun c v => rfl) (keep_ls _ _ _ _) [.non, .ls (N.ins.map Val.str), .tup [.str "b", .str "a"], .tup [.str "a", .str "a"], .tup [.str "A"], .tup [.str ""], .tup [.int 3], .tup [.str "a", .str "b", .str "c", .str "d", .str "e"], .tup [.str "abcdefghijklm"]] c3 (fun v hv => by
    have hvd : v.da = true ∧ callN prog (n + 19) "net_fault" [V3 (.int N.sz) v (.tup (N.cells.map cellV))] [] = .ok (.str "inputs") [] := by
      have g : ∀ w ∈ [Val.non, .tup [.str "b", .str "a"], .tup [.str "a", .str "a"], .tup [.str "A"], .tup [.str ""], .tup [.int 3], .tup [.str "abcdefghijklm"]], w.da = true ∧ callN prog (n + 19) "net_fault" [V3 (.int N.sz) w (.tup (N.cells.map cellV))] [] = .ok (.str "inputs") [] := fun w hw => by
        obtain ⟨h1, h2⟩ := names_bad (n + 16) w hw
        exact ⟨h1, nf_inputs (n + 16) (.int N.sz) w _ rfl h1 hdc hb h2⟩
      simp only [List.mem_cons, List.not_mem_nil, or_false] at hv
      rcases hv with rfl | rfl | rfl | rfl | rfl | rfl | rfl | rfl | rfl
      · exact g _ (by simp)
      · exact ⟨da_seq (.inr rfl), nf_inputs (n + 16) (.int N.sz) _ _ rfl (da_seq (.inr rfl)) hdc hb (ls_names (n + 16) _)⟩
      · exact g _ (by simp)
      · exact g _ (by simp)
      · exact g _ (by simp)
      · exact g _ (by simp)
      · exact g _ (by simp)
      · exact ⟨rfl, nf_inputs5 (n + 16) (.int N.sz) _ _ 5 rfl rfl hdc hb (names_5 (n + 16)) (fun st => rfl) (by decide)⟩
      · exact g _ (by simp)
    have e := callV_p (st := [o]) (pure1 (da3 (a := .int N.sz) rfl hvd.1 hdc)) hvd.2
    rw [← tup3] at e
    have q := ne_c [o] "inputs" (by decide +kernel)
    simp only [EE, b_law_3, runF, exSs, exS, evE, evEs, R.bind_ok, R.bind_bad, R.bind_exc, ofO_some, ofO_none, bindT, setAll, List.length_cons, List.length_nil, List.map_cons, List.map_nil, List.getElem?_cons_zero, List.getElem?_cons_succ, List.cons_append, List.nil_append, List.set_cons_zero, List.set_cons_succ, Nat.zero_add, Nat.add_zero, Nat.le_refl, and_self, if_true, true_and, and_true, List.replicate_succ, List.replicate_zero, Nat.sub_self, Nat.reduceSub, Nat.reduceAdd, Nat.reduceLeDiff, Nat.reduceEqDiff, Nat.zero_le, small, tru_bl, isNon, Bool.not_true, Bool.not_false, e, q])
  refine ⟨c3', ?_⟩
  simp only [EE] at e
  simp only [stmt, d_law, List.getD_cons_succ, List.getD_cons_zero, EE, runF, exSs, exS, evE, evEs, R.bind_ok, R.bind_bad, R.bind_exc, ofO_some, ofO_none, bindT, setAll, List.length_cons, List.length_nil, List.map_cons, List.map_nil, List.getElem?_cons_zero, List.getElem?_cons_succ, List.cons_append, List.nil_append, List.set_cons_zero, List.set_cons_succ, Nat.zero_add, Nat.add_zero, Nat.le_refl, and_self, if_true, true_and, and_true, List.replicate_succ, List.replicate_zero, Nat.sub_self, Nat.reduceSub, Nat.reduceAdd, Nat.reduceLeDiff, Nat.reduceEqDiff, Nat.zero_le, small, tru_bl, isNon, Bool.not_true, Bool.not_false, hl, walk_ls, e]
theorem p9 (N : Net) (hN : NetOk N) (n : Nat) (o : Obj) (c0 c3 : Option Val) : ∃ c3', exS (callN prog (n + 19)) (stmt 9) (EE c0 N c3 (some goodV) (some manyV)) [o] = .ok (.nx, EE c0 N c3' (some goodV) (some manyV)) [o] := by
  have hl : ∀ st, b1V st .list (.tup (N.cells.map cellV)) = some (.ls (N.cells.map cellV)) := fun st => rfl
  have hdc := cells_da hN
  have hdl : (Val.ls (N.cells.map cellV)).da = true := by
    simp only [Val.da] at hdc ⊢
    exact hdc
  obtain ⟨c3', e⟩ := loop_E (body := exSs (callN prog (n + 19)) b_law_5) (i := 3) (kp := keepW .of [.ls [.non, .ls (N.cells.map cellV), .tup [.tup [.str "a"]], .tup [.tup [.str "a", goodV, .int 1]], .tup [.tup [.str "b", goodV], .tup [.str "a", goodV]], .tup [.tup [.str "a", goodV], .tup [.str "a", goodV]], .tup [.tup [.str "A", goodV]], .tup [.tup [.int 3, goodV]], .tup [.ls [.str "a", goodV]], manyV]] [.non, .ls (N.cells.map cellV), .tup [.tup [.str "a"]], .tup [.tup [.str "a", goodV, .int 1]], .tup [.tup [.str "b", goodV], .tup [.str "a", goodV]], .tup [.tup [.str "a", goodV], .tup [.str "a", goodV]], .tup [.tup [.str "A", goodV]], .tup [.tup [.int 3, goodV]], .tup [.ls [.str "a", goodV]], manyV]) (st := [o]) (fun c => EE c0 N c (some goodV) (some manyV)) (fun c v => rfl) (keep_ls _ _ _ _) [.non, .ls (N.cells.map cellV), .tup [.tup [.str "a"]], .tup [.tup [.str "a", goodV, .int 1]], .tup [.tup [.str "b", goodV], .tup [.str "a", goodV]], .tup [.tup [.str "a", goodV], .tup [.str "a", goodV]], .tup [.tup [.str "A", goodV]], .tup [.tup [.int 3, goodV]], .tup [.ls [.str "a", goodV]], manyV] c3 (fun v hv => by
    have hvd : v.da = true ∧ callN prog (n + 18) "are_cells" [v] [] = .ok (.bl false) [] := by
      have g := cells_bad (n + 16)
      simp only [List.mem_cons, List.not_mem_nil, or_false] at hv
      rcases hv with rfl | rfl | rfl | rfl | rfl | rfl | rfl | rfl | rfl | rfl
      · exact g _ (by simp)
      · exact ⟨hdl, ls_cells (n + 16) _⟩
      all_goals exact g _ (by simp)
    have e := callV_p (st := [o]) (pure1 (da3 (a := .int N.sz) (b := .tup []) rfl rfl hvd.1)) (nf_cells (n + 16) N.sz [] v hN.s0 hN.s1 (by simp) (by simp) (by simp) hvd.1 hvd.2)
    rw [← tup3] at e
    have q := ne_c [o] "cells" (by decide +kernel)
    simp only [EE, b_law_5, runF, exSs, exS, evE, evEs, R.bind_ok, R.bind_bad, R.bind_exc, ofO_some, ofO_none, bindT, setAll, List.length_cons, List.length_nil, List.map_cons, List.map_nil, List.getElem?_cons_zero, List.getElem?_cons_succ, List.cons_append, List.nil_append, List.set_cons_zero, List.set_cons_succ, Nat.zero_add, Nat.add_zero, Nat.le_refl, and_self, if_true, true_and, and_true, List.replicate_succ, List.replicate_zero, Nat.sub_self, Nat.reduceSub, Nat.reduceAdd, Nat.reduceLeDiff, Nat.reduceEqDiff, Nat.zero_le, small, tru_bl, isNon, Bool.not_true, Bool.not_false, e, q])
  refine ⟨c3', ?_⟩
  simp only [EE, goodV] at e
  simp only [stmt, d_law, List.getD_cons_succ, List.getD_cons_zero, EE, goodV, runF, exSs, exS, evE, evEs, R.bind_ok, R.bind_bad, R.bind_exc, ofO_some, ofO_none, bindT, setAll, List.length_cons, List.length_nil, List.map_cons, List.map_nil, List.getElem?_cons_zero, List.getElem?_cons_succ, List.cons_append, List.nil_append, List.set_cons_zero, List.set_cons_succ, Nat.zero_add, Nat.add_zero, Nat.le_refl, and_self, if_true, true_and, and_true, List.replicate_succ, List.replicate_zero, Nat.sub_self, Nat.reduceSub, Nat.reduceAdd, Nat.reduceLeDiff, Nat.reduceEqDiff, Nat.zero_le, small, tru_bl, isNon, Bool.not_true, Bool.not_false, hl, walk_ls, e]
end PV
end

section
set_option Elab.async false
set_option linter.all false
set_option maxRecDepth 100000
set_option maxHeartbeats 1000000
namespace PV
open PySem L2
theorem mid (sz : Int) (h0 : 2 ≤ sz) (h1 : sz ≤ 5) (n : Nat) (o : Obj) (c0 c2 c3 c10 c12 c13 c14 : Option Val) : ∃ d3 d6 d7 d8 d9, exSs (callN prog (n + 19)) (d_law.fn.body.drop 11) [c0, some (.ref 0), c2, c3, some goodV, some manyV, none, none, none, none, c10, some (.int sz), c12, c13, c14] [o]
    = exSs (callN prog (n + 19)) (d_law.fn.body.drop 22) [c0, some (.ref 0), c2, d3, some goodV, some manyV, d6, d7, d8, d9, c10, some (.int sz), c12, c13, c14] [o] := by
  have : sz = 2 ∨ sz = 3 ∨ sz = 4 ∨ sz = 5 := by omega
  rcases this with rfl | rfl | rfl | rfl
  · exact ⟨_, _, _, _, _, mid_2 n o c0 c2 c3 c10 c12 c13 c14⟩
  · exact ⟨_, _, _, _, _, mid_3 n o c0 c2 c3 c10 c12 c13 c14⟩
  · exact ⟨_, _, _, _, _, mid_4 n o c0 c2 c3 c10 c12 c13 c14⟩
  · exact ⟨_, _, _, _, _, mid_5 n o c0 c2 c3 c10 c12 c13 c14⟩
def many20 : Val := .tup ((List.range 20).map fun k => .tup [.str ⟨#[97 + k]⟩, goodV])
theorem m20 (sz : Int) (h0 : 2 ≤ sz) (h1 : sz ≤ 5) (n : Nat) : callN prog (n + 19) "net_fault" [V3 (.int sz) (.tup []) many20] [] = .ok .non [] := by
  have : sz = 2 ∨ sz = 3 ∨ sz = 4 ∨ sz = 5 := by omega
  rcases this with rfl | rfl | rfl | rfl
  · exact m20_2 n
  · exact m20_3 n
  · exact m20_4 n
  · exact m20_5 n
theorem many20_da : many20.da = true := by kernel_rfl
theorem many_cut (st : Store) : cutV st manyV none (some 20) = some many20 := by kernel_rfl
theorem ins_0 (N : Net) (hN : NetOk N) : ∃ x, x ∈ N.ins ∧ ∀ st, itemV st (.tup (N.ins.map Val.str)) (.int 0) = some (.str x) := by
  have h := hN.i0
  have hl : 0 < (N.ins.map Val.str).length := by rw [List.length_map]; exact h
  refine ⟨N.ins[0], List.getElem_mem _, fun st => ?_⟩
  have := item_tup st (N.ins.map Val.str) (q := 0) (by decide) (by omega)
  rw [this]
  simp
theorem p10 (N : Net) (hN : NetOk N) (n : Nat) (o : Obj) (c0 c3 : Option Val) : exS (callN prog (n + 19)) (stmt 10) (EE c0 N c3 (some goodV) (some manyV)) [o] = .ok (.nx, EE c0 N c3 (some goodV) (some manyV)) [o] := by
  obtain ⟨x, hx, hi⟩ := ins_0 N hN
  have hi1 := hN.i1
  have hdi : (Val.tup (N.ins.map Val.str)).da = true := da_seq (.inl rfl)
  have e1 := callV_p (st := [o]) (pure1 (da3 (a := .int N.sz) rfl hdi (c := .tup [.tup [.str x, goodV]]) rfl)) (nf_taken (n + 16) N.sz hN.s0 hN.s1 N.ins hN.inm hN.ia (by omega) x hx)
  have e2 := callV_p (st := [o]) (pure1 (da3 (a := .int N.sz) (b := .tup []) rfl rfl many20_da)) (m20 N.sz hN.s0 hN.s1 n)
  rw [← tup3] at e1 e2
  have q := ne_c [o] "cells" (by decide +kernel)
  simp only [stmt, d_law, List.getD_cons_succ, List.getD_cons_zero, EE, runF, exSs, exS, evE, evEs, R.bind_ok, R.bind_bad, R.bind_exc, ofO_some, ofO_none, bindT, setAll, List.length_cons, List.length_nil, List.map_cons, List.map_nil, List.getElem?_cons_zero, List.getElem?_cons_succ, List.cons_append, List.nil_append, List.set_cons_zero, List.set_cons_succ, Nat.zero_add, Nat.add_zero, Nat.le_refl, and_self, if_true, true_and, and_true, List.replicate_succ, List.replicate_zero, Nat.sub_self, Nat.reduceSub, Nat.reduceAdd, Nat.reduceLeDiff, Nat.reduceEqDiff, Nat.zero_le, small, tru_bl, isNon, Bool.not_true, Bool.not_false, hi, e1, q, optInt, many_cut, e2]
/-- plain values of some depth -/
def DepX (v : Val) : Prop := ∃ L d, L ≤ 70 ∧ Dep L d v
theorem p23_1 (N : Net) (hN : NetOk N) (n : Nat) (o : Obj) (v : Val) (hv : DepX v) (E : Env) (h2 : E[2]? = some (some N.val)) (h3 : E[3]? = some (some v)) : exSs (callN prog (n + 19)) b_law_11 E [o] = .ok (.nx, E) [o] := by
  obtain ⟨L, d, hL, hd⟩ := hv
  have e1 := callV_p (st := [o]) (pure2 hN.da hd.da) (c_event_fault N hN (n + 15) v L d hL hd)
  have e2 := callV_p (st := [o]) (pure2 hN.da hd.da) (c_is_event N hN (n + 15) v L d hL hd)
  have q := ne_c [o] "form" (by decide +kernel)
  have q2 : cmpV [o] .ne .non .non = some false := by kernel_rfl
  cases hb : evB N v with
  | true =>
    rw [hb] at e1 e2
    rw [if_pos rfl] at e1
    simp only [b_law_11, runF, exSs, exS, evE, evEs, R.bind_ok, R.bind_bad, R.bind_exc, ofO_some, ofO_none, bindT, setAll, List.length_cons, List.length_nil, List.map_cons, List.map_nil, List.getElem?_cons_zero, List.getElem?_cons_succ, List.cons_append, List.nil_append, List.set_cons_zero, List.set_cons_succ, Nat.zero_add, Nat.add_zero, Nat.le_refl, and_self, if_true, true_and, and_true, List.replicate_succ, List.replicate_zero, Nat.sub_self, Nat.reduceSub, Nat.reduceAdd, Nat.reduceLeDiff, Nat.reduceEqDiff, Nat.zero_le, small, tru_bl, isNon, Bool.not_true, Bool.not_false, h2, h3, e1, e2, q2]
  | false =>
    rw [hb] at e1 e2
    rw [if_neg (by decide)] at e1
    simp only [b_law_11, runF, exSs, exS, evE, evEs, R.bind_ok, R.bind_bad, R.bind_exc, ofO_some, ofO_none, bindT, setAll, List.length_cons, List.length_nil, List.map_cons, List.map_nil, List.getElem?_cons_zero, List.getElem?_cons_succ, List.cons_append, List.nil_append, List.set_cons_zero, List.set_cons_succ, Nat.zero_add, Nat.add_zero, Nat.le_refl, and_self, if_true, true_and, and_true, List.replicate_succ, List.replicate_zero, Nat.sub_self, Nat.reduceSub, Nat.reduceAdd, Nat.reduceLeDiff, Nat.reduceEqDiff, Nat.zero_le, small, tru_bl, isNon, Bool.not_true, Bool.not_false, h2, h3, e1, e2, q]
theorem p23 (N : Net) (hN : NetOk N) (n : Nat) (o : Obj) (h : BoxO o) (ev : Val) (hev : Dep 20 2 ev) (c0 c3 c4 c5 c6 c7 c8 c9 c14 : Option Val) : ∃ (c3' : Option Val) (o' : Obj), exS (callN prog (n + 19)) (stmt 23) [c0, some (.ref 0), some N.val, c3, c4, c5, c6, c7, c8, c9, some ev, some (.int N.sz), some (.tup (N.ins.map Val.str)), some (.tup (N.cells.map cellV)), c14] [o]
    = .ok (.nx, [c0, some (.ref 0), some N.val, c3', c4, c5, c6, c7, c8, c9, some ev, some (.int N.sz), some (.tup (N.ins.map Val.str)), some (.tup (N.cells.map cellV)), c14]) [o'] := by
  obtain ⟨x, hx, hi⟩ := ins_0 N hN
  have hxs : Sok x := (hN.inm x hx).sok
  obtain ⟨t1, o1, b1, d1, e1⟩ := v_turned 2 ev hev (n + 14) o [] h
  obtain ⟨t2, o2, b2, d2, e2⟩ := v_turned 2 ev hev (n + 14) o1 [] b1
  have e1' : callV (callN prog (n + 19)) "_law_turned" [.ref 0, ev] [o] = .ok t1 [o1] := e1
  have e2' : callV (callN prog (n + 19)) "_law_turned" [.ref 0, ev] [o1] = .ok t2 [o2] := e2
  obtain ⟨vs, hvs⟩ : ∃ vs : List Val, vs = [ev, .tup [], t1, t2, .non, .ls [], .tup [.tup [.str x, .int N.sz]], .tup [.tup [.str x, .bl true]], .tup [.tup [.str x, .int 0], .tup [.str x, .int 0]], .tup [.tup [.str "qqqqqqqqqqqq", .int 0]], .tup [.tup [.str x]], .tup [.ls [.str x, .int 0]], .tup [.tup [.str x, .non]]] := ⟨_, rfl⟩
  have hall : ∀ v ∈ vs, DepX v := by
    have atom : ∀ (a b : Val), (∀ d, Dep 20 d a) → (∀ d, Dep 20 d b) → Dep 20 1 (.tup [a, b]) := fun a b ha hb => ⟨by simp, fun y hy => by
      simp only [List.mem_cons, List.not_mem_nil, or_false] at hy
      rcases hy with rfl | rfl
      · exact ha 0
      · exact hb 0⟩
    have hsx : ∀ d, Dep 20 d (.str x) := fun d => by cases d <;> exact hxs
    have hint : ∀ i d, Dep 20 d (.int i) := fun i d => by cases d <;> trivial
    have hbl : ∀ i d, Dep 20 d (.bl i) := fun i d => by cases d <;> trivial
    have hnon : ∀ d, Dep 20 d .non := fun d => by cases d <;> trivial
    have hq : ∀ d, Dep 20 d (.str "qqqqqqqqqqqq") := fun d => by cases d <;> exact sok_c (by decide +kernel)
    have one : ∀ v, Dep 20 1 v → DepX (.tup [v]) := fun v hv => ⟨20, 2, by decide, by simp, fun y hy => by rw [List.mem_singleton.mp hy]; exact hv⟩
    intro v hv
    rw [hvs] at hv
    simp only [List.mem_cons, List.not_mem_nil, or_false] at hv
    rcases hv with rfl | rfl | rfl | rfl | rfl | rfl | rfl | rfl | rfl | rfl | rfl | rfl | rfl
    · exact ⟨20, 2, by decide, hev⟩
    · exact ⟨20, 1, by decide, by simp, by simp⟩
    · exact ⟨70, 3, by decide, d1⟩
    · exact ⟨70, 3, by decide, d2⟩
    · exact ⟨20, 0, by decide, trivial⟩
    · exact ⟨20, 1, by decide, by simp, by simp⟩
    · exact one _ (atom _ _ hsx (hint _))
    · exact one _ (atom _ _ hsx (hbl _))
    · refine ⟨20, 2, by decide, by simp, fun y hy => ?_⟩
      simp only [List.mem_cons, List.not_mem_nil, or_false] at hy
      rcases hy with rfl | rfl
      · exact atom _ _ hsx (hint _)
      · exact atom _ _ hsx (hint _)
    · exact one _ (atom _ _ hq (hint _))
    · refine one _ ⟨by simp, fun y hy => ?_⟩
      rw [List.mem_singleton.mp hy]
      exact hsx 0
    · refine one _ ⟨by simp, fun y hy => ?_⟩
      simp only [List.mem_cons, List.not_mem_nil, or_false] at hy
      rcases hy with rfl | rfl
      · exact hsx 0
      · exact hint _ 0
    · exact one _ (atom _ _ hsx hnon)
  obtain ⟨c3', e⟩ := loop_E (body := exSs (callN prog (n + 19)) b_law_11) (i := 3) (kp := keepW .of [.ls vs] vs) (st := [o2]) (fun c => [c0, some (.ref 0), some N.val, c, c4, c5, c6, c7, c8, c9, some ev, some (.int N.sz), some (.tup (N.ins.map Val.str)), some (.tup (N.cells.map cellV)), c14]) (fun c v => rfl) (keep_ls _ _ _ _) vs c3 (fun v hv => p23_1 N hN n o2 v (hall v hv) _ rfl rfl)
  refine ⟨c3', o2, ?_⟩
  have hl : evE (callN prog (n + 19)) (.lst [(.var 10), (.tup []), (.call "_law_turned" [(.var 1), (.var 10)]), (.call "_law_turned" [(.var 1), (.var 10)]), (.cst (.non)), (.lst []), (.tup [(.tup [(.ix (.var 12) (.cst (.int 0))), (.var 11)])]), (.tup [(.tup [(.ix (.var 12) (.cst (.int 0))), (.cst (.bl true))])]), (.tup [(.tup [(.ix (.var 12) (.cst (.int 0))), (.cst (.int 0))]), (.tup [(.ix (.var 12) (.cst (.int 0))), (.cst (.int 0))])]), (.tup [(.tup [(.cst (.str "qqqqqqqqqqqq")), (.cst (.int 0))])]), (.tup [(.tup [(.ix (.var 12) (.cst (.int 0)))])]), (.tup [(.lst [(.ix (.var 12) (.cst (.int 0))), (.cst (.int 0))])]), (.tup [(.tup [(.ix (.var 12) (.cst (.int 0))), (.cst (.non))])])]) [c0, some (.ref 0), some N.val, c3, c4, c5, c6, c7, c8, c9, some ev, some (.int N.sz), some (.tup (N.ins.map Val.str)), some (.tup (N.cells.map cellV)), c14] [o] = .ok (.ls vs) [o2] := by
    rw [hvs]
    simp only [runF, exSs, exS, evE, evEs, R.bind_ok, R.bind_bad, R.bind_exc, ofO_some, ofO_none, bindT, setAll, List.length_cons, List.length_nil, List.map_cons, List.map_nil, List.getElem?_cons_zero, List.getElem?_cons_succ, List.cons_append, List.nil_append, List.set_cons_zero, List.set_cons_succ, Nat.zero_add, Nat.add_zero, Nat.le_refl, and_self, if_true, true_and, and_true, List.replicate_succ, List.replicate_zero, Nat.sub_self, Nat.reduceSub, Nat.reduceAdd, Nat.reduceLeDiff, Nat.reduceEqDiff, Nat.zero_le, small, tru_bl, isNon, Bool.not_true, Bool.not_false, e1', e2', hi]
  show exS (callN prog (n + 19)) (.for (.nm 3) .of [(.lst [(.var 10), (.tup []), (.call "_law_turned" [(.var 1), (.var 10)]), (.call "_law_turned" [(.var 1), (.var 10)]), (.cst (.non)), (.lst []), (.tup [(.tup [(.ix (.var 12) (.cst (.int 0))), (.var 11)])]), (.tup [(.tup [(.ix (.var 12) (.cst (.int 0))), (.cst (.bl true))])]), (.tup [(.tup [(.ix (.var 12) (.cst (.int 0))), (.cst (.int 0))]), (.tup [(.ix (.var 12) (.cst (.int 0))), (.cst (.int 0))])]), (.tup [(.tup [(.cst (.str "qqqqqqqqqqqq")), (.cst (.int 0))])]), (.tup [(.tup [(.ix (.var 12) (.cst (.int 0)))])]), (.tup [(.lst [(.ix (.var 12) (.cst (.int 0))), (.cst (.int 0))])]), (.tup [(.tup [(.ix (.var 12) (.cst (.int 0))), (.cst (.non))])])])] b_law_11) _ _ = _
  simp only [exS, evEs, hl, R.bind_ok, walk_ls, ofO_some]
  exact e
theorem lk_law : List.lookup ("law" : Str) prog = some d_law.fn := rfl
theorem law_pure : ∀ ns : List Int, ns.length ≤ 63 → ∃ st, callN prog 60 "law" [.sc (ns.map Val.int)] [] = .ok (.bl true) st := by
  intro ns hns
  obtain ⟨row, e0, r0, r1⟩ := c_box 57 ns hns
  have b0 : BoxO (boxO row 0) := ⟨row, 0, rfl, Int.le_refl _, r0, r1⟩
  obtain ⟨o1, N, b1, hN, hS, e1⟩ := v_net b0 55
  have e3 := callV_p (st := [o1]) (pure1 hN.da) (nf_ok N hN hS 53)
  have h0 : leaveOwn 0 (callN prog 59 "_law_box" [.sc (ns.map Val.int)] []) = .ok (.ref 0) [boxO row 0] := by
    rw [e0]
    have hu := boxO_under b0 0
    have ha : ∀ st, allUnder 0 st = true := fun st => by simp [allUnder]
    simp only [boxO, Obj.under] at hu
    simp only [leaveOwn, ha, Nat.le_refl, Nat.zero_le, and_self, if_true, List.getElem?_cons_zero, boxO, hu, List.take_zero, List.nil_append]
  obtain ⟨ev, o2, b2, dev, e22⟩ := v_event N hN b1 57 []
  obtain ⟨c4, e4⟩ := p4 N hN 40 o1 (some (.sc (ns.map Val.int)))
  obtain ⟨c5, e5⟩ := p5 N hN 40 o1 (some (.sc (ns.map Val.int))) c4
  obtain ⟨c6, e6⟩ := p6 N hN 40 o1 (some (.sc (ns.map Val.int))) c5
  obtain ⟨c9, e9⟩ := p9 N hN 40 o1 (some (.sc (ns.map Val.int))) c6
  have e10 := p10 N hN 40 o1 (some (.sc (ns.map Val.int))) c9
  obtain ⟨d3, d6, d7, d8, d9, em⟩ := mid N.sz hN.s0 hN.s1 40 o1 (some (.sc (ns.map Val.int))) (some N.val) c9 none (some (.tup (N.ins.map Val.str))) (some (.tup (N.cells.map cellV))) none
  obtain ⟨c3', o3, e23⟩ := p23 N hN 40 o2 b2 ev dev (some (.sc (ns.map Val.int))) d3 (some goodV) (some manyV) d6 d7 d8 d9 none
  refine ⟨[o3], ?_⟩
  show callN prog (59 + 1) "law" [.sc (ns.map Val.int)] [] = _
  rw [callN_at lk_law]
  refine run_ (env' := [some (.sc (ns.map Val.int)), some (.ref 0), some N.val, c3', some goodV, some manyV, d6, d7, d8, d9, some ev, some (.int N.sz), some (.tup (N.ins.map Val.str)), some (.tup (N.cells.map cellV)), none]) ⟨rfl, by decide⟩ [some (.sc (ns.map Val.int)), none, none, none, none, none, none, none, none, none, none, none, none, none, none] rfl ?_
  refine (nx_ (env' := [some (.sc (ns.map Val.int)), some (.ref 0), none, none, none, none, none, none, none, none, none, none, none, none, none]) (st' := [boxO row 0]) (by simp only [runF, exSs, exS, evE, evEs, R.bind_ok, R.bind_bad, R.bind_exc, ofO_some, ofO_none, bindT, setAll, List.length_cons, List.length_nil, List.map_cons, List.map_nil, List.getElem?_cons_zero, List.getElem?_cons_succ, List.cons_append, List.nil_append, List.set_cons_zero, List.set_cons_succ, Nat.zero_add, Nat.add_zero, Nat.le_refl, and_self, if_true, true_and, and_true, List.replicate_succ, List.replicate_zero, Nat.sub_self, Nat.reduceSub, Nat.reduceAdd, Nat.reduceLeDiff, Nat.reduceEqDiff, Nat.zero_le, small, tru_bl, isNon, Bool.not_true, Bool.not_false, h0])).trans ?_
  refine (nx_ (env' := [some (.sc (ns.map Val.int)), some (.ref 0), some N.val, none, none, none, none, none, none, none, none, none, none, none, none]) (st' := [o1]) (by simp only [runF, exSs, exS, evE, evEs, R.bind_ok, R.bind_bad, R.bind_exc, ofO_some, ofO_none, bindT, setAll, List.length_cons, List.length_nil, List.map_cons, List.map_nil, List.getElem?_cons_zero, List.getElem?_cons_succ, List.cons_append, List.nil_append, List.set_cons_zero, List.set_cons_succ, Nat.zero_add, Nat.add_zero, Nat.le_refl, and_self, if_true, true_and, and_true, List.replicate_succ, List.replicate_zero, Nat.sub_self, Nat.reduceSub, Nat.reduceAdd, Nat.reduceLeDiff, Nat.reduceEqDiff, Nat.zero_le, small, tru_bl, isNon, Bool.not_true, Bool.not_false, e1])).trans ?_
  have h2 : exS (callN prog 59) (stmt 2) [some (.sc (ns.map Val.int)), some (.ref 0), some N.val, none, none, none, none, none, none, none, none, none, none, none, none] [o1] = .ok (.nx, EE (some (.sc (ns.map Val.int))) N none none none) [o1] := rfl
  refine (nx_ h2).trans ?_
  have h3 : exS (callN prog 59) (stmt 3) (EE (some (.sc (ns.map Val.int))) N none none none) [o1] = .ok (.nx, EE (some (.sc (ns.map Val.int))) N none none none) [o1] := by
    simp only [stmt, d_law, List.getD_cons_succ, List.getD_cons_zero, EE, runF, exSs, exS, evE, evEs, R.bind_ok, R.bind_bad, R.bind_exc, ofO_some, ofO_none, bindT, setAll, List.length_cons, List.length_nil, List.map_cons, List.map_nil, List.getElem?_cons_zero, List.getElem?_cons_succ, List.cons_append, List.nil_append, List.set_cons_zero, List.set_cons_succ, Nat.zero_add, Nat.add_zero, Nat.le_refl, and_self, if_true, true_and, and_true, List.replicate_succ, List.replicate_zero, Nat.sub_self, Nat.reduceSub, Nat.reduceAdd, Nat.reduceLeDiff, Nat.reduceEqDiff, Nat.zero_le, small, tru_bl, isNon, Bool.not_true, Bool.not_false, e3]
  refine (nx_ h3).trans ?_
  refine (nx_ e4).trans ?_
  refine (nx_ e5).trans ?_
  refine (nx_ e6).trans ?_
  have h7 : exS (callN prog 59) (stmt 7) (EE (some (.sc (ns.map Val.int))) N c6 none none) [o1] = .ok (.nx, EE (some (.sc (ns.map Val.int))) N c6 (some goodV) none) [o1] := rfl
  refine (nx_ h7).trans ?_
  have h8 : exS (callN prog 59) (stmt 8) (EE (some (.sc (ns.map Val.int))) N c6 (some goodV) none) [o1] = .ok (.nx, EE (some (.sc (ns.map Val.int))) N c6 (some goodV) (some manyV)) [o1] := s8 40 o1 _ _ _ _ _ _ _ _ _ _ _ _
  refine (nx_ h8).trans ?_
  refine (nx_ e9).trans ?_
  refine (nx_ e10).trans ?_
  refine em.trans ?_
  have h22 : exS (callN prog 59) (stmt 22) [some (.sc (ns.map Val.int)), some (.ref 0), some N.val, d3, some goodV, some manyV, d6, d7, d8, d9, none, some (.int N.sz), some (.tup (N.ins.map Val.str)), some (.tup (N.cells.map cellV)), none] [o1]
      = .ok (.nx, [some (.sc (ns.map Val.int)), some (.ref 0), some N.val, d3, some goodV, some manyV, d6, d7, d8, d9, some ev, some (.int N.sz), some (.tup (N.ins.map Val.str)), some (.tup (N.cells.map cellV)), none]) [o2] := by
    simp only [stmt, d_law, List.getD_cons_succ, List.getD_cons_zero, runF, exSs, exS, evE, evEs, R.bind_ok, R.bind_bad, R.bind_exc, ofO_some, ofO_none, bindT, setAll, List.length_cons, List.length_nil, List.map_cons, List.map_nil, List.getElem?_cons_zero, List.getElem?_cons_succ, List.cons_append, List.nil_append, List.set_cons_zero, List.set_cons_succ, Nat.zero_add, Nat.add_zero, Nat.le_refl, and_self, if_true, true_and, and_true, List.replicate_succ, List.replicate_zero, Nat.sub_self, Nat.reduceSub, Nat.reduceAdd, Nat.reduceLeDiff, Nat.reduceEqDiff, Nat.zero_le, small, tru_bl, isNon, Bool.not_true, Bool.not_false, e22]
  refine (nx_ h22).trans ?_
  refine (nx_ e23).trans ?_
  exact rt_ rfl
end PV
end

section
set_option Elab.async false
set_option linter.all false
set_option maxRecDepth 100000
set_option maxHeartbeats 0
open PySem PySem.W PySem.Calls PyProof.Rows
theorem PySem.Challenge.cw_cellmoments_k01_faults_of_nets_holds : PySem.Challenge.rw_cellmoments_k01_faults_of_nets.Holds := by
  w_on; o_law
  refine HandSHeadRun.head_any (r := OpenLaw.row PySem.Challenge.rw_cellmoments_k01_faults_of_nets) (q := view (OpenLaw.row PySem.Challenge.rw_cellmoments_k01_faults_of_nets).prog [48]) (H := PV.hk) (ob := PV.ob) (M := 3000) (loose := PV.lo) (d := HandSHeadRun.topDef (OpenLaw.row PySem.Challenge.rw_cellmoments_k01_faults_of_nets).prog 48) (kwd := []) PV.ob_eq
    (by kernel_rfl) (fun s => by kernel_rfl) PV.run (by kernel_rfl) (by kernel_rfl) (by kernel_rfl) (by rfl) (by first | assumption | decide +kernel) (by decide +kernel) ⟨rfl, rfl, rfl, rfl, rfl, by decide +kernel⟩ ?hw ?hc
  case hw => w_witness2
  case hc =>
    refine L2.walk_ofE (l := PySem.Challenge.rw_cellmoments_k01_faults_of_nets) (n := 63) (k := 60) (x := "script") (CX := L2.CX0) rfl (by decide) (by kernel_rfl) ⟨rfl, by decide, by decide⟩ ?F (fun _ _ _ _ z => z)
    intro w mg fa h Y G hmg0
    obtain ⟨K, KX, c⟩ := Y
    have hmg : mg ("law" : PySem.Str) = some (.ref fa) := by
      have e : (HandSHeadRun.topDef (OpenLaw.row PySem.Challenge.rw_cellmoments_k01_faults_of_nets).prog 48).name = ("law" : PySem.Str) := by kernel_rfl
      rw [← e]
      exact hmg0
    obtain ⟨fd, hb, hF⟩ := PV.facts (P := (PySem.Challenge.rw_cellmoments_k01_faults_of_nets).prog) (w := w) KX G hmg c
    exact ⟨K, fd, PV.spF K (PV.callN PV.prog 60) "law", KX, hb, fun H a ns hl _ hS => PV.law_sp PV.law_pure H a ns hl hS, hF⟩
end
