import PyProof.Rows.All
import Wide.All
import OpenK.AllK
import Wide.FinOn
import KE.KStateDown
import KE.GoesEnum
import PyProof.Rows.SortShellAny
import HandS.ForMost
import HandS.Walk
import HandS.DictComp
import HandS.IsInst
import HandS.Strs
import HandS.Deep
import HandS.Defaults
import KE.IntBitsLaws
import HandS.Head0
import HandS.Head1
import HandS.Head2
import HandS.HeadEnd
import HandS.HeadHook1
import HandS.HeadHook2
import PySem.Challenge.RW_lastfills_k60_whole_lived_rows_can_be
set_option Elab.async false
set_option linter.all false
set_option maxRecDepth 100000
set_option maxHeartbeats 0
/-! Rules that the layer lacks: ** of great ints, enumerate of a tuple, len(set(tuple of texts)), sorted texts of any number, a dict comprehension over any walk, a def called by one bundle of facts. -/
namespace K60
open PySem PySem.Spec PyProof.Rows L2

/-! ### what stays -/
abbrev Ex (H H' : Hp) : Prop := Same H H'
theorem ex_new {H : Hp} {p : Addr} {o : HO} (h : H p = none) : Ex H (upd H p o) := fun b u e => by
  rw [upd_ne (ne_of_none e h)]
  exact e
theorem ex_put {H H' : Hp} {p : Addr} {o : HO} (e : Ex H H') (h : H p = none) : Ex H (upd H' p o) := fun b u q => by
  rw [upd_ne (ne_of_none q h)]
  exact e b u q
theorem Same.tup {K : PySem.W.Frag} {H H' : Hp} {a : Addr} {xs : List V} (e : Ex H H') (h : SqT K H a xs) : SqT K H' a xs := by
  rcases h with (h | ⟨o, h⟩) | h
  · exact .inl (.inl (e _ _ h))
  · exact .inl (.inr ⟨o, e _ _ h⟩)
  · exact .inr h

/-! ### a ** b of great ints -/
section
variable {X : Cx}
theorem op_powG : OpR X (binaryOp .Pow) (rI (fun i j => 0 ≤ j ∧ (Builtin.Int.intBits i : Int) * j ≤ 2 ^ 27) fun i j => .int (i ^ j.toNat)) := opI fun _ _ _ _ _ _ _ hc q => pow_int hc.1 hc.2 q
end

/-! ### enumerate of a tuple -/
section
variable {P : Program} {w : World} {A : Around} {E : Value → Shared → Prop} {s : Shared}
theorem meets_enum1 {v : Value} {o : Obj} {H : Heap → Prop} (B : Begins v o H) :
    Meets (Builtin.«enumerate.__new__» ⟨[.type "enumerate", v], []⟩) (fun _ R s => H s.heap ∧
      R (.ok (.ret (.ref (s.heap.push o).objs.size))) { s with heap := (s.heap.push o).push { cls := .type "enumerate", data := .fields #[.none, .bool false, .ref s.heap.objs.size, rawInt 0, .none, .none] } }) :=
  .of_wp fun prog w A R s h => by
    obtain ⟨hp, g, d, tk, os⟩ := s
    obtain ⟨h1, h⟩ := h
    have hsub := sub_enumerate
    have q1 : ∀ {A' : Around} {E : Value → Shared → Prop} {Q : Value → Shared → Prop}, Q (.ref hp.objs.size) ⟨hp.push o, g, d, tk, os⟩ → wpAny (model prog w) A' (pyIter v) Q E ⟨hp, g, d, tk, os⟩ :=
      fun q => B.iter prog w _ _ ⟨hp, g, d, tk, os⟩ _ h1 q
    wp_walk using q1
    refine wpAny_stack_any fun st => wpAny_pure ?_
    split
    · rename_i c _ _ _ _ _
      cases (c == Value.type "enumerate") <;> (wp_walk using q1; exact ⟨_, rfl, h⟩)
    · wp_walk using q1
      exact ⟨_, rfl, h⟩
theorem call_enum1 {v : Value} {o : Obj} {H : Heap → Prop} {Q : Value → Shared → Prop} (B : Begins v o H) (h1 : H s.heap)
    (h : ∀ h', IsEnum h' (s.heap.objs.size + 1) s.heap.objs.size 0 .none → h'.get? s.heap.objs.size = some o →
      (∀ b o, s.heap.get? b = some o → h'.get? b = some o) → Q (.ref (s.heap.objs.size + 1)) { s with heap := h' }) :
    wpAny (model P w) A (call (.type "enumerate") [v]) Q E s := by
  refine callType_new F.called_enumerate (by decide) (F.typeCall_enumerate_1 _) (F.newCall_enumerate_1 _) (fun obj => F.args_object_init_2 obj _) F.entry_enumerate_new (meets_enum1 B) ⟨h1, ?_⟩
  have hz : (s.heap.push o).objs.size = s.heap.objs.size + 1 := Heap.size_push ..
  show _ ∧ _
  rw [hz]
  have he : IsEnum ((s.heap.push o).push { cls := .type "enumerate", data := .fields #[.none, .bool false, .ref s.heap.objs.size, rawInt 0, .none, .none] }) (s.heap.objs.size + 1) s.heap.objs.size 0 .none := by
    have := Heap.get?_push_size (s.heap.push o) (o := { cls := .type "enumerate", data := .fields #[.none, .bool false, .ref s.heap.objs.size, rawInt 0, .none, .none] }) rfl
    rw [hz] at this
    exact this
  exact ⟨⟨_, he, rfl⟩, h _ he (Heap.get?_push_of_some _ (Heap.get?_push_size _ B.free)) fun b o x => Heap.get?_push_of_some _ (Heap.get?_push_of_some _ x)⟩
end
/-- the tuple at a, each item in a new pair -/
def IteT (K : PySem.W.Frag) (a : Addr) : It :=
  ⟨fun i H => ∃ (xs : List V) (x : V), SqT K H a xs ∧ xs[i]? = some x,
   fun i H v H' => ∃ T x, v = .ref T ∧ H T = none ∧ H' = upd H T (.tup [.int (i : Nat), x]) ∧ ∀ xs, SqT K H a xs → xs[i]? = some x,
   fun i H => ∃ xs : List V, SqT K H a xs ∧ xs.length ≤ i⟩
theorem turn_enumT {P : Program} {w : World} {K : PySem.W.Frag} {elts : List Expr} {kk : Nat} {tpos : Pos} (a e it : Addr) :
    Turn P w K (.Tuple elts kk tpos) (IteT K a) [e, it] e (fun i h => (∃ old, IsEnum h e it ((i : Nat) : Int) old) ∧ h.IsTupleIter it a i ∧ e ≠ it) where
  mem := by simp
  obj := fun i h st b hb => by
    obtain ⟨⟨old, he⟩, ⟨o, ho, hc, hd⟩, _⟩ := st
    rcases (by simpa using hb : b = e ∨ b = it) with z | z <;> subst z
    · exact ⟨_, he, fun v q => nomatch q⟩
    · exact ⟨o, ho, fun v q => by rw [hd] at q; cases q⟩
  keep := fun i h h' st k => let ⟨⟨old, he⟩, hi, hne⟩ := st; ⟨⟨old, k e (by simp) _ he⟩, hi.at fun o q => k it (by simp) o q, hne⟩
  item := by
    intro X hP hw hK hc i pins s σ H E I hf st hg
    subst hP hw hK
    obtain ⟨⟨old, he⟩, hit, hne⟩ := st
    obtain ⟨xs, x, hq, hx⟩ := hg
    obtain ⟨its, rv, p, hz⟩ := I.tuple hq
    obtain ⟨u, hu, ru⟩ := rv.get hx
    have hel : e < s.heap.objs.size := Heap.lt_size he
    have hil : it < s.heap.objs.size := by obtain ⟨_, q, _⟩ := hit; exact Heap.lt_size q
    have hai : a ≠ it := by
      rintro rfl
      obtain ⟨o, q, c, _⟩ := hit
      obtain ⟨o', q', c', _⟩ := p
      rw [q] at q'
      cases q'
      rw [c] at c'
      exact absurd c' (by decide)
    have hea : e ≠ a := by
      rintro rfl
      obtain ⟨o', q', c', _⟩ := p
      have he' : s.heap.get? e = _ := he
      rw [he'] at q'
      cases q'
      exact absurd (show Value.type "enumerate" = Value.type "tuple" from c') (by decide)
    have D := Draws.tuple (prog := X.prog) (w := X.w) (A := X.A.in1) (I.ok.hd hc) it a hai its.toArray
    have hi : i < its.toArray.size := by
      rw [List.size_toArray]
      exact (List.getElem?_eq_some_iff.mp hu).1
    refine wpAny_pyNext_enum_itemD D he ⟨hit, p⟩ hi hne (by simp [hne, hea]) fun y h' tk hy ho hit' hT hsz hk => ?_
    have hyu : y = u := by
      have h1 : its.toArray[i]? = some y := hy
      have h2 : its.toArray[i]? = some u := by simpa using hu
      rw [h1] at h2
      exact Option.some.inj h2
    subst hyu
    refine ⟨_, rfl, wpAny_letOwnedTupleGo_enum (s := { s with heap := h', toks := tk + 1 }) ho fun h'' he' sb => ?_⟩
    have hT2 : h''.get? s.heap.objs.size = some { cls := .type "tuple", data := .seq #[.int i tk, y] } := (sb.2 _ (Nat.ne_of_gt hel)).trans hT
    have new : ObjOk X.prog X.w (upd H s.heap.objs.size (.tup [.int (i : Nat), x])) h'' s.heap.objs.size (.tup [.int (i : Nat), x]) :=
      ⟨by show 2 ≤ sizeLine; decide, [.int i tk, y], .cons ⟨_, rfl⟩ (.cons ru .nil), ⟨_, hT2, rfl, _, rfl⟩⟩
    have I1 : Inv X pins σ (upd H s.heap.objs.size (.tup [.int (i : Nat), x])) { s with heap := h'', toks := tk + 1 } :=
      I.turnedNew (ch := [e, it]) (fun b ob hb q => (sb.2 b (fun z => hb (by simp [z]))).trans (hk b ob (fun z => hb (by simp [z])) (fun z => hb (by simp [z])) q)) hf (Nat.le_refl _) new
    refine ⟨.ref s.heap.objs.size, _, I1, rfl, ⟨_, x, rfl, I.hok.fresh (Nat.le_refl _), rfl, fun ys hy => by rw [I.tuple_inj hy hq]; exact hx⟩, ⟨⟨y, ?_⟩, hit'.1.at fun o q => (sb.2 it (Ne.symm hne)).trans q, hne⟩, fun b hb => ?_⟩
    · have e1 : ((i + 1 : Nat) : Int) = (i : Int) + 1 := by omega
      rw [e1]
      exact he'
    · have hb' : b < s.heap.objs.size := by
        rcases (by simpa using hb : b = e ∨ b = it) with z | z <;> subst z <;> assumption
      rw [upd_ne (Nat.ne_of_lt hb')]
      exact (hf b hb).1
  done := by
    intro X hP hw hK hc i pins s σ H E I hf st hg
    subst hP hw hK
    obtain ⟨⟨old, he⟩, hit, hne⟩ := st
    obtain ⟨xs, hq, hx⟩ := hg
    obtain ⟨its, rv, p, hz⟩ := I.tuple hq
    obtain ⟨f0, f1, f2, f3, f4, f5⟩ := hf it (by simp)
    have hl := rv.length
    obtain ⟨oi, qi, ci, di⟩ := id hit
    have hai : a ≠ it := by
      rintro rfl
      obtain ⟨o', q', c', _⟩ := p
      rw [qi] at q'
      cases q'
      rw [ci] at c'
      exact absurd c' (by decide)
    unfold pyNext
    refine wpAny_bind (wpAny_attempt (wpAny_callSpecial?_slot (name := Str.ofString "__next__") (⟨_, he, rfl⟩ : s.TypeIs (.ref e) "enumerate") F.slot_enumerate_next
      (wpAny_call_entry F.slot_enumerate_next ⟨_, he, rfl⟩ F.entry_enumerate_next ?_ (F.args_enumerate_next_1 _))))
    show wpAny _ _ (field (.ref e) 2 >>= _) _ _ _
    refine wpAny_bind (wpAny_field he rfl (x := .ref it) rfl ?_)
    refine wpAny_bind (wpAny_nextOf_tuple_end (I.ok.hd hc) hit p (by simp; omega) fun h' x he' hx' => ?_)
    obtain ⟨o, ho, hcx⟩ := hx'
    refine wpAny_bind (wpAny_isInstance (T := "StopIteration") (b := true) ⟨o, ho, hcx⟩ isSubtype_stop ?_)
    exact wpAny_pure ⟨rfl, I.turned (t' := s.toks) (fun b o hb q => he' b o hb q) f0 f1 f3 f4 f5⟩
  self := fun A i s Q E st h => let ⟨⟨_, he⟩, _⟩ := st; wpAny_pyIter_enum he h
def iEnumT (K : PySem.W.Frag) (ta : TA) : TI := fun σ H R => ta σ H fun vs H1 => ∃ a xs, vs = [.ref a] ∧ SqT K H1 a xs ∧ R (IteT K a) H1
theorem pi_enumT {X : Cx} {e : Expr} {ta : TA} {p pos tpos : Pos} {elts : List Expr} {kk : Nat} (hg : Gl X "enumerate") (hm : X.mg "enumerate" = none) (ha : PA X [e] ta) (hs : starEach [e] X.env = [(false, eval e X.env)] := by rfl) :
    PI X (.Tuple elts kk tpos) (.Call (.Name "enumerate" p) [e] [] pos) (iEnumT X.K ta) := by
  refine ⟨fun pins s σ H R I h => ?_⟩
  refine Call_ (ld_blt I hg hm boot_enumerate (PyProof.Rows.callWith_type1 (thn (ha.run pos pins s σ H _ I h) fun us s1 ⟨vs, H1, I1, r1, q1⟩ => ?_) hs rfl))
  obtain ⟨a, xs, rfl, hq, q⟩ := q1
  obtain ⟨u, rfl, ru⟩ := vals1 r1
  cases ru
  obtain ⟨its, rv, p', hz⟩ := I1.tuple hq
  refine call_enum1 (begins_tuple a its.toArray) (show s1.heap.IsTuple a its.toArray from p') fun h' he hit hk => wpAny_pyIter_enum he ?_
  have I2 : Inv X pins σ H1 { s1 with heap := h' } := I1.kept (t' := s1.toks) hk
  refine ⟨s1.heap.objs.size + 1, [s1.heap.objs.size + 1, s1.heap.objs.size], _, _, H1, rfl, I2, turn_enumT a (s1.heap.objs.size + 1) s1.heap.objs.size, ⟨⟨.none, he⟩, ⟨_, hit, rfl, rfl⟩, Nat.succ_ne_self _⟩, fun b hb => ?_, q⟩
  have hle : s1.heap.objs.size ≤ b := by
    rcases (by simpa using hb : b = s1.heap.objs.size + 1 ∨ b = s1.heap.objs.size) with z | z <;> rw [z]
    · exact Nat.le_add_right _ _
    · exact Nat.le_refl _
  exact I1.fpOk hle (I1.hok.fresh hle)
theorem walk_enumT {K : PySem.W.Frag} {a : Addr} {xs : List V} : Walk (IteT K a) xs.length (fun H => SqT K H a xs) (YPair (fun i => some (.int (i : Nat))) (fun i => xs[i]?)) := by
  refine ⟨fun i _ hi q => ⟨xs, xs[i], q, by simp [hi]⟩, fun _ q => ⟨xs, q, Nat.le_refl _⟩, fun i H v H' _ q y => ?_⟩
  obtain ⟨T, x, h1, h2, h3, h4⟩ := y
  exact ⟨T, .int (i : Nat), x, h1, h2, h3, rfl, h4 xs q⟩

/-! ### a dict comprehension over any walk -/
theorem dc_it {J : It} {n : Nat} {G : Hp → Prop} {Y : Nat → Hp → V → Hp → Prop} (w : Walk J n G Y) {g : TG} {tt : TT} {tk tv : TE} {vs : List Nat} {σ : L2.St} {H1 : Hp} {D : Addr} {Qd : Hp → Prop} (Pv : Nat → Hp → Prop) (h0 : Pv 0 (upd H1 D (.dK []))) (hG : ∀ i H, i ≤ n → Pv i H → G H)
    (hs : ∀ i x H H', i < n → Pv i H → Y i H x H' → g x (wipe σ vs) H' fun σ2 H2 => wipe σ2 vs = wipe σ vs ∧ tt σ2 H2 fun b H3 =>
      if b = true then tk σ2 H3 fun y H4 => tv σ2 H4 fun z H5 => ∃ kvs k, y = kV k ∧ H5 D = some (.dK kvs) ∧ kvs.length < sizeLine ∧ Pv (i + 1) (upd H5 D (.dK (putK kvs k z))) else Pv (i + 1) H3) (hd : ∀ H, Pv n H → Qd H) :
    ∃ W : Nat → Nat → Hp → Prop, (∃ m, W 0 m (upd H1 D (.dK []))) ∧ ∀ i m H, W i m H →
      (J.stop i H ∧ Qd H) ∨ (J.go i H ∧ ∃ Nx : Hp → Prop, (∀ H', Nx H' → ∃ m', m' < m ∧ W (i + 1) m' H') ∧ ∀ x H', J.yld i H x H' → g x (wipe σ vs) H' fun σ2 H2 => wipe σ2 vs = wipe σ vs ∧ tt σ2 H2 fun b H3 =>
        if b = true then tk σ2 H3 fun y H4 => tv σ2 H4 fun z H5 => ∃ kvs k, y = kV k ∧ H5 D = some (.dK kvs) ∧ kvs.length < sizeLine ∧ Nx (upd H5 D (.dK (putK kvs k z))) else Nx H3) := by
  refine ⟨fun i m H => m = n - i ∧ i ≤ n ∧ Pv i H, ⟨n, by simp, Nat.zero_le _, h0⟩, ?_⟩
  rintro i m H ⟨rfl, hi, p⟩
  rcases Nat.lt_or_ge i n with hlt | hge
  · exact .inr ⟨w.goes i H hlt (hG i H hi p), Pv (i + 1), fun H' p' => ⟨n - (i + 1), by omega, rfl, hlt, p'⟩, fun x H' y => hs i x H H' hlt p (w.yields i H x H' hlt (hG i H hi p) y)⟩
  · obtain rfl : i = n := by omega
    exact .inl ⟨w.stops H (hG i H hi p), hd H p⟩

/-! ### len(set(t)), t a tuple of unlike texts -/
section
variable {P : Program} {w : World} {A : Around} {E : Value → Shared → Prop} {s : Shared}
theorem set_fill {I : Addr} {fp wr : List Addr} {G : Array GenState → Array GenState → Prop} {n : Nat} {Pv : Nat → Value → Prop} {St : Nat → Shared → Prop} {R : Result → Shared → Prop}
    (W : WalksS P w A.in1 I fp wr G n Pv St) (S : Addr) (hSf : S ∉ fp) (xs : List Str) (hn : n = xs.length) (hnd : xs.Nodup) (hb : xs.length + 1 < scanBound) (hval : ∀ i v, Pv i v → ∃ x t, xs[i]? = some x ∧ v = .str x t) :
    ∀ (k i : Nat) (s : Shared), n - i = k → i ≤ n → St i s → s.heap.SetOf (PySem.strKind P w) S (fun y => decide (y ∈ xs.take i)) i →
      (∀ s', Moved (S :: wr) G s s' → s'.heap.SetOf (PySem.strKind P w) S (fun y => decide (y ∈ xs)) n → R (.ok (.ret .none)) s') →
      codeAny (model P w) A (.builtin "set.update.loop" ⟨[.ref S, .ref I], []⟩) R s := by
  have hSw : S ∉ wr := fun h => hSf (W.sub _ h)
  have hsub : ∀ b ∈ wr, b ∈ S :: wr := fun b hb => List.mem_cons_of_mem _ hb
  intro k
  induction k with
  | zero =>
    intro i s hk' hi hst hS hR
    obtain rfl : i = n := by omega
    refine codeAny_builtin F.entry_set_update_loop ?_
    rw [Around.under_plainId F.plain_set_update_loop _]
    show wpAny _ A.in1 (pyNext (.ref I) >>= _) _ _ s
    refine wpAny_bind (W.done s _ _ hst fun s' hm => ?_)
    show wpAny _ A.in1 (ret Value.none) _ _ s'
    rw [List.take_of_length_le (Nat.le_of_eq hn.symm)] at hS
    obtain ⟨o, es, ep, t, ho, more⟩ := hS
    exact wpAny_pure (hR s' (hm.mono hsub) ⟨o, es, ep, t, hm.heap S _ hSw ho, more⟩)
  | succ k ih =>
    intro i s hk' hi hst hS hR
    have hlt : i < n := by omega
    refine codeAny_builtin F.entry_set_update_loop ?_
    rw [Around.under_plainId F.plain_set_update_loop _]
    show wpAny _ A.in1 (pyNext (.ref I) >>= _) _ _ s
    refine wpAny_bind (W.item i s _ _ hlt hst fun v s' hP hst' hm => ?_)
    obtain ⟨z, t, hz, rfl⟩ := hval i v hP
    obtain ⟨o, es, ep, tb, ho, more⟩ := hS
    have hS' : s'.heap.SetOf (PySem.strKind P w) S (fun y => decide (y ∈ xs.take i)) i := ⟨o, es, ep, tb, hm.heap S _ hSw ho, more⟩
    show wpAny _ A.in1 (holding [Value.str z t] (setAdd S (.str z t)) >>= _) _ _ s'
    refine wpAny_bind (wpAny_holding ?_)
    unfold setAdd
    refine wpAny_holding (wpAny_bind ((PySem.strKind P w).pyHash (k := z) (strKind_is _ _ _ _) ?_))
    refine wpAny_setAddHashed_of (knd := PySem.strKind P w) (s := { s' with toks := s'.toks + 1 }) (strKind_is _ _ _ _) rfl hS' (by omega) fun h' hsb hS2 => ?_
    have hz' : z ∉ xs.take i := fun q => by
      obtain ⟨j, hj⟩ := List.getElem?_of_mem q
      have hji : j < i := by
        have := (List.getElem?_eq_some_iff.mp hj).1
        rw [List.length_take] at this
        omega
      rw [List.getElem?_take, if_pos hji] at hj
      have := nd_ix hnd hj hz
      omega
    have hS3 : h'.SetOf (PySem.strKind P w) S (fun y => decide (y ∈ xs.take (i + 1))) (i + 1) := by
      refine SetOf_congr hS2 (fun y => ?_) (by rw [decide_eq_false hz']; rfl)
      rw [List.take_add_one, hz]
      simp [List.mem_append]
    refine wpAny_pure ⟨plainId_quiet F.plain_set_update_loop _, ih (i + 1) _ (by omega) hlt (W.frame _ s' _ _ hst' (Nat.le_succ _) fun b hb o e => ?_) hS3 fun s'' hm'' hS'' => ?_⟩
    · rw [hsb.2 b (fun h : b = S => hSf (by rw [← h]; exact hb))]
      exact e
    · refine hR s'' (Moved.trans W.gtrans ((hm.mono hsub).then_heap (Nat.le_succ _) fun b o hb e => ?_) hm'') hS''
      rw [hsb.2 b (fun h : b = S => hb (by rw [h]; exact List.mem_cons_self))]
      exact e
/-- a set just made -/
abbrev nuSet (led : Bool) : Obj := { cls := .type "set", dict := none, data := .set #[] 0 (.fresh 0 0 led) }
theorem call_set_strs {l : Addr} {items : Array Value} {xs : List Str} {Q : Value → Shared → Prop} (hh : A.handled = none) (hl : s.heap.IsTuple l items) (hi : StrsAre items.toList xs) (hnd : xs.Nodup) (hb : xs.length + 1 < scanBound)
    (h : ∀ (h' : Heap) (tk : Nat), h'.SetOf (PySem.strKind P w) s.heap.objs.size (fun y => decide (y ∈ xs)) xs.length → (∀ b o, s.heap.get? b = some o → h'.get? b = some o) → Q (.ref s.heap.objs.size) { s with heap := h', toks := tk }) :
    wpAny (model P w) A (call (.type "set") [.ref l]) Q E s := by
  have hisz : items.size = xs.length := by rw [← StrsAre.length hi, Array.length_toList]
  obtain ⟨c, tl, hmro⟩ := F.called_set.mro
  have m1 := F.called_set.made
  have m2 := F.called_set.sub
  have m3 := F.called_set.notType
  have m4 := F.called_set.canCreate
  have m5 := F.typeCall_set_1 (.ref l)
  refine wpAny_call (codeAny_of_tree ?_)
  show wpAny _ _ (callAny (.type "set") _) _ _ _
  refine wpAny_pure ⟨Code.quiet_builtin _ (by decide +kernel), codeAny_builtin F.entry_type_call ?_⟩
  rw [Around.under_plain (weight_type_call_type "set" [.ref l] []) rfl]
  repeat (any_goals (first | assumption | wp_step))
  refine codeAny_mono (code_set_new_1 (.ref l) (E := E) (Q₁ := fun obj s₁ => ∃ led : Bool, obj = .ref s.heap.objs.size ∧ s₁ = { s with heap := s.heap.push (nuSet led) }) fun led => ⟨led, rfl, rfl⟩) fun r s₁ hr => ?_
  cases r with
  | error e => exact hr
  | ok fl =>
    cases fl with
    | ret obj =>
      obtain ⟨led, rfl, rfl⟩ := hr
      have hS : (s.heap.push (nuSet led)).get? s.heap.objs.size = some (nuSet led) := Heap.get?_push_size _ rfl
      have hT : Shared.TypeIs { s with heap := s.heap.push (nuSet led) } (.ref s.heap.objs.size) "set" := ⟨_, hS, rfl⟩
      have m6 := F.called_set.init.lookup
      have m7 := F.called_set.init.bind (.ref s.heap.objs.size)
      repeat (any_goals (first | assumption | wp_step))
      refine codeAny_mono (codeAny_call_builtin (R := wants (fun r s₂ => r = .none ∧ ∃ h' tk, s₂ = { s with heap := h', toks := tk } ∧ h'.SetOf (PySem.strKind P w) s.heap.objs.size (fun y => decide (y ∈ xs)) xs.length ∧
          (∀ b o, s.heap.get? b = some o → h'.get? b = some o)) E) F.called_set.init.plain F.entry_set_init (check_set_init_1 hT ?_)) fun r₂ s₂ hr₂ => ?_
      · obtain ⟨⟨ocls, odict, odata, oslots⟩, hol, hcl, nl, hdl⟩ := hl
        simp only at hcl hdl
        subst hcl hdl
        have hol' : (s.heap.push (nuSet led)).get? l = some { cls := .type "tuple", dict := odict, data := .seq items nl, slots := oslots } := Heap.get?_push_of_some _ hol
        have m8 := F.sub_tuple_set
        have m9 := F.sub_tuple_frozenset
        have hne : (Value.type "tuple" == Value.type "dict") = false := by decide
        have hl1 : (s.heap.push (nuSet led)).IsTuple l items := ⟨_, hol', rfl, nl, rfl⟩
        have hz1 : (s.heap.push (nuSet led)).objs.size = s.heap.objs.size + 1 := Heap.size_push ..
        unfold Builtin.«set.__init__» noKeywords Builtin.Frozenset.updateFrom
        generalize hPI : pyIter = PI
        wp_walk
        subst hPI
        refine wpAny_pyIter_tuple hl1 ?_
        refine wpAny_bind (wpAny_runValue ?_)
        have hlS : l < s.heap.objs.size := Heap.lt_size hol
        have hh3 : A.in1.in1.in1.handled = none := by simp [hh]
        have hneI : l ≠ (s.heap.push (nuSet led)).objs.size := by
          rw [hz1]
          exact Nat.ne_of_lt (Nat.lt_succ_of_lt hlS)
        have hSf : s.heap.objs.size ∉ [(s.heap.push (nuSet led)).objs.size, l] := by
          rw [hz1]
          simp only [List.mem_cons, List.not_mem_nil, or_false, not_or]
          exact ⟨Nat.ne_of_lt (Nat.lt_succ_self _), Nat.ne_of_gt hlS⟩
        have hval : ∀ (i : Nat) (v : Value), items[i]? = some v → ∃ x t, xs[i]? = some x ∧ v = .str x t := fun i v hv => by
          have hi' : i < xs.length := by rw [← hisz]; exact (Array.getElem?_eq_some_iff.mp hv).1
          obtain ⟨t, e⟩ := SS.strs_at hi i v (by rw [Array.getElem?_toList]; exact hv)
          refine ⟨xs[i], t, List.getElem?_eq_getElem hi', ?_⟩
          rw [e, List.getD_eq_getElem?_getD, List.getElem?_eq_getElem hi'] <;> rfl
        refine set_fill ((Walks.tuple hh3 _ l hneI items).toS) s.heap.objs.size hSf xs hisz hnd hb hval (items.size - 0) 0 _ (by omega) (Nat.zero_le _) ⟨⟨_, Heap.get?_push_size _ rfl, rfl, rfl⟩, hl1.push _⟩ ?hS0 ?hR
        case hS0 =>
          exact SetOf_congr ((setObjOf_fresh (knd := PySem.strKind P w) led).setOf (Heap.get?_push_of_some _ hS) (by unfold scanBound; omega)) (fun _ => by simp) rfl
        case hR =>
          intro s' hm hS'
          obtain ⟨h', g2, d', tk', os'⟩ := s'
          obtain rfl : g2 = s.gens := hm.gens
          obtain rfl : d' = s.drawn := hm.drawn
          obtain rfl : os' = s.os := hm.os
          show wpAny _ _ _ _ _ _
          refine wpAny_pure ?_
          show wpAny _ _ (ret Value.none) _ _ _
          rw [hisz] at hS'
          refine wpAny_pure ⟨rfl, h', tk', rfl, hS', fun b o e => ?_⟩
          have hb0 : b < s.heap.objs.size := Heap.lt_size e
          refine hm.heap b o ?_ (Heap.get?_push_of_some _ (Heap.get?_push_of_some _ e))
          rw [hz1]
          simp only [List.mem_cons, List.not_mem_nil, or_false, not_or]
          exact ⟨Nat.ne_of_lt hb0, Nat.ne_of_lt (Nat.lt_succ_of_lt hb0)⟩
      · cases r₂ with
        | error e => exact hr₂
        | ok fl₂ =>
          cases fl₂ with
          | ret r =>
            obtain ⟨rfl, h', tk, rfl, hS', hk'⟩ := hr₂
            repeat (any_goals (first | assumption | wp_step))
            exact h _ _ hS' hk'
          | _ => exact hr₂.elim
    | _ => exact hr.elim
end
/-- len(set(t)) -/
def tLenSetT (K : PySem.W.Frag) (ta : TE) : TE := fun σ H Q => ta σ H fun x H1 => ∃ l, ∃ xs : List Str, x = .ref l ∧ SqT K H1 l (xs.map V.str) ∧ xs.Nodup ∧ xs.length ≤ 1000 ∧ Q (.int xs.length) H1
theorem pe_lenSetT {X : Cx} {a : Expr} {ta : TE} {p p2 q pos : Pos} (hg : Gl X "len") (hm : X.mg "len" = none) (hg2 : Gl X "set") (hm2 : X.mg "set" = none) (ha : PE X a ta) (hc : X.calm = true := by rfl)
    (na : starEach [a] X.env = (false, eval a X.env) :: starEach [] X.env := by rfl) : PE X (.Call (.Name "len" p) [.Call (.Name "set" p2) [a] [] q] [] pos) (tLenSetT X.K ta) := by
  refine ⟨fun pins s σ H Q I h => Call_ (ld_blt I hg hm boot_len (PyProof.Rows.callWith_builtin1 (PyProof.Rows.args_cons ?_ rfl) rfl rfl))⟩
  refine Call_ (ld_blt I hg2 hm2 boot_set ?_)
  refine PyProof.Rows.callWith_type1 (PyProof.Rows.args_cons (thn (ha.run pins s σ H _ I h) fun v s1 ⟨x, H1, I1, r1, q1⟩ => PyProof.Rows.args_nil ?_) na) na rfl
  obtain ⟨l, xs, rfl, hq, hnd, hle, q1⟩ := q1
  cases r1
  obtain ⟨its, r, pl, hz⟩ := I1.tuple hq
  refine call_set_strs (I1.ok.hd hc) pl (by simpa using strsAre_of r) hnd (by unfold scanBound; omega) fun h' tk hS hk => PyProof.Rows.args_nil ?_
  obtain ⟨o, es, ep, t, ho, hex, hd, _, _, _, hf, hn⟩ := hS
  have I2 : Inv X pins σ H1 { s1 with heap := h', toks := tk } := I1.kept hk
  exact call_len_set ho hex hd hf (by rw [hn] <;> omega) ⟨.int xs.length, H1, I2.tok _, ⟨_, by rw [hn]⟩, q1⟩

/-! ### sorted texts, any number -/
def rSortedA (K : PySem.W.Frag) : List V → Hp → VK → Prop := fun vs H Q => ∃ (a : Addr) (xs : List Str), vs = [V.ref a] ∧ SqL K H a (xs.map V.str) ∧
  ∀ (ys : List Str) (p : Addr), ys.Perm xs → sortedS ys = true → H p = none → Q (.ref p) (upd H p (.lst (ys.map V.str)))
theorem cr_sortedA {X : Cx} : CallR X (.builtin "sorted") (rSortedA X.K) := by
  intro pins s σ H vs us Q I r h
  obtain ⟨a, xs, rfl, hs, q⟩ := h
  obtain ⟨its, rv, hl, hz⟩ := I.list hs
  rw [Vals.ref1 r]
  refine sorted_strsAny hl.isList rv.strs (by rw [← rv.length]; exact hz) fun out ys h1 h2 h3 => ?_
  obtain ⟨ep, he'⟩ := PyProof.Rows.sortedAll_at s.heap its out
  have hlen : (ys.map V.str).length ≤ sizeLine := by
    rw [List.length_map, h2.length_eq]
    rw [List.length_map] at hz
    exact hz
  exact ⟨.ref _, upd H (s.heap.objs.size + 1) (.lst (ys.map V.str)), I.laid (t' := s.toks) (fun _ _ => PyProof.Rows.sortedAll_old) (Nat.le_succ _) ⟨hlen, out.toList, ep, vals_of_strs h1, he'⟩, rfl, q ys _ h2 h3 (I.hok.fresh (Nat.le_succ _))⟩

/-! ### a def by one bundle of facts -/
structure Cal (P : Program) (w : World) (K : PySem.W.Frag) (mg : Str → Option Value) (base : Heap) (k : Nat) (x : Str) (ps : List Str) (sp : Sp) : Prop where
  ex : ∃ f fd, FnOk P w K mg base CX0 k f fd ps sp ∧ mg x = some (.ref f) ∧ PySem.W.keepIn K (.ref f) = true ∧ Binds K fd ps []
def tCal (sp : Sp) (t : TA) : TE := fun σ H Q => t σ H fun vs H1 => sp vs H1 Q E0
theorem pe_cal {X : Cx} {k k' : Nat} {x : Str} {ps : List Str} {sp : Sp} {e : Expr} {es : List Expr} {t : TA} {p pos : Pos} (c : Cal X.prog X.w X.K X.mg X.base k x ps sp) (hr : Room k' X.A) (hk : k ≤ k') (hg : Gl X x) (ha : PA X (e :: es) t)
    (hdb : (x == ("__debug__" : Str)) = false := by decide) (he : starEach (e :: es) X.env = (false, eval e X.env) :: starEach es X.env := by rfl) (hpl : (backTo pos (starEach es X.env)).any (·.1) = false := by rfl) :
    PE X (.Call (.Name x p) (e :: es) [] pos) (tCal sp t) := by
  obtain ⟨f, fd, F, hm, kp, hb⟩ := c.ex
  have h := pe_call (p := p) (pos := pos) (E := E0) F (hr.mono hk) hg hm kp hb .nil pass0 ha hdb he hpl
  refine ⟨fun pins s σ H Q I q => h.run pins s σ H Q I ?_⟩
  have e2 : tCall sp [] E0 t = tCal sp t := by
    funext σ H Q
    show (t σ H fun vs H1 => sp (vs ++ []) H1 Q E0) = t σ H fun vs H1 => sp vs H1 Q E0
    simp only [List.append_nil]
  rw [e2]
  exact q
end K60

namespace K60
open PySem PySem.Spec PyProof.Rows L2
/-! ### a tuple whose methods are called: it is known as an object -/
section
variable {X : Cx}
def rTupF (K : PySem.W.Frag) : List V → Hp → VK → Prop := fun xs H Q => ∃ p ys, xs = [.ref p] ∧ SqL K H p ys ∧ ∀ (l : Addr) (o : Obj), H l = none → o.dict = none → Q (.ref l) (upd H l (.frz o (.tup ys)))
theorem cr_tupleF : CallR X (.type "tuple") (rTupF X.K) := by
  intro pins s σ H xs us Q I r h
  obtain ⟨p, ys, rfl, hq, q⟩ := h
  obtain ⟨u, rfl, rx⟩ := vals1 r
  cases rx
  obtain ⟨its, r', pl, hz⟩ := I.list hq
  have hlen := r'.length
  refine call_tuple_list pl.isList (fun h' kp => ?_) (by simp only [List.size_toArray] <;> omega)
  have I1 : Inv X pins σ H { s with heap := h' } := I.kept (t' := s.toks) kp
  have I2 : Inv X pins σ (upd H h'.objs.size (.frz { cls := .type "tuple", data := .seq its.toArray } (.tup ys))) { s with heap := h'.push { cls := .type "tuple", data := .seq its.toArray } } :=
    I1.laid (t' := s.toks) (fun b o e => Heap.get?_push_of_some _ e) (Nat.le_refl _) (show ObjOk X.prog X.w _ _ _ (.frz _ (.tup ys)) from ⟨Heap.get?_push_size _ rfl, hz, its, r', IsTup.new _ _⟩)
  exact ⟨.ref h'.objs.size, _, I2, rfl, q _ _ (I1.hok.fresh (Nat.le_refl _)) rfl⟩
def rTupIdx (K : PySem.W.Frag) : V → List V → Hp → VK → Prop := fun x xs H Q => ∃ p, ∃ ys : List Str, ∃ z j, x = .ref p ∧ xs = [.str z] ∧ SqT K H p (ys.map V.str) ∧ ys[j]? = some z ∧ (∀ m, m < j → ys[m]? ≠ some z) ∧ Q (.int (j : Nat)) H
def tTupIdx (K : PySem.W.Frag) (to : TE) (t : TA) : TE := fun σ H Q => to σ H fun x H1 => (∃ p o ys, x = .ref p ∧ H1 p = some (.frz o (.tup ys)) ∧ o.dict = none) ∧ t σ H1 fun xs H2 => rTupIdx K x xs H2 Q
theorem pe_tupIdx {o e : Expr} {es : List Expr} {to : TE} {t : TA} {apos cpos : Pos} (ho : PE X o to) (ha : PA X (e :: es) t)
    (hbase : attributeBase o "index" X.env (eval o X.env) = eval o X.env := by rfl)
    (hfew : ((backTo cpos (starEach (e :: es) X.env)).all (fun x => !x.1) && (backToKw cpos (keywordEach [] X.env)).all (fun x => x.1.isSome) && decide ((e :: es).length + ([] : List Keyword).length + (if ([] : List Keyword).isEmpty then 0 else 1) < 30)) = true := by rfl)
    (hline : (apos.endLine == cpos.line) = true := by rfl) (hs : starEach (e :: es) X.env = (false, eval e X.env) :: starEach es X.env := by rfl) (hplain : (backTo cpos (starEach es X.env)).any (·.1) = false := by rfl) :
    PE X (.Call (.Attribute o "index" apos) (e :: es) [] cpos) (tTupIdx X.K to t) := by
  refine ⟨fun pins s σ H Q I h => wpAny_Call_method_late hbase hfew hline rfl (thn (ho.run pins s σ H _ I h) fun v s1 ⟨x, H1, I1, r1, ty, q1⟩ => ?_)⟩
  obtain ⟨p, ob, ys, rfl, hp, hd⟩ := ty
  cases r1
  obtain ⟨hg, _, its, rv, pt⟩ := I1.hok p _ hp
  refine ⟨"tuple", "tuple.index", PySem.F.plainAttrs_tuple, PySem.F.slot_tuple_index, PySem.F.type_tuple_index, ?_, fun a e2 => ?_, ?_⟩
  · obtain ⟨o2, h1, h2, _⟩ := pt
    exact ⟨o2, h1, h2⟩
  · cases e2
    exact ⟨ob, hg, hd⟩
  have hA := ha.run cpos pins s1 σ H1 _ I1 q1
  rw [hs] at hA ⊢
  refine Calls.callWith_builtin (by show (false || (backTo cpos (starEach es X.env)).any (·.1)) = false; rw [hplain] <;> rfl) (Calls.evalArgs_plain ?_)
  exact thn hA fun us s2 ⟨vs, H2, I2, r2, q2⟩ => mt_tup_index pins s2 σ H2 (.ref p) vs _ us Q I2 rfl r2 q2
end
/-! ### names for readings that have none -/
def rAddStr : R2 := fun x y H Q => ∃ i j, x = .str i ∧ y = .str j ∧ i.length + j.length ≤ sizeLine ∧ Q (.str (i ++ j)) H
def rInSign : R2 := fun x y H Q => ∃ (c : Nat) (z : Str), x = .str ⟨#[c]⟩ ∧ y = .str z ∧ Q (.bl (decide (c ∈ z.cps.toList))) H
def rIsN : R2 := fun x y H Q => y = .non ∧ Q (.bl (decide (x = .non))) H
def rNotN : R2 := fun x y H Q => y = .non ∧ Q (.bl (!decide (x = .non))) H
def rLenQ (K : PySem.W.Frag) : List V → Hp → VK → Prop := fun xs H Q => ∃ p ys, xs = [.ref p] ∧ (SqL K H p ys ∨ SqT K H p ys) ∧ Q (.int ys.length) H
def rLenS : List V → Hp → VK → Prop := fun xs H Q => ∃ z, xs = [.str z] ∧ z.length ≤ sizeLine ∧ Q (.int z.length) H
def rListQ (K : PySem.W.Frag) : List V → Hp → VK → Prop := fun xs H Q => ∃ p ys, xs = [.ref p] ∧ (SqL K H p ys ∨ SqT K H p ys) ∧ ∀ l, H l = none → Q (.ref l) (upd H l (.lst ys))
def rTupQ (K : PySem.W.Frag) : List V → Hp → VK → Prop := fun xs H Q => ∃ p ys, xs = [.ref p] ∧ ((SqL K H p ys ∧ ∀ l, H l = none → Q (.ref l) (upd H l (.tup ys))) ∨ (SqT K H p ys ∧ Q (.ref p) H))
def rMaxQ : List V → Hp → VK → Prop := fun xs H Q => ∃ i j, xs = [.int i, .int j] ∧ Q (.int (if j > i then j else i)) H
def rMinQ : List V → Hp → VK → Prop := fun xs H Q => ∃ i j, xs = [.int i, .int j] ∧ Q (.int (if j < i then j else i)) H
def rIntQ : List V → Hp → VK → Prop := fun xs H Q => (∃ i, xs = [.int i] ∧ Q (.int i) H) ∨ ∃ k, xs = [.bl k] ∧ Q (.int (if k then 1 else 0)) H
abbrev rAddI : R2 := rI0 fun i j => .int (i + j)
abbrev rSubI : R2 := rI0 fun i j => .int (i - j)
abbrev rMulI : R2 := rI CMul fun i j => .int (i * j)
abbrev rModI : R2 := rI (fun _ j => 0 < j) fun i j => .int (i % j)
abbrev rDivI : R2 := rI CDiv fun i j => .int (i / j)
abbrev rPowI : R2 := rI (fun i j => 0 ≤ j ∧ (Builtin.Int.intBits i : Int) * j ≤ 2 ^ 27) fun i j => .int (i ^ j.toNat)
abbrev rLtI : R2 := rI0 fun i j => .bl (decide (i < j))
abbrev rLeI : R2 := rI0 fun i j => .bl (decide (i ≤ j))
abbrev rGtI : R2 := rI0 fun i j => .bl (decide (j < i))
abbrev rGeI : R2 := rI0 fun i j => .bl (decide (j ≤ i))
abbrev rNegI : V → Hp → VK → Prop := rU fun i => .int (-i)
section
variable {X : Cx}
theorem o_adds : OpR X (binaryOp .Add) rAddStr := op_add_str
theorem o_insign : OpR X (compareOp .In) rInSign := op_in_sign
theorem o_isN : OpR X (compareOp .Is) rIsN := op_isN
theorem o_notN : OpR X (compareOp .IsNot) rNotN := op_notN
theorem c_len : CallR X (.builtin "len") (rLenQ X.K) := call_len_seq
theorem c_lenS : CallR X (.builtin "len") rLenS := call_len_str
theorem c_list : CallR X (.type "list") (rListQ X.K) := call_list_of
theorem c_tup : CallR X (.type "tuple") (rTupQ X.K) := call_tuple_of
theorem c_max (hc : X.calm = true) : CallR X (.builtin "max") rMaxQ := call_max2 hc
theorem c_min (hc : X.calm = true) : CallR X (.builtin "min") rMinQ := call_min2 hc
theorem c_int : CallR X (.type "int") rIntQ := call_int1
end
/-! ### the module's names -/
/-- what the names of the text stand for that are no defs -/
structure Nm (mg : Str → Option Value) : Prop where
  signs : ∃ t, mg "SIGNS" = some (.str "abcdefghijklmnopqrstuvwxyz" t)
  most : ∃ t, mg "MOST_SIGNS" = some (.int 4 t)
  isinst : mg "isinstance" = none
  int' : mg "int" = none
  bool' : mg "bool" = none
  str' : mg "str" = none
  len : mg "len" = none
  all : mg "all" = none
  tuple' : mg "tuple" = none
  set' : mg "set" = none
  list' : mg "list" = none
  range' : mg "range" = none
  min' : mg "min" = none
  max' : mg "max" = none
  enum' : mg "enumerate" = none
  sorted' : mg "sorted" = none
theorem pe_gl {X : Cx} {x : Str} {v : V} {pos : Pos} (hg : Gl X x) (h : ∃ u, X.mg x = some u ∧ RelV v u) (hd : (x == ("__debug__" : Str)) = false := by decide) : PE X (.Name x pos) (tC v) := by
  obtain ⟨u, hm, r⟩ := h
  exact pe_glob hg hm r hd
theorem Nm.signs' {mg : Str → Option Value} (T : Nm mg) : ∃ u, mg "SIGNS" = some u ∧ RelV (.str "abcdefghijklmnopqrstuvwxyz") u := by
  obtain ⟨t, e⟩ := T.signs
  exact ⟨_, e, t, rfl⟩
theorem Nm.most' {mg : Str → Option Value} (T : Nm mg) : ∃ u, mg "MOST_SIGNS" = some u ∧ RelV (.int 4) u := by
  obtain ⟨t, e⟩ := T.most
  exact ⟨_, e, t, rfl⟩
end K60

namespace K60
open PySem PySem.Spec PyProof.Rows L2
/-! ### name = {k: v for ..} on one line, the name a local -/
section
variable {X : Cx}
theorem sw_trueD {kx vx : Expr} {gs : List Comprehension} {scope : Scope} {pos py : Pos} {y : Str} {l : Nat} {env : Env} (hk : env.scope.kind = .function) (hy : env.scope.names.lookup y = some .local) (hl : (py.line == pos.line) = true)
    (ha : (scope.names.any fun (n, k) => n == y && (k == .local || k == .cell)) = false) : swapsWith (.DictComp kx vx gs scope pos) (some (.Name y py)) l env = pure true := by
  have ky : env.kindOf y = some .local := hy
  have hb : env.blockKind = .function := by
    unfold Env.blockKind
    rw [hk]
    rfl
  unfold swapsWith
  simp only [hb, ky, ha, Expr.pos, hl]
  rfl
theorem ps_setDc {i : Nat} {y : Str} {py : Pos} {kx vx tg iter : Expr} {ifs : List Expr} {scope : Scope} {own : List (Str × Nat)} {pos spos : Pos} {wi : TI} {g : TG} {tt : TT} {tk tv : TE} (hc : X.calm = true) (hN : X.N.Nodup) (hy : X.N[i]? = some y) (hyl : X.env.scope.names.lookup y = some .local)
    (hsw : swapsWith (.DictComp kx vx [⟨tg, iter, ifs, 0⟩] scope pos) (some (.Name y py)) spos.line X.env = pure true) (hi : PI X tg iter wi) (ok : BlkOk X.N X.env.scope scope own)
    (hg : ∀ (s : Shared) (H : Hp) (C : Addr) (cl : List (Str × Addr)) (fp : List Addr), PG (X.blk s H scope (compEnvC scope cl C X.env) fp) tg g) (ht : ∀ (s : Shared) (H : Hp) (C : Addr) (cl : List (Str × Addr)) (fp : List Addr), PTs (X.blk s H scope (compEnvC scope cl C X.env) fp) ifs tt)
    (hk : ∀ (s : Shared) (H : Hp) (C : Addr) (cl : List (Str × Addr)) (fp : List Addr), PE (X.blk s H scope (compEnvC scope cl C X.env) fp) kx tk)
    (he : ∀ (s : Shared) (H : Hp) (C : Addr) (cl : List (Str × Addr)) (fp : List Addr), PE (X.blk s H scope (compEnvC scope cl C X.env) fp) vx tv) (hs : ∀ x, foldedSetIterable iter X.env x = pure x := by intro _; rfl) :
    PS X (.Assign [.Name y py] (.DictComp kx vx [⟨tg, iter, ifs, 0⟩] scope pos) spos) (tAsg (tDc wi g tt tk tv (own.map (·.2))) (gName i)) := by
  refine ⟨fun pins s σ H D I h => ?_⟩
  rw [exec_Assign_Name_used _ _ _ _ hsw]
  refine wpAny_bind (wpAny_standAt (wpAny_bind ?_))
  show wpAny _ X.A (do let _ ← comprehension (.DictComp kx vx [⟨tg, iter, ifs, 0⟩] scope pos) scope X.env (firstIterPos [⟨tg, iter, ifs, 0⟩] pos) newDict false (eval iter X.env) (some (assign (.Name y py) X.env))) _ _ s
  refine wpAny_bind (thn (dc_core (Qf := fun _ s' => SP X pins D .next s') (Q := fun x H1 => gName i x σ H1 D.nx) hc hN I hi ok hg ht hk he hs h fun L C s' m H' I' q hn f => ?_) fun _ s' hq => wpAny_pure (wpAny_pure hq))
  show wpAny _ _ (assign (.Name y py) X.env (.ref L)) _ _ _
  obtain ⟨f0, f1, f2, f3, f4, f5⟩ := f
  refine wpAny_assign_Name (store_ok2 (v := V.ref L) I' hN hy (.inl hyl) rfl (fun s2 I2 ⟨a, sb, ha⟩ => ⟨m, hn.sameBut sb ?_, fun h3 sb3 => ⟨_, H', I2.turned (t' := s2.toks) (fun b o hb e => (sb3.2 b hb).trans e) f0 f1 f3 f4 f5, q⟩⟩) (.inr hyl))
  rcases ha with z | z
  · rw [z]
    exact f1
  · exact fun e => f4 y a z e.symm
end
end K60

/-! The plain law: rows, words, marks, histories, movers. No program here. -/
namespace Lf
variable {α : Type} [DecidableEq α]

inductive Deed (α : Type) where
  | inn (x : α)
  | out (p : Nat)

def sgn : Deed α → Option α
  | .inn x => some x
  | .out _ => none
def wordOf (ds : List (Deed α)) : List (Option α) := ds.map sgn

def goOut (row : List α) (p : Nat) : List α := match row.getLast? with
  | none => []
  | some l => row.dropLast.set p l
def stepD (row : List α) : Deed α → List α
  | .inn x => row ++ [x]
  | .out p => goOut row p
def runD : List α → List (Deed α) → List α
  | r, [] => r
  | r, d :: ds => runD (stepD r d) ds
def rowsL : List α → List (Deed α) → List (List α)
  | r, [] => [r]
  | r, d :: ds => r :: rowsL (stepD r d) ds
def Okd (seen : List α) (n : Nat) : List (Deed α) → Prop
  | [] => True
  | .inn x :: ds => x ∉ seen ∧ Okd (seen ++ [x]) (n + 1) ds
  | .out p :: ds => p < n ∧ Okd seen (n - 1) ds
def Okw (seen : List α) (n : Nat) : List (Option α) → Prop
  | [] => True
  | some x :: w => x ∉ seen ∧ Okw (seen ++ [x]) (n + 1) w
  | none :: w => 0 < n ∧ Okw seen (n - 1) w

theorem Okd.word : ∀ {ds : List (Deed α)} {seen : List α} {n : Nat}, Okd seen n ds → Okw seen n (wordOf ds)
  | [], _, _, _ => trivial
  | .inn x :: ds, _, _, h => ⟨h.1, Okd.word h.2⟩
  | .out p :: ds, _, _, h => ⟨Nat.lt_of_le_of_lt (Nat.zero_le _) h.1, Okd.word h.2⟩

/-! ### sizes -/
def szAt (n : Nat) : List (Option α) → Nat
  | [] => n
  | some _ :: w => szAt (n + 1) w
  | none :: w => szAt (n - 1) w
theorem szAt_append : ∀ (u w : List (Option α)) (n : Nat), szAt n (u ++ w) = szAt (szAt n u) w
  | [], _, _ => rfl
  | some _ :: u, w, n => szAt_append u w (n + 1)
  | none :: u, w, n => szAt_append u w (n - 1)
def wsz (n : Nat) (w : List (Option α)) : List Nat := (List.range (w.length + 1)).map fun i => szAt n (w.take i)
theorem goOut_len (row : List α) (p : Nat) : (goOut row p).length = row.length - 1 := by
  unfold goOut
  cases h : row.getLast? with
  | none =>
    have : row = [] := by simpa using h
    simp [this]
  | some l => simp
theorem runD_len : ∀ (ds : List (Deed α)) (r : List α), (runD r ds).length = szAt r.length (wordOf ds)
  | [], _ => rfl
  | .inn x :: ds, r => by
    show (runD (r ++ [x]) ds).length = szAt (r.length + 1) (wordOf ds)
    rw [runD_len ds, List.length_append]
    rfl
  | .out p :: ds, r => by
    show (runD (goOut r p) ds).length = szAt (r.length - 1) (wordOf ds)
    rw [runD_len ds, goOut_len]

/-! ### marks, going forward: each person, its coming's place, the least size since -/
def may (c m i : Nat) : Bool := if c < m then decide (i = c) else decide (i < m)
theorem may_lt {c m i : Nat} (h : may c m i = true) : i < m := by
  unfold may at h
  split at h
  · have := of_decide_eq_true h
    omega
  · exact of_decide_eq_true h
theorem may_own {c m i : Nat} (h : may c m i = true) (hc : c < m) : i = c := by
  unfold may at h
  rw [if_pos hc] at h
  exact of_decide_eq_true h
theorem may_of {c m i : Nat} (h1 : c < m → i = c) (h2 : m ≤ c → i < m) : may c m i = true := by
  unfold may
  split
  · exact decide_eq_true (h1 (by assumption))
  · exact decide_eq_true (h2 (by omega))

abbrev Kn (α : Type) := List (α × Nat × Nat)
def lower (s : Nat) (k : α × Nat × Nat) : α × Nat × Nat := (k.1, k.2.1, min k.2.2 s)
def fm : Kn α → Nat → List (Option α) → Kn α
  | ks, _, [] => ks
  | ks, n, some x :: w => fm (ks.map (lower (n + 1)) ++ [(x, n, n + 1)]) (n + 1) w
  | ks, n, none :: w => fm (ks.map (lower (n - 1))) (n - 1) w
def ks0 (row : List α) : Kn α := row.zipIdx.map fun z => (z.1, z.2, row.length)
def lw : Nat → Nat → List (Option α) → Nat
  | m, _, [] => m
  | m, n, some _ :: w => lw (min m (n + 1)) (n + 1) w
  | m, n, none :: w => lw (min m (n - 1)) (n - 1) w
theorem lw_le : ∀ (w : List (Option α)) (m n : Nat), lw m n w ≤ m
  | [], m, _ => Nat.le_refl m
  | some _ :: w, m, n => Nat.le_trans (lw_le w _ _) (Nat.min_le_left _ _)
  | none :: w, m, n => Nat.le_trans (lw_le w _ _) (Nat.min_le_left _ _)
theorem lw_min : ∀ (w : List (Option α)) (m m' n : Nat), min m' (lw m n w) ≤ lw m' n w
  | [], m, m', n => Nat.min_le_left _ _
  | some _ :: w, m, m', n => by
    show min m' (lw (min m (n + 1)) (n + 1) w) ≤ lw (min m' (n + 1)) (n + 1) w
    have h1 := lw_min w (min m (n + 1)) (min m' (n + 1)) (n + 1)
    have h2 := lw_le w (min m (n + 1)) (n + 1)
    omega
  | none :: w, m, m', n => by
    show min m' (lw (min m (n - 1)) (n - 1) w) ≤ lw (min m' (n - 1)) (n - 1) w
    have h1 := lw_min w (min m (n - 1)) (min m' (n - 1)) (n - 1)
    have h2 := lw_le w (min m (n - 1)) (n - 1)
    omega
theorem fm_old : ∀ {w : List (Option α)} {ks : Kn α} {n : Nat} {p : α} {c m : Nat}, (p, c, m) ∈ ks → (p, c, lw m n w) ∈ fm ks n w
  | [], _, _, _, _, _, h => h
  | some x :: w, ks, n, p, c, m, h => by
    show (p, c, lw (min m (n + 1)) (n + 1) w) ∈ fm (ks.map (lower (n + 1)) ++ [(x, n, n + 1)]) (n + 1) w
    exact fm_old (List.mem_append_left _ (List.mem_map.mpr ⟨_, h, rfl⟩))
  | none :: w, ks, n, p, c, m, h => by
    show (p, c, lw (min m (n - 1)) (n - 1) w) ∈ fm (ks.map (lower (n - 1))) (n - 1) w
    exact fm_old (List.mem_map.mpr ⟨_, h, rfl⟩)
def comers (w : List (Option α)) : List α := w.filterMap id
theorem fm_names : ∀ (w : List (Option α)) (ks : Kn α) (n : Nat), (fm ks n w).map (·.1) = ks.map (·.1) ++ comers w
  | [], ks, n => by simp [fm, comers]
  | some x :: w, ks, n => by
    show (fm (ks.map (lower (n + 1)) ++ [(x, n, n + 1)]) (n + 1) w).map (·.1) = _
    rw [fm_names w]
    simp [comers, lower, Function.comp_def]
  | none :: w, ks, n => by
    show (fm (ks.map (lower (n - 1))) (n - 1) w).map (·.1) = _
    rw [fm_names w]
    simp [comers, lower, Function.comp_def]
theorem ks0_names (row : List α) : (ks0 row).map (·.1) = row := by
  unfold ks0
  rw [List.map_map]
  show row.zipIdx.map (fun z => z.1) = row
  exact List.zipIdx_map_fst 0 row
theorem okw_nodup : ∀ {w : List (Option α)} {seen : List α} {n : Nat}, seen.Nodup → Okw seen n w → (seen ++ comers w).Nodup
  | [], seen, n, h, _ => by simpa [comers] using h
  | some x :: w, seen, n, h, o => by
    have h2 : (seen ++ [x]).Nodup := by
      rw [List.nodup_append]
      refine ⟨h, by simp, fun a ha b hb e => ?_⟩
      have : b = x := by simpa using hb
      exact o.1 (by rw [← this, ← e]; exact ha)
    have := okw_nodup (w := w) h2 o.2
    simpa [comers] using this
  | none :: w, seen, n, h, o => by
    have := okw_nodup (w := w) h o.2
    simpa [comers] using this
theorem fm_nodup {row : List α} {w : List (Option α)} (h : row.Nodup) (o : Okw row row.length w) : ((fm (ks0 row) row.length w).map (·.1)).Nodup := by
  rw [fm_names, ks0_names]
  exact okw_nodup h o
theorem kn_inj {ks : Kn α} (h : (ks.map (·.1)).Nodup) {p : α} {c m c' m' : Nat} (a : (p, c, m) ∈ ks) (b : (p, c', m') ∈ ks) : c = c' ∧ m = m' := by
  induction ks with
  | nil => cases a
  | cons k ks ih =>
    rw [List.map_cons, List.nodup_cons] at h
    rcases List.mem_cons.mp a with ea | ea
    · rcases List.mem_cons.mp b with eb | eb
      · rw [← ea] at eb
        cases eb
        exact ⟨rfl, rfl⟩
      · exact (h.1 (List.mem_map.mpr ⟨_, eb, by rw [← ea]⟩)).elim
    · rcases List.mem_cons.mp b with eb | eb
      · exact (h.1 (List.mem_map.mpr ⟨_, ea, by rw [← eb]⟩)).elim
      · exact ih h.2 ea eb
theorem ks0_get {row : List α} {i : Nat} {p : α} (h : row[i]? = some p) : (p, i, row.length) ∈ ks0 row := by
  unfold ks0
  refine List.mem_map.mpr ⟨(p, i), ?_, rfl⟩
  exact List.mk_mem_zipIdx_iff_getElem?.mpr h
theorem ks0_of {row : List α} {p : α} {c m : Nat} (h : (p, c, m) ∈ ks0 row) : row[c]? = some p ∧ m = row.length := by
  unfold ks0 at h
  obtain ⟨z, hz, e⟩ := List.mem_map.mp h
  obtain ⟨a, b⟩ := z
  cases e
  exact ⟨List.mk_mem_zipIdx_iff_getElem?.mp hz, rfl⟩

/-! ### the lived row can be -/
/-- everybody in the row is known and stands right by what is known so far -/
structure Lv (ks : Kn α) (n : Nat) (row : List α) : Prop where
  len : row.length = n
  le : ∀ k ∈ ks, k.2.2 ≤ n
  at_ : ∀ (i : Nat) (p : α), row[i]? = some p → ∃ c m, (p, c, m) ∈ ks ∧ may c m i = true
theorem goOut_get {row : List α} {p i : Nat} {x : α} (hp : p < row.length) (h : (goOut row p)[i]? = some x) :
    i < row.length - 1 ∧ ((i = p ∧ row[row.length - 1]? = some x) ∨ (i ≠ p ∧ row[i]? = some x)) := by
  unfold goOut at h
  have hne : row ≠ [] := by
    intro e
    rw [e] at hp
    exact Nat.not_lt_zero _ hp
  rw [List.getLast?_eq_getElem?] at h
  have hl : row.length - 1 < row.length := by omega
  rw [List.getElem?_eq_getElem hl] at h
  have hi : i < row.length - 1 := by
    have h2 := (List.getElem?_eq_some_iff.mp h).1
    simpa using h2
  refine ⟨hi, ?_⟩
  have h : (row.dropLast.set p row[row.length - 1])[i]? = some x := h
  rw [List.getElem?_set] at h
  by_cases e : p = i
  · left
    refine ⟨e.symm, ?_⟩
    rw [if_pos e] at h
    have : p < row.dropLast.length := by simp; omega
    rw [if_pos this] at h
    rw [List.getElem?_eq_getElem hl]
    exact h
  · right
    refine ⟨fun z => e z.symm, ?_⟩
    rw [if_neg e, List.getElem?_dropLast, if_pos hi] at h
    exact h
theorem Lv.inn {ks : Kn α} {n : Nat} {row : List α} (h : Lv ks n row) (x : α) : Lv (ks.map (lower (n + 1)) ++ [(x, n, n + 1)]) (n + 1) (row ++ [x]) := by
  refine ⟨by simp [h.len], fun k hk => ?_, fun i p e => ?_⟩
  · rcases List.mem_append.mp hk with hk | hk
    · obtain ⟨k', hk', rfl⟩ := List.mem_map.mp hk
      exact Nat.min_le_right _ _
    · have : k = (x, n, n + 1) := by simpa using hk
      rw [this]
      exact Nat.le_refl _
  · by_cases hi : i < row.length
    · rw [List.getElem?_append_left hi] at e
      obtain ⟨c, m, h1, h2⟩ := h.at_ i p e
      have hm := h.le _ h1
      have em : min m (n + 1) = m := by
        have : m ≤ n := hm
        omega
      exact ⟨c, min m (n + 1), List.mem_append_left _ (List.mem_map.mpr ⟨_, h1, rfl⟩), by rw [em]; exact h2⟩
    · rw [List.getElem?_append_right (by omega)] at e
      have hz : i - row.length = 0 := by
        have := (List.getElem?_eq_some_iff.mp e).1
        simp at this
        omega
      rw [hz] at e
      have ep : x = p := by simpa using e
      have : i = n := by have := h.len; omega
      subst this
      subst ep
      exact ⟨i, i + 1, List.mem_append_right _ (by simp), may_of (fun _ => rfl) (fun z => by omega)⟩
theorem Lv.out {ks : Kn α} {n : Nat} {row : List α} (h : Lv ks n row) {p : Nat} (hp : p < n) : Lv (ks.map (lower (n - 1))) (n - 1) (goOut row p) := by
  refine ⟨by rw [goOut_len, h.len], fun k hk => ?_, fun i q e => ?_⟩
  · obtain ⟨k', hk', rfl⟩ := List.mem_map.mp hk
    exact Nat.min_le_right _ _
  · have hl := h.len
    obtain ⟨hi, e⟩ := goOut_get (by omega) e
    rcases e with ⟨ei, e'⟩ | ⟨_, e'⟩
    · obtain ⟨c, m, h1, h2⟩ := h.at_ _ q e'
      have h3 := may_lt h2
      refine ⟨c, min m (n - 1), List.mem_map.mpr ⟨_, h1, rfl⟩, may_of (fun hc => ?_) (fun _ => by omega)⟩
      have := may_own h2 (by omega)
      omega
    · obtain ⟨c, m, h1, h2⟩ := h.at_ _ q e'
      have h3 := may_lt h2
      refine ⟨c, min m (n - 1), List.mem_map.mpr ⟨_, h1, rfl⟩, may_of (fun hc => may_own h2 (by omega)) (fun hc => ?_)⟩
      by_cases hcm : c < m
      · have := may_own h2 hcm
        omega
      · omega
theorem Lv.run : ∀ {ds : List (Deed α)} {ks : Kn α} {n : Nat} {row seen : List α}, Lv ks n row → Okd seen n ds → Lv (fm ks n (wordOf ds)) (szAt n (wordOf ds)) (runD row ds)
  | [], _, _, _, _, h, _ => h
  | .inn x :: ds, _, _, _, _, h, o => Lv.run (ds := ds) (h.inn x) o.2
  | .out p :: ds, _, _, _, _, h, o => Lv.run (ds := ds) (h.out o.1) o.2
theorem Lv.zero (row : List α) : Lv (ks0 row) row.length row := by
  refine ⟨rfl, fun k hk => ?_, fun i p h => ⟨i, row.length, ks0_get h, may_of (fun _ => rfl) fun z => ?_⟩⟩
  · obtain ⟨p, c, m⟩ := k
    exact Nat.le_of_eq (ks0_of hk).2
  · have := (List.getElem?_eq_some_iff.mp h).1
    omega
/-- each of e stands right by the marks of the word -/
def Fit (ks : Kn α) (n : Nat) (w : List (Option α)) (e : List α) : Prop := ∀ (i : Nat) (q : α), e[i]? = some q → ∃ c m, (q, c, m) ∈ fm ks n w ∧ may c m i = true
theorem lived_fit {row : List α} {ds : List (Deed α)} (o : Okd row row.length ds) : Fit (ks0 row) row.length (wordOf ds) (runD row ds) := ((Lv.zero row).run o).at_

/-! ### nobody stands twice -/
theorem nodup_set : ∀ {l : List α} {i : Nat} {x : α}, l.Nodup → x ∉ l → (l.set i x).Nodup
  | [], _, _, _, _ => by simp
  | a :: r, 0, x, h, hx => by
    rw [List.nodup_cons] at h
    show (x :: r).Nodup
    exact List.nodup_cons.mpr ⟨fun z => hx (List.mem_cons_of_mem _ z), h.2⟩
  | a :: r, i + 1, x, h, hx => by
    rw [List.nodup_cons] at h
    show (a :: r.set i x).Nodup
    refine List.nodup_cons.mpr ⟨fun z => ?_, nodup_set h.2 fun z => hx (List.mem_cons_of_mem _ z)⟩
    rcases List.mem_or_eq_of_mem_set z with z | z
    · exact h.1 z
    · exact hx (by rw [z]; exact List.mem_cons_self)
theorem goOut_nodup {row : List α} (h : row.Nodup) (p : Nat) : (goOut row p).Nodup := by
  unfold goOut
  cases e : row.getLast? with
  | none => exact List.nodup_nil
  | some l =>
    show (row.dropLast.set p l).Nodup
    obtain ⟨ys, ey⟩ := List.getLast?_eq_some_iff.mp e
    subst ey
    rw [List.dropLast_concat]
    rw [List.nodup_append] at h
    exact nodup_set h.1 fun z => h.2.2 l z l (by simp) rfl
theorem goOut_sub {row : List α} {p : Nat} {x : α} (h : x ∈ goOut row p) : x ∈ row := by
  unfold goOut at h
  cases e : row.getLast? with
  | none =>
    rw [e] at h
    cases h
  | some l =>
    rw [e] at h
    have h : x ∈ row.dropLast.set p l := h
    rcases List.mem_or_eq_of_mem_set h with h | h
    · exact List.dropLast_subset _ h
    · rw [h]
      exact List.mem_of_getLast? e
theorem run_nodup : ∀ {ds : List (Deed α)} {row seen : List α} {n : Nat}, row.Nodup → (∀ x ∈ row, x ∈ seen) → Okd seen n ds → (runD row ds).Nodup
  | [], _, _, _, h, _, _ => h
  | .inn x :: ds, row, seen, n, h, hs, o => by
    refine run_nodup (ds := ds) (seen := seen ++ [x]) ?_ (fun y hy => ?_) o.2
    · show (row ++ [x]).Nodup
      rw [List.nodup_append]
      refine ⟨h, by simp, fun a ha b hb e => ?_⟩
      have : b = x := by simpa using hb
      exact o.1 (hs x (by rw [← this, ← e]; exact ha))
    · rcases List.mem_append.mp hy with hy | hy
      · exact List.mem_append_left _ (hs y hy)
      · exact List.mem_append_right _ hy
  | .out p :: ds, row, seen, n, h, hs, o => run_nodup (ds := ds) (seen := seen) (goOut_nodup h p) (fun y hy => hs y (goOut_sub hy)) o.2
theorem run_sub : ∀ {ds : List (Deed α)} {row : List α} {x : α}, x ∈ runD row ds → x ∈ row ∨ x ∈ comers (wordOf ds)
  | [], _, _, h => .inl h
  | .inn y :: ds, row, x, h => by
    rcases run_sub (ds := ds) h with h | h
    · rcases List.mem_append.mp h with h | h
      · exact .inl h
      · refine .inr ?_
        have : x = y := by simpa using h
        simp [wordOf, comers, sgn, this]
    · refine .inr ?_
      simp only [wordOf, comers, List.map_cons, sgn, List.filterMap_cons, id]
      exact List.mem_cons_of_mem _ h
  | .out p :: ds, row, x, h => by
    rcases run_sub (ds := ds) h with h | h
    · exact .inl (goOut_sub h)
    · refine .inr ?_
      simp only [wordOf, comers, List.map_cons, sgn, List.filterMap_cons, id]
      exact h
end Lf

/-! The told history: it comes to just that row, whoever moves moves once. -/
namespace Lf
variable {α : Type} [DecidableEq α]

/-- the told history; wish: where a person is to stand -/
def hist (wish : α → Option Nat) : List α → List (Option α) → List (Deed α)
  | _, [] => []
  | here, some x :: w => .inn x :: hist wish (here ++ [x]) w
  | here, none :: w => match here.getLast? with
    | none => .out 0 :: hist wish [] w
    | some q => .out ((wish q).getD (here.length - 1)) :: hist wish (here.dropLast.set ((wish q).getD (here.length - 1)) q) w
/-- the next deed -/
def nextD (wish : α → Option Nat) (here : List α) : Option α → Deed α
  | some x => .inn x
  | none => match here.getLast? with
    | none => .out 0
    | some q => .out ((wish q).getD (here.length - 1))
theorem hist_cons (wish : α → Option Nat) (here : List α) (d : Option α) (w : List (Option α)) : hist wish here (d :: w) = nextD wish here d :: hist wish (stepD here (nextD wish here d)) w := by
  cases d with
  | some x => rfl
  | none =>
    unfold nextD stepD goOut
    show (match here.getLast? with
      | none => Deed.out 0 :: hist wish [] w
      | some q => Deed.out ((wish q).getD (here.length - 1)) :: hist wish (here.dropLast.set ((wish q).getD (here.length - 1)) q) w) = _
    cases h : here.getLast? with
    | none => rfl
    | some q => rfl
theorem hist_append (wish : α → Option Nat) : ∀ (u : List (Option α)) (here : List α) (d : Option α), hist wish here (u ++ [d]) = hist wish here u ++ [nextD wish (runD here (hist wish here u)) d]
  | [], here, d => by
    rw [List.nil_append, hist_cons]
    rfl
  | e :: u, here, d => by
    rw [List.cons_append, hist_cons, hist_cons, hist_append wish u]
    rfl
theorem hist_word (wish : α → Option Nat) : ∀ (w : List (Option α)) (here : List α), wordOf (hist wish here w) = w
  | [], _ => rfl
  | d :: w, here => by
    rw [hist_cons]
    show sgn (nextD wish here d) :: wordOf _ = d :: w
    rw [hist_word wish w]
    congr 1
    cases d with
    | some x => rfl
    | none =>
      unfold nextD
      cases here.getLast? <;> rfl
/-- where it stands in e -/
def wishOf (e : List α) (q : α) : Option Nat := if q ∈ e then some (e.idxOf q) else none
theorem wish_some {e : List α} {q : α} {i : Nat} (h : e.Nodup) (hi : e[i]? = some q) : wishOf e q = some i := by
  unfold wishOf
  have hm := List.mem_of_getElem? hi
  rw [if_pos hm]
  obtain ⟨h1, h2⟩ := List.getElem?_eq_some_iff.mp hi
  rw [← h2, h.idxOf_getElem i h1]
theorem wish_get {e : List α} {q : α} {i : Nat} (h : wishOf e q = some i) : e[i]? = some q := by
  unfold wishOf at h
  split at h
  · rename_i hm
    cases h
    rw [List.getElem?_eq_getElem (List.idxOf_lt_length_of_mem hm), List.getElem_idxOf]
  · cases h
theorem wish_none {e : List α} {q : α} (h : wishOf e q = none) : q ∉ e := by
  unfold wishOf at h
  split at h
  · cases h
  · assumption
theorem nd_at {e : List α} (h : e.Nodup) {i j : Nat} {x : α} (a : e[i]? = some x) (b : e[j]? = some x) : i = j := by
  have := (wish_some h a).symm.trans (wish_some h b)
  exact Option.some.inj this

/-- while the told history is gone through -/
structure Hi (e : List α) (ks : Kn α) (n : Nat) (here : List α) : Prop where
  len : here.length = n
  nd : here.Nodup
  names : (ks.map (·.1)).Nodup
  le : ∀ k ∈ ks, k.2.2 ≤ n
  at_ : ∀ (i : Nat) (p : α), here[i]? = some p → ∃ c m, (p, c, m) ∈ ks ∧ ((i = c ∧ c < m) ∨ e[i]? = some p)
  kept : ∀ (q : α) (c m : Nat), (q, c, m) ∈ ks → q ∈ e → q ∈ here
theorem Hi.zero {row : List α} (e : List α) (h : row.Nodup) : Hi e (ks0 row) row.length row := by
  refine ⟨rfl, h, by rw [ks0_names]; exact h, fun k hk => ?_, fun i p hi => ⟨i, row.length, ks0_get hi, .inl ⟨rfl, (List.getElem?_eq_some_iff.mp hi).1⟩⟩, fun q c m hk _ => ?_⟩
  · obtain ⟨p, c, m⟩ := k
    exact Nat.le_of_eq (ks0_of hk).2
  · exact List.mem_of_getElem? (ks0_of hk).1
theorem lower_names (ks : Kn α) (s : Nat) : (ks.map (lower s)).map (·.1) = ks.map (·.1) := by
  rw [List.map_map]
  rfl
theorem Hi.inn {e : List α} {ks : Kn α} {n : Nat} {here : List α} (h : Hi e ks n here) {x : α} (hx : x ∉ ks.map (·.1)) : Hi e (ks.map (lower (n + 1)) ++ [(x, n, n + 1)]) (n + 1) (here ++ [x]) := by
  have hxh : x ∉ here := fun hm => by
    obtain ⟨i, hi⟩ := List.getElem?_of_mem hm
    obtain ⟨c, m, hk, _⟩ := h.at_ i x hi
    exact hx (List.mem_map.mpr ⟨_, hk, rfl⟩)
  refine ⟨by simp [h.len], ?_, ?_, fun k hk => ?_, fun i p hi => ?_, fun q c m hk hq => ?_⟩
  · rw [List.nodup_append]
    refine ⟨h.nd, by simp, fun a ha b hb z => ?_⟩
    have : b = x := by simpa using hb
    exact hxh (by rw [← this, ← z]; exact ha)
  · rw [List.map_append, lower_names, List.nodup_append]
    refine ⟨h.names, by simp, fun a ha b hb z => ?_⟩
    have : b = x := by simpa using hb
    exact hx (by rw [← this, ← z]; exact ha)
  · rcases List.mem_append.mp hk with hk | hk
    · obtain ⟨k', hk', rfl⟩ := List.mem_map.mp hk
      exact Nat.min_le_right _ _
    · have : k = (x, n, n + 1) := by simpa using hk
      rw [this]
      exact Nat.le_refl _
  · by_cases hl : i < here.length
    · rw [List.getElem?_append_left hl] at hi
      obtain ⟨c, m, h1, h2⟩ := h.at_ i p hi
      have hm : m ≤ n := h.le _ h1
      refine ⟨c, min m (n + 1), List.mem_append_left _ (List.mem_map.mpr ⟨_, h1, rfl⟩), ?_⟩
      rcases h2 with ⟨h2, h3⟩ | h2
      · exact .inl ⟨h2, by omega⟩
      · exact .inr h2
    · rw [List.getElem?_append_right (by omega)] at hi
      have hz : i - here.length = 0 := by
        have := (List.getElem?_eq_some_iff.mp hi).1
        simp at this
        omega
      rw [hz] at hi
      have ep : x = p := by simpa using hi
      have : i = n := by have := h.len; omega
      subst this
      subst ep
      exact ⟨i, i + 1, List.mem_append_right _ (by simp), .inl ⟨rfl, by omega⟩⟩
  · rcases List.mem_append.mp hk with hk | hk
    · obtain ⟨k', hk', e2⟩ := List.mem_map.mp hk
      obtain ⟨q', c', m'⟩ := k'
      have e3 : q' = q := congrArg Prod.fst e2
      rw [e3] at hk'
      exact List.mem_append_left _ (h.kept q c' m' hk' hq)
    · have : (q, c, m) = (x, n, n + 1) := by simpa using hk
      cases this
      exact List.mem_append_right _ (by simp)
/-- the last one goes where it is wished; it can -/
theorem Hi.spot {e : List α} {ks : Kn α} {n : Nat} {here : List α} {w : List (Option α)} (h : Hi e ks n here) (he : e.Nodup) (hn : ((fm ks n (none :: w)).map (·.1)).Nodup) (F : Fit ks n (none :: w) e)
    {q : α} (hq : here[n - 1]? = some q) {i : Nat} (hi : wishOf e q = some i) : i < n - 1 := by
  obtain ⟨c, m, hk, _⟩ := h.at_ _ q hq
  obtain ⟨c', M, hf, hm⟩ := F i q (wish_get hi)
  have e1 := kn_inj hn hf (fm_old hk)
  have h1 : lw m n (none :: w) ≤ min m (n - 1) := lw_le w (min m (n - 1)) (n - 1)
  have h2 := may_lt hm
  omega
theorem Hi.out {e : List α} {ks : Kn α} {n : Nat} {here : List α} {w : List (Option α)} (h : Hi e ks n here) (he : e.Nodup) (hn : ((fm ks n (none :: w)).map (·.1)).Nodup) (F : Fit ks n (none :: w) e) (h0 : 0 < n)
    {q : α} (hq : here[n - 1]? = some q) : Hi e (ks.map (lower (n - 1))) (n - 1) (here.dropLast.set ((wishOf e q).getD (n - 1)) q) := by
  have hl := h.len
  have hqe : ∀ i, e[i]? = some q → i < n - 1 := fun i hi => h.spot he hn F hq (wish_some he hi)
  have hdl : here.dropLast.length = n - 1 := by simp [hl]
  have hdg : ∀ i, i < n - 1 → here.dropLast[i]? = here[i]? := fun i hi => by
    rw [List.getElem?_dropLast, if_pos (by omega)]
  have hqd : q ∉ here.dropLast := fun z => by
    obtain ⟨i, hi⟩ := List.getElem?_of_mem z
    have hi2 : i < n - 1 := by
      have := (List.getElem?_eq_some_iff.mp hi).1
      omega
    rw [hdg i hi2] at hi
    have := nd_at h.nd hi hq
    omega
  have hdn : here.dropLast.Nodup := List.Nodup.sublist (List.dropLast_sublist _) h.nd
  refine ⟨by rw [List.length_set, hdl], nodup_set hdn hqd, by rw [lower_names]; exact h.names, fun k hk => ?_, fun i p hi => ?_, fun p c m hk hp => ?_⟩
  · obtain ⟨k', hk', rfl⟩ := List.mem_map.mp hk
    exact Nat.min_le_right _ _
  · have hin : i < n - 1 := by
      have := (List.getElem?_eq_some_iff.mp hi).1
      rw [List.length_set, hdl] at this
      exact this
    rw [List.getElem?_set] at hi
    by_cases es : (wishOf e q).getD (n - 1) = i
    · rw [if_pos es, if_pos (by omega)] at hi
      cases hi
      cases ew : wishOf e q with
      | none =>
        rw [ew] at es
        have : n - 1 = i := es
        omega
      | some j =>
        rw [ew] at es
        have es : j = i := es
        subst es
        obtain ⟨c, m, hk, _⟩ := h.at_ _ q hq
        exact ⟨c, _, List.mem_map.mpr ⟨_, hk, rfl⟩, .inr (wish_get ew)⟩
    · rw [if_neg es, hdg i hin] at hi
      obtain ⟨c, m, hk, h2⟩ := h.at_ i p hi
      refine ⟨c, min m (n - 1), List.mem_map.mpr ⟨_, hk, rfl⟩, ?_⟩
      rcases h2 with ⟨h2, h3⟩ | h2
      · exact .inl ⟨h2, by omega⟩
      · exact .inr h2
  · obtain ⟨k', hk', e2⟩ := List.mem_map.mp hk
    obtain ⟨p', c', m'⟩ := k'
    have e3 : p' = p := congrArg Prod.fst e2
    subst e3
    have hpm := h.kept p' c' m' hk' hp
    obtain ⟨j, hj⟩ := List.getElem?_of_mem hpm
    by_cases epq : p' = q
    · subst epq
      obtain ⟨i, hi⟩ := List.getElem?_of_mem hp
      have := hqe i hi
      rw [wish_some he hi]
      refine List.mem_of_getElem? (i := i) ?_
      show (here.dropLast.set i p')[i]? = some p'
      rw [List.getElem?_set, if_pos rfl, if_pos (by omega)]
    · have hjn : j < n - 1 := by
        have h1 := (List.getElem?_eq_some_iff.mp hj).1
        by_cases ej : j = n - 1
        · rw [ej, hq] at hj
          exact (epq (Option.some.inj hj).symm).elim
        · omega
      by_cases ej : (wishOf e q).getD (n - 1) = j
      · -- who stands there would have to go: it cannot be
        exfalso
        cases ew : wishOf e q with
        | none =>
          rw [ew] at ej
          have : n - 1 = j := ej
          omega
        | some jj =>
          rw [ew] at ej
          have ej : jj = j := ej
          subst ej
          have hej := wish_get ew
          obtain ⟨c2, m2, hk2, h2⟩ := h.at_ jj p' hj
          obtain ⟨rfl, rfl⟩ := kn_inj h.names hk' hk2
          rcases h2 with ⟨h2, h3⟩ | h2
          · obtain ⟨i, hi⟩ := List.getElem?_of_mem hp
            obtain ⟨c4, M4, hf4, hm4⟩ := F i p' hi
            obtain ⟨rfl, rfl⟩ := kn_inj hn hf4 (fm_old hk')
            obtain ⟨c5, m5, hk5, h5⟩ := h.at_ _ q hq
            obtain ⟨c6, M6, hf6, hm6⟩ := F jj q hej
            obtain ⟨rfl, rfl⟩ := kn_inj hn hf6 (fm_old hk5)
            have l1 := lw_min (none :: w) m5 m' n
            have l2 := may_lt hm6
            have l3 : c4 < lw m' n (none :: w) := by omega
            have l4 := may_own hm4 l3
            rw [l4, ← h2, hej] at hi
            exact epq (Option.some.inj hi).symm
          · rw [hej] at h2
            exact epq (Option.some.inj h2).symm
      · refine List.mem_of_getElem? (i := j) ?_
        rw [List.getElem?_set, if_neg ej, hdg j hjn]
        exact hj
theorem fit_inn {e : List α} {ks : Kn α} {n : Nat} {x : α} {w : List (Option α)} (F : Fit ks n (some x :: w) e) : Fit (ks.map (lower (n + 1)) ++ [(x, n, n + 1)]) (n + 1) w e := F
theorem fit_out {e : List α} {ks : Kn α} {n : Nat} {w : List (Option α)} (F : Fit ks n (none :: w) e) : Fit (ks.map (lower (n - 1))) (n - 1) w e := F
theorem Hi.last {e : List α} {ks : Kn α} {n : Nat} {here : List α} (h : Hi e ks n here) (h0 : 0 < n) : ∃ q, here.getLast? = some q ∧ here[n - 1]? = some q := by
  have hl := h.len
  have hlt : here.length - 1 < here.length := by omega
  refine ⟨here[here.length - 1], ?_, ?_⟩
  · rw [List.getLast?_eq_getElem?, List.getElem?_eq_getElem hlt]
  · have : n - 1 = here.length - 1 := by omega
    rw [this, List.getElem?_eq_getElem hlt]
theorem Hi.done {e : List α} {ks : Kn α} {n : Nat} {here : List α} (h : Hi e ks n here) (he : e.Nodup) (F : Fit ks n [] e) (hl : e.length = n) : here = e := by
  refine List.ext_getElem? fun i => ?_
  by_cases hi : i < n
  · have hie : i < e.length := by omega
    have e1 : e[i]? = some e[i] := List.getElem?_eq_getElem hie
    obtain ⟨c, m, hk, hm⟩ := F i _ e1
    have hk : (e[i], c, m) ∈ ks := hk
    obtain ⟨j, hj⟩ := List.getElem?_of_mem (h.kept _ c m hk (List.getElem_mem hie))
    obtain ⟨c', m', hk', h2⟩ := h.at_ j _ hj
    obtain ⟨rfl, rfl⟩ := kn_inj h.names hk hk'
    have : j = i := by
      rcases h2 with ⟨h2, h3⟩ | h2
      · have := may_own hm h3
        omega
      · exact nd_at he h2 e1
    rw [this] at hj
    rw [hj, e1]
  · have := h.len
    rw [List.getElem?_eq_none (by omega), List.getElem?_eq_none (by omega)]
/-- all of the told history at once: it is right, has the word, comes to e; at every moment each stands where it came to, or where it is wished -/
structure Told (e : List α) (ks : Kn α) (n : Nat) (w : List (Option α)) (here seen : List α) (hs : List (Deed α)) : Prop where
  ok : Okd seen n hs
  word : wordOf hs = w
  run : runD here hs = e
  rows : ∀ r ∈ rowsL here hs, ∀ (i : Nat) (p : α), r[i]? = some p → ∃ c M, (p, c, M) ∈ fm ks n w ∧ (i = c ∨ e[i]? = some p)
theorem told : ∀ {w : List (Option α)} {e : List α} {ks : Kn α} {n : Nat} {here seen : List α}, e.Nodup → Hi e ks n here → (∀ x ∈ ks.map (·.1), x ∈ seen) → Okw seen n w → ((fm ks n w).map (·.1)).Nodup → Fit ks n w e → e.length = szAt n w →
    Told e ks n w here seen (hist (wishOf e) here w)
  | [], e, ks, n, here, seen, he, h, hs, o, hn, F, hl => by
    refine ⟨trivial, rfl, h.done he F hl, fun r hr i p hi => ?_⟩
    have : r = here := by simpa [rowsL, hist] using hr
    subst this
    obtain ⟨c, m, hk, h2⟩ := h.at_ i p hi
    exact ⟨c, m, hk, h2.elim (fun z => .inl z.1) .inr⟩
  | some x :: w, e, ks, n, here, seen, he, h, hs, o, hn, F, hl => by
    have hx : x ∉ ks.map (·.1) := fun z => o.1 (hs x z)
    have T := told (w := w) (seen := seen ++ [x]) he (h.inn hx) (fun y hy => by
      rw [List.map_append, lower_names] at hy
      rcases List.mem_append.mp hy with hy | hy
      · exact List.mem_append_left _ (hs y hy)
      · exact List.mem_append_right _ hy) o.2 hn (fit_inn F) hl
    refine ⟨⟨o.1, T.ok⟩, ?_, T.run, fun r hr i p hi => ?_⟩
    · show some x :: wordOf (hist (wishOf e) (here ++ [x]) w) = some x :: w
      rw [T.word]
    · have hr : r = here ∨ r ∈ rowsL (here ++ [x]) (hist (wishOf e) (here ++ [x]) w) := List.mem_cons.mp hr
      rcases hr with rfl | hr
      · obtain ⟨c, m, hk, h2⟩ := h.at_ i p hi
        exact ⟨c, _, fm_old hk, h2.elim (fun z => .inl z.1) .inr⟩
      · exact T.rows r hr i p hi
  | none :: w, e, ks, n, here, seen, he, h, hs, o, hn, F, hl => by
    obtain ⟨q, hq1, hq⟩ := h.last o.1
    have hlen := h.len
    have T := told (w := w) (seen := seen) he (h.out he hn F o.1 hq) (fun y hy => by
      rw [lower_names] at hy
      exact hs y hy) o.2 hn (fit_out F) hl
    have eh : hist (wishOf e) here (none :: w) = Deed.out ((wishOf e q).getD (n - 1)) :: hist (wishOf e) (here.dropLast.set ((wishOf e q).getD (n - 1)) q) w := by
      show (match here.getLast? with
        | none => Deed.out 0 :: hist (wishOf e) [] w
        | some q => Deed.out ((wishOf e q).getD (here.length - 1)) :: hist (wishOf e) (here.dropLast.set ((wishOf e q).getD (here.length - 1)) q) w) = _
      rw [hq1, hlen]
    have es : stepD here (Deed.out ((wishOf e q).getD (n - 1))) = here.dropLast.set ((wishOf e q).getD (n - 1)) q := by
      show goOut here _ = _
      unfold goOut
      rw [hq1]
    rw [eh]
    refine ⟨⟨?_, T.ok⟩, ?_, ?_, fun r hr i p hi => ?_⟩
    · cases ew : wishOf e q with
      | none =>
        show n - 1 < n
        have := o.1
        omega
      | some j =>
        have := h.spot he hn F hq ew
        show j < n
        omega
    · show none :: wordOf _ = none :: w
      rw [T.word]
    · show runD (stepD here _) _ = e
      rw [es]
      exact T.run
    · have hr : r = here ∨ r ∈ rowsL (stepD here (.out ((wishOf e q).getD (n - 1)))) (hist (wishOf e) (here.dropLast.set ((wishOf e q).getD (n - 1)) q) w) := List.mem_cons.mp hr
      rcases hr with rfl | hr
      · obtain ⟨c, m, hk, h2⟩ := h.at_ i p hi
        exact ⟨c, _, fm_old hk, h2.elim (fun z => .inl z.1) .inr⟩
      · rw [es] at hr
        exact T.rows r hr i p hi
/-- .. from the beginning -/
theorem told_all {row e : List α} {w : List (Option α)} (hr : row.Nodup) (he : e.Nodup) (o : Okw row row.length w) (F : Fit (ks0 row) row.length w e) (hl : e.length = szAt row.length w) :
    Told e (ks0 row) row.length w row row (hist (wishOf e) row w) :=
  told he (Hi.zero e hr) (fun x hx => by rw [ks0_names] at hx; exact hx) o (fm_nodup hr o) F hl

/-! ### moments -/
theorem rows_last : ∀ (ds : List (Deed α)) (r : List α), runD r ds ∈ rowsL r ds
  | [], r => by simp [runD, rowsL]
  | d :: ds, r => List.mem_cons_of_mem _ (rows_last ds (stepD r d))
/-- who is known stands, at some moment, where it came to -/
theorem came : ∀ {ds : List (Deed α)} {ks : Kn α} {n : Nat} {row : List α} {p : α} {c M : Nat}, row.length = n → (p, c, M) ∈ fm ks n (wordOf ds) → (∃ m, (p, c, m) ∈ ks) ∨ ∃ r ∈ rowsL row ds, r[c]? = some p
  | [], ks, n, row, p, c, M, _, h => .inl ⟨M, h⟩
  | .inn x :: ds, ks, n, row, p, c, M, hl, h => by
    have h : (p, c, M) ∈ fm (ks.map (lower (n + 1)) ++ [(x, n, n + 1)]) (n + 1) (wordOf ds) := h
    rcases came (ds := ds) (row := row ++ [x]) (by simp [hl]) h with ⟨m, hk⟩ | ⟨r, hr, e⟩
    · rcases List.mem_append.mp hk with hk | hk
      · obtain ⟨⟨p', c', m'⟩, hk', e2⟩ := List.mem_map.mp hk
        cases e2
        exact .inl ⟨m', hk'⟩
      · have : (p, c, m) = (x, n, n + 1) := by simpa using hk
        cases this
        refine .inr ⟨row ++ [x], List.mem_cons_of_mem _ ?_, ?_⟩
        · show row ++ [x] ∈ rowsL (row ++ [x]) ds
          cases ds <;> simp [rowsL]
        · rw [List.getElem?_append_right (by omega)]
          simp [hl]
    · exact .inr ⟨r, List.mem_cons_of_mem _ hr, e⟩
  | .out q :: ds, ks, n, row, p, c, M, hl, h => by
    have h : (p, c, M) ∈ fm (ks.map (lower (n - 1))) (n - 1) (wordOf ds) := h
    rcases came (ds := ds) (row := goOut row q) (by rw [goOut_len, hl]) h with ⟨m, hk⟩ | ⟨r, hr, e⟩
    · obtain ⟨⟨p', c', m'⟩, hk', e2⟩ := List.mem_map.mp hk
      cases e2
      exact .inl ⟨m', hk'⟩
    · exact .inr ⟨r, List.mem_cons_of_mem _ hr, e⟩
theorem came_all {ds : List (Deed α)} {row : List α} {p : α} {c M : Nat} (h : (p, c, M) ∈ fm (ks0 row) row.length (wordOf ds)) : ∃ r ∈ rowsL row ds, r[c]? = some p := by
  rcases came rfl h with ⟨m, hk⟩ | z
  · refine ⟨row, ?_, (ks0_of hk).1⟩
    cases ds <;> simp [rowsL]
  · exact z
end Lf

/-! More plain law: prefixes of deeds and words, marks as the program tells them, spots. -/
namespace Lf
variable {α : Type} [DecidableEq α]
theorem runD_append : ∀ (u ds : List (Deed α)) (r : List α), runD r (u ++ ds) = runD (runD r u) ds
  | [], _, _ => rfl
  | d :: u, ds, r => runD_append u ds (stepD r d)
theorem take_snoc {β : Type} {l : List β} {i : Nat} {d : β} (h : l[i]? = some d) : l.take (i + 1) = l.take i ++ [d] := by
  rw [List.take_add_one, h]
  rfl
theorem runD_take {ds : List (Deed α)} {r : List α} {i : Nat} {d : Deed α} (h : ds[i]? = some d) : runD r (ds.take (i + 1)) = stepD (runD r (ds.take i)) d := by
  rw [take_snoc h, runD_append]
  rfl
theorem rowsL_append : ∀ (u : List (Deed α)) (d : Deed α) (r : List α), rowsL r (u ++ [d]) = rowsL r u ++ [runD r (u ++ [d])]
  | [], d, r => rfl
  | e :: u, d, r => by
    show r :: rowsL (stepD r e) (u ++ [d]) = r :: (rowsL (stepD r e) u ++ [runD (stepD r e) (u ++ [d])])
    rw [rowsL_append u d]
theorem rowsL_take {ds : List (Deed α)} {r : List α} {i : Nat} {d : Deed α} (h : ds[i]? = some d) : rowsL r (ds.take (i + 1)) = rowsL r (ds.take i) ++ [stepD (runD r (ds.take i)) d] := by
  rw [take_snoc h, rowsL_append, runD_append]
  rfl
theorem rowsL_len : ∀ (ds : List (Deed α)) (r : List α), (rowsL r ds).length = ds.length + 1
  | [], _ => rfl
  | d :: ds, r => congrArg Nat.succ (rowsL_len ds (stepD r d))
theorem stepD_len (r : List α) (d : Deed α) : (stepD r d).length ≤ r.length + 1 := by
  cases d with
  | inn x => simp [stepD]
  | out p =>
    show (goOut r p).length ≤ _
    rw [goOut_len]
    omega
theorem runD_le : ∀ (ds : List (Deed α)) (r : List α), (runD r ds).length ≤ r.length + ds.length
  | [], r => Nat.le_refl _
  | d :: ds, r => by
    show (runD (stepD r d) ds).length ≤ _
    have h1 := runD_le ds (stepD r d)
    have h2 := stepD_len r d
    simp only [List.length_cons]
    omega
theorem rows_le : ∀ (ds : List (Deed α)) (r : List α) (x : List α), x ∈ rowsL r ds → x.length ≤ r.length + ds.length
  | [], r, x, h => by
    have : x = r := by simpa [rowsL] using h
    rw [this]
    exact Nat.le_refl _
  | d :: ds, r, x, h => by
    rcases List.mem_cons.mp h with h | h
    · rw [h]
      omega
    · have h1 := rows_le ds (stepD r d) x h
      have h2 := stepD_len r d
      simp only [List.length_cons]
      omega
/-- a deed is right where it stands -/
theorem okd_at : ∀ {ds : List (Deed α)} {seen row : List α} {n i : Nat} {d : Deed α}, Okd seen n ds → row.length = n → (∀ x ∈ row, x ∈ seen) → ds[i]? = some d →
    (∀ x, d = .inn x → x ∉ runD row (ds.take i)) ∧ ∀ p, d = .out p → p < (runD row (ds.take i)).length
  | [], _, _, _, _, _, _, _, _, h => by simp at h
  | .inn x :: ds, seen, row, n, 0, d, o, hl, hs, h => by
    have : Deed.inn x = d := by simpa using h
    subst this
    exact ⟨fun y e hy => by injection e with e1; rw [← e1] at hy; exact o.1 (hs x hy), fun p e => by cases e⟩
  | .out q :: ds, seen, row, n, 0, d, o, hl, hs, h => by
    have : Deed.out q = d := by simpa using h
    subst this
    exact ⟨fun y e => (by cases e), fun p e => by injection e with e1; rw [← e1]; show q < row.length; rw [hl]; exact o.1⟩
  | .inn x :: ds, seen, row, n, i + 1, d, o, hl, hs, h => by
    refine okd_at (ds := ds) (seen := seen ++ [x]) (row := row ++ [x]) (n := n + 1) o.2 (by simp [hl]) (fun y hy => ?_) (by simpa using h)
    rcases List.mem_append.mp hy with hy | hy
    · exact List.mem_append_left _ (hs y hy)
    · exact List.mem_append_right _ hy
  | .out q :: ds, seen, row, n, i + 1, d, o, hl, hs, h =>
    okd_at (ds := ds) (seen := seen) (row := goOut row q) (n := n - 1) o.2 (by rw [goOut_len, hl]) (fun y hy => hs y (goOut_sub hy)) (by simpa using h)
theorem idx_le : ∀ {xs : List α} {m : Nat} {x : α}, xs[m]? = some x → xs.idxOf x ≤ m
  | [], _, _, h => by simp at h
  | a :: r, 0, x, h => by
    have : a = x := by simpa using h
    rw [this, List.idxOf_cons_self]
    exact Nat.le_refl 0
  | a :: r, m + 1, x, h => by
    rw [List.idxOf_cons]
    cases a == x with
    | true => exact Nat.zero_le _
    | false =>
      have := idx_le (xs := r) (m := m) (x := x) (by simpa using h)
      show r.idxOf x + 1 ≤ m + 1
      omega
/-! ### words -/
theorem wsz_len (n : Nat) (w : List (Option α)) : (wsz n w).length = w.length + 1 := by simp [wsz]
theorem wsz_get {n i : Nat} {w : List (Option α)} (h : i ≤ w.length) : (wsz n w)[i]? = some (szAt n (w.take i)) := by
  unfold wsz
  rw [List.getElem?_map, List.getElem?_range (by omega)]
  rfl
def stepN (n : Nat) : Option α → Nat
  | some _ => n + 1
  | none => n - 1
theorem szAt_take {w : List (Option α)} {n i : Nat} {d : Option α} (h : w[i]? = some d) : szAt n (w.take (i + 1)) = stepN (szAt n (w.take i)) d := by
  rw [take_snoc h, szAt_append]
  cases d <;> rfl
theorem wsz_take {w : List (Option α)} {n i : Nat} {d : Option α} (h : w[i]? = some d) : wsz n (w.take (i + 1)) = wsz n (w.take i) ++ [stepN (szAt n (w.take i)) d] := by
  have hi := (List.getElem?_eq_some_iff.mp h).1
  have e1 : (w.take i).length = i := by simp; omega
  have e2 : (w.take (i + 1)).length = i + 1 := by simp; omega
  unfold wsz
  rw [e1, e2, List.range_succ (n := i + 1), List.map_append]
  have e3 : (List.range (i + 1)).map (fun j => szAt n ((w.take (i + 1)).take j)) = (List.range (i + 1)).map fun j => szAt n ((w.take i).take j) := by
    refine List.map_congr_left fun j hj => ?_
    have : j < i + 1 := List.mem_range.mp hj
    rw [List.take_take, List.take_take, Nat.min_eq_left (by omega), Nat.min_eq_left (by omega)]
  rw [e3]
  show _ ++ [szAt n ((w.take (i + 1)).take (i + 1))] = _
  rw [List.take_take, Nat.min_self, szAt_take h]
/-- what a word's deed asks where it stands; people: all who came so far -/
def peop (row : List α) (w : List (Option α)) : List α := row ++ comers w
theorem okw_at : ∀ {w : List (Option α)} {seen : List α} {n i : Nat} {d : Option α}, Okw seen n w → w[i]? = some d →
    (∀ x, d = some x → x ∉ seen ++ comers (w.take i)) ∧ (d = none → 0 < szAt n (w.take i))
  | [], _, _, _, _, _, h => by simp at h
  | some x :: w, seen, n, 0, d, o, h => by
    have : some x = d := by simpa using h
    subst this
    exact ⟨fun y e => by cases e; simpa [comers] using o.1, fun e => by cases e⟩
  | none :: w, seen, n, 0, d, o, h => by
    have : none = d := by simpa using h
    subst this
    exact ⟨fun y e => (by cases e), fun _ => o.1⟩
  | some x :: w, seen, n, i + 1, d, o, h => by
    have z := okw_at (i := i) (d := d) o.2 (by simpa using h)
    refine ⟨fun y e hy => z.1 y e ?_, z.2⟩
    simpa [comers] using hy
  | none :: w, seen, n, i + 1, d, o, h => by
    have z := okw_at (i := i) (d := d) o.2 (by simpa using h)
    refine ⟨fun y e hy => z.1 y e ?_, z.2⟩
    simpa [comers] using hy
theorem comers_take {w : List (Option α)} {i : Nat} {d : Option α} (h : w[i]? = some d) : comers (w.take (i + 1)) = comers (w.take i) ++ (match d with
    | some x => [x]
    | none => []) := by
  rw [take_snoc h]
  unfold comers
  rw [List.filterMap_append]
  cases d <;> rfl
theorem comers_le (w : List (Option α)) : (comers w).length ≤ w.length := List.length_filterMap_le ..
theorem szAt_le : ∀ (w : List (Option α)) (n : Nat), szAt n w ≤ n + w.length
  | [], n => Nat.le_refl _
  | some _ :: w, n => by
    have := szAt_le w (n + 1)
    show szAt (n + 1) w ≤ _
    simp only [List.length_cons]
    omega
  | none :: w, n => by
    have := szAt_le w (n - 1)
    show szAt (n - 1) w ≤ _
    simp only [List.length_cons]
    omega
end Lf

/-! Marks as the program reckons them: the least size from each moment on. -/
namespace Lf
variable {α : Type} [DecidableEq α]
def sufmin : List Nat → List Nat
  | [] => []
  | a :: r => match sufmin r with
    | [] => [a]
    | b :: t => min a b :: b :: t
theorem sufmin_len : ∀ xs : List Nat, (sufmin xs).length = xs.length
  | [] => rfl
  | a :: r => by
    have ih := sufmin_len r
    unfold sufmin
    cases e : sufmin r with
    | nil =>
      rw [e] at ih
      show 1 = r.length + 1
      rw [← ih]
      rfl
    | cons b t =>
      rw [e] at ih
      show t.length + 1 + 1 = r.length + 1
      rw [← ih]
      rfl
theorem sufmin_cons {a b : Nat} {r t : List Nat} (h : sufmin r = b :: t) : sufmin (a :: r) = min a b :: b :: t := by
  show (match sufmin r with
    | [] => [a]
    | b :: t => min a b :: b :: t) = _
  rw [h]
theorem sufmin_step : ∀ (xs : List Nat) (k a b : Nat), xs[k]? = some a → (sufmin xs)[k + 1]? = some b → (sufmin xs)[k]? = some (min a b)
  | [], k, a, b, h, _ => by simp at h
  | x :: r, k, a, b, h, h2 => by
    cases e : sufmin r with
    | nil =>
      have : r.length = 0 := by rw [← sufmin_len r, e]; rfl
      have h3 := (List.getElem?_eq_some_iff.mp h2).1
      rw [sufmin_len] at h3
      simp [this] at h3
    | cons c t =>
      rw [sufmin_cons e] at h2 ⊢
      cases k with
      | zero =>
        have e1 : x = a := by simpa using h
        have e2 : c = b := by simpa using h2
        rw [e1, e2]
        rfl
      | succ k =>
        have h1 : r[k]? = some a := by simpa using h
        have h2 : (sufmin r)[k + 1]? = some b := by rw [e]; simpa using h2
        have := sufmin_step r k a b h1 h2
        rw [e] at this
        simpa using this
theorem sufmin_last : ∀ (xs : List Nat), (sufmin xs)[xs.length - 1]? = xs[xs.length - 1]?
  | [] => rfl
  | [a] => rfl
  | a :: b :: r => by
    have ih := sufmin_last (b :: r)
    cases e : sufmin (b :: r) with
    | nil =>
      have := sufmin_len (b :: r)
      rw [e] at this
      simp at this
    | cons c t =>
      rw [sufmin_cons e]
      rw [e] at ih
      simpa using ih
theorem set_back {xs S : List Nat} {k v : Nat} (hk : k < xs.length) (hl : S.length = xs.length) (hv : S[k]? = some v) : (xs.take (k + 1) ++ S.drop (k + 1)).set k v = xs.take k ++ S.drop k := by
  have e1 : (xs.take k).length = k := by simp; omega
  have e2 : xs.take (k + 1) = xs.take k ++ [xs[k]] := take_snoc (List.getElem?_eq_getElem hk)
  have e3 : S.drop k = v :: S.drop (k + 1) := by
    obtain ⟨h1, h2⟩ := List.getElem?_eq_some_iff.mp hv
    rw [List.drop_eq_getElem_cons h1, h2]
  rw [e2, e3, List.append_assoc]
  rw [List.set_append_right k v (by omega), e1, Nat.sub_self]
  rfl
/-! ### the marks -/
theorem wsz_cons_some (n : Nat) (x : α) (w : List (Option α)) : wsz n (some x :: w) = n :: wsz (n + 1) w := by
  unfold wsz
  rw [show (some x :: w).length + 1 = (w.length + 1) + 1 from rfl, List.range_succ_eq_map, List.map_cons, List.map_map]
  rfl
theorem wsz_cons_none (n : Nat) (w : List (Option α)) : wsz n (none :: w) = n :: wsz (n - 1) w := by
  unfold wsz
  rw [show (none :: w).length + 1 = (w.length + 1) + 1 from rfl, List.range_succ_eq_map, List.map_cons, List.map_map]
  rfl
def lows (n : Nat) (w : List (Option α)) : List Nat := sufmin (wsz n w)
def low0 (n : Nat) (w : List (Option α)) : Nat := (lows n w).getD 0 0
theorem lows_len (n : Nat) (w : List (Option α)) : (lows n w).length = w.length + 1 := by rw [lows, sufmin_len, wsz_len]
theorem lows_cons_some (n : Nat) (x : α) (w : List (Option α)) : lows n (some x :: w) = min n (low0 (n + 1) w) :: lows (n + 1) w := by
  unfold lows
  rw [wsz_cons_some]
  cases e : sufmin (wsz (n + 1) w) with
  | nil =>
    have := lows_len (n + 1) w
    rw [lows, e] at this
    simp at this
  | cons b t =>
    rw [sufmin_cons e]
    have : low0 (n + 1) w = b := by rw [low0, lows, e]; rfl
    rw [this]
theorem lows_cons_none (n : Nat) (w : List (Option α)) : lows n (none :: w) = min n (low0 (n - 1) w) :: lows (n - 1) w := by
  unfold lows
  rw [wsz_cons_none]
  cases e : sufmin (wsz (n - 1) w) with
  | nil =>
    have := lows_len (n - 1) w
    rw [lows, e] at this
    simp at this
  | cons b t =>
    rw [sufmin_cons e]
    have : low0 (n - 1) w = b := by rw [low0, lows, e]; rfl
    rw [this]
theorem low0_le : ∀ (w : List (Option α)) (n : Nat), low0 n w ≤ n
  | [], n => Nat.le_refl n
  | some x :: w, n => by
    rw [low0, lows_cons_some]
    exact Nat.min_le_left _ _
  | none :: w, n => by
    rw [low0, lows_cons_none]
    exact Nat.min_le_left _ _
/-- those who come by the first i deeds, as the loop writes them -/
def comL (w : List (Option α)) (ns ls : List Nat) : Nat → Kn α
  | 0 => []
  | i + 1 => comL w ns ls i ++ (match w[i]? with
    | some (some x) => [(x, ns.getD i 0, ls.getD (i + 1) 0)]
    | _ => [])
theorem comL_some {w : List (Option α)} {ns ls : List Nat} {i : Nat} {x : α} (h : w[i]? = some (some x)) : comL w ns ls (i + 1) = comL w ns ls i ++ [(x, ns.getD i 0, ls.getD (i + 1) 0)] := by
  rw [comL, h]
theorem comL_none {w : List (Option α)} {ns ls : List Nat} {i : Nat} (h : w[i]? = some none) : comL w ns ls (i + 1) = comL w ns ls i := by
  rw [comL, h, List.append_nil]
theorem comL_cons (d : Option α) (w : List (Option α)) (n l : Nat) (ns ls : List Nat) : ∀ i, comL (d :: w) (n :: ns) (l :: ls) (i + 1) = (match d with
    | some x => [(x, n, ls.getD 0 0)]
    | none => []) ++ comL w ns ls i
  | 0 => by cases d <;> rfl
  | i + 1 => by
    have ih := comL_cons d w n l ns ls i
    show comL (d :: w) (n :: ns) (l :: ls) (i + 1) ++ _ = _ ++ (comL w ns ls i ++ _)
    rw [ih, List.append_assoc]
    rfl
theorem fm_is : ∀ (w : List (Option α)) (ks : Kn α) (n : Nat), (∀ k ∈ ks, k.2.2 ≤ n) → fm ks n w = (ks.map fun k => (k.1, k.2.1, min k.2.2 (low0 n w))) ++ comL w (wsz n w) (lows n w) w.length
  | [], ks, n, h => by
    show ks = (ks.map fun k => (k.1, k.2.1, min k.2.2 n)) ++ []
    rw [List.append_nil]
    refine (List.map_id' ks).symm.trans (List.map_congr_left fun k hk => ?_)
    have := h k hk
    rw [Nat.min_eq_left this]
  | some x :: w, ks, n, h => by
    show fm (ks.map (lower (n + 1)) ++ [(x, n, n + 1)]) (n + 1) w = _
    have hl := low0_le w (n + 1)
    rw [fm_is w _ (n + 1) fun k hk => ?_]
    · rw [wsz_cons_some, lows_cons_some, List.length_cons, comL_cons, List.map_append, List.map_map, List.append_assoc, ← List.append_assoc]
      have e1 : (ks.map ((fun k => (k.1, k.2.1, min k.2.2 (low0 (n + 1) w))) ∘ lower (n + 1))) = ks.map fun k => (k.1, k.2.1, min k.2.2 (low0 n (some x :: w))) := by
        refine List.map_congr_left fun k hk => ?_
        have h1 := h k hk
        have h2 : low0 n (some x :: w) = min n (low0 (n + 1) w) := by rw [low0, lows_cons_some]; rfl
        show (k.1, k.2.1, min (min k.2.2 (n + 1)) (low0 (n + 1) w)) = _
        rw [h2]
        have : min (min k.2.2 (n + 1)) (low0 (n + 1) w) = min k.2.2 (min n (low0 (n + 1) w)) := by omega
        rw [this]
      rw [e1]
      have e2 : ([(x, n, n + 1)].map fun k : α × Nat × Nat => (k.1, k.2.1, min k.2.2 (low0 (n + 1) w))) = [(x, n, (lows (n + 1) w).getD 0 0)] := by
        show [(x, n, min (n + 1) (low0 (n + 1) w))] = _
        rw [Nat.min_eq_right hl]
        rfl
      rw [e2, List.append_assoc]
    · rcases List.mem_append.mp hk with hk | hk
      · obtain ⟨k', _, rfl⟩ := List.mem_map.mp hk
        exact Nat.min_le_right _ _
      · have : k = (x, n, n + 1) := by simpa using hk
        rw [this]
        exact Nat.le_refl _
  | none :: w, ks, n, h => by
    show fm (ks.map (lower (n - 1))) (n - 1) w = _
    have hl := low0_le w (n - 1)
    rw [fm_is w _ (n - 1) fun k hk => ?_]
    · rw [wsz_cons_none, lows_cons_none, List.length_cons, comL_cons, List.map_map]
      have e1 : (ks.map ((fun k => (k.1, k.2.1, min k.2.2 (low0 (n - 1) w))) ∘ lower (n - 1))) = ks.map fun k => (k.1, k.2.1, min k.2.2 (low0 n (none :: w))) := by
        refine List.map_congr_left fun k hk => ?_
        have h1 := h k hk
        have h2 : low0 n (none :: w) = min n (low0 (n - 1) w) := by rw [low0, lows_cons_none]; rfl
        show (k.1, k.2.1, min (min k.2.2 (n - 1)) (low0 (n - 1) w)) = _
        rw [h2]
        have : min (min k.2.2 (n - 1)) (low0 (n - 1) w) = min k.2.2 (min n (low0 (n - 1) w)) := by omega
        rw [this]
      rw [e1]
      rfl
    · obtain ⟨k', _, rfl⟩ := List.mem_map.mp hk
      exact Nat.min_le_right _ _
theorem marks_is (row : List α) (w : List (Option α)) : fm (ks0 row) row.length w = (row.zipIdx.map fun z => (z.1, z.2, low0 row.length w)) ++ comL w (wsz row.length w) (lows row.length w) w.length := by
  rw [fm_is w _ _ fun k hk => ?_]
  · congr 1
    unfold ks0
    rw [List.map_map]
    refine List.map_congr_left fun z _ => ?_
    show (z.1, z.2, min row.length (low0 row.length w)) = _
    rw [Nat.min_eq_right (low0_le w _)]
  · obtain ⟨p, c, m⟩ := k
    exact Nat.le_of_eq (ks0_of hk).2
theorem fm_len (w : List (Option α)) (ks : Kn α) (n : Nat) : (fm ks n w).length = ks.length + (comers w).length := by
  have h := congrArg List.length (fm_names w ks n)
  simpa using h
theorem lookup_of : ∀ {ks : Kn α} {p : α} {c m : Nat}, (ks.map (·.1)).Nodup → (p, c, m) ∈ ks → ks.lookup p = some (c, m)
  | [], _, _, _, _, h => by cases h
  | (q, c', m') :: ks, p, c, m, hn, h => by
    have hn : (q :: ks.map (·.1)).Nodup := hn
    rw [List.nodup_cons] at hn
    rw [List.lookup_cons]
    rcases List.mem_cons.mp h with h | h
    · cases h
      rw [beq_self_eq_true]
    · have hne : (p == q) = false := beq_eq_false_iff_ne.mpr fun e => hn.1 (by rw [← e]; exact List.mem_map.mpr ⟨_, h, rfl⟩)
      rw [hne]
      exact lookup_of hn.2 h
end Lf

/-! What each def promises. -/
namespace K60
open PySem PySem.Spec PyProof.Rows L2 Lf

abbrev Dd := Deed Str
abbrev Wd := List (Option Str)

/-! ### data on the heap -/
def vS (xs : List Str) : List V := xs.map V.str
def dV : Dd → List V
  | .inn x => [.str "in", .str x]
  | .out p => [.str "out", .int p]
def wV : Option Str → List V
  | some x => [.str "in", .str x]
  | none => [.str "out"]
def mV (k : Str × Nat × Nat) : List V := [.str k.1, .int k.2.1, .int k.2.2]
def isInn : Dd → Bool
  | .inn _ => true
  | .out _ => false
/-- xs are tuples of these rows -/
def Tups (H : Hp) (xs : List V) (rs : List (List V)) : Prop := xs.length = rs.length ∧ ∀ (i : Nat) (x : V), xs[i]? = some x → ∃ (a : Addr) (r : List V), x = V.ref a ∧ rs[i]? = some r ∧ H a = some (.tup r)
def TupsAt (H : Hp) (l : Addr) (rs : List (List V)) : Prop := ∃ xs, H l = some (.lst xs) ∧ Tups H xs rs
/-- xs are lists of these rows -/
def Lsts (H : Hp) (xs : List V) (rs : List (List V)) : Prop := xs.length = rs.length ∧ ∀ (i : Nat) (x : V), xs[i]? = some x → ∃ (a : Addr) (r : List V), x = V.ref a ∧ rs[i]? = some r ∧ H a = some (.lst r)
def LstsAt (H : Hp) (l : Addr) (rs : List (List V)) : Prop := ∃ xs, H l = some (.lst xs) ∧ Lsts H xs rs
abbrev DeedsAt (H : Hp) (l : Addr) (ds : List Dd) : Prop := TupsAt H l (ds.map dV)
abbrev WordAt (H : Hp) (l : Addr) (w : Wd) : Prop := TupsAt H l (w.map wV)
abbrev MarksAt (H : Hp) (l : Addr) (ks : Kn Str) : Prop := TupsAt H l (ks.map mV)
/-- a dict of places and marks -/
def KnAt (H : Hp) (d : Addr) (ks : Kn Str) : Prop := ∃ kvs : List (Key × V), H d = some (.dK kvs) ∧ ∀ p c m, (p, c, m) ∈ ks → ∃ t : Addr, valV kvs (Sum.inr p) = some (V.ref t) ∧ H t = some (.tup [.int (c : Nat), .int (m : Nat)])
/-- a dict of lists of numbers -/
def SpAt (H : Hp) (d : Addr) (sp : List (Str × List Nat)) : Prop := ∃ kvs : List (Key × V), H d = some (.dK kvs) ∧ kvs.length = sp.length ∧
  ∀ (i : Nat) (kv : Key × V), kvs[i]? = some kv → ∃ (p : Str) (L : List Nat) (a : Addr), sp[i]? = some (p, L) ∧ kv = (Sum.inr p, V.ref a) ∧ H a = some (.lst (L.map fun n => .int (n : Nat)))
def alpha : Str := "abcdefghijklmnopqrstuvwxyz"
def OkName (x : Str) : Prop := 1 ≤ x.length ∧ x.length ≤ 4 ∧ ∀ c ∈ x.cps.toList, c ∈ alpha.cps.toList
def OkNames (xs : List Str) : Prop := ∀ x ∈ xs, OkName x
def Small {α : Type} (xs : List α) : Prop := xs.length ≤ 1000
/-- a row, a tuple -/
structure RowAt (K : PySem.W.Frag) (H : Hp) (a : Addr) (xs : List Str) : Prop where
  at_ : SqT K H a (vS xs)
  nd : xs.Nodup
  ok : OkNames xs
  small : Small xs
/-- the bag of digits -/
def BagAt (H : Hp) (l : Addr) (n : Nat) : Prop := ∃ a b c : Int, H l = some (.lst [.int a, .int b, .int c]) ∧ 0 ≤ a ∧ (0 ≤ b ∧ b < 2 ^ 110) ∧ 0 ≤ c ∧ c ≤ n
/-- all but l is as it was -/
def ExB (l : Addr) (H H' : Hp) : Prop := ∀ a o, a ≠ l → H a = some o → H' a = some o
def Ret (v : V) (H : Hp) (Q : VK) : Prop := ∀ H', Ex H H' → Q v H'
def wrongAt (ks : Kn Str) (p : Str) (i : Nat) : Bool := match ks.lookup p with
  | some (c, m) => !may c m i
  | none => true
/-- the first wrong spot -/
def fwF (ks : Kn Str) : Nat → List Str → Option Nat
  | _, [] => none
  | k, x :: r => if wrongAt ks x k = true then some k else fwF ks (k + 1) r
def fw (ks : Kn Str) (e : List Str) : Option Nat := fwF ks 0 e
def optV : Option Nat → V
  | none => .non
  | some i => .int (i : Nat)
def plV (x : Str) (r : List Str) : V := if x ∈ r then .int (r.idxOf x : Nat) else .non
abbrev kn0 (row : List Str) (w : Wd) : Kn Str := fm (ks0 row) row.length w
def placeOf (ks : Kn Str) (p : Str) : Nat := match ks.lookup p with
  | some (c, _) => c
  | none => 0
def nth (e : List Str) (i : Nat) : Str := (e[i]?).getD Str.empty
def movedL (ks : Kn Str) (e : List Str) : List Str := ((List.range e.length).filter fun i => placeOf ks (nth e i) != i).map (nth e)
/-- what movers tells -/
structure Spots (rows : List (List Str)) (sp : List (Str × List Nat)) : Prop where
  keys : (sp.map (·.1)).Nodup
  all : ∀ r ∈ rows, ∀ x ∈ r, x ∈ sp.map (·.1)
  nd : ∀ p L, (p, L) ∈ sp → L.Nodup
  fil : ∀ p L, (p, L) ∈ sp → ∃ i, i ∈ L
  at_ : ∀ p L, (p, L) ∈ sp → ∀ i, i ∈ L ↔ ∃ r ∈ rows, r[i]? = some p
def scal1 : V → Bool
  | .non => true
  | .bl _ => true
  | .int _ => true
  | .str _ => true
  | _ => false

/-! ### the promises -/
section
variable (K : PySem.W.Frag)
def spIsAmount : Sp := fun vs H Q _ => ∃ p : Nat, vs = [.int (p : Nat)] ∧ Ret (.bl true) H Q
def spIsPerson : Sp := fun vs H Q _ => ∃ x, vs = [.str x] ∧ OkName x ∧ Ret (.bl true) H Q
def spIsRow : Sp := fun vs H Q _ => ∃ a xs, vs = [.ref a] ∧ RowAt K H a xs ∧ Ret (.bl true) H Q
def spIsPair : Sp := fun vs H Q _ => ∃ a u v b, vs = [.ref a, .str b] ∧ H a = some (.tup [.str u, v]) ∧ Ret (.bl (decide (u = b))) H Q
def spIsComing : Sp := fun vs H Q _ => ∃ a d, vs = [.ref a] ∧ H a = some (.tup (dV d)) ∧ (∀ x, d = .inn x → OkName x) ∧ Ret (.bl (isInn d)) H Q
def spIsGoing : Sp := fun vs H Q _ => ∃ a d, vs = [.ref a] ∧ H a = some (.tup (dV d)) ∧ Ret (.bl (!isInn d)) H Q
def spNeedRow : Sp := fun vs H Q _ => ∃ a xs, vs = [.ref a] ∧ RowAt K H a xs ∧ Ret .non H Q
def spGoOut : Sp := fun vs H Q _ => ∃ l p xs x, vs = [.ref l, .int (p : Nat)] ∧ H l = some (.lst (vS xs)) ∧ xs.length ≤ 100000 ∧ xs[p]? = some x ∧ Q (.str x) (upd H l (.lst (vS (goOut xs p))))
/-- deeds of a row -/
structure DeedsOf (H : Hp) (row : List Str) (l : Addr) (ds : List Dd) : Prop where
  at_ : DeedsAt H l ds
  okd : Okd row row.length ds
  ok : ∀ x, Deed.inn x ∈ ds → OkName x
  small : Small ds
def spIsDeedsOf : Sp := fun vs H Q _ => ∃ r l row ds, vs = [.ref r, .ref l] ∧ RowAt K H r row ∧ DeedsOf H row l ds ∧ Ret (.bl true) H Q
def spNeedDeeds : Sp := fun vs H Q _ => ∃ r l row ds, vs = [.ref r, .ref l] ∧ RowAt K H r row ∧ DeedsOf H row l ds ∧ Ret .non H Q
def spGoneBy : Sp := fun vs H Q _ => ∃ r l row ds, vs = [.ref r, .ref l] ∧ RowAt K H r row ∧ DeedsOf H row l ds ∧
  ∀ p e g H', Ex H H' → H' p = some (.tup [.ref e, .ref g]) → H' e = some (.tup (vS (runD row ds))) → Q (.ref p) H'
def spPlaces : Sp := fun vs H Q _ => ∃ r l row ds x, vs = [.ref r, .ref l, .str x] ∧ RowAt K H r row ∧ DeedsOf H row l ds ∧ OkName x ∧
  ∀ p H', H p = none → Ex H H' → H' p = some (.lst ((rowsL row ds).map (plV x))) → Q (.ref p) H'
/-- a word of a row -/
structure WordOf (H : Hp) (row : List Str) (l : Addr) (w : Wd) : Prop where
  at_ : WordAt H l w
  okw : Okw row row.length w
  ok : ∀ x, some x ∈ w → OkName x
  small : Small w
def spNeedWord : Sp := fun vs H Q _ => ∃ r l row w, vs = [.ref r, .ref l] ∧ RowAt K H r row ∧ WordOf H row l w ∧ Ret .non H Q
def spWordSizes : Sp := fun vs H Q _ => ∃ r l row w, vs = [.ref r, .ref l] ∧ RowAt K H r row ∧ WordOf H row l w ∧
  ∀ p H', H p = none → Ex H H' → H' p = some (.lst ((wsz row.length w).map fun n => .int (n : Nat))) → Q (.ref p) H'
def spLeastOn : Sp := fun vs H Q _ => ∃ (l : Addr) (ns : List Nat), vs = [.ref l] ∧ H l = some (.lst (ns.map fun n => .int (n : Nat))) ∧ ns.length ≤ 100000 ∧
  ∀ p H', H p = none → Ex H H' → H' p = some (.lst ((sufmin ns).map fun n => .int (n : Nat))) → Q (.ref p) H'
def spMarks : Sp := fun vs H Q _ => ∃ r l row w, vs = [.ref r, .ref l] ∧ RowAt K H r row ∧ WordOf H row l w ∧
  ∀ p H', H p = none → Ex H H' → MarksAt H' p (kn0 row w) → Q (.ref p) H'
def spMayStand : Sp := fun vs H Q _ => ∃ c m i : Nat, vs = [.int (c : Nat), .int (m : Nat), .int (i : Nat)] ∧ Ret (.bl (may c m i)) H Q
def spLastSize : Sp := fun vs H Q _ => ∃ r l row w, vs = [.ref r, .ref l] ∧ RowAt K H r row ∧ WordOf H row l w ∧ Ret (.int (szAt row.length w : Nat)) H Q
def spKnownOf : Sp := fun vs H Q _ => ∃ r l row w, vs = [.ref r, .ref l] ∧ RowAt K H r row ∧ WordOf H row l w ∧
  ∀ p H', H p = none → Ex H H' → KnAt H' p (kn0 row w) → Q (.ref p) H'
/-- row, word, end, where the end is of these people -/
structure Three (K : PySem.W.Frag) (H : Hp) (r l e : Addr) (row : List Str) (w : Wd) (en : List Str) : Prop where
  hrow : RowAt K H r row
  word : WordOf H row l w
  hen : RowAt K H e en
  len : en.length = szAt row.length w
  these : ∀ x ∈ en, ∃ c m, (x, c, m) ∈ kn0 row w
def spNeedEnd : Sp := fun vs H Q _ => ∃ r l e row w en, vs = [.ref r, .ref l, .ref e] ∧ Three K H r l e row w en ∧ Ret .non H Q
def spIsOfThese : Sp := fun vs H Q _ => ∃ r l e row w en, vs = [.ref r, .ref l, .ref e] ∧ Three K H r l e row w en ∧ Ret (.bl true) H Q
def spFirstWrong : Sp := fun vs H Q _ => ∃ r l e row w en, vs = [.ref r, .ref l, .ref e] ∧ Three K H r l e row w en ∧ Ret (optV (fw (kn0 row w) en)) H Q
def spCanBe : Sp := fun vs H Q _ => ∃ r l e row w en, vs = [.ref r, .ref l, .ref e] ∧ Three K H r l e row w en ∧ Ret (.bl (decide (fw (kn0 row w) en = none))) H Q
def spWhyNot : Sp := fun vs H Q _ => ∃ r l e row w en, vs = [.ref r, .ref l, .ref e] ∧ Three K H r l e row w en ∧
  (fw (kn0 row w) en = none → Ret .non H Q) ∧ (∀ i x, fw (kn0 row w) en = some i → en[i]? = some x → ∀ p H', H p = none → Ex H H' → H' p = some (.tup [.str x, .int (i : Nat)]) → Q (.ref p) H')
def spHistory : Sp := fun vs H Q _ => ∃ r l e row w en, vs = [.ref r, .ref l, .ref e] ∧ Three K H r l e row w en ∧ fw (kn0 row w) en = none ∧
  ∀ p H', H p = none → Ex H H' → DeedsAt H' p (hist (wishOf en) row w) → Q (.ref p) H'
def spMoved : Sp := fun vs H Q _ => ∃ r l e row w en, vs = [.ref r, .ref l, .ref e] ∧ Three K H r l e row w en ∧ fw (kn0 row w) en = none ∧
  ∀ ys p H', ys.Perm (movedL (kn0 row w) en) → sortedS ys = true → H p = none → Ex H H' → H' p = some (.lst (vS ys)) → Q (.ref p) H'

/-! ### the law's own -/
def spCellAt : Sp := fun vs H Q _ => ∃ (a : Addr) (ns : List Int) (k : Nat), vs = [.ref a, .int (k : Nat)] ∧ SqL K H a (ns.map V.int) ∧ ∀ i : Int, Ret (.int i) H Q
def spBag : Sp := fun vs H Q _ => ∃ (c : Int) (k : Nat), vs = [.int c, .int (k : Nat)] ∧ k ≤ 1000 ∧ ∀ p H', H p = none → Ex H H' → BagAt H' p 0 → Q (.ref p) H'
def spTake : Sp := fun vs H Q _ => ∃ l m n, vs = [.ref l, .int ((m : Nat) : Int)] ∧ (0 < m ∧ m ≤ 1000) ∧ n ≤ 1000000 ∧ BagAt H l n ∧
  ∀ (r : Nat) o, r < m → BagAt (upd H l o) l (n + 1) → Q (.int (r : Nat)) (upd H l o)
def spAlike0 : Sp := fun vs H Q _ => ∃ x, vs = [x, x] ∧ scal1 x = true ∧ Ret (.bl true) H Q
def spAlike : Sp := fun vs H Q E => spAlike0 vs H Q E ∨ ∃ a b xs, vs = [.ref a, .ref b] ∧ ((SqT K H a xs ∧ SqT K H b xs) ∨ (H a = some (.lst xs) ∧ H b = some (.lst xs))) ∧ xs.all scal1 = true ∧ Small xs ∧ Ret (.bl true) H Q
def spNames : Sp := fun vs H Q _ => ∃ l m n, vs = [.ref l, .int ((m : Nat) : Int)] ∧ m ≤ 100 ∧ n ≤ 100000 ∧ BagAt H l n ∧
  ∀ p xs H', H p = none → p ≠ l → ExB l H H' → BagAt H' l (n + 1000) → H' p = some (.lst (vS xs)) → xs.length = m → xs.Nodup → OkNames xs → Q (.ref p) H'
def spDeeds : Sp := fun vs H Q _ => ∃ l a xs m k n, vs = [.ref l, .ref a, .int ((m : Nat) : Int), .int ((k : Nat) : Int)] ∧ H a = some (.lst (vS xs)) ∧ xs.Nodup ∧ OkNames xs ∧ m ≤ xs.length ∧ xs.length ≤ 100 ∧ k ≤ 100 ∧ n ≤ 100000 ∧ BagAt H l n ∧
  ∀ p ds H', H p = none → p ≠ l → ExB l H H' → BagAt H' l (n + 1000) → DeedsOf H' (xs.take m) p ds → ds.length ≤ 100 → Q (.ref p) H'
def spRows : Sp := fun vs H Q _ => ∃ r l row ds, vs = [.ref r, .ref l] ∧ RowAt K H r row ∧ DeedsOf H row l ds ∧
  ∀ p H', H p = none → Ex H H' → LstsAt H' p ((rowsL row ds).map vS) → Q (.ref p) H'
def spMovers : Sp := fun vs H Q _ => ∃ l rows, vs = [.ref l] ∧ LstsAt H l (rows.map vS) ∧ Small rows ∧ (∀ r ∈ rows, Small r) ∧
  ∀ p sp H', H p = none → Ex H H' → SpAt H' p sp → Spots rows sp → Q (.ref p) H'
/-- what bent_right and exchanged are handed -/
structure Bent (K : PySem.W.Frag) (H : Hp) (b r l e : Addr) (row : List Str) (w : Wd) (en : List Str) (n : Nat) : Prop where
  three : Three K H r l e row w en
  ne : b ≠ r ∧ b ≠ l ∧ b ≠ e
  bag : BagAt H b n
  n : n ≤ 100000
  pos : 0 < en.length
def spExchanged : Sp := fun vs H Q _ => ∃ b r l e d row w en n, vs = [.ref b, .ref r, .ref l, .ref e, .ref d] ∧ Bent K H b r l e row w en n ∧ KnAt H d (kn0 row w) ∧
  ∀ H', ExB b H H' → BagAt H' b (n + 2) → Q (.bl true) H'
def spBentRight : Sp := fun vs H Q _ => ∃ b r l e t row w en n, vs = [.ref b, .ref r, .ref l, .ref e, .ref t] ∧ Bent K H b r l e row w en n ∧ n ≤ 90000 ∧ (∃ o, H e = some (.frz o (.tup (vS en))) ∧ o.dict = none) ∧ fw (kn0 row w) en = none ∧ DeedsAt H t (hist (wishOf en) row w) ∧
  ∀ H', ExB b H H' → Q (.bl true) H'
def spLaw : Sp := fun vs H Q _ => ∃ (a : Addr) (ns : List Int), vs = [.ref a] ∧ SqL K H a (ns.map V.int) ∧ ns.length ≤ 63 ∧ ∀ H', Q (.bl true) H'
end
end K60

namespace K60
open PySem PySem.Spec PyProof.Rows L2

def topS (i : Nat) : Stmt := PySem.Challenge.pw_lastfills_k60_whole_lived_rows_can_be.main.body.getD i (.Pass ⟨0, 0, 0, 0⟩)
abbrev sIsAmount : Stmt := topS 10
abbrev sIsPerson : Stmt := topS 11
abbrev sIsRow : Stmt := topS 12
abbrev sIsPair : Stmt := topS 13
abbrev sIsComing : Stmt := topS 14
abbrev sIsGoing : Stmt := topS 15
abbrev sNeedRow : Stmt := topS 16
abbrev sGoOut : Stmt := topS 17
abbrev sIsDeedsOf : Stmt := topS 18
abbrev sNeedDeeds : Stmt := topS 19
abbrev sGoneBy : Stmt := topS 20
abbrev sGo : Stmt := topS 21
abbrev sPlaces : Stmt := topS 22
abbrev sNeedWord : Stmt := topS 24
abbrev sWordSizes : Stmt := topS 25
abbrev sLeastOn : Stmt := topS 27
abbrev sMarksOf : Stmt := topS 28
abbrev sMarks : Stmt := topS 29
abbrev sMayStand : Stmt := topS 30
abbrev sLastSize : Stmt := topS 31
abbrev sKnownOf : Stmt := topS 32
abbrev sNeedEnd : Stmt := topS 33
abbrev sIsOfThese : Stmt := topS 34
abbrev sFirstWrong : Stmt := topS 35
abbrev sIsPossible : Stmt := topS 36
abbrev sCanBe : Stmt := topS 37
abbrev sWhyNot : Stmt := topS 38
abbrev sHistory : Stmt := topS 39
abbrev sMoved : Stmt := topS 40
abbrev sLawCellAt : Stmt := topS 42
abbrev sLawBag : Stmt := topS 43
abbrev sLawTake : Stmt := topS 44
abbrev sLawAlike : Stmt := topS 45
abbrev sLawNames : Stmt := topS 46
abbrev sLawDeeds : Stmt := topS 47
abbrev sLawRows : Stmt := topS 48
abbrev sLawMovers : Stmt := topS 49
abbrev sLawExchanged : Stmt := topS 50
abbrev sLawBentRight : Stmt := topS 51
abbrev sLaw : Stmt := topS 52
abbrev nIsAmount : List Str := ["thing"]
theorem scIsAmount : FnScope nIsAmount ["thing"] (defScope sIsAmount) := ⟨rfl, rfl, rfl, by decide +kernel, rfl, by decide +kernel, by decide +kernel⟩
abbrev nIsPerson : List Str := ["thing", "sign"]
theorem scIsPerson : FnScope nIsPerson ["thing"] (defScope sIsPerson) := ⟨rfl, rfl, rfl, by decide +kernel, rfl, by decide +kernel, by decide +kernel⟩
abbrev nIsRow : List Str := ["thing", "one"]
theorem scIsRow : FnScope nIsRow ["thing"] (defScope sIsRow) := ⟨rfl, rfl, rfl, by decide +kernel, rfl, by decide +kernel, by decide +kernel⟩
abbrev nIsPair : List Str := ["thing", "word"]
theorem scIsPair : FnScope nIsPair ["thing", "word"] (defScope sIsPair) := ⟨rfl, rfl, rfl, by decide +kernel, rfl, by decide +kernel, by decide +kernel⟩
abbrev nIsComing : List Str := ["thing"]
theorem scIsComing : FnScope nIsComing ["thing"] (defScope sIsComing) := ⟨rfl, rfl, rfl, by decide +kernel, rfl, by decide +kernel, by decide +kernel⟩
abbrev nIsGoing : List Str := ["thing"]
theorem scIsGoing : FnScope nIsGoing ["thing"] (defScope sIsGoing) := ⟨rfl, rfl, rfl, by decide +kernel, rfl, by decide +kernel, by decide +kernel⟩
abbrev nNeedRow : List Str := ["row"]
theorem scNeedRow : FnScope nNeedRow ["row"] (defScope sNeedRow) := ⟨rfl, rfl, rfl, by decide +kernel, rfl, by decide +kernel, by decide +kernel⟩
abbrev nGoOut : List Str := ["people", "place", "gone", "last"]
theorem scGoOut : FnScope nGoOut ["people", "place"] (defScope sGoOut) := ⟨rfl, rfl, rfl, by decide +kernel, rfl, by decide +kernel, by decide +kernel⟩
abbrev nIsDeedsOf : List Str := ["row", "thing", "people", "deed"]
theorem scIsDeedsOf : FnScope nIsDeedsOf ["row", "thing"] (defScope sIsDeedsOf) := ⟨rfl, rfl, rfl, by decide +kernel, rfl, by decide +kernel, by decide +kernel⟩
abbrev nNeedDeeds : List Str := ["row", "deeds"]
theorem scNeedDeeds : FnScope nNeedDeeds ["row", "deeds"] (defScope sNeedDeeds) := ⟨rfl, rfl, rfl, by decide +kernel, rfl, by decide +kernel, by decide +kernel⟩
abbrev nGoneBy : List Str := ["row", "deeds", "people", "gone", "deed"]
theorem scGoneBy : FnScope nGoneBy ["row", "deeds"] (defScope sGoneBy) := ⟨rfl, rfl, rfl, by decide +kernel, rfl, by decide +kernel, by decide +kernel⟩
abbrev nGo : List Str := ["row", "deeds"]
theorem scGo : FnScope nGo ["row", "deeds"] (defScope sGo) := ⟨rfl, rfl, rfl, by decide +kernel, rfl, by decide +kernel, by decide +kernel⟩
abbrev nPlaces : List Str := ["row", "deeds", "person", "people", "found", "deed"]
theorem scPlaces : FnScope nPlaces ["row", "deeds", "person"] (defScope sPlaces) := ⟨rfl, rfl, rfl, by decide +kernel, rfl, by decide +kernel, by decide +kernel⟩
abbrev nNeedWord : List Str := ["row", "word", "people", "size", "deed"]
theorem scNeedWord : FnScope nNeedWord ["row", "word"] (defScope sNeedWord) := ⟨rfl, rfl, rfl, by decide +kernel, rfl, by decide +kernel, by decide +kernel⟩
abbrev nWordSizes : List Str := ["row", "word", "found", "deed"]
theorem scWordSizes : FnScope nWordSizes ["row", "word"] (defScope sWordSizes) := ⟨rfl, rfl, rfl, by decide +kernel, rfl, by decide +kernel, by decide +kernel⟩
abbrev nLeastOn : List Str := ["sizes", "found", "moment"]
theorem scLeastOn : FnScope nLeastOn ["sizes"] (defScope sLeastOn) := ⟨rfl, rfl, rfl, by decide +kernel, rfl, by decide +kernel, by decide +kernel⟩
abbrev nMarksOf : List Str := ["row", "word", "numbers", "lows", "found", "moment", "deed", "place", "person"]
theorem scMarksOf : FnScope nMarksOf ["row", "word"] (defScope sMarksOf) := ⟨rfl, rfl, rfl, by decide +kernel, rfl, by decide +kernel, by decide +kernel⟩
abbrev nMarks : List Str := ["row", "word"]
theorem scMarks : FnScope nMarks ["row", "word"] (defScope sMarks) := ⟨rfl, rfl, rfl, by decide +kernel, rfl, by decide +kernel, by decide +kernel⟩
abbrev nMayStand : List Str := ["place", "mark", "spot"]
theorem scMayStand : FnScope nMayStand ["place", "mark", "spot"] (defScope sMayStand) := ⟨rfl, rfl, rfl, by decide +kernel, rfl, by decide +kernel, by decide +kernel⟩
abbrev nLastSize : List Str := ["row", "word"]
theorem scLastSize : FnScope nLastSize ["row", "word"] (defScope sLastSize) := ⟨rfl, rfl, rfl, by decide +kernel, rfl, by decide +kernel, by decide +kernel⟩
abbrev nKnownOf : List Str := ["row", "word", "person", "place", "mark"]
theorem scKnownOf : FnScope nKnownOf ["row", "word"] (defScope sKnownOf) := ⟨rfl, rfl, rfl, by decide +kernel, rfl, by decide +kernel, by decide +kernel⟩
abbrev nNeedEnd : List Str := ["row", "word", "end"]
theorem scNeedEnd : FnScope nNeedEnd ["row", "word", "end"] (defScope sNeedEnd) := ⟨rfl, rfl, rfl, by decide +kernel, rfl, by decide +kernel, by decide +kernel⟩
abbrev nIsOfThese : List Str := ["row", "word", "end", "known", "person"]
theorem scIsOfThese : FnScope nIsOfThese ["row", "word", "end"] (defScope sIsOfThese) := ⟨rfl, rfl, rfl, by decide +kernel, rfl, by decide +kernel, by decide +kernel⟩
abbrev nFirstWrong : List Str := ["row", "word", "end", "known", "spot", "person", "place", "mark"]
theorem scFirstWrong : FnScope nFirstWrong ["row", "word", "end"] (defScope sFirstWrong) := ⟨rfl, rfl, rfl, by decide +kernel, rfl, by decide +kernel, by decide +kernel⟩
abbrev nIsPossible : List Str := ["row", "word", "end"]
theorem scIsPossible : FnScope nIsPossible ["row", "word", "end"] (defScope sIsPossible) := ⟨rfl, rfl, rfl, by decide +kernel, rfl, by decide +kernel, by decide +kernel⟩
abbrev nCanBe : List Str := ["row", "word", "end"]
theorem scCanBe : FnScope nCanBe ["row", "word", "end"] (defScope sCanBe) := ⟨rfl, rfl, rfl, by decide +kernel, rfl, by decide +kernel, by decide +kernel⟩
abbrev nWhyNot : List Str := ["row", "word", "end", "spot"]
theorem scWhyNot : FnScope nWhyNot ["row", "word", "end"] (defScope sWhyNot) := ⟨rfl, rfl, rfl, by decide +kernel, rfl, by decide +kernel, by decide +kernel⟩
abbrev nHistory : List Str := ["row", "word", "end", "wished", "here", "found", "deed", "person", "spot"]
theorem scHistory : FnScope nHistory ["row", "word", "end"] (defScope sHistory) := ⟨rfl, rfl, rfl, by decide +kernel, rfl, by decide +kernel, by decide +kernel⟩
abbrev nMoved : List Str := ["row", "word", "end", "known", "spot", "person"]
theorem scMoved : FnScope nMoved ["row", "word", "end"] (defScope sMoved) := ⟨rfl, rfl, rfl, by decide +kernel, rfl, by decide +kernel, by decide +kernel⟩
abbrev nLawCellAt : List Str := ["_law_script", "_law_k"]
theorem scLawCellAt : FnScope nLawCellAt ["_law_script", "_law_k"] (defScope sLawCellAt) := ⟨rfl, rfl, rfl, by decide +kernel, rfl, by decide +kernel, by decide +kernel⟩
abbrev nLawBag : List Str := ["_law_cell", "_law_k"]
theorem scLawBag : FnScope nLawBag ["_law_cell", "_law_k"] (defScope sLawBag) := ⟨rfl, rfl, rfl, by decide +kernel, rfl, by decide +kernel, by decide +kernel⟩
abbrev nLawTake : List Str := ["_law_bag_here", "_law_many", "_law_found", "_law_mixed"]
theorem scLawTake : FnScope nLawTake ["_law_bag_here", "_law_many"] (defScope sLawTake) := ⟨rfl, rfl, rfl, by decide +kernel, rfl, by decide +kernel, by decide +kernel⟩
abbrev nLawAlike : List Str := ["_law_found", "_law_due", "_law_k"]
theorem scLawAlike : FnScope nLawAlike ["_law_found", "_law_due"] (defScope sLawAlike) := ⟨rfl, rfl, rfl, by decide +kernel, rfl, by decide +kernel, by decide +kernel⟩
abbrev nLawNames : List Str := ["_law_bag_here", "_law_many", "_law_found", "_law_alphabet", "_law_name", "_law_k", "_law_count"]
theorem scLawNames : FnScope nLawNames ["_law_bag_here", "_law_many"] (defScope sLawNames) := ⟨rfl, rfl, rfl, by decide +kernel, rfl, by decide +kernel, by decide +kernel⟩
abbrev nLawDeeds : List Str := ["_law_bag_here", "_law_names_here", "_law_many", "_law_asks", "_law_found", "_law_size", "_law_come", "_law_often", "_law_k", "_law_spots"]
theorem scLawDeeds : FnScope nLawDeeds ["_law_bag_here", "_law_names_here", "_law_many", "_law_asks"] (defScope sLawDeeds) := ⟨rfl, rfl, rfl, by decide +kernel, rfl, by decide +kernel, by decide +kernel⟩
abbrev nLawRows : List Str := ["_law_row", "_law_deeds_here", "_law_found", "_law_word", "_law_what", "_law_now", "_law_at_last"]
theorem scLawRows : FnScope nLawRows ["_law_row", "_law_deeds_here"] (defScope sLawRows) := ⟨rfl, rfl, rfl, by decide +kernel, rfl, by decide +kernel, by decide +kernel⟩
abbrev nLawMovers : List Str := ["_law_rows_here", "_law_spots", "_law_row", "_law_spot", "_law_known"]
theorem scLawMovers : FnScope nLawMovers ["_law_rows_here"] (defScope sLawMovers) := ⟨rfl, rfl, rfl, by decide +kernel, rfl, by decide +kernel, by decide +kernel⟩
abbrev nLawExchanged : List Str := ["_law_bag_here", "_law_row", "_law_word", "_law_end", "_law_known", "_law_one", "_law_other", "_law_bent", "_law_first", "_law_spot", "_law_place", "_law_mark", "_law_right"]
theorem scLawExchanged : FnScope nLawExchanged ["_law_bag_here", "_law_row", "_law_word", "_law_end", "_law_known"] (defScope sLawExchanged) := ⟨rfl, rfl, rfl, by decide +kernel, rfl, by decide +kernel, by decide +kernel⟩
abbrev nLawBentRight : List Str := ["_law_bag_here", "_law_row", "_law_word", "_law_end", "_law_told", "_law_known", "_law_person", "_law_place", "_law_mark", "_law_j", "_law_spot"]
theorem scLawBentRight : FnScope nLawBentRight ["_law_bag_here", "_law_row", "_law_word", "_law_end", "_law_told"] (defScope sLawBentRight) := ⟨rfl, rfl, rfl, by decide +kernel, rfl, by decide +kernel, by decide +kernel⟩
abbrev nLaw : List Str := ["_law_script", "_law_k", "_law_bag_here", "_law_many", "_law_names_here", "_law_deeds_here", "_law_row", "_law_rows_here", "_law_end", "_law_word", "_law_told", "_law_spots", "_law_lived", "_law_due", "_law_deed", "_law_one", "_law_person"]
theorem scLaw : FnScope nLaw ["_law_script"] (defScope sLaw) := ⟨rfl, rfl, rfl, by decide +kernel, rfl, by decide +kernel, by decide +kernel⟩
section
variable (K : PySem.W.Frag)
def tIsAmount : TS :=
    (tRet (tAndV (tCB (rIsi K) (tCons (tVar 0) (tCons (tC (.ty "int")) tNil))) (tAndV (tNotV (tCB (rIsi K) (tCons (tVar 0) (tCons (tC (.ty "bool")) tNil)))) (tOp rGeI (tVar 0) (tC (.int 0))))))
def tIsPerson : TS :=
    (tRet (tAndV (tCB (rIsi K) (tCons (tVar 0) (tCons (tC (.ty "str")) tNil))) (tAndV (tChain rLeI rLeI (tC (.int 1)) (tCB rLenS (tCons (tVar 0) tNil)) (tC (.int 4))) (tCB (rAll K) (tCons (tLc (iStr (tVar 0)) (gName 1) tYes (tOp rInSign (tVar 1) (tC (.str alpha))) [1]) tNil)))))
def tIsRow : TS :=
    (tRet (tAndV (tCB (rIsi K) (tCons (tVar 0) (tCons (tC (.ty "tuple")) tNil))) (tAndV (tCB (rAll K) (tCons (tLc (iTup K (tVar 0)) (gName 1) tYes (tCal spIsPerson (tCons (tVar 1) tNil)) [1]) tNil)) (tOp rEq (tLenSetT K (tVar 0)) (tCB (rLenQ K) (tCons (tVar 0) tNil))))))
def tIsPair : TS :=
    (tRet (tAndV (tCB (rIsi K) (tCons (tVar 0) (tCons (tC (.ty "tuple")) tNil))) (tAndV (tOp rEq (tCB (rLenQ K) (tCons (tVar 0) tNil)) (tC (.int 2))) (tAndV (tCB (rIsi K) (tCons (tOp (rIxT K) (tVar 0) (tC (.int 0))) (tCons (tC (.ty "str")) tNil))) (tOp rEq (tOp (rIxT K) (tVar 0) (tC (.int 0))) (tVar 1))))))
def tIsComing : TS :=
    (tRet (tAndV (tCal spIsPair (tCons (tVar 0) (tCons (tC (.str "in")) tNil))) (tCal spIsPerson (tCons (tOp (rIxT K) (tVar 0) (tC (.int 1))) tNil))))
def tIsGoing : TS :=
    (tRet (tAndV (tCal spIsPair (tCons (tVar 0) (tCons (tC (.str "out")) tNil))) (tCal spIsAmount (tCons (tOp (rIxT K) (tVar 0) (tC (.int 1))) tNil))))
def tNeedRow : TS :=
    (tIfS (tNot (tB (tCal (spIsRow K) (tCons (tVar 0) tNil)))) tNever tNext)
def tGoOut : TS :=
    (tSeq (tAsg (tOp (rIxL K) (tVar 0) (tVar 1)) (gName 2))
    (tSeq (tAsg (tBM0 K "list" rPop (tVar 0)) (gName 3))
    (tSeq (tIfS (tTest (tOp rLtI (tVar 1) (tCB (rLenQ K) (tCons (tVar 0) tNil)))) (tAsg (tVar 3) (gSub (tVar 0) (tVar 1) rSetL)) tNext)
    (tRet (tVar 2)))))
def tIsDeedsOf : TS :=
    (tSeq (tIfS (tNot (tB (tCB (rIsi K) (tCons (tVar 1) (tCons (tC (.ty "list")) tNil))))) (tRet (tC (.bl false))) tNext)
    (tSeq (tAsg (tCB (rListQ K) (tCons (tVar 0) tNil)) (gName 2))
    (tSeq (tFor (iList K (tVar 1)) (gName 3) (tIfS (tAnd (tB (tCal spIsComing (tCons (tVar 3) tNil))) (tTest (tOp (rIn K true) (tOp (rIxT K) (tVar 3) (tC (.int 1))) (tVar 2)))) (tDrop (tBM K "list" rAppend (tVar 2) (tCons (tOp (rIxT K) (tVar 3) (tC (.int 1))) tNil))) (tIfS (tAnd (tB (tCal spIsGoing (tCons (tVar 3) tNil))) (tTest (tOp rLtI (tOp (rIxT K) (tVar 3) (tC (.int 1))) (tCB (rLenQ K) (tCons (tVar 2) tNil))))) (tDrop (tCal spGoOut (tCons (tVar 2) (tCons (tOp (rIxT K) (tVar 3) (tC (.int 1))) tNil)))) (tRet (tC (.bl false))))))
    (tRet (tC (.bl true))))))
def tNeedDeeds : TS :=
    (tIfS (tNot (tB (tCal (spIsDeedsOf K) (tCons (tVar 0) (tCons (tVar 1) tNil))))) tNever tNext)
def tGoneBy : TS :=
    (tSeq (tAsg (tCB (rListQ K) (tCons (tVar 0) tNil)) (gName 2))
    (tSeq (tAsg (tLst tNil) (gName 3))
    (tSeq (tFor (iList K (tVar 1)) (gName 4) (tIfS (tTest (tOp rEq (tOp (rIxT K) (tVar 4) (tC (.int 0))) (tC (.str "in")))) (tDrop (tBM K "list" rAppend (tVar 2) (tCons (tOp (rIxT K) (tVar 4) (tC (.int 1))) tNil))) (tDrop (tBM K "list" rAppend (tVar 3) (tCons (tCal spGoOut (tCons (tVar 2) (tCons (tOp (rIxT K) (tVar 4) (tC (.int 1))) tNil))) tNil)))))
    (tRet (tTup (tCons (tCB (rTupQ K) (tCons (tVar 2) tNil)) (tCons (tVar 3) tNil)))))))
def tGo : TS :=
    (tSeq (tDrop (tCal (spNeedRow K) (tCons (tVar 0) tNil)))
    (tSeq (tDrop (tCal (spNeedDeeds K) (tCons (tVar 0) (tCons (tVar 1) tNil))))
    (tRet (tCal (spGoneBy K) (tCons (tVar 0) (tCons (tVar 1) tNil))))))
def tPlaces : TS :=
    (tSeq (tDrop (tCal (spNeedRow K) (tCons (tVar 0) tNil)))
    (tSeq (tDrop (tCal (spNeedDeeds K) (tCons (tVar 0) (tCons (tVar 1) tNil))))
    (tSeq (tIfS (tNot (tB (tCal spIsPerson (tCons (tVar 2) tNil)))) tNever tNext)
    (tSeq (tAsg (tCB (rListQ K) (tCons (tVar 0) tNil)) (gName 3))
    (tSeq (tAsg (tLst (tCons (tIf (tTest (tOp (rIn K false) (tVar 2) (tVar 3))) (tBM K "list" (rIndex K) (tVar 3) (tCons (tVar 2) tNil)) (tC .non)) tNil)) (gName 4))
    (tSeq (tFor (iList K (tVar 1)) (gName 5) (tSeq (tIfS (tTest (tOp rEq (tOp (rIxT K) (tVar 5) (tC (.int 0))) (tC (.str "in")))) (tDrop (tBM K "list" rAppend (tVar 3) (tCons (tOp (rIxT K) (tVar 5) (tC (.int 1))) tNil))) (tDrop (tCal spGoOut (tCons (tVar 3) (tCons (tOp (rIxT K) (tVar 5) (tC (.int 1))) tNil)))))
    (tDrop (tBM K "list" rAppend (tVar 4) (tCons (tIf (tTest (tOp (rIn K false) (tVar 2) (tVar 3))) (tBM K "list" (rIndex K) (tVar 3) (tCons (tVar 2) tNil)) (tC .non)) tNil)))))
    (tRet (tVar 4))))))))
def tNeedWord : TS :=
    (tSeq (tDrop (tCal (spNeedRow K) (tCons (tVar 0) tNil)))
    (tSeq (tIfS (tNot (tB (tCB (rIsi K) (tCons (tVar 1) (tCons (tC (.ty "list")) tNil))))) tNever tNext)
    (tSeq (tAsg (tCB (rListQ K) (tCons (tVar 0) tNil)) (gName 2))
    (tSeq (tAsg (tCB (rLenQ K) (tCons (tVar 0) tNil)) (gName 3))
    (tFor (iList K (tVar 1)) (gName 4) (tSeq (tIfS (tNot (tB (tCB (rIsi K) (tCons (tVar 4) (tCons (tC (.ty "tuple")) tNil))))) tNever tNext)
    (tIfS (tAnd (tTest (tOp rEq (tCB (rLenQ K) (tCons (tVar 4) tNil)) (tC (.int 2)))) (tAnd (tTest (tOp rEq (tOp (rIxT K) (tVar 4) (tC (.int 0))) (tC (.str "in")))) (tAnd (tB (tCal spIsPerson (tCons (tOp (rIxT K) (tVar 4) (tC (.int 1))) tNil))) (tTest (tOp (rIn K true) (tOp (rIxT K) (tVar 4) (tC (.int 1))) (tVar 2)))))) (tSeq (tDrop (tBM K "list" rAppend (tVar 2) (tCons (tOp (rIxT K) (tVar 4) (tC (.int 1))) tNil)))
    (tAug 3 (tC (.int 1)) (ipI fun i j => i + j))) (tIfS (tAnd (tTest (tOp (rEqD K) (tVar 4) (tTup (tCons (tC (.str "out")) tNil)))) (tTest (tOp rGtI (tVar 3) (tC (.int 0))))) (tAug 3 (tC (.int 1)) (ipI fun i j => i - j)) tNever))))))))
def tWordSizes : TS :=
    (tSeq (tAsg (tLst (tCons (tCB (rLenQ K) (tCons (tVar 0) tNil)) tNil)) (gName 2))
    (tSeq (tFor (iList K (tVar 1)) (gName 3) (tDrop (tBM K "list" rAppend (tVar 2) (tCons (tOp rAddI (tOp (rIxL K) (tVar 2) (tUn rNegI (tC (.int 1)))) (tIf (tTest (tOp rEq (tOp (rIxT K) (tVar 3) (tC (.int 0))) (tC (.str "in")))) (tC (.int 1)) (tUn rNegI (tC (.int 1))))) tNil))))
    (tRet (tVar 2))))
def tLeastOn : TS :=
    (tSeq (tAsg (tCB (rListQ K) (tCons (tVar 0) tNil)) (gName 1))
    (tSeq (tFor (iRng3 (tCons (tOp rSubI (tCB (rLenQ K) (tCons (tVar 0) tNil)) (tC (.int 2))) (tCons (tUn rNegI (tC (.int 1))) (tCons (tUn rNegI (tC (.int 1))) tNil)))) (gName 2) (tAsg (tCB rMinQ (tCons (tOp (rIxL K) (tVar 1) (tVar 2)) (tCons (tOp (rIxL K) (tVar 1) (tOp rAddI (tVar 2) (tC (.int 1)))) tNil))) (gSub (tVar 1) (tVar 2) rSetL)))
    (tRet (tVar 1))))
def tMarksOf : TS :=
    (tSeq (tAsg (tCal (spWordSizes K) (tCons (tVar 0) (tCons (tVar 1) tNil))) (gName 2))
    (tSeq (tAsg (tCal spLeastOn (tCons (tVar 2) tNil)) (gName 3))
    (tSeq (tAsg (tLc (iEnumT K (tCons (tVar 0) tNil)) (gTup K 2 (gCons (gName 7) (gCons (gName 8) gNil))) tYes (tTup (tCons (tVar 8) (tCons (tVar 7) (tCons (tOp (rIxL K) (tVar 3) (tC (.int 0))) tNil)))) [7, 8]) (gName 4))
    (tSeq (tFor (iEnum K (tCons (tVar 1) tNil)) (gTup K 2 (gCons (gName 5) (gCons (gName 6) gNil))) (tIfS (tTest (tOp rEq (tOp (rIxT K) (tVar 6) (tC (.int 0))) (tC (.str "in")))) (tDrop (tBM K "list" rAppend (tVar 4) (tCons (tTup (tCons (tOp (rIxT K) (tVar 6) (tC (.int 1))) (tCons (tOp (rIxL K) (tVar 2) (tVar 5)) (tCons (tOp (rIxL K) (tVar 3) (tOp rAddI (tVar 5) (tC (.int 1)))) tNil)))) tNil))) tNext))
    (tRet (tVar 4))))))
def tMarks : TS :=
    (tSeq (tDrop (tCal (spNeedWord K) (tCons (tVar 0) (tCons (tVar 1) tNil))))
    (tRet (tCal (spMarks K) (tCons (tVar 0) (tCons (tVar 1) tNil)))))
def tMayStand : TS :=
    (tRet (tIf (tTest (tOp rLtI (tVar 0) (tVar 1))) (tOp rEq (tVar 2) (tVar 0)) (tOp rLtI (tVar 2) (tVar 1))))
def tLastSize : TS :=
    (tRet (tOp (rIxL K) (tCal (spWordSizes K) (tCons (tVar 0) (tCons (tVar 1) tNil))) (tUn rNegI (tC (.int 1)))))
def tKnownOf : TS :=
    (tRet (tDc (iList K (tCal (spMarks K) (tCons (tVar 0) (tCons (tVar 1) tNil)))) (gTup K 3 (gCons (gName 2) (gCons (gName 3) (gCons (gName 4) gNil)))) tYes (tVar 2) (tTup (tCons (tVar 3) (tCons (tVar 4) tNil))) [2, 3, 4]))
def tNeedEnd : TS :=
    (tSeq (tDrop (tCal (spNeedWord K) (tCons (tVar 0) (tCons (tVar 1) tNil))))
    (tIfS (tNot (tB (tCal (spIsRow K) (tCons (tVar 2) tNil)))) tNever tNext))
def tIsOfThese : TS :=
    (tSeq (tAsg (tCal (spKnownOf K) (tCons (tVar 0) (tCons (tVar 1) tNil))) (gName 3))
    (tRet (tAndV (tOp rEq (tCB (rLenQ K) (tCons (tVar 2) tNil)) (tCal (spLastSize K) (tCons (tVar 0) (tCons (tVar 1) tNil)))) (tCB (rAll K) (tCons (tLc (iTup K (tVar 2)) (gName 4) tYes (tDIn (tVar 4) (tVar 3)) [4]) tNil)))))
def tFirstWrong : TS :=
    (tSeq (tAsg (tCal (spKnownOf K) (tCons (tVar 0) (tCons (tVar 1) tNil))) (gName 3))
    (tSeq (tFor (iEnumT K (tCons (tVar 2) tNil)) (gTup K 2 (gCons (gName 4) (gCons (gName 5) gNil))) (tSeq (tAsg (tDGet (tVar 3) (tVar 5)) (gTup K 2 (gCons (gName 6) (gCons (gName 7) gNil))))
    (tIfS (tNot (tB (tCal spMayStand (tCons (tVar 6) (tCons (tVar 7) (tCons (tVar 4) tNil)))))) (tRet (tVar 4)) tNext)))
    (tRet (tC .non))))
def tIsPossible : TS :=
    (tRet (tAndV (tCal (spIsOfThese K) (tCons (tVar 0) (tCons (tVar 1) (tCons (tVar 2) tNil)))) (tOp rIsN (tCal (spFirstWrong K) (tCons (tVar 0) (tCons (tVar 1) (tCons (tVar 2) tNil)))) (tC .non))))
def tCanBe : TS :=
    (tSeq (tDrop (tCal (spNeedEnd K) (tCons (tVar 0) (tCons (tVar 1) (tCons (tVar 2) tNil)))))
    (tRet (tCal (spCanBe K) (tCons (tVar 0) (tCons (tVar 1) (tCons (tVar 2) tNil))))))
def tWhyNot : TS :=
    (tSeq (tDrop (tCal (spNeedEnd K) (tCons (tVar 0) (tCons (tVar 1) (tCons (tVar 2) tNil)))))
    (tSeq (tIfS (tNot (tB (tCal (spIsOfThese K) (tCons (tVar 0) (tCons (tVar 1) (tCons (tVar 2) tNil)))))) tNever tNext)
    (tSeq (tAsg (tCal (spFirstWrong K) (tCons (tVar 0) (tCons (tVar 1) (tCons (tVar 2) tNil)))) (gName 3))
    (tRet (tIf (tTest (tOp rIsN (tVar 3) (tC .non))) (tC .non) (tTup (tCons (tOp (rIxT K) (tVar 2) (tVar 3)) (tCons (tVar 3) tNil))))))))
def tHistory : TS :=
    (tSeq (tDrop (tCal (spNeedEnd K) (tCons (tVar 0) (tCons (tVar 1) (tCons (tVar 2) tNil)))))
    (tSeq (tIfS (tNot (tB (tCal (spCanBe K) (tCons (tVar 0) (tCons (tVar 1) (tCons (tVar 2) tNil)))))) (tRet (tC .non)) tNext)
    (tSeq (tAsg (tDc (iEnumT K (tCons (tVar 2) tNil)) (gTup K 2 (gCons (gName 8) (gCons (gName 7) gNil))) tYes (tVar 7) (tVar 8) [8, 7]) (gName 3))
    (tSeq (tAsg (tCB (rListQ K) (tCons (tVar 0) tNil)) (gName 4))
    (tSeq (tAsg (tLst tNil) (gName 5))
    (tSeq (tFor (iList K (tVar 1)) (gName 6) (tIfS (tTest (tOp rEq (tOp (rIxT K) (tVar 6) (tC (.int 0))) (tC (.str "in")))) (tSeq (tDrop (tBM K "list" rAppend (tVar 4) (tCons (tOp (rIxT K) (tVar 6) (tC (.int 1))) tNil)))
    (tDrop (tBM K "list" rAppend (tVar 5) (tCons (tVar 6) tNil)))) (tSeq (tAsg (tBM0 K "list" rPop (tVar 4)) (gName 7))
    (tSeq (tAsg (tDGet2 (tVar 3) (tVar 7) (tCB (rLenQ K) (tCons (tVar 4) tNil))) (gName 8))
    (tSeq (tIfS (tTest (tOp rLtI (tVar 8) (tCB (rLenQ K) (tCons (tVar 4) tNil)))) (tAsg (tVar 7) (gSub (tVar 4) (tVar 8) rSetL)) tNext)
    (tDrop (tBM K "list" rAppend (tVar 5) (tCons (tTup (tCons (tC (.str "out")) (tCons (tVar 8) tNil))) tNil))))))))
    (tRet (tVar 5))))))))
def tMoved : TS :=
    (tSeq (tDrop (tCal (spNeedEnd K) (tCons (tVar 0) (tCons (tVar 1) (tCons (tVar 2) tNil)))))
    (tSeq (tIfS (tNot (tB (tCal (spCanBe K) (tCons (tVar 0) (tCons (tVar 1) (tCons (tVar 2) tNil)))))) tNever tNext)
    (tSeq (tAsg (tCal (spKnownOf K) (tCons (tVar 0) (tCons (tVar 1) tNil))) (gName 3))
    (tRet (tCB (rSortedA K) (tCons (tLc (iEnumT K (tCons (tVar 2) tNil)) (gTup K 2 (gCons (gName 4) (gCons (gName 5) gNil))) (tTest (tOp rNe (tOp (rIxT K) (tDGet (tVar 3) (tVar 5)) (tC (.int 0))) (tVar 4))) (tVar 5) [4, 5]) tNil))))))
def tLawCellAt : TS :=
    (tSeq (tIfS (tTest (tOp rLtI (tVar 1) (tCB (rLenQ K) (tCons (tVar 0) tNil)))) (tRet (tOp (rIxL K) (tVar 0) (tVar 1))) tNext)
    (tRet (tC (.int 0))))
def tLawBag : TS :=
    (tRet (tLst (tCons (tCB rMaxQ (tCons (tC (.int 0)) (tCons (tOp rSubI (tVar 0) (tOp rPowI (tC (.int 10)) (tC (.int 18)))) tNil))) (tCons (tOp rAddI (tOp rModI (tVar 0) (tC (.int 162259276829213363391578010288127))) (tOp rMulI (tC (.int 7919)) (tOp rAddI (tVar 1) (tC (.int 1))))) (tCons (tC (.int 0)) tNil)))))
def tLawTake : TS :=
    (tSeq (tIfS (tTest (tOp rGtI (tOp (rIxL K) (tVar 0) (tC (.int 0))) (tC (.int 1)))) (tSeq (tAsg (tOp rModI (tOp (rIxL K) (tVar 0) (tC (.int 0))) (tVar 1)) (gName 2))
    (tSeq (tAsg (tOp rDivI (tOp (rIxL K) (tVar 0) (tC (.int 0))) (tVar 1)) (gSub (tVar 0) (tC (.int 0)) rSetL))
    (tRet (tVar 2)))) tNext)
    (tSeq (tAsg (tOp rAddI (tOp (rIxL K) (tVar 0) (tC (.int 2))) (tC (.int 1))) (gSub (tVar 0) (tC (.int 2)) rSetL))
    (tSeq (tAsg (tOp rModI (tOp rPowI (tOp rAddI (tOp (rIxL K) (tVar 0) (tC (.int 1))) (tOp rMulI (tC (.int 1299709)) (tOp (rIxL K) (tVar 0) (tC (.int 2))))) (tC (.int 3))) (tC (.int 162259276829213363391578010288127))) (gName 3))
    (tSeq (tAsg (tOp rModI (tOp rPowI (tOp rAddI (tVar 3) (tOp rMulI (tC (.int 15485863)) (tOp (rIxL K) (tVar 0) (tC (.int 2))))) (tC (.int 5))) (tC (.int 618970019642690137449562111))) (gName 3))
    (tRet (tOp rModI (tOp rDivI (tVar 3) (tC (.int 1048576))) (tVar 1)))))))
def tLawAlike (sp : Sp) : TS :=
    (tSeq (tIfS (tB (tCB (rIsiT K) (tCons (tVar 1) (tCons (tTup (tCons (tC (.ty "list")) (tCons (tC (.ty "tuple")) tNil))) tNil)))) (tSeq (tIfS (tOr (tTest (tOp rNe (tCB (rIsi K) (tCons (tVar 0) (tCons (tC (.ty "list")) tNil))) (tCB (rIsi K) (tCons (tVar 1) (tCons (tC (.ty "list")) tNil))))) (tNot (tB (tCB (rIsiT K) (tCons (tVar 0) (tCons (tTup (tCons (tC (.ty "list")) (tCons (tC (.ty "tuple")) tNil))) tNil)))))) (tRet (tC (.bl false))) tNext)
    (tSeq (tIfS (tTest (tOp rNe (tCB (rLenQ K) (tCons (tVar 0) tNil)) (tCB (rLenQ K) (tCons (tVar 1) tNil)))) (tRet (tC (.bl false))) tNext)
    (tRet (tCB (rAll K) (tCons (tLc (iRng1 (tCons (tCB (rLenQ K) (tCons (tVar 1) tNil)) tNil)) (gName 2) tYes (tCal sp (tCons (tOp (rIx K) (tVar 0) (tVar 2)) (tCons (tOp (rIx K) (tVar 1) (tVar 2)) tNil))) [2]) tNil))))) tNext)
    (tSeq (tIfS (tOr (tB (tCB (rIsi K) (tCons (tVar 1) (tCons (tC (.ty "bool")) tNil)))) (tB (tCB (rIsi K) (tCons (tVar 0) (tCons (tC (.ty "bool")) tNil))))) (tRet (tAndV (tCB (rIsi K) (tCons (tVar 1) (tCons (tC (.ty "bool")) tNil))) (tAndV (tCB (rIsi K) (tCons (tVar 0) (tCons (tC (.ty "bool")) tNil))) (tOp rEq (tVar 0) (tVar 1))))) tNext)
    (tRet (tOp rEq (tVar 0) (tVar 1)))))
def tLawNames : TS :=
    (tSeq (tAsg (tLst tNil) (gName 2))
    (tSeq (tAsg (tC (.str "abcdefghijklmnopqrstuvwxyz")) (gName 3))
    (tSeq (tWhile (tTest (tOp rLtI (tCB (rLenQ K) (tCons (tVar 2) tNil)) (tVar 1))) (tSeq (tAsg (tC (.str "")) (gName 4))
    (tSeq (tFor (iRng1 (tCons (tOp rAddI (tC (.int 1)) (tCal spTake (tCons (tVar 0) (tCons (tC (.int 4)) tNil)))) tNil)) (gName 5) (tAsg (tOp rAddStr (tVar 4) (tOp rIxS (tVar 3) (tCal spTake (tCons (tVar 0) (tCons (tC (.int 26)) tNil))))) (gName 4)))
    (tIfS (tTest (tOp (rIn K true) (tVar 4) (tVar 2))) (tDrop (tBM K "list" rAppend (tVar 2) (tCons (tVar 4) tNil))) (tSeq (tAsg (tC (.int 0)) (gName 6))
    (tSeq (tWhile (tTest (tOp (rIn K false) (tOp rAddStr (tOp rIxS (tVar 3) (tOp rDivI (tVar 6) (tC (.int 26)))) (tOp rIxS (tVar 3) (tOp rModI (tVar 6) (tC (.int 26))))) (tVar 2))) (tAsg (tOp rAddI (tVar 6) (tC (.int 1))) (gName 6)))
    (tDrop (tBM K "list" rAppend (tVar 2) (tCons (tOp rAddStr (tOp rIxS (tVar 3) (tOp rDivI (tVar 6) (tC (.int 26)))) (tOp rIxS (tVar 3) (tOp rModI (tVar 6) (tC (.int 26))))) tNil)))))))))
    (tRet (tVar 2)))))
def tLawDeeds : TS :=
    (tSeq (tAsg (tLst tNil) (gName 4))
    (tSeq (tAsg (tVar 2) (gName 5))
    (tSeq (tAsg (tVar 2) (gName 6))
    (tSeq (tAsg (tOp rAddI (tC (.int 1)) (tCal spTake (tCons (tVar 0) (tCons (tC (.int 3)) tNil)))) (gName 7))
    (tSeq (tFor (iRng1 (tCons (tVar 3) tNil)) (gName 8) (tIfS (tAnd (tTest (tOp rLtI (tVar 6) (tCB (rLenQ K) (tCons (tVar 1) tNil)))) (tOr (tTest (tOp rEq (tVar 5) (tC (.int 0)))) (tTest (tOp rLtI (tCal spTake (tCons (tVar 0) (tCons (tC (.int 4)) tNil))) (tVar 7))))) (tSeq (tDrop (tBM K "list" rAppend (tVar 4) (tCons (tTup (tCons (tC (.str "in")) (tCons (tOp (rIxL K) (tVar 1) (tVar 6)) tNil))) tNil)))
    (tSeq (tAsg (tOp rAddI (tVar 6) (tC (.int 1))) (gName 6))
    (tAsg (tOp rAddI (tVar 5) (tC (.int 1))) (gName 5)))) (tIfS (tTest (tOp rGtI (tVar 5) (tC (.int 0)))) (tSeq (tAsg (tLst (tCons (tCal spTake (tCons (tVar 0) (tCons (tVar 5) tNil))) (tCons (tCal spTake (tCons (tVar 0) (tCons (tVar 5) tNil))) (tCons (tOp rSubI (tVar 5) (tC (.int 1))) (tCons (tC (.int 0)) tNil))))) (gName 9))
    (tSeq (tDrop (tBM K "list" rAppend (tVar 4) (tCons (tTup (tCons (tC (.str "out")) (tCons (tOp (rIxL K) (tVar 9) (tCal spTake (tCons (tVar 0) (tCons (tC (.int 4)) tNil)))) tNil))) tNil)))
    (tAsg (tOp rSubI (tVar 5) (tC (.int 1))) (gName 5)))) tNext)))
    (tRet (tVar 4)))))))
def tLawRows : TS :=
    (tSeq (tAsg (tLst (tCons (tCB (rListQ K) (tCons (tVar 0) tNil)) tNil)) (gName 2))
    (tSeq (tFor (iList K (tVar 1)) (gTup K 2 (gCons (gName 3) (gCons (gName 4) gNil))) (tSeq (tAsg (tCB (rListQ K) (tCons (tOp (rIxL K) (tVar 2) (tUn rNegI (tC (.int 1)))) tNil)) (gName 5))
    (tSeq (tIfS (tTest (tOp rEq (tVar 3) (tC (.str "in")))) (tDrop (tBM K "list" rAppend (tVar 5) (tCons (tVar 4) tNil))) (tSeq (tAsg (tBM0 K "list" rPop (tVar 5)) (gName 6))
    (tIfS (tTest (tOp rLtI (tVar 4) (tCB (rLenQ K) (tCons (tVar 5) tNil)))) (tAsg (tVar 6) (gSub (tVar 5) (tVar 4) rSetL)) tNext)))
    (tDrop (tBM K "list" rAppend (tVar 2) (tCons (tVar 5) tNil))))))
    (tRet (tVar 2))))
def tLawMovers : TS :=
    (tSeq (tAsg tDNewK (gName 1))
    (tSeq (tFor (iList K (tVar 0)) (gName 2) (tFor (iRng1 (tCons (tCB (rLenQ K) (tCons (tVar 2) tNil)) tNil)) (gName 3) (tSeq (tAsg (tDGet2 (tVar 1) (tOp (rIxL K) (tVar 2) (tVar 3)) (tLst tNil)) (gName 4))
    (tIfS (tTest (tOp (rIn K true) (tVar 3) (tVar 4))) (sDPut (tVar 1) (tOp (rIxL K) (tVar 2) (tVar 3)) (tOp rCat (tVar 4) (tLst (tCons (tVar 3) tNil)))) tNext))))
    (tRet (tVar 1))))
def tLawExchanged : TS :=
    (tSeq (tAsg (tCal spTake (tCons (tVar 0) (tCons (tCB (rLenQ K) (tCons (tVar 3) tNil)) tNil))) (gName 5))
    (tSeq (tAsg (tCal spTake (tCons (tVar 0) (tCons (tCB (rLenQ K) (tCons (tVar 3) tNil)) tNil))) (gName 6))
    (tSeq (tAsg (tCB (rListQ K) (tCons (tVar 3) tNil)) (gName 7))
    (tSeq (tAsg (tTup (tCons (tOp (rIxL K) (tVar 7) (tVar 6)) (tCons (tOp (rIxL K) (tVar 7) (tVar 5)) tNil))) (gTup K 2 (gCons (gSub (tVar 7) (tVar 5) rSetL) (gCons (gSub (tVar 7) (tVar 6) rSetL) gNil))))
    (tSeq (tAsg (tLst tNil) (gName 8))
    (tSeq (tFor (iRng1 (tCons (tCB (rLenQ K) (tCons (tVar 7) tNil)) tNil)) (gName 9) (tSeq (tAsg (tDGet (tVar 4) (tOp (rIxL K) (tVar 7) (tVar 9))) (gTup K 2 (gCons (gName 10) (gCons (gName 11) gNil))))
    (tSeq (tAsg (tOp rLtI (tVar 9) (tVar 11)) (gName 12))
    (tSeq (tIfS (tTest (tOp rLtI (tVar 10) (tVar 11))) (tAsg (tOp rEq (tVar 9) (tVar 10)) (gName 12)) tNext)
    (tIfS (tNot (tB (tVar 12))) (tDrop (tBM K "list" rAppend (tVar 8) (tCons (tTup (tCons (tOp (rIxL K) (tVar 7) (tVar 9)) (tCons (tVar 9) tNil))) tNil))) tNext)))))
    (tSeq (tIfS (tNot (tB (tCal (spAlike K) (tCons (tCal (spCanBe K) (tCons (tVar 1) (tCons (tVar 2) (tCons (tCB (rTupQ K) (tCons (tVar 7) tNil)) tNil)))) (tCons (tOp (rEqD K) (tVar 8) (tLst tNil)) tNil))))) (tRet (tC (.bl false))) tNext)
    (tRet (tCal (spAlike K) (tCons (tCal (spWhyNot K) (tCons (tVar 1) (tCons (tVar 2) (tCons (tCB (rTupQ K) (tCons (tVar 7) tNil)) tNil)))) (tCons (tIf (tTest (tOp (rNeD K) (tVar 8) (tLst tNil))) (tOp (rIxL K) (tVar 8) (tC (.int 0))) (tC .non)) tNil)))))))))))
def tLawBentRight : TS :=
    (tSeq (tAsg tDNewK (gName 5))
    (tSeq (tFor (iList K (tCal (spMarks K) (tCons (tVar 1) (tCons (tVar 2) tNil)))) (gTup K 3 (gCons (gName 6) (gCons (gName 7) (gCons (gName 8) gNil)))) (sDPut (tVar 5) (tVar 6) (tTup (tCons (tVar 7) (tCons (tVar 8) tNil)))))
    (tSeq (tFor (iRng1 (tCons (tC (.int 4)) tNil)) (gName 9) (tIfS (tNot (tB (tCal (spExchanged K) (tCons (tVar 0) (tCons (tVar 1) (tCons (tVar 2) (tCons (tVar 3) (tCons (tVar 5) tNil)))))))) (tRet (tC (.bl false))) tNext))
    (tSeq (tAsg (tOp (rIxT K) (tVar 3) (tCal spTake (tCons (tVar 0) (tCons (tCB (rLenQ K) (tCons (tVar 3) tNil)) tNil)))) (gName 6))
    (tRet (tOp rEq (tOp (rIxL K) (tLc (iList K (tCal (spPlaces K) (tCons (tVar 1) (tCons (tVar 4) (tCons (tVar 6) tNil))))) (gName 10) (tTest (tOp rNotN (tVar 10) (tC .non))) (tVar 10) [10]) (tUn rNegI (tC (.int 1)))) (tTupIdx K (tVar 3) (tCons (tVar 6) tNil))))))))
def tLaw : TS :=
    (tSeq (tFor (iRng1 (tCons (tCB rMaxQ (tCons (tC (.int 1)) (tCons (tCB rMinQ (tCons (tC (.int 2)) (tCons (tCB (rLenQ K) (tCons (tVar 0) tNil)) tNil))) tNil))) tNil)) (gName 1) (tSeq (tAsg (tCal spBag (tCons (tCal (spCellAt K) (tCons (tVar 0) (tCons (tVar 1) tNil))) (tCons (tVar 1) tNil))) (gName 2))
    (tSeq (tAsg (tCal spTake (tCons (tVar 2) (tCons (tC (.int 31)) tNil))) (gName 3))
    (tSeq (tAsg (tCal spNames (tCons (tVar 2) (tCons (tOp rAddI (tVar 3) (tCal spTake (tCons (tVar 2) (tCons (tC (.int 40)) tNil)))) tNil))) (gName 4))
    (tSeq (tAsg (tCal spDeeds (tCons (tVar 2) (tCons (tVar 4) (tCons (tVar 3) (tCons (tCal spTake (tCons (tVar 2) (tCons (tC (.int 81)) tNil))) tNil))))) (gName 5))
    (tSeq (tAsg (tCB (rTupQ K) (tCons (tSl (rSlL K) (tVar 4) tNoPart (tPart (tVar 3))) tNil)) (gName 6))
    (tSeq (tAsg (tCal (spRows K) (tCons (tVar 6) (tCons (tVar 5) tNil))) (gName 7))
    (tSeq (tAsg (tCB (rTupF K) (tCons (tOp (rIxL K) (tVar 7) (tUn rNegI (tC (.int 1)))) tNil)) (gName 8))
    (tSeq (tAsg (tLc (iList K (tVar 5)) (gName 14) tYes (tIf (tTest (tOp rEq (tOp (rIxT K) (tVar 14) (tC (.int 0))) (tC (.str "in")))) (tVar 14) (tTup (tCons (tC (.str "out")) tNil))) [14]) (gName 9))
    (tSeq (tIfS (tOr (tNot (tB (tCal (spAlike K) (tCons (tCal (spCanBe K) (tCons (tVar 6) (tCons (tVar 9) (tCons (tVar 8) tNil)))) (tCons (tC (.bl true)) tNil))))) (tTest (tOp rNotN (tCal (spWhyNot K) (tCons (tVar 6) (tCons (tVar 9) (tCons (tVar 8) tNil)))) (tC .non)))) (tRet (tC (.bl false))) tNext)
    (tSeq (tAsg (tCal (spHistory K) (tCons (tVar 6) (tCons (tVar 9) (tCons (tVar 8) tNil)))) (gName 10))
    (tSeq (tIfS (tNot (tB (tCal (spAlike K) (tCons (tOp (rIxT K) (tCal (spGoneBy K) (tCons (tVar 6) (tCons (tVar 10) tNil))) (tC (.int 0))) (tCons (tVar 8) tNil))))) (tRet (tC (.bl false))) tNext)
    (tSeq (tIfS (tTest (tOp (rNeD K) (tLc (iList K (tVar 10)) (gName 15) tYes (tIf (tTest (tOp rEq (tOp (rIxT K) (tVar 15) (tC (.int 0))) (tC (.str "in")))) (tVar 15) (tSl (rSlT K) (tVar 15) tNoPart (tPart (tC (.int 1))))) [15]) (tVar 9))) (tRet (tC (.bl false))) tNext)
    (tSeq (tAsg (tCal spMovers (tCons (tCal (spRows K) (tCons (tVar 6) (tCons (tVar 10) tNil))) tNil)) (gName 11))
    (tSeq (tAsg (tCal spMovers (tCons (tVar 7) tNil)) (gName 12))
    (tSeq (tAsg (tCB (rSortedA K) (tCons (tLockE (tLc (iKeys (tVar 11)) (gName 16) (tAnd (tTest (tOp (rIn K false) (tVar 16) (tVar 8))) (tTest (tOp rGtI (tCB (rLenQ K) (tCons (tDGet (tVar 11) (tVar 16)) tNil)) (tC (.int 1))))) (tVar 16) [16])) tNil)) (gName 13))
    (tSeq (tIfS (tNot (tB (tCal (spAlike K) (tCons (tCal (spMoved K) (tCons (tVar 6) (tCons (tVar 9) (tCons (tVar 8) tNil)))) (tCons (tVar 13) tNil))))) (tRet (tC (.bl false))) tNext)
    (tSeq (tIfS (tTest (tOp (rNeD K) (tLockE (tLc (iKeys (tVar 11)) (gName 16) (tTest (tOp rGtI (tCB (rLenQ K) (tCons (tDGet (tVar 11) (tVar 16)) tNil)) (tOp rAddI (tC (.int 1)) (tCB rIntQ (tCons (tOp (rIn K false) (tVar 16) (tVar 13)) tNil))))) (tVar 16) [16])) (tLst tNil))) (tRet (tC (.bl false))) tNext)
    (tSeq (tIfS (tTest (tOp (rNeD K) (tLc (iList K (tVar 13)) (gName 16) (tTest (tOp rLtI (tCB (rLenQ K) (tCons (tDGet (tVar 12) (tVar 16)) tNil)) (tC (.int 2)))) (tVar 16) [16]) (tLst tNil))) (tRet (tC (.bl false))) tNext)
    (tIfS (tAnd (tTest (tOp (rNeD K) (tVar 8) (tTup tNil))) (tNot (tB (tCal (spBentRight K) (tCons (tVar 2) (tCons (tVar 6) (tCons (tVar 9) (tCons (tVar 8) (tCons (tVar 10) tNil))))))))) (tRet (tC (.bl false))) tNext))))))))))))))))))))
    (tRet (tC (.bl true))))
end
end K60

/-! Small words for the readings. -/
namespace K60
open PySem PySem.Spec PyProof.Rows L2 Lf

/-! ### what stays -/
theorem Ret.go {v : V} {H H' : Hp} {Q : VK} (h : Ret v H Q) (e : Ex H H') : Q v H' := h H' e
theorem Ret.here {v : V} {H : Hp} {Q : VK} (h : Ret v H Q) : Q v H := h H (Same.refl H)
theorem Ret.mono {v : V} {H H' : Hp} {Q : VK} (h : Ret v H Q) (e : Ex H H') : Ret v H' Q := fun H2 e2 => h H2 (e.trans e2)
theorem ret_of {v : V} {H H1 : Hp} {Q : VK} (h : Ret v H Q) (e : Ex H H1) : ∀ H', Ex H1 H' → Q v H' := fun H' e' => h H' (e.trans e')
/-- tuples stay -/
def TE' (H H' : Hp) : Prop := ∀ a r, H a = some (.tup r) → H' a = some (.tup r)
theorem ex_te {H H' : Hp} (e : Ex H H') : TE' H H' := fun a r h => e a _ h
theorem te_refl (H : Hp) : TE' H H := fun _ _ h => h
theorem TE'.trans {H H1 H2 : Hp} (a : TE' H H1) (b : TE' H1 H2) : TE' H H2 := fun x r h => b x r (a x r h)
theorem te_put {H : Hp} {l : Addr} {xs : List V} {o : HO} (h : H l = some (.lst xs)) : TE' H (upd H l o) := fun a r e => by
  rw [upd_ne (ne_of e h (by intro z; cases z))]
  exact e
theorem te_new {H : Hp} {l : Addr} {o : HO} (h : H l = none) : TE' H (upd H l o) := fun a r e => by
  rw [upd_ne (ne_of_none e h)]
  exact e
theorem Tups.te {H H' : Hp} {xs : List V} {rs : List (List V)} (h : Tups H xs rs) (e : TE' H H') : Tups H' xs rs := ⟨h.1, fun i x hx => by
  obtain ⟨a, r, h1, h2, h3⟩ := h.2 i x hx
  exact ⟨a, r, h1, h2, e a r h3⟩⟩
theorem TupsAt.ex {H H' : Hp} {l : Addr} {rs : List (List V)} (h : TupsAt H l rs) (e : Ex H H') : TupsAt H' l rs := by
  obtain ⟨xs, h1, h2⟩ := h
  exact ⟨xs, e l _ h1, h2.te (ex_te e)⟩
theorem Lsts.ex {H H' : Hp} {xs : List V} {rs : List (List V)} (h : Lsts H xs rs) (e : Ex H H') : Lsts H' xs rs := ⟨h.1, fun i x hx => by
  obtain ⟨a, r, h1, h2, h3⟩ := h.2 i x hx
  exact ⟨a, r, h1, h2, e a _ h3⟩⟩
theorem LstsAt.ex {H H' : Hp} {l : Addr} {rs : List (List V)} (h : LstsAt H l rs) (e : Ex H H') : LstsAt H' l rs := by
  obtain ⟨xs, h1, h2⟩ := h
  exact ⟨xs, e l _ h1, h2.ex e⟩
theorem KnAt.ex {H H' : Hp} {d : Addr} {ks : Kn Str} (h : KnAt H d ks) (e : Ex H H') : KnAt H' d ks := by
  obtain ⟨kvs, h1, h2⟩ := h
  refine ⟨kvs, e d _ h1, fun p c m hm => ?_⟩
  obtain ⟨t, h3, h4⟩ := h2 p c m hm
  exact ⟨t, h3, e t _ h4⟩
theorem SpAt.ex {H H' : Hp} {d : Addr} {sp : List (Str × List Nat)} (h : SpAt H d sp) (e : Ex H H') : SpAt H' d sp := by
  obtain ⟨kvs, h1, h2, h3⟩ := h
  refine ⟨kvs, e d _ h1, h2, fun i kv hi => ?_⟩
  obtain ⟨p, L, a, g1, g2, g3⟩ := h3 i kv hi
  exact ⟨p, L, a, g1, g2, e a _ g3⟩
theorem RowAt.ex {K : PySem.W.Frag} {H H' : Hp} {a : Addr} {xs : List Str} (h : RowAt K H a xs) (e : Ex H H') : RowAt K H' a xs := ⟨Same.tup e h.at_, h.nd, h.ok, h.small⟩
theorem DeedsOf.ex {H H' : Hp} {row : List Str} {l : Addr} {ds : List Dd} (h : DeedsOf H row l ds) (e : Ex H H') : DeedsOf H' row l ds := ⟨h.at_.ex e, h.okd, h.ok, h.small⟩
theorem WordOf.ex {H H' : Hp} {row : List Str} {l : Addr} {w : Wd} (h : WordOf H row l w) (e : Ex H H') : WordOf H' row l w := ⟨h.at_.ex e, h.okw, h.ok, h.small⟩
theorem Three.ex {K : PySem.W.Frag} {H H' : Hp} {r l e : Addr} {row : List Str} {w : Wd} {en : List Str} (h : Three K H r l e row w en) (x : Ex H H') : Three K H' r l e row w en :=
  ⟨h.hrow.ex x, h.word.ex x, h.hen.ex x, h.len, h.these⟩

/-! ### parts of readings -/
section
variable {K : PySem.W.Frag} {H : Hp} {Q : VK}
theorem isi_ok {x : V} {a c : String} {b : Bool} (hx : TyX K H x (.type a)) (hb : kitB a c = some b) (q : Q (.bl b) H) : rIsi K [x, .ty c] H Q :=
  ⟨x, .ty c, .type a, .type c, b, rfl, .ty c, hx, kit_ty hb, q⟩
theorem ty_int (i : Int) : TyX K H (.int i) (.type "int") := .base (.int i)
theorem ty_str (i : Str) : TyX K H (.str i) (.type "str") := .base (.str i)
theorem ty_bl (i : Bool) : TyX K H (.bl i) (.type "bool") := .base (.bl i)
theorem ty_tup {a : Addr} {xs : List V} (h : H a = some (.tup xs)) : TyX K H (.ref a) (.type "tuple") := .base (.tup h)
theorem ty_lst {a : Addr} {xs : List V} (h : H a = some (.lst xs)) : TyX K H (.ref a) (.type "list") := .base (.lst h)
theorem ty_sqT {a : Addr} {xs : List V} (h : SqT K H a xs) : TyX K H (.ref a) (.type "tuple") := by
  rcases h with (h | ⟨o, h⟩) | ⟨o, its, n, h1, h2, _⟩
  · exact .base (.tup h)
  · exact .fTuple h
  · exact .kTuple h1 h2
theorem ixT {a : Addr} {xs : List V} {i : Nat} {v : V} (h : SqT K H a xs) (hi : xs[i]? = some v) (q : Q v H) : rIxT K (.ref a) (.int (i : Nat)) H Q := ⟨a, xs, _, v, rfl, rfl, h, atI_nat hi, q⟩
theorem ixT0 {a : Addr} {xs : List V} {v : V} (h : H a = some (.tup (v :: xs))) (q : Q v H) : rIxT K (.ref a) (.int 0) H Q := ixT (i := 0) (SqT.of h) rfl q
theorem ixT1 {a : Addr} {xs : List V} {u v : V} (h : H a = some (.tup (u :: v :: xs))) (q : Q v H) : rIxT K (.ref a) (.int 1) H Q := ixT (i := 1) (SqT.of h) rfl q
theorem ixL {a : Addr} {xs : List V} {i : Nat} {v : V} (h : SqL K H a xs) (hi : xs[i]? = some v) (q : Q v H) : rIxL K (.ref a) (.int (i : Nat)) H Q := ⟨a, xs, _, v, rfl, rfl, h, atI_nat hi, q⟩
theorem ixLast {a : Addr} {xs : List V} {v : V} (h : SqL K H a (xs ++ [v])) (q : Q v H) : rIxL K (.ref a) (.int (-1)) H Q := ⟨a, _, _, v, rfl, rfl, h, atI_last xs v, q⟩
theorem lenT {a : Addr} {xs : List V} (h : SqT K H a xs) (q : Q (.int xs.length) H) : rLenQ K [.ref a] H Q := ⟨a, xs, rfl, .inr h, q⟩
theorem lenL {a : Addr} {xs : List V} (h : SqL K H a xs) (q : Q (.int xs.length) H) : rLenQ K [.ref a] H Q := ⟨a, xs, rfl, .inl h, q⟩
theorem eqS {x y : Str} (q : Q (.bl (decide (x = y))) H) : rEq (.str x) (.str y) H Q := ⟨rfl, by
  have e : decide (V.str x = V.str y) = decide (x = y) := by
    by_cases h : x = y
    · simp [h]
    · have : ¬ V.str x = V.str y := fun z => h (V.str.inj z)
      simp [h]
  rw [e]
  exact q⟩
theorem eqI {x y : Int} (q : Q (.bl (decide (x = y))) H) : rEq (.int x) (.int y) H Q := ⟨rfl, by
  have e : decide (V.int x = V.int y) = decide (x = y) := by
    by_cases h : x = y
    · simp [h]
    · have : ¬ V.int x = V.int y := fun z => h (V.int.inj z)
      simp [h]
  rw [e]
  exact q⟩
theorem neI {x y : Int} (q : Q (.bl (!decide (x = y))) H) : rNe (.int x) (.int y) H Q := ⟨rfl, by
  have e : decide (V.int x = V.int y) = decide (x = y) := by
    by_cases h : x = y
    · simp [h]
    · have : ¬ V.int x = V.int y := fun z => h (V.int.inj z)
      simp [h]
  rw [e]
  exact q⟩
theorem eqB {x y : Bool} (q : Q (.bl (decide (x = y))) H) : rEq (.bl x) (.bl y) H Q := ⟨rfl, by
  have e : decide (V.bl x = V.bl y) = decide (x = y) := by
    by_cases h : x = y
    · simp [h]
    · have : ¬ V.bl x = V.bl y := fun z => h (V.bl.inj z)
      simp [h]
  rw [e]
  exact q⟩
theorem neB {x y : Bool} (q : Q (.bl (!decide (x = y))) H) : rNe (.bl x) (.bl y) H Q := ⟨rfl, by
  have e : decide (V.bl x = V.bl y) = decide (x = y) := by
    by_cases h : x = y
    · simp [h]
    · have : ¬ V.bl x = V.bl y := fun z => h (V.bl.inj z)
      simp [h]
  rw [e]
  exact q⟩
theorem smallI {n : Nat} (h : n ≤ 1000) : n ≤ sizeLine := Nat.le_trans h (by decide)
end
end K60

/-! Comprehensions whose turns only add to the heap. -/
namespace K60
open PySem PySem.Spec PyProof.Rows L2 Lf

def AllR (R : Nat → V → Hp → Prop) (H : Hp) (xs : List V) (is : List Nat) : Prop := xs.length = is.length ∧ ∀ (k : Nat) (v : V), xs[k]? = some v → ∃ i, is[k]? = some i ∧ R i v H
theorem AllR.te {R : Nat → V → Hp → Prop} {H H' : Hp} {xs : List V} {is : List Nat} (hR : ∀ i v H H', TE' H H' → R i v H → R i v H') (h : AllR R H xs is) (e : TE' H H') : AllR R H' xs is := ⟨h.1, fun k v hk => by
  obtain ⟨i, h1, h2⟩ := h.2 k v hk
  exact ⟨i, h1, hR i v H H' e h2⟩⟩
theorem get_snoc {α : Type} {xs : List α} {x v : α} {k : Nat} (h : (xs ++ [x])[k]? = some v) : xs[k]? = some v ∨ (k = xs.length ∧ v = x) := by
  by_cases hk : k < xs.length
  · rw [List.getElem?_append_left hk] at h
    exact .inl h
  · rw [List.getElem?_append_right (by omega)] at h
    have hz : k - xs.length = 0 := by
      have := (List.getElem?_eq_some_iff.mp h).1
      simp at this
      omega
    rw [hz] at h
    right
    exact ⟨by omega, by simpa using h.symm⟩
theorem get_snoc_l {α : Type} {xs : List α} {x v : α} {k : Nat} (h : xs[k]? = some v) : (xs ++ [x])[k]? = some v := by
  rw [List.getElem?_append_left (List.getElem?_eq_some_iff.mp h).1]
  exact h
theorem get_snoc_r {α : Type} (xs : List α) (x : α) : (xs ++ [x])[xs.length]? = some x := by simp
theorem AllR.snoc {R : Nat → V → Hp → Prop} {H : Hp} {xs : List V} {is : List Nat} {i : Nat} {v : V} (h : AllR R H xs is) (hv : R i v H) : AllR R H (xs ++ [v]) (is ++ [i]) := by
  refine ⟨by simp [h.1], fun k u hk => ?_⟩
  rcases get_snoc hk with hk | ⟨_, rfl⟩
  · obtain ⟨j, h1, h2⟩ := h.2 k u hk
    exact ⟨j, get_snoc_l h1, h2⟩
  · refine ⟨i, ?_, hv⟩
    rw [‹k = xs.length›, h.1]
    exact get_snoc_r is i
theorem Tups.snoc {H : Hp} {xs : List V} {rs : List (List V)} {a : Addr} {r : List V} (h : Tups H xs rs) (ha : H a = some (.tup r)) : Tups H (xs ++ [.ref a]) (rs ++ [r]) := by
  refine ⟨by simp [h.1], fun k u hk => ?_⟩
  rcases get_snoc hk with hk | ⟨_, rfl⟩
  · obtain ⟨b, s, h1, h2, h3⟩ := h.2 k u hk
    exact ⟨b, s, h1, get_snoc_l h2, h3⟩
  · refine ⟨a, r, rfl, ?_, ha⟩
    rw [‹k = xs.length›, h.1]
    exact get_snoc_r rs r
theorem tups_nil (H : Hp) : Tups H [] [] := ⟨rfl, fun i x h => by simp at h⟩
section
variable {J : It} {n : Nat} {G : Hp → Prop} {Y : Nat → Hp → V → Hp → Prop}
theorem lc_gen (w : Walk J n G Y) {g : TG} {tt : TT} {te : TE} {vs : List Nat} {σ : L2.St} {H1 : Hp} {D : Addr} {Qd : Hp → Prop} (t : Nat → Bool) (R : Nat → V → Hp → Prop) (hR : ∀ i v H H', TE' H H' → R i v H → R i v H') (hD : H1 D = none) (hn : n ≤ 100000)
    (hG : ∀ H', Ex H1 H' → G H')
    (hs : ∀ i x H H' (N : Hp → Prop) (C : VK), i < n → Ex H1 H → Y i H x H' → (t i = false → ∀ H3, Ex H H3 → N H3) → (t i = true → ∀ y H4, Ex H H4 → R i y H4 → C y H4) →
      g x (wipe σ vs) H' fun σ2 H2 => wipe σ2 vs = wipe σ vs ∧ tt σ2 H2 fun b H3 => if b = true then te σ2 H3 C else N H3)
    (hd : ∀ H' xs, Ex H1 H' → H' D = some (.lst xs) → AllR R H' xs ((List.range n).filter t) → Qd H') :
    ∃ W : Nat → Nat → Hp → Prop, (∃ m, W 0 m (upd H1 D (.lst []))) ∧ ∀ i m H, W i m H →
      (J.stop i H ∧ Qd H) ∨ (J.go i H ∧ ∃ Nx : Hp → Prop, (∀ H', Nx H' → ∃ m', m' < m ∧ W (i + 1) m' H') ∧ ∀ x H', J.yld i H x H' → g x (wipe σ vs) H' fun σ2 H2 => wipe σ2 vs = wipe σ vs ∧ tt σ2 H2 fun b H3 =>
        if b = true then te σ2 H3 fun y H4 => ∃ acc, H4 D = some (.lst acc) ∧ acc.length < sizeLine ∧ Nx (upd H4 D (.lst (acc ++ [y]))) else Nx H3) := by
  refine lc_it w (fun i H => Ex H1 H ∧ ∃ xs, H D = some (.lst xs) ∧ AllR R H xs ((List.range i).filter t)) ⟨ex_new hD, [], upd_same, rfl, fun k v h => by simp at h⟩ (fun i H _ p => hG H p.1) (fun i x H H' hi p y => ?_) fun H' p => ?_
  · obtain ⟨e, xs, hx, ha⟩ := p
    have hlen : xs.length ≤ i := by
      have h1 := ha.1
      have h2 := List.length_filter_le t (List.range i)
      rw [List.length_range] at h2
      omega
    refine hs i x H H' _ _ hi e y (fun ht H3 e3 => ?_) fun ht v H4 e4 hv => ?_
    · refine ⟨e.trans e3, xs, e3 D _ hx, ?_⟩
      rw [List.range_succ, List.filter_append, List.filter_cons, ht]
      simpa using ha.te hR (ex_te e3)
    · have hx4 := e4 D _ hx
      refine ⟨xs, hx4, Nat.lt_of_le_of_lt (Nat.le_trans hlen (by omega : i ≤ 100000)) (by decide), ex_put (e.trans e4) hD, xs ++ [v], upd_same, ?_⟩
      rw [List.range_succ, List.filter_append, List.filter_cons, ht]
      have h5 : TE' H4 (upd H4 D (.lst (xs ++ [v]))) := te_put hx4
      exact ((ha.te hR (ex_te e4)).te hR h5).snoc (hR i v _ _ h5 hv)
  · obtain ⟨e, xs, hx, ha⟩ := p
    exact hd H' xs e hx ha
/-- a dict of unlike texts -/
theorem dc_gen (w : Walk J n G Y) {g : TG} {tt : TT} {tk tv : TE} {vs : List Nat} {σ : L2.St} {H1 : Hp} {D : Addr} {Qd : Hp → Prop} (key : Nat → Str) (R : Nat → V → Hp → Prop) (hR : ∀ i v H H', TE' H H' → R i v H → R i v H') (hD : H1 D = none) (hn : n ≤ 100000)
    (hk : ∀ i j, i < n → j < n → key i = key j → i = j) (hG : ∀ H', Ex H1 H' → G H')
    (hs : ∀ i x H H' (N : Hp → Prop) (C : V → V → Hp → Prop), i < n → Ex H1 H → Y i H x H' → (∀ y H5, Ex H H5 → R i y H5 → C (.str (key i)) y H5) →
      g x (wipe σ vs) H' fun σ2 H2 => wipe σ2 vs = wipe σ vs ∧ tt σ2 H2 fun b H3 => if b = true then tk σ2 H3 fun y H4 => tv σ2 H4 fun z H5 => C y z H5 else N H3)
    (hd : ∀ H' kvs, Ex H1 H' → H' D = some (.dK kvs) → (∀ i, i < n → ∃ v, valV kvs (Sum.inr (key i)) = some v ∧ R i v H') → (∀ x, (∀ i, i < n → key i ≠ x) → valV kvs (Sum.inr x) = none) → Qd H') :
    ∃ W : Nat → Nat → Hp → Prop, (∃ m, W 0 m (upd H1 D (.dK []))) ∧ ∀ i m H, W i m H →
      (J.stop i H ∧ Qd H) ∨ (J.go i H ∧ ∃ Nx : Hp → Prop, (∀ H', Nx H' → ∃ m', m' < m ∧ W (i + 1) m' H') ∧ ∀ x H', J.yld i H x H' → g x (wipe σ vs) H' fun σ2 H2 => wipe σ2 vs = wipe σ vs ∧ tt σ2 H2 fun b H3 =>
        if b = true then tk σ2 H3 fun y H4 => tv σ2 H4 fun z H5 => ∃ kvs k, y = kV k ∧ H5 D = some (.dK kvs) ∧ kvs.length < sizeLine ∧ Nx (upd H5 D (.dK (putK kvs k z))) else Nx H3) := by
  refine dc_it w (fun i H => Ex H1 H ∧ ∃ kvs, H D = some (.dK kvs) ∧ kvs.length ≤ i ∧ (∀ j, j < i → ∃ v, valV kvs (Sum.inr (key j)) = some v ∧ R j v H) ∧ ∀ x, (∀ j, j < i → key j ≠ x) → valV kvs (Sum.inr x) = none)
    ⟨ex_new hD, [], upd_same, Nat.le_refl 0, fun j hj => absurd hj (Nat.not_lt_zero _), fun x _ => rfl⟩ (fun i H _ p => hG H p.1) (fun i x H H' hi p y => ?_) fun H' p => ?_
  · obtain ⟨e, kvs, hx, hl, ha, hno⟩ := p
    refine hs i x H H' _ (fun y z H5 => ∃ kvs k, y = kV k ∧ H5 D = some (.dK kvs) ∧ kvs.length < sizeLine ∧ (Ex H1 (upd H5 D (.dK (putK kvs k z))) ∧ _)) hi e y fun v H5 e5 hv => ?_
    · have hx5 := e5 D _ hx
      have hte : TE' H5 (upd H5 D (.dK (putK kvs (Sum.inr (key i)) v))) := fun a r q => by
        rw [upd_ne (ne_of q hx5 (by intro z; cases z))]
        exact q
      refine ⟨kvs, Sum.inr (key i), rfl, hx5, Nat.lt_of_le_of_lt (Nat.le_trans hl (by omega : i ≤ 100000)) (by decide), ex_put (e.trans e5) hD, _, upd_same, ?_, fun j hj => ?_, fun x hxk => ?_⟩
      · have hnone : valV kvs (Sum.inr (key i)) = none := hno _ fun j hj q => by
          have := hk j i (by omega) hi q
          omega
        rw [putK_new v hnone, List.length_append]
        show kvs.length + 1 ≤ i + 1
        omega
      · rw [valV_put]
        by_cases eji : j = i
        · subst eji
          exact ⟨v, if_pos rfl, hR j v _ _ hte hv⟩
        · obtain ⟨u, h1, h2⟩ := ha j (by omega)
          refine ⟨u, ?_, hR j u _ _ hte (hR j u _ _ (ex_te e5) h2)⟩
          rw [if_neg fun q => ?_]
          · exact h1
          · exact eji (hk j i (by omega) hi (Sum.inr.inj q))
      · rw [valV_put, if_neg fun q => hxk i (by omega) (Sum.inr.inj q).symm]
        exact hno x fun j hj => hxk j (by omega)
  · obtain ⟨e, kvs, hx, hl, ha, hno⟩ := p
    exact hd H' kvs e hx ha hno
end
theorem AllR.all {R : Nat → V → Hp → Prop} {H : Hp} {xs : List V} {n : Nat} (h : AllR R H xs ((List.range n).filter fun _ => true)) : AllR R H xs (List.range n) := by
  rw [List.filter_eq_self.mpr fun _ _ => rfl] at h
  exact h
abbrev En (Q : VK) : Ends := { nx := fun _ H' => Q .non H', rt := Q }
/-- all True -/
theorem allR_true {H : Hp} {xs : List V} {n : Nat} (h : AllR (fun _ v _ => v = .bl true) H xs (List.range n)) : xs = (List.replicate n true).map V.bl := by
  refine List.ext_getElem? fun k => ?_
  have hl := h.1
  rw [List.length_range] at hl
  by_cases hk : k < n
  · have e : xs[k]? = some (xs[k]'(by omega)) := List.getElem?_eq_getElem _
    obtain ⟨i, _, h2⟩ := h.2 k _ e
    rw [e, h2]
    simp [hk]
  · rw [List.getElem?_eq_none (by omega), List.getElem?_eq_none (by simp; omega)]
theorem all_true (n : Nat) : (List.replicate n true).all id = true := by simp
/-- the values themselves -/
theorem allR_map {f : Nat → V} {H : Hp} {xs : List V} {is : List Nat} (h : AllR (fun i v _ => v = f i) H xs is) : xs = is.map f := by
  refine List.ext_getElem? fun k => ?_
  have hl := h.1
  by_cases hk : k < xs.length
  · have e : xs[k]? = some (xs[k]) := List.getElem?_eq_getElem _
    obtain ⟨i, h1, h2⟩ := h.2 k _ e
    rw [e, h2, List.getElem?_map, h1]
    rfl
  · rw [List.getElem?_eq_none (by omega), List.getElem?_eq_none (by simp; omega)]
end K60
namespace K60
open PySem PySem.Spec PyProof.Rows L2 Lf
/-! ### texts in lists -/
theorem vS_get {xs : List Str} {i : Nat} {v : V} (h : (vS xs)[i]? = some v) : ∃ x, xs[i]? = some x ∧ v = .str x := by
  rw [vS, List.getElem?_map] at h
  cases e : xs[i]? with
  | none => rw [e] at h; cases h
  | some u =>
    rw [e] at h
    exact ⟨u, rfl, (Option.some.inj h).symm⟩
theorem vS_at {xs : List Str} {i : Nat} {x : Str} (h : xs[i]? = some x) : (vS xs)[i]? = some (.str x) := by
  rw [vS, List.getElem?_map, h]
  rfl
theorem vS_len (xs : List Str) : (vS xs).length = xs.length := List.length_map ..
theorem vS_snoc (xs : List Str) (x : Str) : vS xs ++ [.str x] = vS (xs ++ [x]) := by
  rw [vS, vS, List.map_append]
  rfl
theorem inV_vS (x : Str) (xs : List Str) : inV (.str x) (vS xs) = decide (x ∈ xs) := by
  unfold inV vS
  rw [List.any_map]
  by_cases h : x ∈ xs
  · rw [decide_eq_true h, List.any_eq_true]
    exact ⟨x, h, beq_self_eq_true x⟩
  · rw [decide_eq_false h, List.any_eq_false]
    intro y hy
    show ¬ (y == x) = true
    intro e
    exact h (by rw [← eq_of_beq e]; exact hy)
theorem flat_vS (xs : List Str) : (vS xs).all flatV = true := by
  unfold vS
  rw [List.all_map]
  exact List.all_eq_true.mpr fun _ _ => rfl
section
variable {K : PySem.W.Frag} {H : Hp} {Q : VK}
theorem notIn_ok {p : Addr} {xs : List Str} {x : Str} (h : SqL K H p (vS xs)) (q : Q (.bl (!decide (x ∈ xs))) H) : rIn K true (.str x) (.ref p) H Q :=
  ⟨p, vS xs, rfl, .inl h, rfl, flat_vS xs, by rw [inV_vS]; exact q⟩
theorem in_ok {p : Addr} {xs : List Str} {x : Str} (h : SqL K H p (vS xs) ∨ SqT K H p (vS xs)) (q : Q (.bl (decide (x ∈ xs))) H) : rIn K false (.str x) (.ref p) H Q :=
  ⟨p, vS xs, rfl, h, rfl, flat_vS xs, by rw [inV_vS]; exact q⟩
theorem listT {a : Addr} {xs : List V} (h : SqT K H a xs) (q : ∀ l, H l = none → Q (.ref l) (upd H l (.lst xs))) : rListQ K [.ref a] H Q := ⟨a, xs, rfl, .inr h, q⟩
theorem listL {a : Addr} {xs : List V} (h : SqL K H a xs) (q : ∀ l, H l = none → Q (.ref l) (upd H l (.lst xs))) : rListQ K [.ref a] H Q := ⟨a, xs, rfl, .inl h, q⟩
/-- x.append(v) -/
theorem appd {l : Addr} {xs : List V} {v : V} (h : H l = some (.lst xs)) (hz : xs.length ≤ 100000) (q : Q .non (upd H l (.lst (xs ++ [v])))) : rAppend (.ref l) [v] H Q :=
  ⟨l, xs, v, rfl, rfl, h, Nat.lt_of_le_of_lt hz (by decide), q⟩
theorem tyL {a : Addr} {xs : List V} (h : H a = some (.lst xs)) : tyV K "list" (.ref a) H := .inl ⟨rfl, _, SqL.of h⟩
end
theorem tups_get {H : Hp} {xs : List V} {rs : List (List V)} {i : Nat} {x : V} (h : Tups H xs rs) (hx : xs[i]? = some x) : ∃ a r, x = .ref a ∧ rs[i]? = some r ∧ H a = some (.tup r) := h.2 i x hx
theorem deed_get {H : Hp} {xs : List V} {ds : List Dd} {i : Nat} {x : V} (h : Tups H xs (ds.map dV)) (hx : xs[i]? = some x) : ∃ a d, x = .ref a ∧ ds[i]? = some d ∧ H a = some (.tup (dV d)) := by
  obtain ⟨a, r, h1, h2, h3⟩ := h.2 i x hx
  rw [List.getElem?_map] at h2
  cases e : ds[i]? with
  | none => rw [e] at h2; cases h2
  | some d =>
    rw [e] at h2
    have : dV d = r := Option.some.inj h2
    rw [← this] at h3
    exact ⟨a, d, h1, rfl, h3⟩
theorem word_get {H : Hp} {xs : List V} {w : Wd} {i : Nat} {x : V} (h : Tups H xs (w.map wV)) (hx : xs[i]? = some x) : ∃ a d, x = .ref a ∧ w[i]? = some d ∧ H a = some (.tup (wV d)) := by
  obtain ⟨a, r, h1, h2, h3⟩ := h.2 i x hx
  rw [List.getElem?_map] at h2
  cases e : w[i]? with
  | none => rw [e] at h2; cases h2
  | some d =>
    rw [e] at h2
    have : wV d = r := Option.some.inj h2
    rw [← this] at h3
    exact ⟨a, d, h1, rfl, h3⟩
theorem in_ne_out : decide (("out" : Str) = "in") = false := by decide +kernel
theorem out_ne_in : decide (("in" : Str) = "out") = false := by decide +kernel
end K60
namespace K60
open PySem PySem.Spec PyProof.Rows L2 Lf
/-- a for over range(n), n reckoned without a change -/
theorem forR1 {ta : TA} {g : TG} {tb : TS} {D : Ends} {σ : L2.St} {H : Hp} (n : Nat) (hn : n ≤ 100000) (ha : ∀ C : List V → Hp → Prop, C [.int (n : Nat)] H → ta σ H C) (Pv : Nat → L2.St → Hp → Prop) (h0 : Pv 0 σ H)
    (hs : ∀ i σ' H', i < n → Pv i σ' H' → g (.int (i : Nat)) σ' H' fun σ2 H2 => tb { D with nx := Pv (i + 1), ct := Pv (i + 1), bk := D.nx } σ2 H2) (hd : ∀ σ' H', Pv n σ' H' → D.nx σ' H') : tFor (iRng1 ta) g tb D σ H := by
  refine ha _ ⟨(n : Nat), rfl, by omega, by omega, ?_⟩
  rw [Int.toNat_natCast]
  refine for_range Pv h0 (fun i σ' H' hi p => ?_) hd
  rw [Int.zero_add]
  exact hs i σ' H' hi p
theorem forR3 {ta : TA} {g : TG} {tb : TS} {D : Ends} {σ : L2.St} {H : Hp} (i j c : Int) (n : Nat) (ha : ∀ C : List V → Hp → Prop, C [.int i, .int j, .int c] H → ta σ H C) (hr : RgC i j c n) (Pv : Nat → L2.St → Hp → Prop) (h0 : Pv 0 σ H)
    (hs : ∀ k σ' H', k < n → Pv k σ' H' → g (.int (i + (k : Nat) * c)) σ' H' fun σ2 H2 => tb { D with nx := Pv (k + 1), ct := Pv (k + 1), bk := D.nx } σ2 H2) (hd : ∀ σ' H', Pv n σ' H' → D.nx σ' H') : tFor (iRng3 ta) g tb D σ H :=
  ha _ ⟨i, j, c, n, rfl, hr, for_rangeC Pv h0 hs hd⟩
end K60
namespace K60
open PySem PySem.Spec PyProof.Rows L2 Lf
theorem two_ok {K : PySem.W.Frag} {i j : Nat} {T : Addr} {a b : V} {σ : L2.St} {H : Hp} {C : L2.St → Hp → Prop} (h : SqT K H T [a, b]) (q : C ((σ.set i (some a)).set j (some b)) H) : gTup K 2 (gCons (gName i) (gCons (gName j) gNil)) (.ref T) σ H C :=
  ⟨T, _, rfl, h, rfl, a, _, rfl, b, _, rfl, rfl, q⟩
theorem three_ok {K : PySem.W.Frag} {i j k : Nat} {T : Addr} {a b c : V} {σ : L2.St} {H : Hp} {C : L2.St → Hp → Prop} (h : SqT K H T [a, b, c]) (q : C (((σ.set i (some a)).set j (some b)).set k (some c)) H) : gTup K 3 (gCons (gName i) (gCons (gName j) (gCons (gName k) gNil))) (.ref T) σ H C :=
  ⟨T, _, rfl, h, rfl, a, _, rfl, b, _, rfl, c, _, rfl, rfl, q⟩
theorem fwF_none {ks : Kn Str} : ∀ {e : List Str} {k : Nat}, (∀ j x, e[j]? = some x → wrongAt ks x (k + j) = false) → fwF ks k e = none
  | [], _, _ => rfl
  | x :: r, k, h => by
    have h0 := h 0 x rfl
    show (if wrongAt ks x k = true then some k else fwF ks (k + 1) r) = none
    have h0 : wrongAt ks x k = false := h0
    rw [h0, if_neg (by decide)]
    exact fwF_none fun j y hy => by
      have := h (j + 1) y (by simpa using hy)
      rw [show k + 1 + j = k + (j + 1) by omega]
      exact this
theorem fwF_some {ks : Kn Str} : ∀ {e : List Str} {k i : Nat} {x : Str}, e[i]? = some x → wrongAt ks x (k + i) = true → (∀ j y, j < i → e[j]? = some y → wrongAt ks y (k + j) = false) → fwF ks k e = some (k + i)
  | [], _, _, _, h, _, _ => by simp at h
  | y :: r, k, 0, x, h, hw, _ => by
    have : y = x := by simpa using h
    subst this
    show (if wrongAt ks y k = true then some k else fwF ks (k + 1) r) = some (k + 0)
    have hw : wrongAt ks y k = true := hw
    rw [if_pos hw]
    rfl
  | y :: r, k, i + 1, x, h, hw, hb => by
    have h0 : wrongAt ks y k = false := hb 0 y (Nat.succ_pos i) rfl
    show (if wrongAt ks y k = true then some k else fwF ks (k + 1) r) = some (k + (i + 1))
    rw [h0, if_neg (by decide), fwF_some (k := k + 1) (i := i) (x := x) (by simpa using h) (by rw [show k + 1 + i = k + (i + 1) by omega]; exact hw) fun j z hj hz => by
      have := hb (j + 1) z (by omega) (by simpa using hz)
      rw [show k + 1 + j = k + (j + 1) by omega]
      exact this]
    congr 1
    omega
theorem fwF_at {ks : Kn Str} : ∀ {e : List Str} {k i : Nat}, fwF ks k e = some i → k ≤ i ∧ ∃ x, e[i - k]? = some x ∧ wrongAt ks x i = true
  | [], _, _, h => by cases h
  | y :: r, k, i, h => by
    have h : (if wrongAt ks y k = true then some k else fwF ks (k + 1) r) = some i := h
    by_cases hw : wrongAt ks y k = true
    · rw [if_pos hw] at h
      cases h
      exact ⟨Nat.le_refl _, y, by simp, hw⟩
    · rw [if_neg hw] at h
      obtain ⟨h1, x, h2, h3⟩ := fwF_at h
      refine ⟨by omega, x, ?_, h3⟩
      rw [show i - k = (i - (k + 1)) + 1 by omega]
      simpa using h2
theorem fwF_no {ks : Kn Str} : ∀ {e : List Str} {k : Nat}, fwF ks k e = none → ∀ j x, e[j]? = some x → wrongAt ks x (k + j) = false
  | [], _, _, j, x, hx => by simp at hx
  | y :: r, k, h, j, x, hx => by
    have h : (if wrongAt ks y k = true then some k else fwF ks (k + 1) r) = none := h
    by_cases hw : wrongAt ks y k = true
    · rw [if_pos hw] at h
      cases h
    · rw [if_neg hw] at h
      cases j with
      | zero =>
        have : y = x := by simpa using hx
        subst this
        simpa using hw
      | succ j =>
        have := fwF_no h j x (by simpa using hx)
        rw [show k + (j + 1) = k + 1 + j by omega]
        exact this
theorem wrong_is {ks : Kn Str} {p : Str} {c m i : Nat} (hn : (ks.map (·.1)).Nodup) (h : (p, c, m) ∈ ks) : wrongAt ks p i = !may c m i := by
  unfold wrongAt
  rw [lookup_of hn h]
theorem place_is {ks : Kn Str} {p : Str} {c m : Nat} (hn : (ks.map (·.1)).Nodup) (h : (p, c, m) ∈ ks) : placeOf ks p = c := by
  unfold placeOf
  rw [lookup_of hn h]
theorem Three.nodup {K : PySem.W.Frag} {H : Hp} {r l e : Addr} {row : List Str} {w : Wd} {en : List Str} (h : Three K H r l e row w en) : ((kn0 row w).map (·.1)).Nodup := fm_nodup h.hrow.nd h.word.okw
end K60
namespace K60
open PySem PySem.Spec PyProof.Rows L2 Lf
/-- a comprehension over range(n) -/
theorem lcR1 {ta : TA} {g : TG} {tt : TT} {te : TE} {vs : List Nat} {σ : L2.St} {H : Hp} {Q : VK} (n : Nat) (hn : n ≤ 100000) (ha : ∀ C : List V → Hp → Prop, C [.int (n : Nat)] H → ta σ H C)
    (h : tLc (fun _ H R => R (Itr 0 n) H) g tt te vs σ H Q) : tLc (iRng1 ta) g tt te vs σ H Q :=
  ha _ ⟨(n : Nat), rfl, by omega, by omega, by rw [Int.toNat_natCast]; exact h⟩
end K60
namespace K60
open PySem PySem.Spec PyProof.Rows L2 Lf
/-! ### the bag: what stays but it -/
theorem ExB.refl (l : Addr) (H : Hp) : ExB l H H := fun _ _ _ h => h
theorem ExB.trans {l : Addr} {H H1 H2 : Hp} (a : ExB l H H1) (b : ExB l H1 H2) : ExB l H H2 := fun x o hx h => b x o hx (a x o hx h)
theorem ExB.ex {l : Addr} {H H1 H2 : Hp} (a : ExB l H H1) (b : Ex H1 H2) : ExB l H H2 := fun x o hx h => b x o (a x o hx h)
theorem exb_of {l : Addr} {H H1 : Hp} (b : Ex H H1) : ExB l H H1 := fun x o _ h => b x o h
theorem exb_bag {l : Addr} {H : Hp} {o : HO} : ExB l H (upd H l o) := fun x u hx h => by
  rw [upd_ne hx]
  exact h
theorem exb_put {l p : Addr} {H H' : Hp} {o : HO} (a : ExB l H H') (hp : H p = none) : ExB l H (upd H' p o) := fun x u hx h => by
  rw [upd_ne (ne_of_none h hp)]
  exact a x u hx h
theorem BagAt.mono {H : Hp} {l : Addr} {n m : Nat} (h : BagAt H l n) (hm : n ≤ m) : BagAt H l m := by
  obtain ⟨a, b, c, h1, h2, h3, h4, h5⟩ := h
  exact ⟨a, b, c, h1, h2, h3, h4, by omega⟩
theorem BagAt.ex {H H' : Hp} {l : Addr} {n : Nat} (h : BagAt H l n) (e : Ex H H') : BagAt H' l n := by
  obtain ⟨a, b, c, h1, h2⟩ := h
  exact ⟨a, b, c, e l _ h1, h2⟩
theorem BagAt.put {H : Hp} {l p : Addr} {n : Nat} {o : HO} (h : BagAt H l n) (hp : l ≠ p) : BagAt (upd H p o) l n := by
  obtain ⟨a, b, c, h1, h2⟩ := h
  exact ⟨a, b, c, by rw [upd_ne hp]; exact h1, h2⟩
theorem BagAt.some {H : Hp} {l : Addr} {n : Nat} (h : BagAt H l n) : ∃ xs, H l = some (.lst xs) := by
  obtain ⟨a, b, c, h1, _⟩ := h
  exact ⟨_, h1⟩
/-- take, called -/
theorem take_ok {l : Addr} {m n : Nat} {H : Hp} {Q : VK} (hb : BagAt H l n) (hm : 0 < m) (hm2 : m ≤ 1000) (hn : n ≤ 1000000)
    (q : ∀ (r : Nat) o, r < m → BagAt (upd H l o) l (n + 1) → ExB l H (upd H l o) → Q (.int (r : Nat)) (upd H l o)) : spTake [.ref l, .int (m : Nat)] H Q E0 :=
  ⟨l, m, n, rfl, ⟨hm, hm2⟩, hn, hb, fun r o hr hb' => q r o hr hb' exb_bag⟩
theorem nodup_le {α : Type} [DecidableEq α] : ∀ {l xs : List α}, l.Nodup → (∀ x ∈ l, x ∈ xs) → l.length ≤ xs.length
  | [], _, _, _ => Nat.zero_le _
  | a :: r, xs, h, hs => by
    rw [List.nodup_cons] at h
    have ha := hs a List.mem_cons_self
    have := nodup_le (l := r) (xs := xs.erase a) h.2 fun x hx => by
      have hne : x ≠ a := fun e => h.1 (by rw [← e]; exact hx)
      exact (List.mem_erase_of_ne hne).mpr (hs x (List.mem_cons_of_mem _ hx))
    have h1 := List.length_erase_of_mem ha
    have h2 := List.length_pos_of_mem ha
    simp only [List.length_cons]
    omega
end K60

namespace K60
open PySem PySem.Spec PyProof.Rows L2 Lf
local macro_rules | `(tactic| walk_at "rd") => `(tactic| dsimp only [tRet, tSeq, tIfS, tNext, tNever, tAsg, tDrop, tAug, ipI, gName, gTup, gCons, gNil, gSub, tTup, tLst, tAndV, tOrV, tNotV, tIf, tAnd, tOr, tNot, tTest, tB, tCB, tCons, tNil, tC, tVar, tOp, tUn, tCal, tChain, tBM, tBM0, tDGet, tDGet2, tDIn, tSl, tPart, tNoPart, tYes, iRng1, iRng3, iList, iTup, iStr, iEnum, iEnumT, iKeys, tLenSetT, tDNewK, tTupIdx, sDPut, rAddI, rSubI, rMulI, rModI, rDivI, rPowI, rLtI, rLeI, rGtI, rGeI, rNegI, rI, rI0, rU])
section
variable {K : PySem.W.Frag} {vs : List V} {H : Hp} {Q : VK} {E : XK}
theorem pIsAmount (h : spIsAmount vs H Q E) : tIsAmount K (En Q) (start nIsAmount vs) H := by
  obtain ⟨p, rfl, q⟩ := h
  unfold tIsAmount
  walk_at "rd"
  refine ⟨_, rfl, isi_ok (ty_int _) (b := true) (by decide +kernel) ⟨_, rfl, iteT ?_⟩⟩
  refine ⟨_, rfl, isi_ok (ty_int _) (b := false) (by decide +kernel) ⟨_, rfl, ?_⟩⟩
  refine ⟨_, rfl, iteT ⟨_, rfl, _, _, rfl, rfl, ?_⟩⟩
  rw [decide_eq_true (Int.natCast_nonneg p)]
  exact q.here
theorem sign_in {x : Str} (h : OkName x) {i c : Nat} (hc : x.cps[i]? = some c) : decide (c ∈ alpha.cps.toList) = true := by
  refine decide_eq_true (h.2.2 c ?_)
  have : x.cps.toList[i]? = some c := by rw [Array.getElem?_toList]; exact hc
  exact List.mem_of_getElem? this
theorem pIsPerson (h : spIsPerson vs H Q E) : tIsPerson K (En Q) (start nIsPerson vs) H := by
  obtain ⟨x, rfl, ok, q⟩ := h
  have h1 := ok.1
  have h2 := ok.2.1
  unfold tIsPerson
  walk_at "rd"
  refine ⟨_, rfl, isi_ok (ty_str _) (b := true) (by decide +kernel) ⟨_, rfl, iteT ?_⟩⟩
  refine ⟨_, rfl, _, rfl, smallI (by omega), _, _, rfl, rfl, true, by rw [decide_eq_true (by omega)], iteT ⟨_, _, rfl, rfl, true, by rw [decide_eq_true (by omega)], iteT ?_⟩⟩
  refine ⟨_, rfl, x, rfl, fun D hD => lc_gen walk_str (fun _ => true) (fun _ v _ => v = .bl true) (fun _ _ _ _ _ h => h) hD (by have : x.cps.size = x.length := rfl; omega) (fun _ _ => trivial) (fun i v H1 H' N C hi e y hN hC => ?_) (fun H' xs e hx ha => ?_)⟩
  · obtain ⟨rfl, c, hc, rfl⟩ := y
    refine ⟨rfl, ?_⟩
    walk_at "rd"
    refine iteT ⟨_, rfl, c, _, rfl, rfl, ?_⟩
    rw [sign_in ok hc]
    exact hC rfl _ _ (Same.refl _) rfl
  · have ha' : AllR (fun _ v _ => v = .bl true) H' xs (List.range x.cps.size) := ha.all
    refine ⟨D, _, rfl, SqL.of (by rw [hx, allR_true ha']), ?_⟩
    rw [all_true]
    exact q.go e
theorem pIsRow (h : spIsRow K vs H Q E) : tIsRow K (En Q) (start nIsRow vs) H := by
  obtain ⟨a, xs, rfl, r, q⟩ := h
  have hlen : (vS xs).length = xs.length := List.length_map ..
  have hsm : xs.length ≤ 1000 := r.small
  unfold tIsRow
  walk_at "rd"
  refine ⟨_, rfl, isi_ok (ty_sqT r.at_) (b := true) (by decide +kernel) ⟨_, rfl, iteT ?_⟩⟩
  refine ⟨_, rfl, a, rfl, ⟨_, r.at_⟩, fun D hD => lc_gen (walk_tup (xs := vS xs)) (fun _ => true) (fun _ v _ => v = .bl true) (fun _ _ _ _ _ h => h) hD (by omega) (fun H' e => Same.tup e r.at_) (fun i v H1 H' N C hi e y hN hC => ?_) (fun H' ys e hx ha => ?_)⟩
  · obtain ⟨rfl, hv⟩ := y
    obtain ⟨x, hx, rfl⟩ : ∃ x, xs[i]? = some x ∧ v = .str x := by
      rw [vS, List.getElem?_map] at hv
      cases e : xs[i]? with
      | none => rw [e] at hv; cases hv
      | some u =>
        rw [e] at hv
        exact ⟨u, rfl, (Option.some.inj hv).symm⟩
    refine ⟨rfl, ?_⟩
    walk_at "rd"
    exact iteT ⟨_, rfl, x, rfl, r.ok x (List.mem_of_getElem? hx), fun H2 e2 => hC rfl _ _ e2 rfl⟩
  · have ha' : AllR (fun _ v _ => v = .bl true) H' ys (List.range (vS xs).length) := ha.all
    refine ⟨D, _, rfl, SqL.of (by rw [hx, allR_true ha']), ?_⟩
    rw [all_true]
    refine ⟨_, rfl, iteT ⟨_, rfl, a, xs, rfl, Same.tup e r.at_, r.nd, hsm, ?_⟩⟩
    refine ⟨_, rfl, lenT (Same.tup e r.at_) (eqI ?_)⟩
    rw [hlen, decide_eq_true rfl]
    exact q.go e
theorem pIsPair (h : spIsPair vs H Q E) : tIsPair K (En Q) (start nIsPair vs) H := by
  obtain ⟨a, u, v, b, rfl, ha, q⟩ := h
  unfold tIsPair
  walk_at "rd"
  refine ⟨_, rfl, isi_ok (ty_tup ha) (b := true) (by decide +kernel) ⟨_, rfl, iteT ?_⟩⟩
  refine ⟨_, rfl, lenT (SqT.of ha) (eqI ⟨_, rfl, iteT ?_⟩)⟩
  refine ⟨_, rfl, ixT0 ha (isi_ok (ty_str _) (b := true) (by decide +kernel) ⟨_, rfl, iteT ?_⟩)⟩
  exact ⟨_, rfl, ixT0 ha ⟨_, rfl, eqS q.here⟩⟩
theorem pIsComing (h : spIsComing vs H Q E) : tIsComing K (En Q) (start nIsComing vs) H := by
  obtain ⟨a, d, rfl, ha, ok, q⟩ := h
  unfold tIsComing
  walk_at "rd"
  cases d with
  | inn x =>
    have ha : H a = some (.tup [.str "in", .str x]) := ha
    refine ⟨_, rfl, a, _, _, _, rfl, ha, fun H1 e1 => ⟨_, rfl, ?_⟩⟩
    refine iteT ⟨_, rfl, ixT1 (e1 _ _ ha) ⟨x, rfl, ok x rfl, fun H2 e2 => q.go (e1.trans e2)⟩⟩
  | out p =>
    have ha : H a = some (.tup [.str "out", .int p]) := ha
    refine ⟨_, rfl, a, _, _, _, rfl, ha, fun H1 e1 => ⟨_, rfl, ?_⟩⟩
    have e : decide (("out" : Str) = "in") = false := by decide +kernel
    rw [e]
    exact iteF (q.go e1)
theorem pIsGoing (h : spIsGoing vs H Q E) : tIsGoing K (En Q) (start nIsGoing vs) H := by
  obtain ⟨a, d, rfl, ha, q⟩ := h
  unfold tIsGoing
  walk_at "rd"
  cases d with
  | inn x =>
    have ha : H a = some (.tup [.str "in", .str x]) := ha
    refine ⟨_, rfl, a, _, _, _, rfl, ha, fun H1 e1 => ⟨_, rfl, ?_⟩⟩
    have e : decide (("in" : Str) = "out") = false := by decide +kernel
    rw [e]
    exact iteF (q.go e1)
  | out p =>
    have ha : H a = some (.tup [.str "out", .int p]) := ha
    refine ⟨_, rfl, a, _, _, _, rfl, ha, fun H1 e1 => ⟨_, rfl, ?_⟩⟩
    exact iteT ⟨_, rfl, ixT1 (e1 _ _ ha) ⟨p, rfl, fun H2 e2 => q.go (e1.trans e2)⟩⟩
theorem pNeedRow (h : spNeedRow K vs H Q E) : tNeedRow K (En Q) (start nNeedRow vs) H := by
  obtain ⟨a, xs, rfl, r, q⟩ := h
  unfold tNeedRow
  walk_at "rd"
  exact ⟨_, rfl, a, xs, rfl, r, fun H1 e1 => ⟨_, rfl, iteF (q.go e1)⟩⟩
theorem pGoOut (h : spGoOut vs H Q E) : tGoOut K (En Q) (start nGoOut vs) H := by
  obtain ⟨l, p, xs, x, rfl, hl, hs, hx, q⟩ := h
  have hp := (List.getElem?_eq_some_iff.mp hx).1
  unfold tGoOut
  walk_at "rd"
  refine ⟨_, rfl, _, rfl, ixL (SqL.of hl) (vS_at hx) ?_⟩
  obtain ⟨z, hz⟩ : ∃ z, xs[xs.length - 1]? = some z := ⟨_, List.getElem?_eq_getElem (by omega)⟩
  have hgl : xs.getLast? = some z := by rw [List.getLast?_eq_getElem?]; exact hz
  refine ⟨_, rfl, .inl ⟨rfl, _, SqL.of hl⟩, l, vS xs, .str z, rfl, rfl, hl, by rw [vS_len]; exact vS_at hz, ?_⟩
  have ed : (vS xs).dropLast = vS xs.dropLast := by rw [vS, vS, List.map_dropLast]
  rw [ed]
  have eg : goOut xs p = xs.dropLast.set p z := by
    unfold goOut
    rw [hgl]
  refine ⟨_, rfl, _, rfl, lenL (SqL.of upd_same) ⟨_, _, rfl, rfl, _, rfl, ?_⟩⟩
  have hdl : (vS xs.dropLast).length = xs.length - 1 := by rw [vS_len]; simp
  by_cases hlt : p < xs.length - 1
  · rw [decide_eq_true (by rw [hdl]; omega)]
    refine iteT ⟨_, rfl, _, rfl, _, rfl, l, _, _, p, rfl, rfl, upd_same, ?_, ?_⟩
    · unfold ixN
      rw [if_pos (by omega), if_pos (by rw [hdl]; omega)]
      rfl
    · refine ⟨_, rfl, ?_⟩
      rw [upd_upd]
      have e2 : (vS xs.dropLast).set p (.str z) = vS (xs.dropLast.set p z) := by rw [vS, vS, List.map_set]
      rw [e2, ← eg]
      exact q
  · rw [decide_eq_false (by rw [hdl]; omega)]
    refine iteF ⟨_, rfl, ?_⟩
    have e2 : goOut xs p = xs.dropLast := by
      rw [eg, List.set_eq_of_length_le (by simp; omega)]
    rw [← e2]
    exact q
end
end K60

namespace K60
open PySem PySem.Spec PyProof.Rows L2 Lf
local macro_rules | `(tactic| walk_at "rd") => `(tactic| dsimp only [tRet, tSeq, tIfS, tNext, tNever, tAsg, tDrop, tAug, ipI, gName, gTup, gCons, gNil, gSub, tTup, tLst, tAndV, tOrV, tNotV, tIf, tAnd, tOr, tNot, tTest, tB, tCB, tCons, tNil, tC, tVar, tOp, tUn, tCal, tChain, tBM, tBM0, tDGet, tDGet2, tDIn, tSl, tPart, tNoPart, tYes, iRng1, iRng3, iList, iTup, iStr, iEnum, iEnumT, iKeys, tLenSetT, tDNewK, tTupIdx, sDPut, rAddI, rSubI, rMulI, rModI, rDivI, rPowI, rLtI, rLeI, rGtI, rGeI, rNegI, rI, rI0, rU])
section
variable {K : PySem.W.Frag} {vs : List V} {H : Hp} {Q : VK} {E : XK}
/-- people behind some deeds -/
theorem run_small {row : List Str} {ds : List Dd} {i : Nat} (hr : Small row) (hd : Small ds) : (runD row (ds.take i)).length ≤ 2000 := by
  have h := runD_le (ds.take i) row
  have h1 : row.length ≤ 1000 := hr
  have h2 : ds.length ≤ 1000 := hd
  rw [List.length_take] at h
  omega
theorem getR {row : List Str} {ds : List Dd} {i p : Nat} (h : p < (runD row (ds.take i)).length) : ∃ x, (runD row (ds.take i))[p]? = some x := ⟨_, List.getElem?_eq_getElem h⟩
/-- go_out's promise for a longer list -/
theorem pIsDeedsOf (h : spIsDeedsOf K vs H Q E) : tIsDeedsOf K (En Q) (start nIsDeedsOf vs) H := by
  obtain ⟨r, l, row, ds, rfl, R, Dz, q⟩ := h
  obtain ⟨xs, hl, T⟩ := id Dz.at_
  have hxl : xs.length = ds.length := by have := T.1; simpa using this
  unfold tIsDeedsOf
  walk_at "rd"
  refine ⟨_, rfl, isi_ok (ty_lst hl) (b := true) (by decide +kernel) ⟨_, rfl, iteF ?_⟩⟩
  refine ⟨_, rfl, listT R.at_ fun pe hpe => ?_⟩
  refine ⟨_, rfl, l, rfl, ⟨xs, SqL.of (ex_new hpe l _ hl)⟩, for_list (xs := xs) (fun i σ' H' => ∃ d, σ' = [some (.ref r), some (.ref l), some (.ref pe), d] ∧ Ex H H' ∧ H' pe = some (.lst (vS (runD row (ds.take i)))))
    ⟨none, rfl, ex_new hpe, upd_same⟩ (fun i σ' H' _ p => ?_) (fun i x σ' H' hx p => ?_) fun σ' H' p => ?_⟩
  · obtain ⟨d, _, e, _⟩ := p
    exact SqL.of (e l _ hl)
  · walk_at "rd"
    obtain ⟨_, rfl, e, hp⟩ := p
    obtain ⟨a, d, rfl, hd, ha⟩ := deed_get T hx
    have ok := okd_at Dz.okd rfl (fun _ z => z) hd
    have hrs := run_small (i := i) R.small Dz.small
    cases d with
    | inn x =>
      have ha : H a = some (.tup [.str "in", .str x]) := ha
      refine ⟨_, rfl, a, .inn x, rfl, e a _ ha, fun y hy => ?_, fun H1 e1 => ⟨_, rfl, iteT ?_⟩⟩
      · injection hy with hy
        rw [← hy]
        exact Dz.ok x (List.mem_of_getElem? hd)
      have e2 := e.trans e1
      refine ⟨_, rfl, ixT1 (e2 a _ ha) ⟨_, rfl, notIn_ok (SqL.of (e1 pe _ hp)) ⟨_, rfl, ?_⟩⟩⟩
      rw [decide_eq_false (ok.1 x rfl)]
      refine iteT ⟨_, rfl, tyL (e1 pe _ hp), _, rfl, ixT1 (e2 a _ ha) (appd (e1 pe _ hp) (by rw [vS_len]; omega) ?_)⟩
      refine ⟨_, rfl, ex_put e2 hpe, ?_⟩
      rw [upd_same, vS_snoc, runD_take hd]
      rfl
    | out p =>
      have ha : H a = some (.tup [.str "out", .int p]) := ha
      refine ⟨_, rfl, a, .out p, rfl, e a _ ha, fun y hy => (by cases hy), fun H1 e1 => ⟨_, rfl, iteF ?_⟩⟩
      refine ⟨_, rfl, a, .out p, rfl, e1 a _ (e a _ ha), fun H2 e2 => ⟨_, rfl, iteT ?_⟩⟩
      have e3 := (e.trans e1).trans e2
      have hp2 := e2 pe _ (e1 pe _ hp)
      have hlt := ok.2 p rfl
      refine ⟨_, rfl, ixT1 (e3 a _ ha) ⟨_, rfl, lenL (SqL.of hp2) ⟨_, _, rfl, rfl, _, rfl, ?_⟩⟩⟩
      rw [vS_len, decide_eq_true (by omega)]
      obtain ⟨x, hx⟩ := getR hlt
      refine iteT ⟨_, rfl, _, rfl, ixT1 (e3 a _ ha) ⟨pe, p, _, x, rfl, hp2, by omega, hx, ?_⟩⟩
      refine ⟨_, rfl, ex_put e3 hpe, ?_⟩
      rw [upd_same, runD_take hd]
      rfl
  · walk_at "rd"
    obtain ⟨_, rfl, e, _⟩ := p
    exact q.go e
theorem pNeedDeeds (h : spNeedDeeds K vs H Q E) : tNeedDeeds K (En Q) (start nNeedDeeds vs) H := by
  obtain ⟨r, l, row, ds, rfl, R, Dz, q⟩ := h
  unfold tNeedDeeds
  walk_at "rd"
  exact ⟨_, rfl, _, rfl, r, l, row, ds, rfl, R, Dz, fun H1 e1 => ⟨_, rfl, iteF (q.go e1)⟩⟩
theorem pGoneBy (h : spGoneBy K vs H Q E) : tGoneBy K (En Q) (start nGoneBy vs) H := by
  obtain ⟨r, l, row, ds, rfl, R, Dz, q⟩ := h
  obtain ⟨xs, hl, T⟩ := id Dz.at_
  have hxl : xs.length = ds.length := by have := T.1; simpa using this
  have hds : ds.length ≤ 1000 := Dz.small
  unfold tGoneBy
  walk_at "rd"
  refine ⟨_, rfl, listT R.at_ fun pe hpe => ?_⟩
  refine ⟨Nat.zero_le _, fun g hg => ?_⟩
  have hgp : g ≠ pe := by
    intro e
    rw [e, upd_same] at hg
    cases hg
  have hgn : H g = none := by
    rw [upd_ne hgp] at hg
    exact hg
  have e0 : Ex H (upd (upd H pe (.lst (vS row))) g (.lst [])) := (ex_new hpe).trans (ex_new hg)
  refine ⟨_, rfl, l, rfl, ⟨xs, SqL.of (e0 l _ hl)⟩, for_list (xs := xs) (fun i σ' H' => ∃ d gs, σ' = [some (.ref r), some (.ref l), some (.ref pe), some (.ref g), d] ∧ Ex H H' ∧ H' pe = some (.lst (vS (runD row (ds.take i)))) ∧ H' g = some (.lst gs) ∧ gs.length ≤ i)
    ⟨none, [], rfl, e0, by rw [upd_ne hgp.symm, upd_same]; rfl, upd_same, Nat.le_refl _⟩ (fun i σ' H' _ p => ?_) (fun i x σ' H' hx p => ?_) fun σ' H' p => ?_⟩
  · obtain ⟨d, gs, _, e, _⟩ := p
    exact SqL.of (e l _ hl)
  · walk_at "rd"
    obtain ⟨_, gs, rfl, e, hp, hgs, hgl⟩ := p
    have hi := (List.getElem?_eq_some_iff.mp hx).1
    obtain ⟨a, d, rfl, hd, ha⟩ := deed_get T hx
    have ok := okd_at Dz.okd rfl (fun _ z => z) hd
    have hrs := run_small (i := i) R.small Dz.small
    cases d with
    | inn x =>
      have ha : H a = some (.tup [.str "in", .str x]) := ha
      refine ⟨_, rfl, ixT0 (e a _ ha) (eqS ⟨_, rfl, iteT ?_⟩)⟩
      refine ⟨_, rfl, tyL hp, _, rfl, ixT1 (e a _ ha) (appd hp (by rw [vS_len]; omega) ?_)⟩
      refine ⟨_, gs, rfl, ex_put e hpe, ?_, by rw [upd_ne hgp]; exact hgs, by omega⟩
      rw [upd_same, vS_snoc, runD_take hd]
      rfl
    | out p =>
      have ha : H a = some (.tup [.str "out", .int p]) := ha
      refine ⟨_, rfl, ixT0 (e a _ ha) (eqS ⟨_, rfl, ?_⟩)⟩
      rw [in_ne_out]
      have hlt := ok.2 p rfl
      obtain ⟨x, hx⟩ := getR hlt
      refine iteF ⟨_, rfl, tyL hgs, _, rfl, _, rfl, ixT1 (e a _ ha) ⟨pe, p, _, x, rfl, hp, by omega, hx, ?_⟩⟩
      refine appd (by rw [upd_ne hgp]; exact hgs) (by omega) ?_
      refine ⟨_, gs ++ [.str x], rfl, ex_put (ex_put e hpe) hgn, ?_, upd_same, by simp; omega⟩
      rw [upd_ne hgp.symm, upd_same, runD_take hd]
      rfl
  · walk_at "rd"
    obtain ⟨_, gs, rfl, e, hp, hgs, _⟩ := p
    rw [hxl, List.take_length] at hp
    refine ⟨_, rfl, pe, _, rfl, .inl ⟨SqL.of hp, fun en hen => ?_⟩⟩
    refine ⟨_, rfl, by show 2 ≤ sizeLine; decide, fun t ht => ?_⟩
    refine q t en g _ ((e.trans (ex_new hen)).trans (ex_new ht)) upd_same ?_
    rw [upd_ne (ne_of_none upd_same ht), upd_same]
theorem pGo (h : spGoneBy K vs H Q E) : tGo K (En Q) (start nGo vs) H := by
  obtain ⟨r, l, row, ds, rfl, R, Dz, q⟩ := h
  unfold tGo
  walk_at "rd"
  refine ⟨_, rfl, r, row, rfl, R, fun H1 e1 => ?_⟩
  refine ⟨_, rfl, _, rfl, r, l, row, ds, rfl, R.ex e1, Dz.ex e1, fun H2 e2 => ?_⟩
  exact ⟨_, rfl, _, rfl, r, l, row, ds, rfl, R.ex (e1.trans e2), Dz.ex (e1.trans e2), fun p e g H' e' h1 h2 => q p e g H' ((e1.trans e2).trans e') h1 h2⟩
/-- where somebody stands, or None -/
theorem idx_ok {p : Addr} {xs : List Str} {x : Str} {H : Hp} {Q : VK} (h : H p = some (.lst (vS xs))) (hx : x ∈ xs) (q : Q (.int (xs.idxOf x : Nat)) H) : rIndex K (.ref p) [.str x] H Q := by
  have hlt := List.idxOf_lt_length_of_mem hx
  refine ⟨p, vS xs, .str x, xs.idxOf x, .str x, rfl, rfl, SqL.of h, rfl, flat_vS xs, vS_at (by rw [List.getElem?_eq_getElem hlt, List.getElem_idxOf]), beq_self_eq_true x, fun m z hm hz => ?_, q⟩
  obtain ⟨y, hy, rfl⟩ := vS_get hz
  show (y == x) = false
  refine beq_eq_false_iff_ne.mpr fun e => ?_
  rw [e] at hy
  have := idx_le hy
  omega
end
end K60

namespace K60
open PySem PySem.Spec PyProof.Rows L2 Lf
local macro_rules | `(tactic| walk_at "rd") => `(tactic| dsimp only [tRet, tSeq, tIfS, tNext, tNever, tAsg, tDrop, tAug, ipI, gName, gTup, gCons, gNil, gSub, tTup, tLst, tAndV, tOrV, tNotV, tIf, tAnd, tOr, tNot, tTest, tB, tCB, tCons, tNil, tC, tVar, tOp, tUn, tCal, tChain, tBM, tBM0, tDGet, tDGet2, tDIn, tSl, tPart, tNoPart, tYes, iRng1, iRng3, iList, iTup, iStr, iEnum, iEnumT, iKeys, tLenSetT, tDNewK, tTupIdx, sDPut, rAddI, rSubI, rMulI, rModI, rDivI, rPowI, rLtI, rLeI, rGtI, rGeI, rNegI, rI, rI0, rU])
local macro_rules | `(tactic| walk_at "rs") => `(tactic| dsimp only [tRet, tSeq, tIfS, tNext, tNever, tAsg, tDrop, tAug, ipI, gName, gTup, gCons, gNil, gSub, tTup, tLst, tAndV, tOrV, tNotV, tAnd, tOr, tNot, tTest, tB, tCB, tCons, tNil, tC, tVar, tOp, tUn, tCal, tChain, tBM, tBM0, tDGet, tDGet2, tDIn, tSl, tPart, tNoPart, tYes, iRng1, iRng3, iList, iTup, iStr, iEnum, iEnumT, iKeys, tLenSetT, tDNewK, tTupIdx, sDPut, rAddI, rSubI, rMulI, rModI, rDivI, rPowI, rLtI, rLeI, rGtI, rGeI, rNegI, rI, rI0, rU])
section
variable {K : PySem.W.Frag} {vs : List V} {H : Hp} {Q : VK} {E : XK}
/-- people.index(person) if person in people else None -/
theorem place_ok {σ : L2.St} {i j : Nat} {x : Str} {pe : Addr} {xs : List Str} {H : Hp} {Q : VK} (hi : σ[i]? = some (some (.str x))) (hj : σ[j]? = some (some (.ref pe))) (hp : H pe = some (.lst (vS xs))) (q : Q (plV x xs) H) :
    tIf (tTest (tOp (rIn K false) (tVar i) (tVar j))) (tBM K "list" (rIndex K) (tVar j) (tCons (tVar i) tNil)) (tC .non) σ H Q := by
  walk_at "rd"
  refine ⟨_, hi, _, hj, in_ok (.inl (SqL.of hp)) ⟨_, rfl, ?_⟩⟩
  unfold plV at q
  by_cases h : x ∈ xs
  · rw [if_pos h] at q
    rw [decide_eq_true h]
    exact iteT ⟨_, hj, tyL hp, _, hi, idx_ok hp h q⟩
  · rw [if_neg h] at q
    rw [decide_eq_false h]
    exact iteF q
theorem pPlaces (h : spPlaces K vs H Q E) : tPlaces K (En Q) (start nPlaces vs) H := by
  obtain ⟨r, l, row, ds, x, rfl, R, Dz, okx, q⟩ := h
  obtain ⟨xs, hl, T⟩ := id Dz.at_
  have hxl : xs.length = ds.length := by have := T.1; simpa using this
  have hds : ds.length ≤ 1000 := Dz.small
  unfold tPlaces
  walk_at "rs"
  refine ⟨_, rfl, r, row, rfl, R, fun H1 e1 => ?_⟩
  refine ⟨_, rfl, _, rfl, r, l, row, ds, rfl, R.ex e1, Dz.ex e1, fun H2 e2 => ?_⟩
  refine ⟨_, rfl, x, rfl, okx, fun H3 e3 => ⟨_, rfl, iteF ?_⟩⟩
  have e := (e1.trans e2).trans e3
  refine ⟨_, rfl, listT (Same.tup e R.at_) fun pe hpe => ?_⟩
  have n1 : H pe = none := e.free hpe
  have e4 := e.trans (ex_new (o := .lst (vS row)) hpe)
  refine place_ok (pe := pe) (xs := row) rfl rfl upd_same ?_
  refine ⟨by show 1 ≤ sizeLine; decide, fun g hg => ?_⟩
  have hgp : g ≠ pe := by
    intro z
    rw [z, upd_same] at hg
    cases hg
  have n2 : H g = none := e4.free hg
  have e5 := e4.trans (ex_new (o := .lst [plV x row]) hg)
  refine ⟨_, rfl, l, rfl, ⟨xs, SqL.of (e5 l _ hl)⟩, for_list (xs := xs) (fun i σ' H' => ∃ d, σ' = [some (.ref r), some (.ref l), some (.str x), some (.ref pe), some (.ref g), d] ∧ Ex H H' ∧ H' pe = some (.lst (vS (runD row (ds.take i)))) ∧ H' g = some (.lst ((rowsL row (ds.take i)).map (plV x))))
    ⟨none, rfl, e5, by rw [upd_ne hgp.symm, upd_same]; rfl, upd_same⟩ (fun i σ' H' _ p => ?_) (fun i z σ' H' hx p => ?_) fun σ' H' p => ?_⟩
  · obtain ⟨d, _, e, _⟩ := p
    exact SqL.of (e l _ hl)
  · walk_at "rs"
    obtain ⟨_, rfl, e, hp, hgs⟩ := p
    have hi := (List.getElem?_eq_some_iff.mp hx).1
    obtain ⟨a, d, rfl, hd, ha⟩ := deed_get T hx
    have ok := okd_at Dz.okd rfl (fun _ z => z) hd
    have hrs := run_small (i := i) R.small Dz.small
    have hrl : ((rowsL row (ds.take i)).map (plV x)).length ≤ 100000 := by
      rw [List.length_map, rowsL_len, List.length_take]
      omega
    cases d with
    | inn y =>
      have ha : H a = some (.tup [.str "in", .str y]) := ha
      refine ⟨_, rfl, ixT0 (e a _ ha) (eqS ⟨_, rfl, iteT ?_⟩)⟩
      refine ⟨_, rfl, tyL hp, _, rfl, ixT1 (e a _ ha) (appd hp (by rw [vS_len]; omega) ?_)⟩
      refine ⟨_, rfl, tyL (by rw [upd_ne hgp]; exact hgs), ?_⟩
      refine place_ok (σ := [some (.ref r), some (.ref l), some (.str x), some (.ref pe), some (.ref g), some (.ref a)]) (i := 2) (j := 3) (pe := pe) (xs := stepD (runD row (ds.take i)) (.inn y)) rfl rfl (by rw [upd_same, vS_snoc]; rfl) ?_
      refine appd (by rw [upd_ne hgp]; exact hgs) hrl ?_
      refine ⟨_, rfl, ex_put (ex_put e n1) n2, ?_, ?_⟩
      · rw [upd_ne hgp.symm, upd_same, vS_snoc, runD_take hd]
        rfl
      · rw [upd_same, rowsL_take hd, List.map_append]
        rfl
    | out p =>
      have ha : H a = some (.tup [.str "out", .int p]) := ha
      refine ⟨_, rfl, ixT0 (e a _ ha) (eqS ⟨_, rfl, ?_⟩)⟩
      rw [in_ne_out]
      have hlt := ok.2 p rfl
      obtain ⟨u, hu⟩ := getR hlt
      refine iteF ⟨_, rfl, _, rfl, ixT1 (e a _ ha) ⟨pe, p, _, u, rfl, hp, by omega, hu, ?_⟩⟩
      refine ⟨_, rfl, tyL (by rw [upd_ne hgp]; exact hgs), ?_⟩
      refine place_ok (σ := [some (.ref r), some (.ref l), some (.str x), some (.ref pe), some (.ref g), some (.ref a)]) (i := 2) (j := 3) (pe := pe) (xs := stepD (runD row (ds.take i)) (.out p)) rfl rfl upd_same ?_
      refine appd (by rw [upd_ne hgp]; exact hgs) hrl ?_
      refine ⟨_, rfl, ex_put (ex_put e n1) n2, ?_, ?_⟩
      · rw [upd_ne hgp.symm, upd_same, runD_take hd]
        rfl
      · rw [upd_same, rowsL_take hd, List.map_append]
        rfl
  · obtain ⟨_, rfl, e, hp, hgs⟩ := p
    rw [hxl, List.take_length] at hgs
    exact ⟨_, rfl, q g H' n2 e hgs⟩
theorem pNeedWord (h : spNeedWord K vs H Q E) : tNeedWord K (En Q) (start nNeedWord vs) H := by
  obtain ⟨r, l, row, w, rfl, R, W, q⟩ := h
  obtain ⟨xs, hl, T⟩ := id W.at_
  have hxl : xs.length = w.length := by have := T.1; simpa using this
  have hw : w.length ≤ 1000 := W.small
  have hrow : row.length ≤ 1000 := R.small
  unfold tNeedWord
  refine ⟨_, rfl, r, row, rfl, R, fun H1 e1 => ?_⟩
  walk_at "rd"
  refine ⟨_, rfl, isi_ok (ty_lst (e1 l _ hl)) (b := true) (by decide +kernel) ⟨_, rfl, iteF ?_⟩⟩
  refine ⟨_, rfl, listT (Same.tup e1 R.at_) fun pe hpe => ?_⟩
  have n1 : H pe = none := e1.free hpe
  have e2 := e1.trans (ex_new (o := .lst (vS row)) hpe)
  refine ⟨_, rfl, lenT (Same.tup e2 R.at_) ?_⟩
  refine ⟨_, rfl, l, rfl, ⟨xs, SqL.of (e2 l _ hl)⟩, for_list (xs := xs) (fun i σ' H' => ∃ d, σ' = [some (.ref r), some (.ref l), some (.ref pe), some (.int (szAt row.length (w.take i) : Nat)), d] ∧ Ex H H' ∧ H' pe = some (.lst (vS (row ++ comers (w.take i)))))
    ⟨none, by rw [vS_len]; rfl, e2, by rw [upd_same]; simp [comers]⟩ (fun i σ' H' _ p => ?_) (fun i z σ' H' hx p => ?_) fun σ' H' p => ?_⟩
  · obtain ⟨d, _, e, _⟩ := p
    exact SqL.of (e l _ hl)
  · walk_at "rd"
    obtain ⟨_, rfl, e, hp⟩ := p
    have hi := (List.getElem?_eq_some_iff.mp hx).1
    obtain ⟨a, d, rfl, hd, ha⟩ := word_get T hx
    have ok := okw_at W.okw hd
    have ha' := e a _ ha
    have hsmall : (vS (row ++ comers (w.take i))).length ≤ 100000 := by
      have := comers_le (w.take i)
      rw [List.length_take] at this
      rw [vS_len, List.length_append]
      omega
    refine ⟨_, rfl, isi_ok (ty_tup ha') (b := true) (by decide +kernel) ⟨_, rfl, iteF ?_⟩⟩
    cases d with
    | some x =>
      have ha' : H' a = some (.tup [.str "in", .str x]) := ha'
      refine ⟨_, rfl, lenT (SqT.of ha') (eqI ⟨_, rfl, iteT ?_⟩)⟩
      refine ⟨_, rfl, ixT0 ha' (eqS ⟨_, rfl, iteT ?_⟩)⟩
      refine ⟨_, rfl, ixT1 ha' ⟨x, rfl, W.ok x (List.mem_of_getElem? hd), fun H2 e2 => ⟨_, rfl, iteT ?_⟩⟩⟩
      have ha2 := e2 a _ ha'
      have hp2 := e2 pe _ hp
      refine ⟨_, rfl, ixT1 ha2 ⟨_, rfl, notIn_ok (SqL.of hp2) ⟨_, rfl, ?_⟩⟩⟩
      rw [decide_eq_false (ok.1 x rfl)]
      refine iteT ⟨_, rfl, tyL hp2, _, rfl, ixT1 ha2 (appd hp2 hsmall ?_)⟩
      refine ⟨_, rfl, _, _, rfl, rfl, some (.ref a), ?_, ex_put (e.trans e2) n1, ?_⟩
      · rw [szAt_take hd]
        rfl
      · rw [upd_same, vS_snoc, comers_take hd, List.append_assoc]
    | none =>
      have ha' : H' a = some (.tup [.str "out"]) := ha'
      refine ⟨_, rfl, lenT (SqT.of ha') (eqI ⟨_, rfl, iteF ?_⟩)⟩
      refine ⟨_, rfl, by show 1 ≤ sizeLine; decide, fun t ht => ?_⟩
      have ha2 : (upd H' t (.tup [.str "out"])) a = some (.tup [.str "out"]) := (ex_new ht) a _ ha'
      refine ⟨.tuple [.str "out"], .tuple [.str "out"], .tup (SqT.of ha2) (.cons (.str _) .nil), .tup (SqT.of upd_same) (.cons (.str _) .nil), by decide +kernel, by decide +kernel, ?_⟩
      have e3 : PyData.eqv (.tuple [.str "out"]) (.tuple [.str "out"]) = true := by decide +kernel
      rw [e3]
      refine ⟨_, rfl, iteT ⟨_, rfl, _, _, rfl, rfl, _, rfl, ?_⟩⟩
      have hpos := ok.2 rfl
      rw [decide_eq_true (by omega)]
      refine iteT ⟨_, rfl, _, _, rfl, rfl, some (.ref a), ?_, e.trans (ex_new ht), ?_⟩
      · rw [szAt_take hd]
        show _ = [_, _, _, some (V.int ((szAt row.length (w.take i) - 1 : Nat) : Int)), _]
        have : ((szAt row.length (w.take i) - 1 : Nat) : Int) = (szAt row.length (w.take i) : Int) - 1 := by omega
        rw [this]
        rfl
      · rw [comers_take hd, List.append_nil]
        exact (ex_new ht) pe _ hp
  · obtain ⟨_, rfl, e, _⟩ := p
    exact q.go e
end
end K60

namespace K60
open PySem PySem.Spec PyProof.Rows L2 Lf
local macro_rules | `(tactic| walk_at "rd") => `(tactic| dsimp only [tRet, tSeq, tIfS, tNext, tNever, tAsg, tDrop, tAug, ipI, gName, gTup, gCons, gNil, gSub, tTup, tLst, tAndV, tOrV, tNotV, tIf, tAnd, tOr, tNot, tTest, tB, tCB, tCons, tNil, tC, tVar, tOp, tUn, tCal, tChain, tBM, tBM0, tDGet, tDGet2, tDIn, tSl, tPart, tNoPart, tYes, iRng1, iRng3, iList, iTup, iStr, iEnum, iEnumT, iKeys, tLenSetT, tDNewK, tTupIdx, sDPut, rAddI, rSubI, rMulI, rModI, rDivI, rPowI, rLtI, rLeI, rGtI, rGeI, rNegI, rI, rI0, rU])
local macro_rules | `(tactic| walk_at "rs") => `(tactic| dsimp only [tRet, tSeq, tIfS, tNext, tNever, tAsg, tDrop, tAug, ipI, gName, gTup, gCons, gNil, gSub, tTup, tLst, tAndV, tOrV, tNotV, tAnd, tOr, tNot, tTest, tB, tCB, tCons, tNil, tC, tVar, tOp, tUn, tCal, tChain, tBM, tBM0, tDGet, tDGet2, tDIn, tSl, tPart, tNoPart, tYes, iRng1, iRng3, iList, iTup, iStr, iEnum, iEnumT, iKeys, tLenSetT, tDNewK, tTupIdx, sDPut, rAddI, rSubI, rMulI, rModI, rDivI, rPowI, rLtI, rLeI, rGtI, rGeI, rNegI, rI, rI0, rU])
abbrev nV (ns : List Nat) : List V := ns.map fun n => .int (n : Nat)
theorem nV_get {ns : List Nat} {i n : Nat} (h : ns[i]? = some n) : (nV ns)[i]? = some (.int (n : Nat)) := by
  rw [List.getElem?_map, h]
  rfl
theorem nV_len (ns : List Nat) : (nV ns).length = ns.length := List.length_map ..
theorem getD_get {ns : List Nat} {i : Nat} (h : i < ns.length) : ns[i]? = some (ns.getD i 0) := by
  rw [List.getElem?_eq_getElem h, List.getD_eq_getElem?_getD, List.getElem?_eq_getElem h]
  rfl
section
variable {K : PySem.W.Frag} {vs : List V} {H : Hp} {Q : VK} {E : XK}
theorem pWordSizes (h : spWordSizes K vs H Q E) : tWordSizes K (En Q) (start nWordSizes vs) H := by
  obtain ⟨r, l, row, w, rfl, R, W, q⟩ := h
  obtain ⟨xs, hl, T⟩ := id W.at_
  have hxl : xs.length = w.length := by have := T.1; simpa using this
  have hw : w.length ≤ 1000 := W.small
  unfold tWordSizes
  walk_at "rd"
  refine ⟨_, rfl, lenT R.at_ ⟨by show 1 ≤ sizeLine; decide, fun g hg => ?_⟩⟩
  have e0 := ex_new (o := .lst [.int ((vS row).length : Nat)]) hg
  refine ⟨_, rfl, l, rfl, ⟨xs, SqL.of (e0 l _ hl)⟩, for_list (xs := xs) (fun i σ' H' => ∃ d, σ' = [some (.ref r), some (.ref l), some (.ref g), d] ∧ Ex H H' ∧ H' g = some (.lst (nV (wsz row.length (w.take i)))))
    ⟨none, rfl, e0, by rw [upd_same, vS_len]; rfl⟩ (fun i σ' H' _ p => ?_) (fun i z σ' H' hx p => ?_) fun σ' H' p => ?_⟩
  · obtain ⟨d, _, e, _⟩ := p
    exact SqL.of (e l _ hl)
  · walk_at "rd"
    obtain ⟨_, rfl, e, hp⟩ := p
    have hi := (List.getElem?_eq_some_iff.mp hx).1
    obtain ⟨a, d, rfl, hd, ha⟩ := word_get T hx
    have ok := okw_at W.okw hd
    have ha' := e a _ ha
    have hlast : nV (wsz row.length (w.take i)) = nV ((wsz row.length (w.take i)).dropLast) ++ [.int (szAt row.length (w.take i) : Nat)] := by
      have hlen := wsz_len row.length (w.take i)
      have e1 : (w.take i).length = i := by rw [List.length_take]; omega
      have h2 : (wsz row.length (w.take i)).getLast? = some (szAt row.length (w.take i)) := by
        rw [List.getLast?_eq_getElem?, hlen, Nat.add_sub_cancel]
        have := wsz_get (n := row.length) (w := w.take i) (i := (w.take i).length) (Nat.le_refl _)
        rw [List.take_length] at this
        exact this
      obtain ⟨ys, ey⟩ := List.getLast?_eq_some_iff.mp h2
      rw [ey, List.dropLast_concat]
      show List.map _ (ys ++ [_]) = _
      rw [List.map_append]
      rfl
    have hsm : (nV (wsz row.length (w.take i))).length ≤ 100000 := by
      rw [nV_len, wsz_len, List.length_take]
      omega
    refine ⟨_, rfl, tyL hp, _, rfl, _, rfl, ixLast (SqL.of (by rw [hp, hlast])) ?_⟩
    cases d with
    | some x =>
      have ha' : H' a = some (.tup [.str "in", .str x]) := ha'
      refine ⟨_, rfl, ixT0 ha' (eqS ⟨_, rfl, iteT ?_⟩)⟩
      refine ⟨_, _, rfl, rfl, appd hp hsm ⟨some (.ref a), rfl, ex_put e hg, ?_⟩⟩
      rw [upd_same, wsz_take hd]
      show _ = some (HO.lst (List.map _ (_ ++ [_])))
      rw [List.map_append]
      rfl
    | none =>
      have ha' : H' a = some (.tup [.str "out"]) := ha'
      refine ⟨_, rfl, ixT0 ha' (eqS ⟨_, rfl, ?_⟩)⟩
      rw [in_ne_out]
      have hpos := ok.2 rfl
      refine iteF ⟨1, rfl, _, _, rfl, rfl, appd hp hsm ⟨some (.ref a), rfl, ex_put e hg, ?_⟩⟩
      rw [upd_same, wsz_take hd]
      show _ = some (HO.lst (List.map _ (_ ++ [szAt row.length (w.take i) - 1])))
      rw [List.map_append]
      have : ((szAt row.length (w.take i) - 1 : Nat) : Int) = (szAt row.length (w.take i) : Int) + -1 := by omega
      show _ = some (HO.lst (_ ++ [V.int ((szAt row.length (w.take i) - 1 : Nat) : Int)]))
      rw [this]
  · obtain ⟨_, rfl, e, hp⟩ := p
    rw [hxl, List.take_length] at hp
    exact ⟨_, rfl, q g H' hg e hp⟩
theorem pLeastOn (h : spLeastOn vs H Q E) : tLeastOn K (En Q) (start nLeastOn vs) H := by
  obtain ⟨l, ns, rfl, hl, hs, q⟩ := h
  have hlen := sufmin_len ns
  unfold tLeastOn
  walk_at "rd"
  refine ⟨_, rfl, listL (SqL.of hl) fun g hg => ?_⟩
  have e0 := ex_new (o := .lst (nV ns)) hg
  have hgl : g ≠ l := fun z => by rw [z, hl] at hg; cases hg
  have hn : ((ns.length : Int) - 2 - -1).toNat = ns.length - 1 := by omega
  refine forR3 ((ns.length : Int) - 2) (-1) (-1) (ns.length - 1) (fun C hC => ?_) (by rw [← hn]; exact RgC.neg (by omega) (by omega) (by omega) (by omega)) (fun i σ' H' => ∃ d, σ' = [some (.ref l), some (.ref g), d] ∧ Ex H H' ∧ H' g = some (.lst (nV (ns.take (ns.length - 1 - i) ++ (sufmin ns).drop (ns.length - 1 - i)))))
    ⟨none, rfl, e0, ?_⟩ (fun i σ' H' hi p => ?_) fun σ' H' p => ?_
  · walk_at "rd"
    refine ⟨_, rfl, lenL (SqL.of (e0 l _ hl)) ⟨_, _, rfl, rfl, 1, rfl, 1, rfl, ?_⟩⟩
    rw [nV_len]
    exact hC
  · rw [upd_same]
    show some (HO.lst (nV ns)) = _
    congr 2
    congr 1
    cases e : ns.length with
    | zero =>
      have : ns = [] := List.length_eq_zero_iff.mp e
      rw [this]
      rfl
    | succ k =>
      have h1 := sufmin_last ns
      rw [e] at h1
      show ns = ns.take k ++ (sufmin ns).drop k
      have hk : k < ns.length := by omega
      have h2 : ns[k]? = some ns[k] := List.getElem?_eq_getElem hk
      have h3 : (sufmin ns)[k]? = some ns[k] := by rw [← h2]; exact h1
      obtain ⟨h4, h5⟩ := List.getElem?_eq_some_iff.mp h3
      rw [List.drop_eq_getElem_cons h4, h5, List.drop_of_length_le (by omega), ← take_snoc h2, List.take_of_length_le (by omega)]
  · walk_at "rd"
    obtain ⟨_, rfl, e, hp⟩ := p
    obtain ⟨k, hk⟩ : ∃ k, ns.length - 1 - i = k + 1 := ⟨ns.length - 2 - i, by omega⟩
    rw [hk] at hp
    have eI : ((ns.length : Int) - 2 + (i : Nat) * -1) = ((k : Nat) : Int) := by omega
    rw [eI]
    have hk1 : k < ns.length := by omega
    have hk2 : k + 1 < (sufmin ns).length := by omega
    have g1 : ns[k]? = some ns[k] := List.getElem?_eq_getElem hk1
    have g2 : (sufmin ns)[k + 1]? = some (sufmin ns)[k + 1] := List.getElem?_eq_getElem hk2
    have g3 := sufmin_step ns k _ _ g1 g2
    have tl : (ns.take (k + 1)).length = k + 1 := by rw [List.length_take]; omega
    have i1 : (nV (ns.take (k + 1) ++ (sufmin ns).drop (k + 1)))[k]? = some (.int (ns[k] : Nat)) := by
      refine nV_get ?_
      rw [List.getElem?_append_left (by omega), List.getElem?_take, if_pos (by omega)]
      exact g1
    have i2 : (nV (ns.take (k + 1) ++ (sufmin ns).drop (k + 1)))[k + 1]? = some (.int ((sufmin ns)[k + 1] : Nat)) := by
      refine nV_get ?_
      rw [List.getElem?_append_right (by omega), tl, Nat.sub_self, List.getElem?_drop]
      exact g2
    refine ⟨_, rfl, _, rfl, ixL (SqL.of hp) i1 ⟨_, rfl, _, rfl, _, _, rfl, rfl, ?_⟩⟩
    refine ixL (i := k + 1) (SqL.of hp) i2 ⟨_, _, rfl, ?_⟩
    refine ⟨_, rfl, _, rfl, g, _, _, k, rfl, rfl, hp, ?_, ?_⟩
    · unfold ixN
      have hll : (nV (ns.take (k + 1) ++ (sufmin ns).drop (k + 1))).length = ns.length := by
        rw [nV_len, List.length_append, tl, List.length_drop]
        omega
      rw [if_pos (by omega), if_pos (by omega)]
      rfl
    · refine ⟨some (.int (k : Nat)), rfl, ex_put e hg, ?_⟩
      rw [upd_same]
      have em : (if (((sufmin ns)[k + 1] : Nat) : Int) < (ns[k] : Nat) then (((sufmin ns)[k + 1] : Nat) : Int) else (ns[k] : Nat)) = ((min ns[k] (sufmin ns)[k + 1] : Nat) : Int) := by
        split <;> omega
      rw [em, ← List.map_set]
      have ek : ns.length - 1 - (i + 1) = k := by omega
      rw [ek, set_back hk1 hlen g3]
  · obtain ⟨_, rfl, e, hp⟩ := p
    rw [Nat.sub_self] at hp
    exact ⟨_, rfl, q g H' hg e hp⟩
theorem pMarks (h : spMarks K vs H Q E) : tMarks K (En Q) (start nMarks vs) H := by
  obtain ⟨r, l, row, w, rfl, R, W, q⟩ := h
  unfold tMarks
  walk_at "rd"
  refine ⟨_, rfl, _, rfl, r, l, row, w, rfl, R, W, fun H1 e1 => ?_⟩
  exact ⟨_, rfl, _, rfl, r, l, row, w, rfl, R.ex e1, W.ex e1, fun p H' hp e' hm => q p H' (e1.free hp) (e1.trans e') hm⟩
theorem pMayStand (h : spMayStand vs H Q E) : tMayStand (En Q) (start nMayStand vs) H := by
  obtain ⟨c, m, i, rfl, q⟩ := h
  unfold tMayStand
  walk_at "rd"
  refine ⟨_, rfl, _, rfl, _, _, rfl, rfl, _, rfl, ?_⟩
  unfold may at q
  by_cases hc : c < m
  · rw [if_pos hc] at q
    rw [decide_eq_true (by omega)]
    refine iteT ⟨_, rfl, _, rfl, eqI ?_⟩
    have : decide ((i : Int) = (c : Int)) = decide (i = c) := by
      by_cases h : i = c
      · simp [h]
      · rw [decide_eq_false h, decide_eq_false (by omega)]
    rw [this]
    exact q.here
  · rw [if_neg hc] at q
    rw [decide_eq_false (by omega)]
    refine iteF ⟨_, rfl, _, rfl, _, _, rfl, rfl, ?_⟩
    have : decide ((i : Int) < (m : Int)) = decide (i < m) := by
      by_cases h : i < m
      · rw [decide_eq_true h, decide_eq_true (by omega)]
      · rw [decide_eq_false h, decide_eq_false (by omega)]
    rw [this]
    exact q.here
theorem pLastSize (h : spLastSize K vs H Q E) : tLastSize K (En Q) (start nLastSize vs) H := by
  obtain ⟨r, l, row, w, rfl, R, W, q⟩ := h
  unfold tLastSize
  walk_at "rd"
  refine ⟨_, rfl, _, rfl, r, l, row, w, rfl, R, W, fun p H' hp e hm => ⟨1, rfl, ?_⟩⟩
  have h2 : (wsz row.length w).getLast? = some (szAt row.length w) := by
    rw [List.getLast?_eq_getElem?, wsz_len, Nat.add_sub_cancel]
    have := wsz_get (n := row.length) (w := w) (i := w.length) (Nat.le_refl _)
    rw [List.take_length] at this
    exact this
  obtain ⟨ys, ey⟩ := List.getLast?_eq_some_iff.mp h2
  have hm : H' p = some (.lst (nV ys ++ [.int (szAt row.length w : Nat)])) := by
    rw [hm, ey, List.map_append]
    rfl
  exact ixLast (SqL.of hm) (q.go e)
end
end K60

namespace K60
open PySem PySem.Spec PyProof.Rows L2 Lf
local macro_rules | `(tactic| walk_at "rd") => `(tactic| dsimp only [tRet, tSeq, tIfS, tNext, tNever, tAsg, tDrop, tAug, ipI, gName, gTup, gCons, gNil, gSub, tTup, tLst, tAndV, tOrV, tNotV, tIf, tAnd, tOr, tNot, tTest, tB, tCB, tCons, tNil, tC, tVar, tOp, tUn, tCal, tChain, tBM, tBM0, tDGet, tDGet2, tDIn, tSl, tPart, tNoPart, tYes, iRng1, iRng3, iList, iTup, iStr, iEnum, iEnumT, iKeys, tLenSetT, tDNewK, tTupIdx, sDPut, rAddI, rSubI, rMulI, rModI, rDivI, rPowI, rLtI, rLeI, rGtI, rGeI, rNegI, rI, rI0, rU])
local macro_rules | `(tactic| walk_at "rs") => `(tactic| dsimp only [tRet, tSeq, tIfS, tNext, tNever, tAsg, tDrop, tAug, ipI, gName, gTup, gCons, gNil, gSub, tTup, tLst, tAndV, tOrV, tNotV, tAnd, tOr, tNot, tTest, tB, tCB, tCons, tNil, tC, tVar, tOp, tUn, tCal, tChain, tBM, tBM0, tDGet, tDGet2, tDIn, tSl, tPart, tNoPart, tYes, iRng1, iRng3, iList, iTup, iStr, iEnum, iEnumT, iKeys, tLenSetT, tDNewK, tTupIdx, sDPut, rAddI, rSubI, rMulI, rModI, rDivI, rPowI, rLtI, rLeI, rGtI, rGeI, rNegI, rI, rI0, rU])
section
variable {K : PySem.W.Frag} {vs : List V} {H : Hp} {Q : VK} {E : XK}
theorem mark_get {H : Hp} {xs : List V} {ks : Kn Str} {i : Nat} {x : V} (h : Tups H xs (ks.map mV)) (hx : xs[i]? = some x) : ∃ a p c m, x = .ref a ∧ ks[i]? = some (p, c, m) ∧ H a = some (.tup [.str p, .int (c : Nat), .int (m : Nat)]) := by
  obtain ⟨a, r, h1, h2, h3⟩ := h.2 i x hx
  rw [List.getElem?_map] at h2
  cases e : ks[i]? with
  | none => rw [e] at h2; cases h2
  | some d =>
    obtain ⟨p, c, m⟩ := d
    rw [e] at h2
    have : mV (p, c, m) = r := Option.some.inj h2
    rw [← this] at h3
    exact ⟨a, p, c, m, h1, rfl, h3⟩
theorem kn_small {row : List Str} {w : Wd} (h1 : Small row) (h2 : Small w) : (kn0 row w).length ≤ 2000 := by
  have h1 : row.length ≤ 1000 := h1
  have h2 : w.length ≤ 1000 := h2
  have h3 := comers_le w
  show (fm (ks0 row) row.length w).length ≤ 2000
  rw [fm_len]
  have : (ks0 row).length = row.length := by simp [ks0]
  omega
theorem pMarksOf (h : spMarks K vs H Q E) : tMarksOf K (En Q) (start nMarksOf vs) H := by
  obtain ⟨r, l, row, w, rfl, R, W, q⟩ := h
  obtain ⟨xs, hl, T⟩ := id W.at_
  have hxl : xs.length = w.length := by have := T.1; simpa using this
  have hw : w.length ≤ 1000 := W.small
  have hrow : row.length ≤ 1000 := R.small
  have hlw := lows_len row.length w
  have hlz := wsz_len row.length w
  unfold tMarksOf
  refine ⟨_, rfl, _, rfl, r, l, row, w, rfl, R, W, fun ns H1 hns e1 hN => ?_⟩
  refine ⟨_, rfl, ns, wsz row.length w, rfl, hN, by omega, fun ls H2 hls e2 hL => ?_⟩
  have e3 := e1.trans e2
  have hN2 : H2 ns = some (.lst (nV (wsz row.length w))) := e2 ns _ hN
  have hL2 : H2 ls = some (.lst (nV (lows row.length w))) := hL
  have hR2 := Same.tup e3 R.at_
  -- the row's own
  refine ⟨_, rfl, r, vS row, rfl, hR2, fun D hD => lc_gen (walk_enumT (xs := vS row)) (fun _ => true) (fun i v H' => ∃ a p, v = .ref a ∧ row[i]? = some p ∧ H' a = some (.tup [.str p, .int (i : Nat), .int (low0 row.length w : Nat)]))
    (fun i v H H' t h => ?_) hD (by rw [vS_len]; omega) (fun H' e => Same.tup e hR2) (fun i x H3 H4 N C hi e y hN' hC => ?_) (fun H3 fs e hx ha => ?_)⟩
  · obtain ⟨a, p, h1, h2, h3⟩ := h
    exact ⟨a, p, h1, h2, t a _ h3⟩
  · obtain ⟨T', x', y', rfl, hT, rfl, hx', hy'⟩ := y
    have hx' : V.int (i : Nat) = x' := Option.some.inj hx'
    subst hx'
    obtain ⟨p, hp, rfl⟩ := vS_get hy'
    have e4 := e.trans (ex_new (o := .tup [.int (i : Nat), .str p]) hT)
    refine two_ok (SqT.of upd_same) ⟨rfl, ?_⟩
    walk_at "rd"
    refine iteT ⟨_, rfl, _, rfl, _, rfl, ?_⟩
    refine ixL (i := 0) (SqL.of (e4 ls _ hL2)) (v := .int (low0 row.length w : Nat)) (nV_get (getD_get (by omega))) ⟨by show 3 ≤ sizeLine; decide, fun t ht => ?_⟩
    exact hC rfl _ _ ((ex_new hT).trans (ex_new ht)) ⟨t, p, rfl, hp, upd_same⟩
  · have ha := ha.all
    have hfl : fs.length = row.length := by
      have := ha.1
      rw [List.length_range, vS_len] at this
      exact this
    have hft : Tups H3 fs ((row.zipIdx.map fun z => (z.1, z.2, low0 row.length w)).map mV) := by
      refine ⟨by simp [hfl], fun i x hx => ?_⟩
      obtain ⟨j, h1, a, p, h2, h3, h4⟩ := ha.2 i x hx
      have hij : i = j := by
        rw [List.getElem?_range (by have := (List.getElem?_eq_some_iff.mp hx).1; rw [vS_len]; omega)] at h1
        exact Option.some.inj h1
      subst hij
      refine ⟨a, _, h2, ?_, h4⟩
      rw [List.getElem?_map, List.getElem?_map, List.getElem?_zipIdx, h3]
      simp [mV]
    have e5 := e3.trans e
    have nD : H D = none := e3.free hD
    refine ⟨_, rfl, l, xs, rfl, SqL.of (e5 l _ hl), for_it (walk_enum (xs := xs)) (fun i σ' H' => ∃ a b fs', σ' = [some (.ref r), some (.ref l), some (.ref ns), some (.ref ls), some (.ref D), a, b, none, none] ∧ Ex H H' ∧ H' ns = some (.lst (nV (wsz row.length w))) ∧ H' ls = some (.lst (nV (lows row.length w))) ∧ H' D = some (.lst fs') ∧ fs'.length ≤ 1000 + i ∧ Tups H' fs' (((row.zipIdx.map fun z => (z.1, z.2, low0 row.length w)) ++ comL w (wsz row.length w) (lows row.length w) i).map mV))
      ⟨none, none, fs, rfl, e5, e ns _ hN2, e ls _ hL2, hx, by omega, by simpa [comL] using hft⟩ (fun i σ' H' _ p => ?_) (fun i z σ' H4 H5 hi p y => ?_) fun σ' H' p => ?_⟩
    · obtain ⟨a, b, fs', _, e, _⟩ := p
      exact SqL.of (e l _ hl)
    · obtain ⟨a, b, fs', rfl, e, hn4, hl4, hD4, hf4, ht4⟩ := p
      obtain ⟨T', x', y', rfl, hT, rfl, hx', hy'⟩ := y
      have hx' : V.int (i : Nat) = x' := Option.some.inj hx'
      subst hx'
      obtain ⟨a, d, rfl, hd, ha⟩ := word_get T hy'
      have e6 := ex_new (o := .tup [.int (i : Nat), .ref a]) hT
      have e7 := e.trans e6
      refine two_ok (SqT.of upd_same) ?_
      walk_at "rd"
      have ha' := e7 a _ ha
      have hi' : i < w.length := by omega
      cases d with
      | some x =>
        have ha' : (upd H4 T' (.tup [.int (i : Nat), .ref a])) a = some (.tup [.str "in", .str x]) := ha'
        refine ⟨_, rfl, ixT0 ha' (eqS ⟨_, rfl, iteT ?_⟩)⟩
        refine ⟨_, rfl, tyL (e6 D _ hD4), _, rfl, ixT1 ha' ⟨_, rfl, _, rfl, ?_⟩⟩
        refine ixL (SqL.of (e6 ns _ hn4)) (nV_get (getD_get (i := i) (by omega))) ⟨_, rfl, _, rfl, _, _, rfl, rfl, ?_⟩
        refine ixL (i := i + 1) (SqL.of (e6 ls _ hl4)) (nV_get (getD_get (by omega))) ⟨by show 3 ≤ sizeLine; decide, fun t ht => ?_⟩
        have e8 := e6.trans (ex_new (o := .tup [.str x, .int ((wsz row.length w).getD i 0 : Nat), .int ((lows row.length w).getD (i + 1) 0 : Nat)]) ht)
        refine appd (e8 D _ hD4) (by omega) ⟨_, _, fs' ++ [.ref t], rfl, ex_put (e.trans e8) nD, ?_, ?_, upd_same, by simp; omega, ?_⟩
        · rw [upd_ne (ne_of_none hN2 hD)]
          exact e8 ns _ hn4
        · rw [upd_ne (ne_of_none hL2 hD)]
          exact e8 ls _ hl4
        · rw [comL_some hd, ← List.append_assoc, List.map_append]
          refine ((ht4.te (ex_te e8)).te (te_put (e8 D _ hD4))).snoc ?_
          rw [upd_ne (ne_of_none (e6 D _ hD4) ht).symm, upd_same]
          rfl
      | none =>
        have ha' : (upd H4 T' (.tup [.int (i : Nat), .ref a])) a = some (.tup [.str "out"]) := ha'
        refine ⟨_, rfl, ixT0 ha' (eqS ⟨_, rfl, ?_⟩)⟩
        rw [in_ne_out]
        refine iteF ⟨_, _, fs', rfl, e7, e6 ns _ hn4, e6 ls _ hl4, e6 D _ hD4, by omega, ?_⟩
        rw [comL_none hd]
        exact ht4.te (ex_te e6)
    · walk_at "rd"
      obtain ⟨a, b, fs', rfl, e, hn4, hl4, hD4, hf4, ht4⟩ := p
      refine ⟨_, rfl, q D H' nD e ⟨fs', hD4, ?_⟩⟩
      rw [hxl] at ht4
      show Tups H' fs' ((fm (ks0 row) row.length w).map mV)
      rw [marks_is]
      exact ht4
theorem pKnownOf (h : spKnownOf K vs H Q E) : tKnownOf K (En Q) (start nKnownOf vs) H := by
  obtain ⟨r, l, row, w, rfl, R, W, q⟩ := h
  have hnd : ((kn0 row w).map (·.1)).Nodup := fm_nodup R.nd W.okw
  have hks := kn_small R.small W.small
  unfold tKnownOf
  refine ⟨_, rfl, _, rfl, r, l, row, w, rfl, R, W, fun p H1 hp e1 hm => ?_⟩
  obtain ⟨xs, hx, T⟩ := hm
  have hxl : xs.length = (kn0 row w).length := by have := T.1; simpa using this
  refine ⟨p, rfl, ⟨xs, SqL.of hx⟩, fun D hD => dc_gen (walk_list (xs := xs)) (fun i => (((kn0 row w)[i]?).map (·.1)).getD Str.empty) (fun i v H' => ∃ t n c m, v = .ref t ∧ (kn0 row w)[i]? = some (n, c, m) ∧ H' t = some (.tup [.int (c : Nat), .int (m : Nat)]))
    (fun i v H' H2 t h => ?_) hD (by omega) (fun i j hi hj e => ?_) (fun H' e => SqL.of (e p _ hx)) (fun i x H2 H3 N C hi e y hC => ?_) (fun H' kvs e hD' hk _ => ?_)⟩
  · obtain ⟨a, n, c, m, h1, h2, h3⟩ := h
    exact ⟨a, n, c, m, h1, h2, t a _ h3⟩
  · rw [hxl] at hi hj
    have g1 : (kn0 row w)[i]? = some (kn0 row w)[i] := List.getElem?_eq_getElem hi
    have g2 : (kn0 row w)[j]? = some (kn0 row w)[j] := List.getElem?_eq_getElem hj
    simp only [g1, g2, Option.map_some, Option.getD_some] at e
    refine nd_ix hnd (x := (kn0 row w)[i].1) ?_ ?_
    · rw [List.getElem?_map, g1]
      rfl
    · rw [List.getElem?_map, g2, e]
      rfl
  · obtain ⟨rfl, hy⟩ := y
    obtain ⟨a, n, c, m, rfl, hk, ha⟩ := mark_get T hy
    have ha' := e a _ ha
    refine three_ok (SqT.of ha') ⟨rfl, ?_⟩
    walk_at "rd"
    refine iteT ⟨_, rfl, _, rfl, _, rfl, by show 2 ≤ sizeLine; decide, fun t ht => ?_⟩
    have hC' := hC (.ref t) _ (ex_new ht) ⟨t, n, c, m, rfl, hk, upd_same⟩
    simp only [hk, Option.map_some, Option.getD_some] at hC'
    exact hC'
  · refine q D H' (e1.free hD) (e1.trans e) ⟨kvs, hD', fun n c m hm => ?_⟩
    obtain ⟨i, hi⟩ := List.getElem?_of_mem hm
    obtain ⟨v, h1, t, n', c', m', h2, h3, h4⟩ := hk i (by rw [hxl]; exact (List.getElem?_eq_some_iff.mp hi).1)
    rw [hi] at h3
    cases h3
    simp only [hi, Option.map_some, Option.getD_some] at h1
    exact ⟨t, by rw [h1, h2], h4⟩
theorem pNeedEnd (h : spNeedEnd K vs H Q E) : tNeedEnd K (En Q) (start nNeedEnd vs) H := by
  obtain ⟨r, l, e, row, w, en, rfl, T, q⟩ := h
  unfold tNeedEnd
  walk_at "rd"
  refine ⟨_, rfl, _, rfl, r, l, row, w, rfl, T.hrow, T.word, fun H1 e1 => ?_⟩
  exact ⟨_, rfl, e, en, rfl, T.hen.ex e1, fun H2 e2 => ⟨_, rfl, iteF (q.go (e1.trans e2))⟩⟩
theorem pIsOfThese (h : spIsOfThese K vs H Q E) : tIsOfThese K (En Q) (start nIsOfThese vs) H := by
  obtain ⟨r, l, e, row, w, en, rfl, T, q⟩ := h
  have hsm : en.length ≤ 1000 := T.hen.small
  unfold tIsOfThese
  walk_at "rd"
  refine ⟨_, rfl, _, rfl, r, l, row, w, rfl, T.hrow, T.word, fun d H1 hd e1 hk => ?_⟩
  refine ⟨_, rfl, lenT (T.ex e1).hen.at_ ⟨_, rfl, _, rfl, r, l, row, w, rfl, (T.ex e1).hrow, (T.ex e1).word, fun H2 e2 => eqI ⟨_, rfl, ?_⟩⟩⟩
  rw [vS_len, T.len, decide_eq_true rfl]
  have T2 := T.ex (e1.trans e2)
  obtain ⟨kvs, hd2, hkv⟩ := hk.ex e2
  refine iteT ⟨_, rfl, e, rfl, ⟨_, T2.hen.at_⟩, fun D hD => lc_gen (walk_tup (xs := vS en)) (fun _ => true) (fun _ v _ => v = .bl true) (fun _ _ _ _ _ h => h) hD (by rw [vS_len]; omega) (fun H' e' => Same.tup e' T2.hen.at_) (fun i x H3 H4 N C hi e' y hN hC => ?_) (fun H' ys e' hx ha => ?_)⟩
  · obtain ⟨rfl, hy⟩ := y
    obtain ⟨x, hx, rfl⟩ := vS_get hy
    obtain ⟨c, m, hm⟩ := T.these x (List.mem_of_getElem? hx)
    obtain ⟨t, h1, _⟩ := hkv x c m hm
    refine ⟨rfl, ?_⟩
    walk_at "rd"
    refine iteT ⟨_, rfl, _, rfl, d, _, rfl, DGet.k (k := Sum.inr x) (e' d _ hd2), ?_⟩
    rw [h1]
    exact hC rfl _ _ (Same.refl _) rfl
  · refine ⟨D, _, rfl, SqL.of (by rw [hx, allR_true ha.all]), ?_⟩
    rw [all_true]
    exact q.go ((e1.trans e2).trans e')
theorem pFirstWrong (h : spFirstWrong K vs H Q E) : tFirstWrong K (En Q) (start nFirstWrong vs) H := by
  obtain ⟨r, l, e, row, w, en, rfl, T, q⟩ := h
  have hnd := T.nodup
  unfold tFirstWrong
  walk_at "rs"
  refine ⟨_, rfl, _, rfl, r, l, row, w, rfl, T.hrow, T.word, fun d H1 hd e1 hk => ?_⟩
  have T1 := T.ex e1
  refine ⟨_, rfl, e, vS en, rfl, T1.hen.at_, for_it (walk_enumT (xs := vS en)) (fun i σ' H' => ∃ a b c g, σ' = [some (.ref r), some (.ref l), some (.ref e), some (.ref d), a, b, c, g] ∧ Ex H1 H' ∧ ∀ j x, j < i → en[j]? = some x → wrongAt (kn0 row w) x (0 + j) = false)
    ⟨none, none, none, none, rfl, Same.refl _, fun j x hj => absurd hj (Nat.not_lt_zero _)⟩ (fun i σ' H' _ p => ?_) (fun i z σ' H4 H5 hi p y => ?_) fun σ' H' p => ?_⟩
  · obtain ⟨_, _, _, _, _, e', _⟩ := p
    exact Same.tup e' T1.hen.at_
  · obtain ⟨a, b, c, g, rfl, e', hw⟩ := p
    obtain ⟨T', x', y', rfl, hT, rfl, hx', hy'⟩ := y
    have hx' : V.int (i : Nat) = x' := Option.some.inj hx'
    subst hx'
    obtain ⟨x, hx, rfl⟩ := vS_get hy'
    obtain ⟨c', m', hm⟩ := T.these x (List.mem_of_getElem? hx)
    have e6 := e'.trans (ex_new (o := .tup [.int (i : Nat), .str x]) hT)
    obtain ⟨kvs, hd2, hkv⟩ := hk.ex e6
    obtain ⟨t, h1, h2⟩ := hkv x c' m' hm
    refine two_ok (SqT.of upd_same) ?_
    refine ⟨_, rfl, _, rfl, d, .ref t, rfl, by rw [← h1]; exact DGet.k (k := Sum.inr x) hd2, two_ok (SqT.of h2) ?_⟩
    walk_at "rd"
    refine ⟨_, rfl, _, rfl, _, rfl, c', m', i, rfl, fun H7 e7 => ⟨_, rfl, ?_⟩⟩
    have hwr := wrong_is (i := i) hnd hm
    cases hmay : may c' m' i with
    | true =>
      rw [hmay] at hwr
      refine iteF ⟨_, _, _, _, rfl, e6.trans e7, fun j u hj hu => ?_⟩
      by_cases hji : j = i
      · subst hji
        rw [hx] at hu
        cases hu
        rw [Nat.zero_add]
        exact hwr
      · exact hw j u (by omega) hu
    | false =>
      rw [hmay] at hwr
      have hf : fw (kn0 row w) en = some (0 + i) := fwF_some hx (by rw [Nat.zero_add]; exact hwr) fun j u hj hu => hw j u hj hu
      rw [Nat.zero_add] at hf
      rw [hf] at q
      exact iteT ⟨_, rfl, q.go ((e1.trans e6).trans e7)⟩
  · walk_at "rd"
    obtain ⟨a, b, c, g, rfl, e', hw⟩ := p
    have hf : fw (kn0 row w) en = none := fwF_none fun j u hu => hw j u (by rw [vS_len]; exact (List.getElem?_eq_some_iff.mp hu).1) hu
    rw [hf] at q
    exact q.go (e1.trans e')
theorem optV_non (o : Option Nat) : decide (optV o = .non) = decide (o = none) := by
  cases o <;> rfl
theorem pIsPossible (h : spCanBe K vs H Q E) : tIsPossible K (En Q) (start nIsPossible vs) H := by
  obtain ⟨r, l, e, row, w, en, rfl, T, q⟩ := h
  unfold tIsPossible
  walk_at "rd"
  refine ⟨_, rfl, _, rfl, _, rfl, r, l, e, row, w, en, rfl, T, fun H1 e1 => ⟨_, rfl, iteT ?_⟩⟩
  refine ⟨_, rfl, _, rfl, _, rfl, r, l, e, row, w, en, rfl, T.ex e1, fun H2 e2 => ⟨rfl, ?_⟩⟩
  rw [optV_non]
  exact q.go (e1.trans e2)
theorem pCanBe (h : spCanBe K vs H Q E) : tCanBe K (En Q) (start nCanBe vs) H := by
  obtain ⟨r, l, e, row, w, en, rfl, T, q⟩ := h
  unfold tCanBe
  walk_at "rd"
  refine ⟨_, rfl, _, rfl, _, rfl, r, l, e, row, w, en, rfl, T, fun H1 e1 => ?_⟩
  exact ⟨_, rfl, _, rfl, _, rfl, r, l, e, row, w, en, rfl, T.ex e1, q.mono e1⟩
theorem pWhyNot (h : spWhyNot K vs H Q E) : tWhyNot K (En Q) (start nWhyNot vs) H := by
  obtain ⟨r, l, e, row, w, en, rfl, T, q1, q2⟩ := h
  unfold tWhyNot
  walk_at "rd"
  refine ⟨_, rfl, _, rfl, _, rfl, r, l, e, row, w, en, rfl, T, fun H1 e1 => ?_⟩
  refine ⟨_, rfl, _, rfl, _, rfl, r, l, e, row, w, en, rfl, T.ex e1, fun H2 e2 => ⟨_, rfl, iteF ?_⟩⟩
  have e3 := e1.trans e2
  refine ⟨_, rfl, _, rfl, _, rfl, r, l, e, row, w, en, rfl, T.ex e3, fun H3 e4 => ?_⟩
  have e5 := e3.trans e4
  refine ⟨_, rfl, rfl, _, rfl, ?_⟩
  rw [optV_non]
  cases hf : fw (kn0 row w) en with
  | none => exact iteT ((q1 hf).go e5)
  | some i =>
    obtain ⟨_, x, hx, _⟩ := fwF_at hf
    rw [Nat.sub_zero] at hx
    refine iteF ⟨_, rfl, _, rfl, ixT (T.ex e5).hen.at_ (vS_at hx) ⟨_, rfl, by show 2 ≤ sizeLine; decide, fun p hp => ?_⟩⟩
    exact q2 i x hf hx p _ (e5.free hp) (e5.trans (ex_new hp)) upd_same
end
end K60

namespace K60
open PySem PySem.Spec PyProof.Rows L2 Lf
local macro_rules | `(tactic| walk_at "rd") => `(tactic| dsimp only [tRet, tSeq, tIfS, tNext, tNever, tAsg, tDrop, tAug, ipI, gName, gTup, gCons, gNil, gSub, tTup, tLst, tAndV, tOrV, tNotV, tIf, tAnd, tOr, tNot, tTest, tB, tCB, tCons, tNil, tC, tVar, tOp, tUn, tCal, tChain, tBM, tBM0, tDGet, tDGet2, tDIn, tSl, tPart, tNoPart, tYes, iRng1, iRng3, iList, iTup, iStr, iEnum, iEnumT, iKeys, tLenSetT, tDNewK, tTupIdx, sDPut, rAddI, rSubI, rMulI, rModI, rDivI, rPowI, rLtI, rLeI, rGtI, rGeI, rNegI, rI, rI0, rU])
local macro_rules | `(tactic| walk_at "rs") => `(tactic| dsimp only [tRet, tSeq, tIfS, tNext, tNever, tAsg, tDrop, tAug, ipI, gName, gTup, gCons, gNil, gSub, tTup, tLst, tAndV, tOrV, tNotV, tAnd, tOr, tNot, tTest, tB, tCB, tCons, tNil, tC, tVar, tOp, tUn, tCal, tChain, tBM, tBM0, tDGet, tDGet2, tDIn, tSl, tPart, tNoPart, tYes, iRng1, iRng3, iList, iTup, iStr, iEnum, iEnumT, iKeys, tLenSetT, tDNewK, tTupIdx, sDPut, rAddI, rSubI, rMulI, rModI, rDivI, rPowI, rLtI, rLeI, rGtI, rGeI, rNegI, rI, rI0, rU])
theorem hist_take {wish : Str → Option Nat} {row : List Str} {w : Wd} {i : Nat} {d : Option Str} (h : w[i]? = some d) : hist wish row (w.take (i + 1)) = hist wish row (w.take i) ++ [nextD wish (runD row (hist wish row (w.take i))) d] := by
  rw [take_snoc h, hist_append]
theorem hist_run {wish : Str → Option Nat} {row : List Str} {w : Wd} {i : Nat} {d : Option Str} (h : w[i]? = some d) : runD row (hist wish row (w.take (i + 1))) = stepD (runD row (hist wish row (w.take i))) (nextD wish (runD row (hist wish row (w.take i))) d) := by
  rw [hist_take h, runD_append]
  rfl
theorem nth_get {e : List Str} {i : Nat} {x : Str} (h : e[i]? = some x) : nth e i = x := by
  unfold nth
  rw [h]
  rfl
section
variable {K : PySem.W.Frag} {vs : List V} {H : Hp} {Q : VK} {E : XK}
theorem pHistory (h : spHistory K vs H Q E) : tHistory K (En Q) (start nHistory vs) H := by
  obtain ⟨r, l, e, row, w, en, rfl, T, hfw, q⟩ := h
  have hw : w.length ≤ 1000 := T.word.small
  have hrow : row.length ≤ 1000 := T.hrow.small
  have hen : en.length ≤ 1000 := T.hen.small
  unfold tHistory
  refine ⟨_, rfl, _, rfl, _, rfl, r, l, e, row, w, en, rfl, T, fun H1 e1 => ?_⟩
  refine ⟨_, rfl, _, rfl, _, rfl, r, l, e, row, w, en, rfl, T.ex e1, fun H2 e2 => ⟨_, rfl, ?_⟩⟩
  rw [hfw]
  refine iteF ?_
  have e3 := e1.trans e2
  have T3 := T.ex e3
  refine ⟨_, rfl, e, vS en, rfl, T3.hen.at_, fun D hD => dc_gen (walk_enumT (xs := vS en)) (nth en) (fun i v H' => v = .int (i : Nat)) (fun _ _ _ _ _ h => h) hD (by rw [vS_len]; omega) (fun i j hi hj he => ?_) (fun H' e => Same.tup e T3.hen.at_) (fun i x H4 H5 N C hi e4 y hC => ?_) (fun H4 kvs e4 hD4 hk hno => ?_)⟩
  · rw [vS_len] at hi hj
    have g1 : en[i]? = some en[i] := List.getElem?_eq_getElem hi
    have g2 : en[j]? = some en[j] := List.getElem?_eq_getElem hj
    rw [nth_get g1, nth_get g2] at he
    exact nd_ix T.hen.nd g1 (by rw [g2, he])
  · obtain ⟨T', x', y', rfl, hT, rfl, hx', hy'⟩ := y
    have hx' : V.int (i : Nat) = x' := Option.some.inj hx'
    subst hx'
    obtain ⟨x, hx, rfl⟩ := vS_get hy'
    refine two_ok (SqT.of upd_same) ⟨rfl, ?_⟩
    walk_at "rd"
    refine iteT ⟨_, rfl, _, rfl, ?_⟩
    have := hC (.int (i : Nat)) _ (ex_new (o := .tup [.int (i : Nat), .str x]) hT) rfl
    rw [nth_get hx] at this
    exact this
  -- what the wishes are
  have hwish : ∀ x, valV kvs (Sum.inr x) = (wishOf en x).map fun n => V.int (n : Nat) := fun x => by
    cases ew : wishOf en x with
    | none =>
      refine hno x fun i hi z => ?_
      rw [vS_len] at hi
      have g1 : en[i]? = some en[i] := List.getElem?_eq_getElem hi
      rw [nth_get g1] at z
      exact wish_none ew (by rw [← z]; exact List.getElem_mem hi)
    | some n =>
      have hn := wish_get ew
      obtain ⟨v, h1, h2⟩ := hk n (by rw [vS_len]; exact (List.getElem?_eq_some_iff.mp hn).1)
      rw [nth_get hn] at h1
      rw [h1, h2]
      rfl
  have e5 := e3.trans e4
  have T5 := T.ex e5
  obtain ⟨xs, hl, TW⟩ := id T5.word.at_
  have hxl : xs.length = w.length := by have := TW.1; simpa using this
  walk_at "rd"
  refine ⟨_, rfl, listT T5.hrow.at_ fun he hhe => ?_⟩
  refine ⟨Nat.zero_le _, fun fo hfo => ?_⟩
  have nfh : fo ≠ he := by
    intro z
    rw [z, upd_same] at hfo
    cases hfo
  have n1 : H4 he = none := hhe
  have n2 : H4 fo = none := by
    rw [upd_ne nfh] at hfo
    exact hfo
  have e6 : Ex H4 (upd (upd H4 he (.lst (vS row))) fo (.lst [])) := (ex_new hhe).trans (ex_new hfo)
  refine ⟨_, rfl, l, rfl, ⟨xs, SqL.of (e6 l _ hl)⟩, for_list (xs := xs) (fun i σ' H' => ∃ a b c fs, σ' = [some (.ref r), some (.ref l), some (.ref e), some (.ref D), some (.ref he), some (.ref fo), a, b, c] ∧ Ex H4 H' ∧ H' he = some (.lst (vS (runD row (hist (wishOf en) row (w.take i))))) ∧ H' fo = some (.lst fs) ∧ fs.length = i ∧ Tups H' fs ((hist (wishOf en) row (w.take i)).map dV))
    ⟨none, none, none, [], rfl, e6, by rw [upd_ne nfh.symm, upd_same]; rfl, upd_same, rfl, tups_nil _⟩ (fun i σ' H' _ p => ?_) (fun i z σ' H' hx p => ?_) fun σ' H' p => ?_⟩
  · obtain ⟨_, _, _, _, _, e', _⟩ := p
    exact SqL.of (e' l _ hl)
  · walk_at "rd"
    obtain ⟨_, _, _, fs, rfl, e7, hh, hf, hfl, ht⟩ := p
    have hi := (List.getElem?_eq_some_iff.mp hx).1
    obtain ⟨a, d, rfl, hd, ha⟩ := word_get TW hx
    have ok := okw_at T.word.okw hd
    have ha' := e7 a _ ha
    have hlen : (runD row (hist (wishOf en) row (w.take i))).length = szAt row.length (w.take i) := by rw [runD_len, hist_word]
    have hsz := szAt_le (w.take i) row.length
    rw [List.length_take] at hsz
    cases d with
    | some x =>
      have ha' : H' a = some (.tup [.str "in", .str x]) := ha'
      refine ⟨_, rfl, ixT0 ha' (eqS ⟨_, rfl, iteT ?_⟩)⟩
      refine ⟨_, rfl, tyL hh, _, rfl, ixT1 ha' (appd hh (by rw [vS_len]; omega) ?_)⟩
      have hf2 : (upd H' he (.lst (vS (runD row (hist (wishOf en) row (w.take i))) ++ [.str x]))) fo = some (.lst fs) := by rw [upd_ne nfh]; exact hf
      refine ⟨_, rfl, tyL hf2, _, rfl, appd hf2 (by omega) ?_⟩
      refine ⟨_, _, _, fs ++ [.ref a], rfl, ex_put (ex_put e7 n1) n2, ?_, upd_same, by simp [hfl], ?_⟩
      · rw [upd_ne nfh.symm, upd_same, vS_snoc, hist_run hd]
        rfl
      · rw [hist_take hd, List.map_append]
        refine ((ht.te (te_put hh)).te (te_put hf2)).snoc ?_
        exact te_put hf2 _ _ (te_put hh _ _ ha')
    | none =>
      have ha' : H' a = some (.tup [.str "out"]) := ha'
      have hpos := ok.2 rfl
      refine ⟨_, rfl, ixT0 ha' (eqS ⟨_, rfl, ?_⟩)⟩
      rw [in_ne_out]
      generalize hR : runD row (hist (wishOf en) row (w.take i)) = rr at hh hlen
      obtain ⟨z, hz⟩ : ∃ z, rr[rr.length - 1]? = some z := ⟨_, List.getElem?_eq_getElem (by omega)⟩
      have hgl : rr.getLast? = some z := by rw [List.getLast?_eq_getElem?]; exact hz
      have ed : (vS rr).dropLast = vS rr.dropLast := by rw [vS, vS, List.map_dropLast]
      refine iteF ⟨_, rfl, tyL hh, he, vS rr, .str z, rfl, rfl, hh, by rw [vS_len]; exact vS_at hz, ?_⟩
      rw [ed]
      have en1 : nextD (wishOf en) rr none = .out ((wishOf en z).getD (rr.length - 1)) := by
        unfold nextD
        rw [hgl]
      have es1 : stepD rr (nextD (wishOf en) rr none) = rr.dropLast.set ((wishOf en z).getD (rr.length - 1)) z := by
        rw [en1]
        show goOut rr _ = _
        unfold goOut
        rw [hgl]
      have hdl : (vS rr.dropLast).length = rr.length - 1 := by rw [vS_len]; simp
      have nDhe : D ≠ he := ne_of_none hD4 n1
      have nDfo : D ≠ fo := ne_of_none hD4 n2
      have hD5 : (upd H' he (.lst (vS rr.dropLast))) D = some (.dK kvs) := by
        rw [upd_ne nDhe]
        exact e7 D _ hD4
      refine ⟨_, rfl, D, rfl, .inl ⟨kvs, .inl hD5⟩, _, rfl, _, rfl, lenL (SqL.of upd_same) ⟨_, DGet.k (k := Sum.inr z) hD5, ?_⟩⟩
      rw [hwish z, hdl]
      have espot : (((wishOf en z).map fun n => V.int (n : Nat)).getD (.int ((rr.length - 1 : Nat) : Int))) = .int (((wishOf en z).getD (rr.length - 1) : Nat) : Int) := by
        cases wishOf en z <;> rfl
      rw [espot]
      generalize hsp : (wishOf en z).getD (rr.length - 1) = sp at es1 en1
      refine ⟨_, rfl, _, rfl, lenL (SqL.of upd_same) ⟨_, _, rfl, rfl, _, rfl, ?_⟩⟩
      -- both ways end alike
      have fin : ∀ H6, H6 = upd H' he (.lst (vS (rr.dropLast.set sp z))) → tyV K "list" (.ref fo) H6 ∧ ∀ p, H6 p = none → rAppend (.ref fo) [.ref p] (upd H6 p (.tup [.str "out", .int (sp : Nat)])) fun x H1 => ∃ a' b c fs', [some (V.ref r), some (V.ref l), some (V.ref e), some (V.ref D), some (V.ref he), some (V.ref fo), some (V.ref a), some (V.str z), some (V.int (sp : Nat))] = [some (.ref r), some (.ref l), some (.ref e), some (.ref D), some (.ref he), some (.ref fo), a', b, c] ∧ Ex H4 H1 ∧ H1 he = some (.lst (vS (runD row (hist (wishOf en) row (w.take (i + 1)))))) ∧ H1 fo = some (.lst fs') ∧ fs'.length = i + 1 ∧ Tups H1 fs' ((hist (wishOf en) row (w.take (i + 1))).map dV) := fun H6 h6 => by
        have hf6 : H6 fo = some (.lst fs) := by
          rw [h6, upd_ne nfh]
          exact hf
        have hh6 : H6 he = some (.lst (vS (rr.dropLast.set sp z))) := by rw [h6, upd_same]
        refine ⟨tyL hf6, fun t ht' => ?_⟩
        have e8 := ex_new (o := .tup [.str "out", .int (sp : Nat)]) ht'
        have e9 : Ex H4 H6 := by
          rw [h6]
          exact ex_put e7 n1
        have t6 : TE' H' H6 := by
          rw [h6]
          exact te_put hh
        refine appd (e8 fo _ hf6) (by omega) ⟨_, _, _, fs ++ [.ref t], rfl, ex_put (e9.trans e8) n2, ?_, upd_same, by simp [hfl], ?_⟩
        · rw [upd_ne nfh.symm, hist_run hd, hR, es1]
          exact e8 he _ hh6
        · rw [hist_take hd, hR, en1, List.map_append]
          refine (((ht.te t6).te (ex_te e8)).te (te_put (e8 fo _ hf6))).snoc ?_
          rw [upd_ne (ne_of_none hf6 ht').symm, upd_same]
          rfl
      by_cases hlt : sp < rr.length - 1
      · rw [hdl, decide_eq_true (by omega)]
        refine iteT ⟨_, rfl, _, rfl, _, rfl, he, _, _, sp, rfl, rfl, upd_same, ?_, ?_⟩
        · unfold ixN
          rw [if_pos (by omega), if_pos (by rw [hdl]; omega)]
          rfl
        · have hf := fin (upd (upd H' he (.lst (vS rr.dropLast))) he (.lst ((vS rr.dropLast).set sp (.str z)))) ?_
          · exact ⟨_, rfl, hf.1, _, rfl, by show 2 ≤ sizeLine; decide, hf.2⟩
          rw [upd_upd]
          congr 2
          rw [vS, vS, List.map_set]
      · rw [hdl, decide_eq_false (by omega)]
        have hf := fin (upd H' he (.lst (vS rr.dropLast))) ?_
        · exact iteF ⟨_, rfl, hf.1, _, rfl, by show 2 ≤ sizeLine; decide, hf.2⟩
        rw [List.set_eq_of_length_le (by simp; omega)]
  · walk_at "rd"
    obtain ⟨_, _, _, fs, rfl, e7, hh, hf, hfl, ht⟩ := p
    rw [hxl, List.take_length] at ht
    exact ⟨_, rfl, q fo H' (e5.free n2) (e5.trans e7) ⟨fs, hf, ht⟩⟩
theorem pMoved (h : spMoved K vs H Q E) : tMoved K (En Q) (start nMoved vs) H := by
  obtain ⟨r, l, e, row, w, en, rfl, T, hfw, q⟩ := h
  have hen : en.length ≤ 1000 := T.hen.small
  have hnd := T.nodup
  unfold tMoved
  refine ⟨_, rfl, _, rfl, _, rfl, r, l, e, row, w, en, rfl, T, fun H1 e1 => ?_⟩
  refine ⟨_, rfl, _, rfl, _, rfl, r, l, e, row, w, en, rfl, T.ex e1, fun H2 e2 => ⟨_, rfl, ?_⟩⟩
  rw [hfw]
  refine iteF ?_
  have e3 := e1.trans e2
  have T3 := T.ex e3
  refine ⟨_, rfl, _, rfl, r, l, row, w, rfl, T3.hrow, T3.word, fun d H3 hd e4 hk => ?_⟩
  have e5 := e3.trans e4
  have T5 := T.ex e5
  refine ⟨_, rfl, e, vS en, rfl, T5.hen.at_, fun D hD => lc_gen (walk_enumT (xs := vS en)) (fun i => placeOf (kn0 row w) (nth en i) != i) (fun i v H' => v = .str (nth en i)) (fun _ _ _ _ _ h => h) hD (by rw [vS_len]; omega) (fun H' e => Same.tup e T5.hen.at_) (fun i x H4 H5 N C hi e6 y hN hC => ?_) (fun H4 ys e6 hx ha => ?_)⟩
  · obtain ⟨T', x', y', rfl, hT, rfl, hx', hy'⟩ := y
    have hx' : V.int (i : Nat) = x' := Option.some.inj hx'
    subst hx'
    obtain ⟨x, hx, rfl⟩ := vS_get hy'
    obtain ⟨c, m, hm⟩ := T.these x (List.mem_of_getElem? hx)
    have e7 := ex_new (o := .tup [.int (i : Nat), .str x]) hT
    obtain ⟨kvs, hd2, hkv⟩ := (hk.ex e6).ex e7
    obtain ⟨t, h1, h2⟩ := hkv x c m hm
    refine two_ok (SqT.of upd_same) ⟨rfl, ?_⟩
    walk_at "rd"
    refine ⟨_, rfl, _, rfl, d, .ref t, rfl, by rw [← h1]; exact DGet.k (k := Sum.inr x) hd2, ixT0 h2 ⟨_, rfl, neI ⟨_, rfl, ?_⟩⟩⟩
    have ep : placeOf (kn0 row w) (nth en i) = c := by
      rw [nth_get hx]
      exact place_is hnd hm
    by_cases hci : c = i
    · have et : (placeOf (kn0 row w) (nth en i) != i) = false := by rw [ep, hci]; simp
      rw [decide_eq_true (by omega)]
      exact iteF (hN et _ e7)
    · have et : (placeOf (kn0 row w) (nth en i) != i) = true := by rw [ep]; simpa using hci
      rw [decide_eq_false (by omega)]
      exact iteT ⟨_, rfl, hC et _ _ e7 (by rw [nth_get hx])⟩
  · refine ⟨D, movedL (kn0 row w) en, rfl, SqL.of ?_, fun zs p hperm hs hp => ?_⟩
    · rw [hx, allR_map (f := fun i => .str (nth en i)) ha, vS_len]
      congr 2
      unfold movedL
      rw [List.map_map]
      rfl
    · exact q zs p _ hperm hs ((e5.trans e6).free hp) ((e5.trans e6).trans (ex_new hp)) upd_same
end
end K60

namespace K60
open PySem PySem.Spec PyProof.Rows L2 Lf
local macro_rules | `(tactic| walk_at "rd") => `(tactic| dsimp only [tRet, tSeq, tIfS, tNext, tNever, tAsg, tDrop, tAug, ipI, gName, gTup, gCons, gNil, gSub, tTup, tLst, tAndV, tOrV, tNotV, tIf, tAnd, tOr, tNot, tTest, tB, tCB, tCons, tNil, tC, tVar, tOp, tUn, tCal, tChain, tBM, tBM0, tDGet, tDGet2, tDIn, tSl, tPart, tNoPart, tYes, iRng1, iRng3, iList, iTup, iStr, iEnum, iEnumT, iKeys, tLenSetT, tDNewK, tTupIdx, sDPut, rAddI, rSubI, rMulI, rModI, rDivI, rPowI, rLtI, rLeI, rGtI, rGeI, rNegI, rI, rI0, rU])
local macro_rules | `(tactic| walk_at "rs") => `(tactic| dsimp only [tRet, tSeq, tIfS, tNext, tNever, tAsg, tDrop, tAug, ipI, gName, gTup, gCons, gNil, gSub, tTup, tLst, tAndV, tOrV, tNotV, tAnd, tOr, tNot, tTest, tB, tCB, tCons, tNil, tC, tVar, tOp, tUn, tCal, tChain, tBM, tBM0, tDGet, tDGet2, tDIn, tSl, tPart, tNoPart, tYes, iRng1, iRng3, iList, iTup, iStr, iEnum, iEnumT, iKeys, tLenSetT, tDNewK, tTupIdx, sDPut, rAddI, rSubI, rMulI, rModI, rDivI, rPowI, rLtI, rLeI, rGtI, rGeI, rNegI, rI, rI0, rU])
section
variable {K : PySem.W.Frag} {vs : List V} {H : Hp} {Q : VK} {E : XK}
theorem pLawCellAt (h : spCellAt K vs H Q E) : tLawCellAt K (En Q) (start nLawCellAt vs) H := by
  obtain ⟨a, ns, k, rfl, hS, q⟩ := h
  unfold tLawCellAt
  walk_at "rd"
  refine ⟨_, rfl, _, rfl, lenL hS ⟨_, _, rfl, rfl, _, rfl, ?_⟩⟩
  by_cases hk : k < ns.length
  · rw [List.length_map, decide_eq_true (by omega)]
    refine iteT ⟨_, rfl, _, rfl, ixL hS (v := .int ns[k]) ?_ (q _).here⟩
    rw [List.getElem?_map, List.getElem?_eq_getElem hk]
    rfl
  · rw [List.length_map, decide_eq_false (by omega)]
    exact iteF (q 0).here
theorem pLawBag (h : spBag vs H Q E) : tLawBag (En Q) (start nLawBag vs) H := by
  obtain ⟨c, k, rfl, hk, q⟩ := h
  unfold tLawBag
  walk_at "rd"
  refine ⟨_, rfl, _, _, rfl, rfl, ⟨by decide, by decide +kernel⟩, _, _, rfl, rfl, _, _, rfl, ?_⟩
  refine ⟨_, rfl, _, _, rfl, rfl, by decide, _, rfl, _, _, rfl, rfl, _, _, rfl, rfl, .inl ⟨by decide, by decide⟩, _, _, rfl, rfl, by show 3 ≤ sizeLine; decide, fun p hp => ?_⟩
  refine q p _ hp (ex_new hp) ⟨_, _, _, upd_same, ?_, ⟨?_, ?_⟩, Int.le_refl 0, by omega⟩
  · split <;> omega
  · have := Int.emod_nonneg c (show (162259276829213363391578010288127 : Int) ≠ 0 by decide)
    omega
  · have := Int.emod_lt_of_pos c (show (0 : Int) < 162259276829213363391578010288127 by decide)
    omega
theorem bits_of {x : Int} {m : Nat} {j : Int} {b : Int} (h0 : 0 ≤ x) (h : x < 2 ^ m) (hb : (m : Int) * j ≤ b) (hj : 0 ≤ j) : (Builtin.Int.intBits x : Int) * j ≤ b := by
  have h1 : Builtin.Int.intBits x ≤ m := intBits_le_iff.mpr (by
    have : (x.natAbs : Int) < ((2 ^ m : Nat) : Int) := by
      rw [Int.natAbs_of_nonneg h0]
      simpa using h
    exact Int.ofNat_lt.mp this)
  exact Int.le_trans (Int.mul_le_mul_of_nonneg_right (Int.ofNat_le.mpr h1) hj) hb
theorem pLawTake (h : spTake vs H Q E) : tLawTake K (En Q) (start nLawTake vs) H := by
  obtain ⟨l, m, n, rfl, ⟨hm0, hm1⟩, hn, ⟨a, b, c, hl, ha, ⟨hb0, hb1⟩, hc0, hc1⟩, q⟩ := h
  unfold tLawTake
  walk_at "rd"
  refine ⟨_, rfl, ixL (i := 0) (SqL.of hl) rfl ⟨_, _, rfl, rfl, _, rfl, ?_⟩⟩
  by_cases h1 : 1 < a
  · rw [decide_eq_true h1]
    refine iteT ⟨_, rfl, ixL (i := 0) (SqL.of hl) rfl ⟨_, rfl, _, _, rfl, rfl, by omega, ?_⟩⟩
    refine ⟨_, rfl, ixL (i := 0) (SqL.of hl) rfl ⟨_, rfl, _, _, rfl, rfl, ⟨by omega, by omega⟩, ?_⟩⟩
    refine ⟨_, rfl, l, _, _, 0, rfl, rfl, hl, rfl, _, rfl, ?_⟩
    have e1 := Int.emod_nonneg a (show (m : Int) ≠ 0 by omega)
    have e2 := Int.emod_lt_of_pos a (show (0 : Int) < (m : Int) by omega)
    have e3 : a % (m : Int) = (((a % (m : Int)).toNat : Nat) : Int) := by omega
    rw [e3]
    refine q _ _ (by omega) ⟨_, _, _, upd_same, Int.ediv_nonneg ha (by omega), ⟨hb0, hb1⟩, hc0, by omega⟩
  · rw [decide_eq_false h1]
    refine iteF ⟨_, rfl, ixL (i := 2) (SqL.of hl) rfl ⟨_, _, rfl, rfl, ?_⟩⟩
    refine ⟨_, rfl, l, _, _, 2, rfl, rfl, hl, rfl, ?_⟩
    show _
    have hl2 : (upd H l (.lst ([V.int a, V.int b, V.int c].set 2 (.int (c + 1))))) l = some (.lst [.int a, .int b, .int (c + 1)]) := upd_same
    refine ⟨_, rfl, ixL (i := 1) (SqL.of hl2) rfl ⟨_, rfl, ixL (i := 2) (SqL.of hl2) rfl ⟨_, _, rfl, rfl, .inl ⟨by decide, by decide⟩, _, _, rfl, rfl, ?_⟩⟩⟩
    refine ⟨_, _, rfl, rfl, ⟨by decide, bits_of (m := 111) (by omega) (by omega) (by decide) (by decide)⟩, ?_⟩
    refine ⟨_, _, rfl, rfl, by decide, ?_⟩
    generalize hx1 : (b + 1299709 * (c + 1)) ^ (3 : Int).toNat % 162259276829213363391578010288127 = x1
    have f1 := Int.emod_nonneg ((b + 1299709 * (c + 1)) ^ (3 : Int).toNat) (show (162259276829213363391578010288127 : Int) ≠ 0 by decide)
    have f2 := Int.emod_lt_of_pos ((b + 1299709 * (c + 1)) ^ (3 : Int).toNat) (show (0 : Int) < 162259276829213363391578010288127 by decide)
    rw [hx1] at f1 f2
    refine ⟨_, rfl, _, rfl, ixL (i := 2) (SqL.of hl2) rfl ⟨_, _, rfl, rfl, .inl ⟨by decide, by decide⟩, _, _, rfl, rfl, ?_⟩⟩
    refine ⟨_, _, rfl, rfl, ⟨by decide, bits_of (m := 111) (by omega) (by omega) (by decide) (by decide)⟩, ?_⟩
    refine ⟨_, _, rfl, rfl, by decide, ?_⟩
    generalize (x1 + 15485863 * (c + 1)) ^ (5 : Int).toNat % 618970019642690137449562111 = x2
    refine ⟨_, rfl, _, _, rfl, rfl, ⟨by decide, by decide⟩, _, rfl, _, _, rfl, rfl, by omega, ?_⟩
    generalize x2 / 1048576 = x3
    have e1 := Int.emod_nonneg x3 (show (m : Int) ≠ 0 by omega)
    have e2 := Int.emod_lt_of_pos x3 (show (0 : Int) < (m : Int) by omega)
    have e3 : x3 % (m : Int) = (((x3 % (m : Int)).toNat : Nat) : Int) := by omega
    rw [e3]
    exact q _ _ (by omega) ⟨_, _, _, hl2, ha, ⟨hb0, hb1⟩, by omega, by omega⟩
end
end K60

namespace K60
open PySem PySem.Spec PyProof.Rows L2 Lf
local macro_rules | `(tactic| walk_at "rd") => `(tactic| dsimp only [tRet, tSeq, tIfS, tNext, tNever, tAsg, tDrop, tAug, ipI, gName, gTup, gCons, gNil, gSub, tTup, tLst, tAndV, tOrV, tNotV, tIf, tAnd, tOr, tNot, tTest, tB, tCB, tCons, tNil, tC, tVar, tOp, tUn, tCal, tChain, tBM, tBM0, tDGet, tDGet2, tDIn, tSl, tPart, tNoPart, tYes, iRng1, iRng3, iList, iTup, iStr, iEnum, iEnumT, iKeys, tLenSetT, tDNewK, tTupIdx, sDPut, rAddI, rSubI, rMulI, rModI, rDivI, rPowI, rLtI, rLeI, rGtI, rGeI, rNegI, rI, rI0, rU])
local macro_rules | `(tactic| walk_at "rs") => `(tactic| dsimp only [tRet, tSeq, tIfS, tNext, tNever, tAsg, tDrop, tAug, ipI, gName, gTup, gCons, gNil, gSub, tTup, tLst, tAndV, tOrV, tNotV, tAnd, tOr, tNot, tTest, tB, tCB, tCons, tNil, tC, tVar, tOp, tUn, tCal, tChain, tBM, tBM0, tDGet, tDGet2, tDIn, tSl, tPart, tNoPart, tYes, iRng1, iRng3, iList, iTup, iStr, iEnum, iEnumT, iKeys, tLenSetT, tDNewK, tTupIdx, sDPut, rAddI, rSubI, rMulI, rModI, rDivI, rPowI, rLtI, rLeI, rGtI, rGeI, rNegI, rI, rI0, rU])
def tyName : V → String
  | .non => "NoneType"
  | .bl _ => "bool"
  | .int _ => "int"
  | _ => "str"
section
variable {K : PySem.W.Frag} {vs : List V} {H : Hp} {Q : VK} {E : XK}
theorem ty_scal {x : V} (h : scal1 x = true) : TyX K H x (.type (tyName x)) := by
  cases x with
  | non => exact .base .non
  | bl b => exact .base (.bl b)
  | int i => exact .base (.int i)
  | str s => exact .base (.str s)
  | _ => cases h
theorem kit_scal {x : V} (h : scal1 x = true) : kitB (tyName x) "list" = some false ∧ kitB (tyName x) "tuple" = some false := by
  cases x with
  | non => exact ⟨by decide +kernel, by decide +kernel⟩
  | bl b => exact ⟨(show kitB "bool" "list" = some false by decide +kernel), (show kitB "bool" "tuple" = some false by decide +kernel)⟩
  | int i => exact ⟨(show kitB "int" "list" = some false by decide +kernel), (show kitB "int" "tuple" = some false by decide +kernel)⟩
  | str s => exact ⟨(show kitB "str" "list" = some false by decide +kernel), (show kitB "str" "tuple" = some false by decide +kernel)⟩
  | _ => cases h
theorem isiT_ok {x : V} {a : String} {b1 b2 : Bool} {tp : Addr} (ht : H tp = some (.tup [.ty "list", .ty "tuple"])) (hx : TyX K H x (.type a)) (h1 : kitB a "list" = some b1) (h2 : kitB a "tuple" = some b2) (q : Q (.bl (b1 || b2)) H) : rIsiT K [x, .ref tp] H Q := by
  refine ⟨x, tp, _, .type a, [.type "list", .type "tuple"], b1 || b2, rfl, ht, .cons (.ty _) (.cons (.ty _) .nil), hx, ?_, q⟩
  refine kitAny_cons (kit_ty h1) (fun e => ?_) fun e => by rw [e]; rfl
  refine kitAny_cons (kit_ty h2) (fun e2 => ?_) fun e2 => by rw [e2, Bool.or_true]
  rw [e, e2]
  exact kitAny_nil
theorem pLawAlike0 {sp : Sp} (h : spAlike0 vs H Q E) : tLawAlike K sp (En Q) (start nLawAlike vs) H := by
  obtain ⟨x, rfl, hx, q⟩ := h
  unfold tLawAlike
  walk_at "rd"
  refine ⟨_, rfl, by show 2 ≤ sizeLine; decide, fun tp htp => ?_⟩
  have k := kit_scal hx
  have e1 := ex_new (o := .tup [.ty "list", .ty "tuple"]) htp
  refine isiT_ok upd_same (ty_scal hx) k.1 k.2 ⟨_, rfl, iteF ?_⟩
  have q1 := q.go e1
  cases x with
  | bl b =>
    refine ⟨_, rfl, isi_ok (ty_bl b) (b := true) (by decide +kernel) ⟨_, rfl, iteT (iteT ?_)⟩⟩
    refine ⟨_, rfl, isi_ok (ty_bl b) (b := true) (by decide +kernel) ⟨_, rfl, iteT ?_⟩⟩
    refine ⟨_, rfl, isi_ok (ty_bl b) (b := true) (by decide +kernel) ⟨_, rfl, iteT ?_⟩⟩
    refine ⟨_, rfl, _, rfl, eqB ?_⟩
    rw [decide_eq_true rfl]
    exact q1
  | non =>
    refine ⟨_, rfl, isi_ok (ty_scal hx) (b := false) (by decide +kernel) ⟨_, rfl, iteF ?_⟩⟩
    refine ⟨_, rfl, isi_ok (ty_scal hx) (b := false) (by decide +kernel) ⟨_, rfl, iteF ?_⟩⟩
    exact ⟨_, rfl, _, rfl, rfl, q1⟩
  | int i =>
    refine ⟨_, rfl, isi_ok (ty_int i) (b := false) (by decide +kernel) ⟨_, rfl, iteF ?_⟩⟩
    refine ⟨_, rfl, isi_ok (ty_int i) (b := false) (by decide +kernel) ⟨_, rfl, iteF ?_⟩⟩
    refine ⟨_, rfl, _, rfl, eqI ?_⟩
    rw [decide_eq_true rfl]
    exact q1
  | str i =>
    refine ⟨_, rfl, isi_ok (ty_str i) (b := false) (by decide +kernel) ⟨_, rfl, iteF ?_⟩⟩
    refine ⟨_, rfl, isi_ok (ty_str i) (b := false) (by decide +kernel) ⟨_, rfl, iteF ?_⟩⟩
    refine ⟨_, rfl, _, rfl, eqS ?_⟩
    rw [decide_eq_true rfl]
    exact q1
  | _ => cases hx
/-- a list or a tuple, by its type's name -/
def SqQ (K : PySem.W.Frag) (H : Hp) (a : Addr) (xs : List V) (T : Bool) : Prop := (T = true ∧ H a = some (.lst xs)) ∨ (T = false ∧ SqT K H a xs)
theorem SqQ.ex {H H' : Hp} {a : Addr} {xs : List V} {T : Bool} (h : SqQ K H a xs T) (e : Ex H H') : SqQ K H' a xs T := by
  rcases h with ⟨h, g⟩ | ⟨h, g⟩
  · exact .inl ⟨h, e a _ g⟩
  · exact .inr ⟨h, Same.tup e g⟩
theorem SqQ.ty {a : Addr} {xs : List V} {T : Bool} (h : SqQ K H a xs T) : TyX K H (.ref a) (.type (if T then "list" else "tuple")) := by
  rcases h with ⟨rfl, g⟩ | ⟨rfl, g⟩
  · exact ty_lst g
  · exact ty_sqT g
theorem SqQ.ix {a : Addr} {xs : List V} {T : Bool} {i : Nat} {v : V} (h : SqQ K H a xs T) (hi : xs[i]? = some v) (q : Q v H) : rIx K (.ref a) (.int (i : Nat)) H Q := by
  rcases h with ⟨rfl, g⟩ | ⟨rfl, g⟩
  · exact .inl (ixL (SqL.of g) hi q)
  · exact .inr (.inl (ixT g hi q))
theorem SqQ.len {a : Addr} {xs : List V} {T : Bool} (h : SqQ K H a xs T) (q : Q (.int xs.length) H) : rLenQ K [.ref a] H Q := by
  rcases h with ⟨rfl, g⟩ | ⟨rfl, g⟩
  · exact lenL (SqL.of g) q
  · exact lenT g q
theorem pLawAlike (h : spAlike K vs H Q E) : tLawAlike K spAlike0 (En Q) (start nLawAlike vs) H := by
  rcases h with h | ⟨a, b, xs, rfl, hab, hsc, hsm, q⟩
  · exact pLawAlike0 h
  obtain ⟨T, hA, hB⟩ : ∃ T, SqQ K H a xs T ∧ SqQ K H b xs T := by
    rcases hab with ⟨h1, h2⟩ | ⟨h1, h2⟩
    · exact ⟨false, .inr ⟨rfl, h1⟩, .inr ⟨rfl, h2⟩⟩
    · exact ⟨true, .inl ⟨rfl, h1⟩, .inl ⟨rfl, h2⟩⟩
  have hsm : xs.length ≤ 1000 := hsm
  have kl : kitB (if T then "list" else "tuple") "list" = some T := by cases T <;> decide +kernel
  have kt : kitB (if T then "list" else "tuple") "tuple" = some (!T) := by cases T <;> decide +kernel
  have eor : (T || !T) = true := by cases T <;> rfl
  unfold tLawAlike
  walk_at "rd"
  refine ⟨_, rfl, by show 2 ≤ sizeLine; decide, fun tp htp => ?_⟩
  have e1 := ex_new (o := .tup [.ty "list", .ty "tuple"]) htp
  refine isiT_ok upd_same (hB.ex e1).ty kl kt ?_
  rw [eor]
  refine ⟨_, rfl, iteT ?_⟩
  refine ⟨_, rfl, isi_ok (hA.ex e1).ty kl ⟨_, rfl, isi_ok (hB.ex e1).ty kl (neB ⟨_, rfl, ?_⟩)⟩⟩
  rw [decide_eq_true rfl]
  refine iteF ⟨_, rfl, by show 2 ≤ sizeLine; decide, fun tp2 htp2 => ?_⟩
  have e2 := e1.trans (ex_new (o := .tup [.ty "list", .ty "tuple"]) htp2)
  refine isiT_ok upd_same (hA.ex e2).ty kl kt ?_
  rw [eor]
  refine ⟨_, rfl, iteF ?_⟩
  refine ⟨_, rfl, (hA.ex e2).len ⟨_, rfl, (hB.ex e2).len (neI ⟨_, rfl, ?_⟩)⟩⟩
  rw [decide_eq_true rfl]
  refine iteF ?_
  refine lcR1 xs.length (by omega) (fun C hC => ?_) fun D hD => lc_gen walk_range (fun _ => true) (fun _ v _ => v = .bl true) (fun _ _ _ _ _ h => h) hD (by omega) (fun _ _ => trivial) (fun i v H1 H' N C hi e y hN hC => ?_) (fun H' ys e hx ha => ?_)
  · walk_at "rd"
    exact ⟨_, rfl, (hB.ex e2).len hC⟩
  · obtain ⟨rfl, rfl⟩ := y
    have hv : xs[i]? = some xs[i] := List.getElem?_eq_getElem hi
    have hs : scal1 xs[i] = true := List.all_eq_true.mp hsc _ (List.getElem_mem hi)
    refine ⟨rfl, ?_⟩
    walk_at "rd"
    rw [Int.zero_add]
    refine iteT ⟨_, rfl, _, rfl, (hA.ex (e2.trans e)).ix hv ⟨_, rfl, _, rfl, (hB.ex (e2.trans e)).ix hv ?_⟩⟩
    exact ⟨_, rfl, hs, fun H2 e3 => hC rfl _ _ e3 rfl⟩
  · refine ⟨D, _, rfl, SqL.of (by rw [hx, allR_true ha.all]), ?_⟩
    rw [all_true]
    exact q.go (e2.trans e)
end
end K60

namespace K60
open PySem PySem.Spec PyProof.Rows L2 Lf
local macro_rules | `(tactic| walk_at "rd") => `(tactic| dsimp only [tRet, tSeq, tIfS, tNext, tNever, tAsg, tDrop, tAug, ipI, gName, gTup, gCons, gNil, gSub, tTup, tLst, tAndV, tOrV, tNotV, tIf, tAnd, tOr, tNot, tTest, tB, tCB, tCons, tNil, tC, tVar, tOp, tUn, tCal, tChain, tBM, tBM0, tDGet, tDGet2, tDIn, tSl, tPart, tNoPart, tYes, iRng1, iRng3, iList, iTup, iStr, iEnum, iEnumT, iKeys, tLenSetT, tDNewK, tTupIdx, sDPut, rAddI, rSubI, rMulI, rModI, rDivI, rPowI, rLtI, rLeI, rGtI, rGeI, rNegI, rI, rI0, rU])
local macro_rules | `(tactic| walk_at "rs") => `(tactic| dsimp only [tRet, tSeq, tIfS, tNext, tNever, tAsg, tDrop, tAug, ipI, gName, gTup, gCons, gNil, gSub, tTup, tLst, tAndV, tOrV, tNotV, tAnd, tOr, tNot, tTest, tB, tCB, tCons, tNil, tC, tVar, tOp, tUn, tCal, tChain, tBM, tBM0, tDGet, tDGet2, tDIn, tSl, tPart, tNoPart, tYes, iRng1, iRng3, iList, iTup, iStr, iEnum, iEnumT, iKeys, tLenSetT, tDNewK, tTupIdx, sDPut, rAddI, rSubI, rMulI, rModI, rDivI, rPowI, rLtI, rLeI, rGtI, rGeI, rNegI, rI, rI0, rU])
/-! ### names of letters -/
def ltr (j : Nat) : Str := ⟨#[alpha.cps.toList.getD j 0]⟩
def two (j : Nat) : Str := ltr (j / 26) ++ ltr (j % 26)
theorem alpha_len : alpha.cps.toList.length = 26 := by decide +kernel
theorem alpha_size : alpha.length = 26 := by decide +kernel
theorem ltr_at {j : Nat} (h : j < 26) : atI alpha.cps.toList ((j : Nat) : Int) = some (alpha.cps.toList.getD j 0) := by
  refine atI_nat ?_
  rw [List.getElem?_eq_getElem (by rw [alpha_len]; exact h), List.getD_eq_getElem?_getD, List.getElem?_eq_getElem (by rw [alpha_len]; exact h)]
  rfl
theorem ltr_mem {j : Nat} (h : j < 26) : alpha.cps.toList.getD j 0 ∈ alpha.cps.toList := by
  rw [List.getD_eq_getElem?_getD, List.getElem?_eq_getElem (by rw [alpha_len]; exact h)]
  exact List.getElem_mem _
/-- only letters, so many -/
def Ltrs (x : Str) (n : Nat) : Prop := x.length = n ∧ ∀ c ∈ x.cps.toList, c ∈ alpha.cps.toList
theorem ltrs_app {x y : Str} {n m : Nat} (hx : Ltrs x n) (hy : Ltrs y m) : Ltrs (x ++ y) (n + m) := by
  refine ⟨?_, fun c hc => ?_⟩
  · show (x.cps ++ y.cps).size = n + m
    rw [Array.size_append]
    have h1 := hx.1
    have h2 := hy.1
    unfold Str.length at h1 h2
    omega
  · have hc : c ∈ (x.cps ++ y.cps).toList := hc
    rw [Array.toList_append] at hc
    rcases List.mem_append.mp hc with h | h
    · exact hx.2 c h
    · exact hy.2 c h
theorem ltrs_one {j : Nat} (h : j < 26) : Ltrs (ltr j) 1 := by
  refine ⟨rfl, fun c hc => ?_⟩
  have : c = alpha.cps.toList.getD j 0 := by
    have hc : c ∈ [alpha.cps.toList.getD j 0] := hc
    simpa using hc
  rw [this]
  exact ltr_mem h
theorem Ltrs.ok {x : Str} {n : Nat} (h : Ltrs x n) (h1 : 1 ≤ n) (h4 : n ≤ 4) : OkName x := ⟨by rw [h.1]; exact h1, by rw [h.1]; exact h4, h.2⟩
theorem twos_nodup : ((List.range 101).map two).Nodup := by decide +kernel
theorem twos_le {c : Nat} {xs : List Str} (hc : c ≤ 101) (h : ∀ j, j < c → two j ∈ xs) : c ≤ xs.length := by
  have h1 : ((List.range c).map two).Nodup := by
    refine List.Nodup.sublist ?_ twos_nodup
    refine List.Sublist.map _ ?_
    have : List.range c = (List.range 101).take c := by
      rw [List.take_range, Nat.min_eq_left hc]
    rw [this]
    exact List.take_sublist _ _
  have h2 := nodup_le h1 fun x hx => by
    obtain ⟨j, hj, rfl⟩ := List.mem_map.mp hx
    exact h j (List.mem_range.mp hj)
  simpa using h2
section
variable {K : PySem.W.Frag} {vs : List V} {H : Hp} {Q : VK} {E : XK}
theorem pLawNames (h : spNames vs H Q E) : tLawNames K (En Q) (start nLawNames vs) H := by
  obtain ⟨l, m, n, rfl, hm, hn, hb, q⟩ := h
  unfold tLawNames
  walk_at "rd"
  refine ⟨Nat.zero_le _, fun fo hfo => ?_⟩
  obtain ⟨bs, hbs⟩ := hb.some
  have hlf : l ≠ fo := ne_of_none hbs hfo
  refine ⟨fun k σ' H' => ∃ xs a4 a5 a6, σ' = [some (.ref l), some (.int (m : Nat)), some (.ref fo), some (.str alpha), a4, a5, a6] ∧ k = m - xs.length ∧ xs.length ≤ m ∧ xs.Nodup ∧ OkNames xs ∧ ExB l H H' ∧ H' fo = some (.lst (vS xs)) ∧ BagAt H' l (n + 5 * xs.length),
    ⟨m, [], none, none, none, rfl, rfl, Nat.zero_le _, List.nodup_nil, (fun x hx => by cases hx), exb_of (ex_new hfo), upd_same, hb.put hlf⟩, fun k σ' H' w => ?_⟩
  obtain ⟨xs, a4, a5, a6, rfl, rfl, hxm, hxn, hxo, e, hf, hb1⟩ := w
  walk_at "rd"
  refine ⟨_, rfl, lenL (SqL.of hf) ⟨_, rfl, _, _, rfl, rfl, _, rfl, ?_⟩⟩
  rw [vS_len]
  by_cases hlt : xs.length < m
  · rw [decide_eq_true (by omega)]
    -- the next name
    have next : ∀ (nm : Str) (b4 b5 b6 : Option V) H2, ExB l H H2 → H2 fo = some (.lst (vS xs)) → BagAt H2 l (n + 5 * xs.length + 5) → nm ∉ xs → OkName nm → ∃ m', m' < m - xs.length ∧ ∃ xs' a4 a5 a6, [some (V.ref l), some (V.int (m : Nat)), some (V.ref fo), some (V.str alpha), b4, b5, b6] = [some (.ref l), some (.int (m : Nat)), some (.ref fo), some (.str alpha), a4, a5, a6] ∧ m' = m - xs'.length ∧ xs'.length ≤ m ∧ xs'.Nodup ∧ OkNames xs' ∧ ExB l H (upd H2 fo (.lst (vS xs ++ [.str nm]))) ∧ (upd H2 fo (.lst (vS xs ++ [.str nm]))) fo = some (.lst (vS xs')) ∧ BagAt (upd H2 fo (.lst (vS xs ++ [.str nm]))) l (n + 5 * xs'.length) := by
      intro nm b4 b5 b6 H2 e2 hf2 hb2 hnm hok
      refine ⟨m - (xs.length + 1), by omega, xs ++ [nm], _, _, _, rfl, by simp, by simp; omega, ?_, fun y hy => ?_, exb_put e2 hfo, by rw [upd_same, vS_snoc], ?_⟩
      · rw [List.nodup_append]
        refine ⟨hxn, by simp, fun a ha b hb z => ?_⟩
        have : b = nm := by simpa using hb
        exact hnm (by rw [← this, ← z]; exact ha)
      · rcases List.mem_append.mp hy with hy | hy
        · exact hxo y hy
        · have : y = nm := by simpa using hy
          rw [this]
          exact hok
      · refine (hb2.put hlf).mono ?_
        simp
        omega
    refine iteT ⟨_, fun σ' H' z => z, ?_⟩
    refine ⟨_, rfl, l, 4, _, rfl, ⟨by decide, by decide⟩, (by omega), hb1, fun r o hr hb2 => ⟨_, _, rfl, rfl, _, rfl, by omega, by omega, ?_⟩⟩
    have eb : ExB l H' (upd H' l o) := exb_bag
    have er : (1 + ((r : Nat) : Int)).toNat = 1 + r := by omega
    rw [er]
    have hf2 : (upd H' l o) fo = some (.lst (vS xs)) := by rw [upd_ne hlf.symm]; exact hf
    refine for_range (fun i σ' H2 => ∃ nm b5, σ' = [some (.ref l), some (.int (m : Nat)), some (.ref fo), some (.str alpha), some (.str nm), b5, a6] ∧ Ltrs nm i ∧ ExB l H H2 ∧ H2 fo = some (.lst (vS xs)) ∧ BagAt H2 l (n + 5 * xs.length + 1 + i))
      ⟨"", a5, rfl, ⟨by decide +kernel, fun c hc => ?_⟩, e.trans eb, hf2, hb2⟩ (fun i σ' H2 hi p => ?_) fun σ' H2 p => ?_
    · exact absurd hc (by
        have : ("" : Str).cps.toList = [] := by decide +kernel
        rw [this]
        simp)
    · walk_at "rd"
      obtain ⟨nm, b5, rfl, hL, e2, hf3, hb3⟩ := p
      refine ⟨_, rfl, _, rfl, _, rfl, take_ok (m := 26) hb3 (by decide) (by decide) (by omega) fun j o2 hj hb4 eb2 => ⟨alpha, _, _, rfl, rfl, smallI (by rw [alpha_size]; decide), ltr_at hj, ?_⟩⟩
      have h1 := hL.1
      refine ⟨_, _, rfl, rfl, smallI ?_, nm ++ ltr j, _, rfl, ltrs_app hL (ltrs_one hj), e2.trans eb2, by rw [upd_ne hlf.symm]; exact hf3, hb4⟩
      show nm.length + 1 ≤ 1000
      omega
    · walk_at "rd"
      obtain ⟨nm, b5, rfl, hL, e2, hf3, hb3⟩ := p
      refine ⟨_, rfl, _, rfl, notIn_ok (SqL.of hf3) ⟨_, rfl, ?_⟩⟩
      by_cases hin : nm ∈ xs
      · rw [decide_eq_true hin]
        refine iteF ?_
        refine ⟨fun k σ' H4 => ∃ c : Nat, σ' = [some (.ref l), some (.int (m : Nat)), some (.ref fo), some (.str alpha), some (.str nm), b5, some (.int (c : Nat))] ∧ k = 200 - c ∧ c ≤ 101 ∧ (∀ j, j < c → two j ∈ xs) ∧ H4 = H2,
          ⟨200, 0, rfl, rfl, by decide, fun j hj => absurd hj (Nat.not_lt_zero _), rfl⟩, fun k σ' H4 w => ?_⟩
        obtain ⟨c, rfl, rfl, hc, hall, rfl⟩ := w
        have hcl := twos_le hc hall
        have hd1 : (c : Int) / 26 = ((c / 26 : Nat) : Int) := by omega
        have hd2 : (c : Int) % 26 = ((c % 26 : Nat) : Int) := by omega
        have hs : sizeLine = 16777216 := sizeLine_eq
        walk_at "rd"
        refine ⟨_, rfl, _, rfl, _, _, rfl, rfl, ⟨by decide, by decide⟩, alpha, _, _, rfl, rfl, smallI (by rw [alpha_size]; decide), by rw [hd1]; exact ltr_at (by omega), ?_⟩
        refine ⟨_, rfl, _, rfl, _, _, rfl, rfl, by decide, alpha, _, _, rfl, rfl, smallI (by rw [alpha_size]; decide), by rw [hd2]; exact ltr_at (by omega), ?_⟩
        refine ⟨_, _, rfl, rfl, by show 2 ≤ sizeLine; decide, _, rfl, ?_⟩
        refine in_ok (x := two c) (.inl (SqL.of hf3)) ⟨_, rfl, ?_⟩
        by_cases hi2 : two c ∈ xs
        · rw [decide_eq_true hi2]
          refine iteT ⟨_, fun σ' H' z => z, _, rfl, _, _, rfl, rfl, 200 - (c + 1), by omega, c + 1, rfl, rfl, by omega, fun j hj => ?_, rfl⟩
          by_cases ejc : j = c
          · rw [ejc]
            exact hi2
          · exact hall j (by omega)
        · rw [decide_eq_false hi2]
          refine iteF ⟨_, rfl, tyL hf3, ?_⟩
          refine ⟨_, rfl, _, rfl, _, _, rfl, rfl, ⟨by decide, by decide⟩, alpha, _, _, rfl, rfl, smallI (by rw [alpha_size]; decide), by rw [hd1]; exact ltr_at (by omega), ?_⟩
          refine ⟨_, rfl, _, rfl, _, _, rfl, rfl, by decide, alpha, _, _, rfl, rfl, smallI (by rw [alpha_size]; decide), by rw [hd2]; exact ltr_at (by omega), ?_⟩
          refine ⟨_, _, rfl, rfl, by show 2 ≤ sizeLine; decide, ?_⟩
          refine appd (v := .str (two c)) hf3 (by rw [vS_len]; omega) ?_
          exact next (two c) _ _ _ _ e2 hf3 (hb3.mono (by omega)) hi2 ((ltrs_app (ltrs_one (by omega)) (ltrs_one (by omega))).ok (by decide) (by decide))
      · rw [decide_eq_false hin]
        refine iteT ⟨_, rfl, tyL hf3, _, rfl, appd hf3 (by rw [vS_len]; omega) ?_⟩
        exact next nm _ _ _ H2 e2 hf3 (hb3.mono (by omega)) hin (hL.ok (by omega) (by omega))
  · rw [decide_eq_false (by omega)]
    have : xs.length = m := by omega
    exact iteF ⟨_, rfl, q fo xs H' hfo hlf.symm e (hb1.mono (by omega)) hf this hxn hxo⟩
end
end K60

namespace K60
open PySem PySem.Spec PyProof.Rows L2 Lf
local macro_rules | `(tactic| walk_at "rd") => `(tactic| dsimp only [tRet, tSeq, tIfS, tNext, tNever, tAsg, tDrop, tAug, ipI, gName, gTup, gCons, gNil, gSub, tTup, tLst, tAndV, tOrV, tNotV, tIf, tAnd, tOr, tNot, tTest, tB, tCB, tCons, tNil, tC, tVar, tOp, tUn, tCal, tChain, tBM, tBM0, tDGet, tDGet2, tDIn, tSl, tPart, tNoPart, tYes, iRng1, iRng3, iList, iTup, iStr, iEnum, iEnumT, iKeys, tLenSetT, tDNewK, tTupIdx, sDPut, rAddI, rSubI, rMulI, rModI, rDivI, rPowI, rLtI, rLeI, rGtI, rGeI, rNegI, rI, rI0, rU])
local macro_rules | `(tactic| walk_at "rs") => `(tactic| dsimp only [tRet, tSeq, tIfS, tNext, tNever, tAsg, tDrop, tAug, ipI, gName, gTup, gCons, gNil, gSub, tTup, tLst, tAndV, tOrV, tNotV, tAnd, tOr, tNot, tTest, tB, tCB, tCons, tNil, tC, tVar, tOp, tUn, tCal, tChain, tBM, tBM0, tDGet, tDGet2, tDIn, tSl, tPart, tNoPart, tYes, iRng1, iRng3, iList, iTup, iStr, iEnum, iEnumT, iKeys, tLenSetT, tDNewK, tTupIdx, sDPut, rAddI, rSubI, rMulI, rModI, rDivI, rPowI, rLtI, rLeI, rGtI, rGeI, rNegI, rI, rI0, rU])
theorem okd_snoc : ∀ {ds : List Dd} {seen : List Str} {n : Nat} {d : Dd}, Okd seen n ds → (∀ x, d = .inn x → x ∉ seen ++ comers (wordOf ds)) → (∀ p, d = .out p → p < szAt n (wordOf ds)) → Okd seen n (ds ++ [d])
  | [], seen, n, d, _, h1, h2 => by
    cases d with
    | inn x => exact ⟨fun hx => h1 x rfl (List.mem_append_left _ hx), trivial⟩
    | out p => exact ⟨h2 p rfl, trivial⟩
  | .inn y :: ds, seen, n, d, h, h1, h2 => ⟨h.1, okd_snoc h.2 (fun x e hx => h1 x e (by
      have e2 : comers (wordOf (Deed.inn y :: ds)) = y :: comers (wordOf ds) := rfl
      rw [e2]
      simpa [List.append_assoc] using hx)) fun p e => h2 p e⟩
  | .out y :: ds, seen, n, d, h, h1, h2 => ⟨h.1, okd_snoc h.2 (fun x e hx => h1 x e hx) fun p e => h2 p e⟩
theorem word_snoc (ds : List Dd) (d : Dd) : wordOf (ds ++ [d]) = wordOf ds ++ [sgn d] := by simp [wordOf]
theorem comers_snoc (w : Wd) (d : Option Str) : comers (w ++ [d]) = comers w ++ d.toList := by
  cases d <;> simp [comers]
/-- the deeds so far -/
structure DD (H H' : Hp) (l fo : Addr) (xs : List Str) (m n i : Nat) (ds : List Dd) (fs : List V) (s c : Nat) : Prop where
  e : ExB l H H'
  hf : H' fo = some (.lst fs)
  hfl : fs.length ≤ i
  ht : Tups H' fs (ds.map dV)
  hdl : ds.length ≤ i
  hb : BagAt H' l (n + 1 + 4 * i)
  ho : Okd (xs.take m) m ds
  hko : ∀ x, Deed.inn x ∈ ds → OkName x
  hcm : xs.take m ++ comers (wordOf ds) = xs.take c
  hsz : szAt m (wordOf ds) = s
  hmc : m ≤ c
  hcx : c ≤ xs.length
  hsi : s ≤ m + i
section
variable {K : PySem.W.Frag} {vs : List V} {H : Hp} {Q : VK} {E : XK}
theorem names_ne_bag {l a : Addr} {xs : List Str} {n : Nat} (h : H a = some (.lst (vS xs))) (hb : BagAt H l n) : a ≠ l := by
  rintro rfl
  obtain ⟨x, y, z, h1, _⟩ := hb
  rw [h1] at h
  have h := Option.some.inj h
  injection h with h
  cases xs with
  | nil => cases h
  | cons x r =>
    have := List.cons.inj h
    cases this.1

theorem dd_coming {H H' H2 : Hp} {l fo p : Addr} {xs : List Str} {m n i : Nat} {ds : List Dd} {fs : List V} {s c : Nat} {x : Str} {C : VK} (D : DD H H' l fo xs m n i ds fs s c) (hi : i ≤ 1000) (hnd : xs.Nodup) (hok : OkNames xs) (hfo : H fo = none) (hlf : l ≠ fo) (hx : xs[c]? = some x)
    (e2 : ExB l H' H2) (hb3 : BagAt H2 l (n + 1 + 4 * i + 1)) (hp : H2 p = none)
    (q : ∀ H3, DD H H3 l fo xs m n (i + 1) (ds ++ [.inn x]) (fs ++ [.ref p]) (s + 1) (c + 1) → C .non H3) : rAppend (.ref fo) [.ref p] (upd H2 p (.tup [.str "in", .str x])) C := by
  have e3 := ex_new (o := .tup [.str "in", .str x]) hp
  have hf2 : H2 fo = some (.lst fs) := e2 fo _ hlf.symm D.hf
  have te2 : Tups H2 fs (ds.map dV) := ⟨D.ht.1, fun j y hy => by
    obtain ⟨a, r, h1, h2, h3⟩ := D.ht.2 j y hy
    refine ⟨a, r, h1, h2, e2 a _ ?_ h3⟩
    rintro rfl
    obtain ⟨_, _, _, h4, _⟩ := D.hb
    rw [h3] at h4
    cases h4⟩
  have hlp : l ≠ p := by
    obtain ⟨ys, hys⟩ := hb3.some
    exact ne_of_none hys hp
  have := D.hfl
  have := D.hdl
  have hcm := D.hcm
  refine appd (e3 fo _ hf2) (by omega) (q _ ⟨exb_put ((D.e.trans e2).ex e3) hfo, upd_same, by simp; omega, ?_, by simp; omega, ((hb3.put hlp).put hlf).mono (by omega), ?_, fun y hy => ?_, ?_, ?_, by have := D.hmc; omega, ?_, by have := D.hsi; omega⟩)
  · rw [List.map_append]
    refine ((te2.te (ex_te e3)).te (te_put (e3 fo _ hf2))).snoc ?_
    rw [upd_ne (ne_of_none hf2 hp).symm, upd_same]
    rfl
  · refine okd_snoc D.ho (fun y ey hy => ?_) fun p ep => by cases ep
    cases ey
    rw [hcm] at hy
    obtain ⟨j, hj⟩ := List.mem_iff_getElem?.mp hy
    rw [List.getElem?_take] at hj
    by_cases hjc : j < c
    · rw [if_pos hjc] at hj
      have := nd_at hnd hj hx
      omega
    · rw [if_neg hjc] at hj
      cases hj
  · rcases List.mem_append.mp hy with hy | hy
    · exact D.hko y hy
    · have : y = x := by simpa using hy
      rw [this]
      exact hok x (List.mem_of_getElem? hx)
  · rw [word_snoc, comers_snoc, ← List.append_assoc, hcm, take_snoc hx]
    rfl
  · rw [word_snoc, szAt_append, D.hsz]
    rfl
  · have := (List.getElem?_eq_some_iff.mp hx).1
    omega
theorem dd_going {H H' H2 : Hp} {l fo p : Addr} {xs : List Str} {m n i : Nat} {ds : List Dd} {fs : List V} {s c j : Nat} {C : VK} (D : DD H H' l fo xs m n i ds fs s c) (hi : i ≤ 1000) (hfo : H fo = none) (hlf : l ≠ fo) (hj : j < s)
    (e2 : ExB l H' H2) (hb3 : BagAt H2 l (n + 1 + 4 * i + 4)) (hp : H2 p = none)
    (q : ∀ H3, DD H H3 l fo xs m n (i + 1) (ds ++ [.out j]) (fs ++ [.ref p]) (s - 1) c → C .non H3) : rAppend (.ref fo) [.ref p] (upd H2 p (.tup [.str "out", .int (j : Nat)])) C := by
  have e3 := ex_new (o := .tup [.str "out", .int (j : Nat)]) hp
  have hf2 : H2 fo = some (.lst fs) := e2 fo _ hlf.symm D.hf
  have te2 : Tups H2 fs (ds.map dV) := ⟨D.ht.1, fun j y hy => by
    obtain ⟨a, r, h1, h2, h3⟩ := D.ht.2 j y hy
    refine ⟨a, r, h1, h2, e2 a _ ?_ h3⟩
    rintro rfl
    obtain ⟨_, _, _, h4, _⟩ := D.hb
    rw [h3] at h4
    cases h4⟩
  have hlp : l ≠ p := by
    obtain ⟨ys, hys⟩ := hb3.some
    exact ne_of_none hys hp
  have := D.hfl
  have := D.hdl
  have hcm := D.hcm
  refine appd (e3 fo _ hf2) (by omega) (q _ ⟨exb_put ((D.e.trans e2).ex e3) hfo, upd_same, by simp; omega, ?_, by simp; omega, ((hb3.put hlp).put hlf).mono (by omega), ?_, fun y hy => ?_, ?_, ?_, D.hmc, D.hcx, by have := D.hsi; omega⟩)
  · rw [List.map_append]
    refine ((te2.te (ex_te e3)).te (te_put (e3 fo _ hf2))).snoc ?_
    rw [upd_ne (ne_of_none hf2 hp).symm, upd_same]
    rfl
  · refine okd_snoc D.ho (fun y ey hy => by cases ey) fun p ep => ?_
    cases ep
    rw [D.hsz]
    exact hj
  · rcases List.mem_append.mp hy with hy | hy
    · exact D.hko y hy
    · simp at hy
  · rw [word_snoc, comers_snoc]
    simpa [sgn] using hcm
  · rw [word_snoc, szAt_append, D.hsz]
    rfl
theorem pLawDeeds (h : spDeeds vs H Q E) : tLawDeeds K (En Q) (start nLawDeeds vs) H := by
  obtain ⟨l, a, xs, m, k, n, rfl, ha, hnd, hok, hm, hxl, hk, hn, hb, q⟩ := h
  unfold tLawDeeds
  walk_at "rd"
  refine ⟨Nat.zero_le _, fun fo hfo => ?_⟩
  obtain ⟨bs, hbs⟩ := hb.some
  have hlf : l ≠ fo := ne_of_none hbs hfo
  have hal := names_ne_bag ha hb
  have haf : a ≠ fo := ne_of_none ha hfo
  refine ⟨_, rfl, _, rfl, _, rfl, take_ok (m := 3) (hb.put hlf) (by decide) (by decide) (by omega) fun of o0 hof hb1 eb => ⟨_, _, rfl, rfl, ?_⟩⟩
  refine forR1 k (by omega) (fun C hC => by walk_at "rd"; exact ⟨_, rfl, hC⟩) (fun i σ' H' => ∃ (ds : List Dd) (fs : List V) (s c : Nat) (a8 a9 : Option V), σ' = [some (.ref l), some (.ref a), some (.int (m : Nat)), some (.int (k : Nat)), some (.ref fo), some (.int (s : Nat)), some (.int (c : Nat)), some (.int (1 + (of : Nat))), a8, a9] ∧ DD H H' l fo xs m n i ds fs s c)
    ⟨[], [], m, m, none, none, rfl, (exb_put (ExB.refl l H) hfo).trans eb, by rw [upd_ne hlf.symm, upd_same], Nat.le_refl _, tups_nil _, Nat.le_refl _, hb1, trivial, (fun x hx => by cases hx), by simp [comers, wordOf], rfl, Nat.le_refl _, hm, Nat.le_refl _⟩ (fun i σ' H' hi p => ?_) fun σ' H' p => ?_
  · obtain ⟨ds, fs, s, c, a8, a9, rfl, D⟩ := p
    have ha' : H' a = some (.lst (vS xs)) := D.e a _ hal ha
    have hsi := D.hsi
    have hf := D.hf
    have hb2 := D.hb
    walk_at "rd"
    refine ⟨_, rfl, _, rfl, lenL (SqL.of ha') ⟨_, _, rfl, rfl, _, rfl, ?_⟩⟩
    rw [vS_len]
    by_cases hc : c < xs.length
    · rw [decide_eq_true (by omega)]
      have hx : xs[c]? = some xs[c] := List.getElem?_eq_getElem hc
      refine iteT ⟨_, rfl, eqI ⟨_, rfl, ?_⟩⟩
      by_cases hs0 : s = 0
      · rw [decide_eq_true (by omega)]
        refine iteT (iteT ⟨_, rfl, tyL hf, _, rfl, _, rfl, ixL (SqL.of ha') (vS_at hx) ⟨by show 2 ≤ sizeLine; decide, fun p hp => ?_⟩⟩)
        refine dd_coming D (by omega) hnd hok hfo hlf hx (ExB.refl l _) (hb2.mono (by omega)) hp fun H3 D3 => ?_
        exact ⟨_, rfl, _, _, rfl, rfl, _, rfl, _, _, rfl, rfl, _, _, s + 1, c + 1, _, _, rfl, D3⟩
      · rw [decide_eq_false (by omega)]
        refine iteF ⟨_, rfl, take_ok (m := 4) hb2 (by decide) (by decide) (by omega) fun r o hr hb3 eb3 => ⟨_, rfl, _, _, rfl, rfl, _, rfl, ?_⟩⟩
        have ha2 := eb3 a _ hal ha'
        have hf2 := eb3 fo _ hlf.symm hf
        by_cases hro : r < 1 + of
        · rw [decide_eq_true (by omega)]
          refine iteT ⟨_, rfl, tyL hf2, _, rfl, _, rfl, ixL (SqL.of ha2) (vS_at hx) ⟨by show 2 ≤ sizeLine; decide, fun p hp => ?_⟩⟩
          refine dd_coming D (by omega) hnd hok hfo hlf hx eb3 (hb3.mono (by omega)) hp fun H3 D3 => ?_
          exact ⟨_, rfl, _, _, rfl, rfl, _, rfl, _, _, rfl, rfl, _, _, s + 1, c + 1, _, _, rfl, D3⟩
        · rw [decide_eq_false (by omega)]
          refine iteF ?_
          refine ⟨_, rfl, _, _, rfl, rfl, _, rfl, ?_⟩
          by_cases hs : 0 < s
          · rw [decide_eq_true (by omega)]
            have sV : ∀ r1 r2 j : Nat, r1 < s → r2 < s → j < 4 → ∃ y : Nat, y < s ∧ [V.int (r1 : Nat), V.int (r2 : Nat), V.int ((s : Int) - 1), V.int 0][j]? = some (.int (y : Nat)) := by
              intro r1 r2 j h1 h2 hj
              match j, hj with
              | 0, _ => exact ⟨r1, h1, rfl⟩
              | 1, _ => exact ⟨r2, h2, rfl⟩
              | 2, _ =>
                refine ⟨s - 1, by omega, ?_⟩
                rw [show ((s - 1 : Nat) : Int) = (s : Int) - 1 by omega]
                rfl
              | 3, _ => exact ⟨0, hs, rfl⟩
            refine iteT ⟨_, rfl, _, rfl, take_ok (m := s) hb3 hs (by omega) (by omega) fun r1 o1 hr1 hb4 eb4 => ⟨_, rfl, _, rfl, take_ok (m := s) hb4 hs (by omega) (by omega) fun r2 o2 hr2 hb5 eb5 => ⟨_, rfl, _, _, rfl, rfl, (by show 4 ≤ sizeLine; decide), fun p hp => ?_⟩⟩⟩
            obtain ⟨bs5, hbs5⟩ := hb5.some
            have hlp : l ≠ p := ne_of_none hbs5 hp
            have e5 := ((eb3.trans eb4).trans eb5).ex (ex_new (o := .lst [V.int (r1 : Nat), V.int (r2 : Nat), V.int ((s : Int) - 1), V.int 0]) hp)
            refine ⟨_, rfl, tyL (e5 fo _ hlf.symm hf), _, rfl, _, rfl, take_ok (m := 4) (hb5.put hlp) (by decide) (by decide) (by omega) fun j o3 hj hb6 eb6 => ?_⟩
            obtain ⟨y, hy, hyv⟩ := sV r1 r2 j hr1 hr2 hj
            refine ixL (SqL.of (eb6 p _ hlp.symm upd_same)) hyv ⟨by show 2 ≤ sizeLine; decide, fun t ht => ?_⟩
            refine dd_going D (by omega) hfo hlf hy (e5.trans eb6) (hb6.mono (by omega)) ht fun H3 D3 => ?_
            refine ⟨_, rfl, _, _, rfl, rfl, _, _, s - 1, c, some (.int (i : Nat)), some (.ref p), ?_, D3⟩
            rw [show ((s - 1 : Nat) : Int) = (s : Int) - 1 by omega]
            rfl
          · rw [decide_eq_false (by omega)]
            refine iteF ⟨ds, fs, s, c, _, _, rfl, D.e.trans eb3, eb3 fo _ hlf.symm hf, by have := D.hfl; omega, ⟨D.ht.1, fun j y hy => ?_⟩, by have := D.hdl; omega, hb3.mono (by omega), D.ho, D.hko, D.hcm, D.hsz, D.hmc, D.hcx, by omega⟩
            obtain ⟨a, r, h1, h2, h3⟩ := D.ht.2 j y hy
            refine ⟨a, r, h1, h2, eb3 a _ ?_ h3⟩
            rintro rfl
            obtain ⟨_, _, _, h4, _⟩ := D.hb
            rw [h3] at h4
            cases h4
    · rw [decide_eq_false (by omega)]
      refine iteF ?_
      refine ⟨_, rfl, _, _, rfl, rfl, _, rfl, ?_⟩
      by_cases hs : 0 < s
      · rw [decide_eq_true (by omega)]
        have sV : ∀ r1 r2 j : Nat, r1 < s → r2 < s → j < 4 → ∃ y : Nat, y < s ∧ [V.int (r1 : Nat), V.int (r2 : Nat), V.int ((s : Int) - 1), V.int 0][j]? = some (.int (y : Nat)) := by
          intro r1 r2 j h1 h2 hj
          match j, hj with
          | 0, _ => exact ⟨r1, h1, rfl⟩
          | 1, _ => exact ⟨r2, h2, rfl⟩
          | 2, _ =>
            refine ⟨s - 1, by omega, ?_⟩
            rw [show ((s - 1 : Nat) : Int) = (s : Int) - 1 by omega]
            rfl
          | 3, _ => exact ⟨0, hs, rfl⟩
        refine iteT ⟨_, rfl, _, rfl, take_ok (m := s) hb2 hs (by omega) (by omega) fun r1 o1 hr1 hb4 eb4 => ⟨_, rfl, _, rfl, take_ok (m := s) hb4 hs (by omega) (by omega) fun r2 o2 hr2 hb5 eb5 => ⟨_, rfl, _, _, rfl, rfl, (by show 4 ≤ sizeLine; decide), fun p hp => ?_⟩⟩⟩
        obtain ⟨bs5, hbs5⟩ := hb5.some
        have hlp : l ≠ p := ne_of_none hbs5 hp
        have e5 := (((ExB.refl l H').trans eb4).trans eb5).ex (ex_new (o := .lst [V.int (r1 : Nat), V.int (r2 : Nat), V.int ((s : Int) - 1), V.int 0]) hp)
        refine ⟨_, rfl, tyL (e5 fo _ hlf.symm hf), _, rfl, _, rfl, take_ok (m := 4) (hb5.put hlp) (by decide) (by decide) (by omega) fun j o3 hj hb6 eb6 => ?_⟩
        obtain ⟨y, hy, hyv⟩ := sV r1 r2 j hr1 hr2 hj
        refine ixL (SqL.of (eb6 p _ hlp.symm upd_same)) hyv ⟨by show 2 ≤ sizeLine; decide, fun t ht => ?_⟩
        refine dd_going D (by omega) hfo hlf hy (e5.trans eb6) (hb6.mono (by omega)) ht fun H3 D3 => ?_
        refine ⟨_, rfl, _, _, rfl, rfl, _, _, s - 1, c, some (.int (i : Nat)), some (.ref p), ?_, D3⟩
        rw [show ((s - 1 : Nat) : Int) = (s : Int) - 1 by omega]
        rfl
      · rw [decide_eq_false (by omega)]
        refine iteF ⟨ds, fs, s, c, _, _, rfl, D.e.trans (ExB.refl l H'), (ExB.refl l H') fo _ hlf.symm hf, by have := D.hfl; omega, ⟨D.ht.1, fun j y hy => ?_⟩, by have := D.hdl; omega, hb2.mono (by omega), D.ho, D.hko, D.hcm, D.hsz, D.hmc, D.hcx, by omega⟩
        obtain ⟨a, r, h1, h2, h3⟩ := D.ht.2 j y hy
        refine ⟨a, r, h1, h2, (ExB.refl l H') a _ ?_ h3⟩
        rintro rfl
        obtain ⟨_, _, _, h4, _⟩ := D.hb
        rw [h3] at h4
        cases h4
  · walk_at "rd"
    obtain ⟨ds, fs, s, c, a8, a9, rfl, D⟩ := p
    have hml : (xs.take m).length = m := by simp; omega
    have := D.hdl
    exact ⟨_, rfl, q fo ds H' hfo hlf.symm D.e (D.hb.mono (by omega)) ⟨⟨fs, D.hf, D.ht⟩, by rw [hml]; exact D.ho, D.hko, by show ds.length ≤ 1000; omega⟩ (by omega)⟩
end
end K60

namespace K60
open PySem PySem.Spec PyProof.Rows L2 Lf
local macro_rules | `(tactic| walk_at "rd") => `(tactic| dsimp only [tRet, tSeq, tIfS, tNext, tNever, tAsg, tDrop, tAug, ipI, gName, gTup, gCons, gNil, gSub, tTup, tLst, tAndV, tOrV, tNotV, tIf, tAnd, tOr, tNot, tTest, tB, tCB, tCons, tNil, tC, tVar, tOp, tUn, tCal, tChain, tBM, tBM0, tDGet, tDGet2, tDIn, tSl, tPart, tNoPart, tYes, iRng1, iRng3, iList, iTup, iStr, iEnum, iEnumT, iKeys, tLenSetT, tDNewK, tTupIdx, sDPut, rAddI, rSubI, rMulI, rModI, rDivI, rPowI, rLtI, rLeI, rGtI, rGeI, rNegI, rI, rI0, rU])
local macro_rules | `(tactic| walk_at "rs") => `(tactic| dsimp only [tRet, tSeq, tIfS, tNext, tNever, tAsg, tDrop, tAug, ipI, gName, gTup, gCons, gNil, gSub, tTup, tLst, tAndV, tOrV, tNotV, tAnd, tOr, tNot, tTest, tB, tCB, tCons, tNil, tC, tVar, tOp, tUn, tCal, tChain, tBM, tBM0, tDGet, tDGet2, tDIn, tSl, tPart, tNoPart, tYes, iRng1, iRng3, iList, iTup, iStr, iEnum, iEnumT, iKeys, tLenSetT, tDNewK, tTupIdx, sDPut, rAddI, rSubI, rMulI, rModI, rDivI, rPowI, rLtI, rLeI, rGtI, rGeI, rNegI, rI, rI0, rU])
theorem Lsts.snoc {H : Hp} {xs : List V} {rs : List (List V)} {a : Addr} {r : List V} (h : Lsts H xs rs) (ha : H a = some (.lst r)) : Lsts H (xs ++ [.ref a]) (rs ++ [r]) := by
  refine ⟨by simp [h.1], fun k u hk => ?_⟩
  rcases get_snoc hk with hk | ⟨_, rfl⟩
  · obtain ⟨b, s, h1, h2, h3⟩ := h.2 k u hk
    exact ⟨b, s, h1, get_snoc_l h2, h3⟩
  · refine ⟨a, r, rfl, ?_, ha⟩
    rw [‹k = xs.length›, h.1]
    exact get_snoc_r rs r
theorem Lsts.put {H : Hp} {xs : List V} {rs : List (List V)} {f : Addr} {o : HO} (h : Lsts H xs rs) (hn : V.ref f ∉ xs) : Lsts (upd H f o) xs rs := ⟨h.1, fun i x hx => by
  obtain ⟨a, r, h1, h2, h3⟩ := h.2 i x hx
  refine ⟨a, r, h1, h2, ?_⟩
  rw [upd_ne fun e => hn (by rw [← e, ← h1]; exact List.mem_of_getElem? hx)]
  exact h3⟩
theorem lsts_nil (H : Hp) : Lsts H [] [] := ⟨rfl, fun i x h => by simp at h⟩
section
variable {K : PySem.W.Frag} {vs : List V} {H : Hp} {Q : VK} {E : XK}
theorem pLawRows (h : spRows K vs H Q E) : tLawRows K (En Q) (start nLawRows vs) H := by
  obtain ⟨r, l, row, ds, rfl, R, Dz, q⟩ := h
  obtain ⟨xs, hl, T⟩ := id Dz.at_
  have hxl : xs.length = ds.length := by have := T.1; simpa using this
  have hds : ds.length ≤ 1000 := Dz.small
  unfold tLawRows
  walk_at "rd"
  refine ⟨_, rfl, listT R.at_ fun l0 hl0 => ⟨by show 1 ≤ sizeLine; decide, fun fo hfo => ?_⟩⟩
  have e0 : Ex H (upd (upd H l0 (.lst (vS row))) fo (.lst [.ref l0])) := (ex_new hl0).trans (ex_new hfo)
  have hlf : l0 ≠ fo := ne_of_none upd_same hfo
  have hfn : H fo = none := by rw [upd_ne hlf.symm] at hfo; exact hfo
  refine ⟨_, rfl, l, rfl, ⟨xs, SqL.of (e0 l _ hl)⟩, for_list (xs := xs) (fun i σ' H' => ∃ a3 a4 a5 a6 fs la, σ' = [some (.ref r), some (.ref l), some (.ref fo), a3, a4, a5, a6] ∧ Ex H H' ∧ H' fo = some (.lst (fs ++ [.ref la])) ∧ H' la = some (.lst (vS (runD row (ds.take i)))) ∧ Lsts H' (fs ++ [.ref la]) ((rowsL row (ds.take i)).map vS) ∧ V.ref fo ∉ fs ++ [.ref la] ∧ fs.length ≤ i)
    ⟨none, none, none, none, [], l0, rfl, e0, upd_same, by rw [upd_ne hlf, upd_same]; rfl, (lsts_nil _).snoc (by rw [upd_ne hlf, upd_same]), by simpa using hlf.symm, Nat.le_refl _⟩ (fun i σ' H' _ p => ?_) (fun i x σ' H' hx p => ?_) fun σ' H' p => ?_⟩
  · obtain ⟨_, _, _, _, _, _, _, e, _⟩ := p
    exact SqL.of (e l _ hl)
  · obtain ⟨_, _, _, a6, fs, la, rfl, e, hf, hla, hL, hno, hfl⟩ := p
    have hi := (List.getElem?_eq_some_iff.mp hx).1
    obtain ⟨a, d, rfl, hd, ha⟩ := deed_get T hx
    have ok := okd_at Dz.okd rfl (fun _ z => z) hd
    have hrs := run_small (i := i) R.small Dz.small
    have fin : ∀ (w x5 : V) (a6 : Option V) (nw : Addr) (H6 : Hp), H' nw = none → Ex H' H6 → H6 nw = some (.lst (vS (runD row (ds.take (i + 1))))) → rAppend (.ref fo) [.ref nw] H6 fun _ H7 => ∃ a3 a4 a5 b6 fs la, [some (.ref r), some (.ref l), some (.ref fo), some w, some x5, some (.ref nw), a6] = [some (.ref r), some (.ref l), some (.ref fo), a3, a4, a5, b6] ∧ Ex H H7 ∧ H7 fo = some (.lst (fs ++ [.ref la])) ∧ H7 la = some (.lst (vS (runD row (ds.take (i + 1))))) ∧ Lsts H7 (fs ++ [.ref la]) ((rowsL row (ds.take (i + 1))).map vS) ∧ V.ref fo ∉ fs ++ [.ref la] ∧ fs.length ≤ i + 1 := by
      intro w x5 a6 nw H6 hnw e6 h6
      have hf6 := e6 fo _ hf
      have nfo : nw ≠ fo := (ne_of_none hf hnw).symm
      refine appd hf6 (by simp; omega) ⟨_, _, _, _, fs ++ [.ref la], nw, rfl, ex_put (e.trans e6) hfn, upd_same, by rw [upd_ne nfo]; exact h6, ?_, ?_, by simp; omega⟩
      · rw [rowsL_take hd, List.map_append, ← runD_take hd]
        exact ((hL.ex e6).put hno).snoc (by rw [upd_ne nfo]; exact h6)
      · intro hm
        rcases List.mem_append.mp hm with hm | hm
        · exact hno hm
        · have : fo = nw := by simpa using hm
          exact nfo this.symm
    cases d with
    | inn x =>
      have ha : H a = some (.tup [.str "in", .str x]) := ha
      refine two_ok (SqT.of (e a _ ha)) ?_
      walk_at "rd"
      refine ⟨_, rfl, 1, rfl, ixLast (SqL.of hf) (listL (SqL.of hla) fun nw hnw => ?_)⟩
      refine ⟨_, rfl, eqS ⟨_, rfl, iteT ?_⟩⟩
      refine ⟨_, rfl, tyL upd_same, _, rfl, appd upd_same (by rw [vS_len]; omega) ?_⟩
      have e6 : Ex H' (upd (upd H' nw (.lst (vS (runD row (ds.take i))))) nw (.lst (vS (runD row (ds.take i)) ++ [.str x]))) := ex_put (ex_new hnw) hnw
      refine ⟨_, rfl, tyL (e6 fo _ hf), _, rfl, fin _ _ _ nw _ hnw e6 ?_⟩
      rw [upd_same, vS_snoc, runD_take hd]
      rfl
    | out p =>
      have ha : H a = some (.tup [.str "out", .int p]) := ha
      have hlt := ok.2 p rfl
      refine two_ok (SqT.of (e a _ ha)) ?_
      walk_at "rd"
      refine ⟨_, rfl, 1, rfl, ixLast (SqL.of hf) (listL (SqL.of hla) fun nw hnw => ?_)⟩
      refine ⟨_, rfl, eqS ⟨_, rfl, ?_⟩⟩
      rw [in_ne_out]
      generalize hR : runD row (ds.take i) = rr at hla hlt hrs
      obtain ⟨z, hz⟩ : ∃ z, rr[rr.length - 1]? = some z := ⟨_, List.getElem?_eq_getElem (by omega)⟩
      have hgl : rr.getLast? = some z := by rw [List.getLast?_eq_getElem?]; exact hz
      have ed : (vS rr).dropLast = vS rr.dropLast := by rw [vS, vS, List.map_dropLast]
      have es1 : runD row (ds.take (i + 1)) = rr.dropLast.set p z := by
        rw [runD_take hd, hR]
        show goOut rr _ = _
        unfold goOut
        rw [hgl]
      have hdl : (vS rr.dropLast).length = rr.length - 1 := by rw [vS_len]; simp
      refine iteF ⟨_, rfl, tyL upd_same, nw, vS rr, .str z, rfl, rfl, upd_same, by rw [vS_len]; exact vS_at hz, ?_⟩
      rw [ed, upd_upd]
      refine ⟨_, rfl, _, rfl, lenL (SqL.of upd_same) ⟨_, _, rfl, rfl, _, rfl, ?_⟩⟩
      by_cases hlt2 : p < rr.length - 1
      · rw [hdl, decide_eq_true (by omega)]
        refine iteT ⟨_, rfl, _, rfl, _, rfl, nw, _, _, p, rfl, rfl, upd_same, ?_, ?_⟩
        · unfold ixN
          rw [if_pos (by omega), if_pos (by rw [hdl]; omega)]
          rfl
        · rw [upd_upd]
          have e6 : Ex H' (upd H' nw (.lst ((vS rr.dropLast).set p (.str z)))) := ex_new hnw
          refine ⟨_, rfl, tyL (e6 fo _ hf), _, rfl, fin _ _ _ nw _ hnw e6 ?_⟩
          rw [upd_same, es1, vS, vS, List.map_set]
      · rw [hdl, decide_eq_false (by omega)]
        have e6 : Ex H' (upd H' nw (.lst (vS rr.dropLast))) := ex_new hnw
        refine iteF ⟨_, rfl, tyL (e6 fo _ hf), _, rfl, fin _ _ _ nw _ hnw e6 ?_⟩
        rw [upd_same, es1, List.set_eq_of_length_le (by simp; omega)]
  · walk_at "rd"
    obtain ⟨_, _, _, _, fs, la, rfl, e, hf, hla, hL, hno, hfl⟩ := p
    rw [hxl, List.take_length] at hL
    exact ⟨_, rfl, q fo H' hfn e ⟨_, hf, hL⟩⟩
end
end K60

namespace K60
open PySem PySem.Spec PyProof.Rows L2 Lf
local macro_rules | `(tactic| walk_at "rd") => `(tactic| dsimp only [tRet, tSeq, tIfS, tNext, tNever, tAsg, tDrop, tAug, ipI, gName, gTup, gCons, gNil, gSub, tTup, tLst, tAndV, tOrV, tNotV, tIf, tAnd, tOr, tNot, tTest, tB, tCB, tCons, tNil, tC, tVar, tOp, tUn, tCal, tChain, tBM, tBM0, tDGet, tDGet2, tDIn, tSl, tPart, tNoPart, tYes, iRng1, iRng3, iList, iTup, iStr, iEnum, iEnumT, iKeys, tLenSetT, tDNewK, tTupIdx, sDPut, rAddI, rSubI, rMulI, rModI, rDivI, rPowI, rLtI, rLeI, rGtI, rGeI, rNegI, rI, rI0, rU])
local macro_rules | `(tactic| walk_at "rs") => `(tactic| dsimp only [tRet, tSeq, tIfS, tNext, tNever, tAsg, tDrop, tAug, ipI, gName, gTup, gCons, gNil, gSub, tTup, tLst, tAndV, tOrV, tNotV, tAnd, tOr, tNot, tTest, tB, tCB, tCons, tNil, tC, tVar, tOp, tUn, tCal, tChain, tBM, tBM0, tDGet, tDGet2, tDIn, tSl, tPart, tNoPart, tYes, iRng1, iRng3, iList, iTup, iStr, iEnum, iEnumT, iKeys, tLenSetT, tDNewK, tTupIdx, sDPut, rAddI, rSubI, rMulI, rModI, rDivI, rPowI, rLtI, rLeI, rGtI, rGeI, rNegI, rI, rI0, rU])
theorem mem_putK {kvs : List (Key × V)} {k : Key} {v : V} {kv : Key × V} (h : kv ∈ putK kvs k v) : kv = (k, v) ∨ (kv ∈ kvs ∧ kv.1 ≠ k) := by
  unfold putK at h
  split at h
  · obtain ⟨kv0, h0, rfl⟩ := List.mem_map.mp h
    by_cases e : kv0.1 = k
    · rw [if_pos e]
      exact .inl (by rw [e])
    · rw [if_neg e]
      exact .inr ⟨h0, e⟩
  · rename_i ha
    rcases List.mem_append.mp h with h | h
    · refine .inr ⟨h, fun e => ha ?_⟩
      exact List.any_eq_true.mpr ⟨kv, h, decide_eq_true e⟩
    · exact .inl (by simpa using h)
theorem keys_putK (kvs : List (Key × V)) (k : Key) (v : V) : (k ∈ kvs.map (·.1) ∧ (putK kvs k v).map (·.1) = kvs.map (·.1)) ∨ (k ∉ kvs.map (·.1) ∧ (putK kvs k v).map (·.1) = kvs.map (·.1) ++ [k]) := by
  have hk : (kvs.any fun kv => decide (kv.1 = k)) = true ↔ k ∈ kvs.map (·.1) := by
    rw [List.any_eq_true]
    constructor
    · rintro ⟨kv, h, e⟩
      exact List.mem_map.mpr ⟨kv, h, of_decide_eq_true e⟩
    · intro h
      obtain ⟨kv, h1, e⟩ := List.mem_map.mp h
      exact ⟨kv, h1, decide_eq_true e⟩
  unfold putK
  by_cases h : k ∈ kvs.map (·.1)
  · refine .inl ⟨h, ?_⟩
    rw [if_pos (hk.mpr h), List.map_map]
    refine List.map_congr_left fun kv _ => ?_
    show (if kv.1 = k then (kv.1, v) else kv).1 = kv.1
    split <;> rfl
  · refine .inr ⟨h, ?_⟩
    rw [if_neg fun z => h (hk.mp z), List.map_append]
    rfl
theorem valV_mem {kvs : List (Key × V)} {k : Key} {v : V} (h : valV kvs k = some v) : (k, v) ∈ kvs := by
  unfold valV at h
  cases e : kvs.find? fun kv => decide (kv.1 = k) with
  | none => rw [e] at h; cases h
  | some kv =>
    rw [e] at h
    have h1 : kv.2 = v := Option.some.inj h
    have h2 : kv.1 = k := by simpa using List.find?_some e
    have h3 := List.mem_of_find?_eq_some e
    rw [← h1, ← h2]
    exact h3
theorem valV_no {kvs : List (Key × V)} {k : Key} (h : valV kvs k = none) : k ∉ kvs.map (·.1) := by
  intro hm
  obtain ⟨kv, h1, e⟩ := List.mem_map.mp hm
  unfold valV at h
  cases e2 : kvs.find? fun kv => decide (kv.1 = k) with
  | some z => rw [e2] at h; cases h
  | none =>
    have := List.find?_eq_none.mp e2 kv h1
    exact this (decide_eq_true e)
theorem valV_of {kvs : List (Key × V)} {k : Key} {v : V} (hn : (kvs.map (·.1)).Nodup) (h : (k, v) ∈ kvs) : valV kvs k = some v := by
  cases e : valV kvs k with
  | none => exact absurd (List.mem_map.mpr ⟨(k, v), h, rfl⟩) (valV_no e)
  | some u =>
    have hu := valV_mem e
    have : ∀ (l : List (Key × V)), (l.map (·.1)).Nodup → (k, u) ∈ l → (k, v) ∈ l → u = v := by
      intro l
      induction l with
      | nil => intro _ h; cases h
      | cons z r ih =>
        intro hn h1 h2
        rw [List.map_cons, List.nodup_cons] at hn
        rcases List.mem_cons.mp h1 with h1 | h1
        · rcases List.mem_cons.mp h2 with h2 | h2
          · rw [← h1] at h2
            exact (Prod.mk.inj h2).2.symm
          · exact absurd (List.mem_map.mpr ⟨_, h2, by rw [← h1]⟩) hn.1
        · rcases List.mem_cons.mp h2 with h2 | h2
          · exact absurd (List.mem_map.mpr ⟨_, h1, by rw [← h2]⟩) hn.1
          · exact ih hn.2 h1 h2
    rw [this kvs hn hu h]
abbrev iV (L : List Nat) : List V := L.map fun n => .int (n : Nat)
theorem flat_iV (L : List Nat) : (iV L).all flatV = true := by
  unfold iV
  rw [List.all_map]
  exact List.all_eq_true.mpr fun _ _ => rfl
theorem inV_iV (j : Nat) (L : List Nat) : inV (.int (j : Nat)) (iV L) = decide (j ∈ L) := by
  unfold inV iV
  rw [List.any_map]
  by_cases h : j ∈ L
  · rw [decide_eq_true h, List.any_eq_true]
    exact ⟨j, h, beq_self_eq_true ((j : Nat) : Int)⟩
  · rw [decide_eq_false h, List.any_eq_false]
    intro y hy
    show ¬ (((y : Nat) : Int) == ((j : Nat) : Int)) = true
    intro e
    have e : ((y : Nat) : Int) = ((j : Nat) : Int) := eq_of_beq e
    exact h (by rw [show j = y by omega]; exact hy)
/-- the dict of spots so far -/
def DV (H : Hp) (D : Addr) (V' : Str → Nat → Prop) (n : Nat) : Prop := ∃ kvs : List (Key × V), H D = some (.dK kvs) ∧ kvs.length ≤ n ∧ (kvs.map (·.1)).Nodup ∧
  (∀ k v, (k, v) ∈ kvs → ∃ (p : Str) (L : List Nat) (a : Addr), k = Sum.inr p ∧ v = V.ref a ∧ H a = some (.lst (iV L)) ∧ L.Nodup ∧ L.length ≤ n ∧ (∀ i, i ∈ L ↔ V' p i) ∧ ∃ i, V' p i) ∧ ∀ p i, V' p i → Sum.inr p ∈ kvs.map (·.1)
theorem DV.iff {H : Hp} {D : Addr} {V' W' : Str → Nat → Prop} {n m : Nat} (h : DV H D V' n) (e : ∀ p i, V' p i ↔ W' p i) (hm : n ≤ m) : DV H D W' m := by
  have : V' = W' := funext fun p => funext fun i => propext (e p i)
  subst this
  obtain ⟨kvs, h1, h2, h3, h4, h5⟩ := h
  refine ⟨kvs, h1, Nat.le_trans h2 hm, h3, fun k v hkv => ?_, h5⟩
  obtain ⟨p, L, a, g1, g2, g3, g4, g5, g6⟩ := h4 k v hkv
  exact ⟨p, L, a, g1, g2, g3, g4, Nat.le_trans g5 hm, g6⟩
theorem DV.ex {H H' : Hp} {D : Addr} {V' : Str → Nat → Prop} {n : Nat} (h : DV H D V' n) (e : Ex H H') : DV H' D V' n := by
  obtain ⟨kvs, h1, h2, h3, h4, h5⟩ := h
  refine ⟨kvs, e D _ h1, h2, h3, fun k v hkv => ?_, h5⟩
  obtain ⟨p, L, a, g1, g2, g3, g4⟩ := h4 k v hkv
  exact ⟨p, L, a, g1, g2, e a _ g3, g4⟩
/-- one more spot -/
theorem dv_put {H : Hp} {D a : Addr} {V' : Str → Nat → Prop} {n : Nat} {kvs : List (Key × V)} {x : Str} {j : Nat} {L : List Nat} (h : DV H D V' n) (hD : H D = some (.dK kvs)) (ha : H a = some (.lst (iV (L ++ [j])))) (hL : L.Nodup) (hLl : L.length ≤ n) (hLi : ∀ i, i ∈ L ↔ V' x i) (hj : j ∉ L) :
    DV (upd H D (.dK (putK kvs (Sum.inr x) (.ref a)))) D (fun p i => V' p i ∨ (p = x ∧ i = j)) (n + 1) := by
  obtain ⟨kvs2, h1, h2, h3, h4, h5⟩ := h
  rw [hD] at h1
  cases h1
  have ndk : (kvs.map (·.1)).Nodup := h3
  refine ⟨_, upd_same, ?_, ?_, fun k v hkv => ?_, fun p i hv => ?_⟩
  · have hl : (putK kvs (Sum.inr x) (V.ref a)).length = ((putK kvs (Sum.inr x) (V.ref a)).map (·.1)).length := (List.length_map ..).symm
    rw [hl]
    rcases keys_putK kvs (Sum.inr x) (.ref a) with ⟨_, e⟩ | ⟨_, e⟩ <;> rw [e] <;> simp <;> omega
  · rcases keys_putK kvs (Sum.inr x) (.ref a) with ⟨_, e⟩ | ⟨hx, e⟩ <;> rw [e]
    · exact ndk
    · rw [List.nodup_append]
      refine ⟨ndk, by simp, fun y hy z hz e => hx ?_⟩
      have : z = Sum.inr x := by simpa using hz
      rw [← this, ← e]
      exact hy
  · have lst_ne : ∀ {b : Addr} {ys : List V}, H b = some (.lst ys) → b ≠ D := fun hb => ne_of hb hD (by intro z; cases z)
    rcases mem_putK hkv with e | ⟨hm, hne⟩
    · cases e
      refine ⟨x, L ++ [j], a, rfl, rfl, by rw [upd_ne (lst_ne ha)]; exact ha, ?_, by simp; omega, fun i => ?_, j, .inr ⟨rfl, rfl⟩⟩
      · rw [List.nodup_append]
        refine ⟨hL, by simp, fun y hy z hz e => hj ?_⟩
        have : z = j := by simpa using hz
        rw [← this, ← e]
        exact hy
      · rw [List.mem_append, hLi i]
        simp
    · obtain ⟨p, M, b, rfl, rfl, g3, g4, g5, g6, i0, g7⟩ := h4 k v hm
      refine ⟨p, M, b, rfl, rfl, by rw [upd_ne (lst_ne g3)]; exact g3, g4, by omega, fun i => ?_, i0, .inl g7⟩
      rw [g6 i]
      refine ⟨.inl, fun z => z.elim id fun z => ?_⟩
      exact absurd (by rw [z.1]) hne
  · rcases keys_putK kvs (Sum.inr x) (.ref a) with ⟨hx, e⟩ | ⟨hx, e⟩ <;> rw [e]
    · rcases hv with hv | ⟨rfl, rfl⟩
      · exact h5 p i hv
      · exact hx
    · rcases hv with hv | ⟨rfl, rfl⟩
      · exact List.mem_append_left _ (h5 p i hv)
      · exact List.mem_append_right _ List.mem_cons_self
theorem nodup_of_map {α β : Type} {f : α → β} : ∀ {l : List α}, (l.map f).Nodup → l.Nodup
  | [], _ => List.nodup_nil
  | a :: r, h => by
    rw [List.map_cons, List.nodup_cons] at h
    rw [List.nodup_cons]
    exact ⟨fun z => h.1 (List.mem_map.mpr ⟨a, z, rfl⟩), nodup_of_map h.2⟩
theorem pick {α β : Type} {P : α → β → Prop} : ∀ {xs : List α}, (∀ x ∈ xs, ∃ y, P x y) → ∃ ys : List β, xs.length = ys.length ∧ ∀ (i : Nat) (x : α), xs[i]? = some x → ∃ y, ys[i]? = some y ∧ P x y
  | [], _ => ⟨[], rfl, fun i x h => by simp at h⟩
  | x :: r, h => by
    obtain ⟨y, hy⟩ := h x List.mem_cons_self
    obtain ⟨ys, h1, h2⟩ := pick (xs := r) (P := P) fun z hz => h z (List.mem_cons_of_mem _ hz)
    refine ⟨y :: ys, by simp [h1], fun i z hz => ?_⟩
    cases i with
    | zero =>
      have : x = z := by simpa using hz
      exact ⟨y, rfl, by rw [← this]; exact hy⟩
    | succ i =>
      obtain ⟨y', g1, g2⟩ := h2 i z (by simpa using hz)
      exact ⟨y', by simpa using g1, g2⟩
/-- the dict, done -/
theorem DV.done {H : Hp} {D : Addr} {rows : List (List Str)} {n : Nat} (h : DV H D (fun p i => ∃ r ∈ rows, r[i]? = some p) n) : ∃ sp, SpAt H D sp ∧ Spots rows sp := by
  obtain ⟨kvs, h1, h2, h3, h4, h5⟩ := h
  obtain ⟨sp, g1, g2⟩ := pick (P := fun (kv : Key × V) (z : Str × List Nat) => kv.1 = Sum.inr z.1 ∧ ∃ a, kv.2 = V.ref a ∧ H a = some (.lst (iV z.2)) ∧ z.2.Nodup ∧ (∀ i, i ∈ z.2 ↔ ∃ r ∈ rows, r[i]? = some z.1) ∧ ∃ i, i ∈ z.2) (xs := kvs) fun kv hkv => by
    obtain ⟨p, L, a, e1, e2, e3, e4, e5, e6, i, e7⟩ := h4 kv.1 kv.2 hkv
    exact ⟨(p, L), e1, a, e2, e3, e4, e6, i, (e6 i).mpr e7⟩
  have back : ∀ z ∈ sp, ∃ kv ∈ kvs, kv.1 = Sum.inr z.1 ∧ ∃ a, kv.2 = V.ref a ∧ H a = some (.lst (iV z.2)) ∧ z.2.Nodup ∧ (∀ i, i ∈ z.2 ↔ ∃ r ∈ rows, r[i]? = some z.1) ∧ ∃ i, i ∈ z.2 := by
    intro z hz
    obtain ⟨i, hi⟩ := List.mem_iff_getElem?.mp hz
    have hlt := (List.getElem?_eq_some_iff.mp hi).1
    have e : kvs[i]? = some kvs[i] := List.getElem?_eq_getElem (by omega)
    obtain ⟨y, y1, y2⟩ := g2 i _ e
    rw [hi] at y1
    cases y1
    exact ⟨_, List.getElem_mem _, y2⟩
  have keys : kvs.map (·.1) = (sp.map (·.1)).map Sum.inr := by
    refine List.ext_getElem? fun i => ?_
    rw [List.getElem?_map, List.getElem?_map, List.getElem?_map]
    by_cases hi : i < kvs.length
    · have e : kvs[i]? = some kvs[i] := List.getElem?_eq_getElem hi
      obtain ⟨y, y1, y2, _⟩ := g2 i _ e
      rw [e, y1]
      exact congrArg some y2
    · rw [List.getElem?_eq_none (by omega), List.getElem?_eq_none (by omega)]
      rfl
  refine ⟨sp, ⟨kvs, h1, g1, fun i kv hi => ?_⟩, ?_, fun r hr x hx => ?_, fun p L hp => ?_, fun p L hp => ?_, fun p L hp i => ?_⟩
  · obtain ⟨y, y1, y2, a, y3, y4, _⟩ := g2 i kv hi
    exact ⟨y.1, y.2, a, y1, by rw [← y2, ← y3], y4⟩
  · rw [keys] at h3
    exact nodup_of_map h3
  · obtain ⟨i, hi⟩ := List.mem_iff_getElem?.mp hx
    have := h5 x i ⟨r, hr, hi⟩
    rw [keys] at this
    obtain ⟨y, hy, e⟩ := List.mem_map.mp this
    rw [← Sum.inr.inj e]
    exact hy
  · obtain ⟨_, _, _, _, _, _, h, _⟩ := back _ hp
    exact h
  · obtain ⟨_, _, _, _, _, _, _, _, h⟩ := back _ hp
    exact h
  · obtain ⟨_, _, _, _, _, _, _, h, _⟩ := back _ hp
    exact h i
end K60

namespace K60
open PySem PySem.Spec PyProof.Rows L2 Lf
local macro_rules | `(tactic| walk_at "rd") => `(tactic| dsimp only [tRet, tSeq, tIfS, tNext, tNever, tAsg, tDrop, tAug, ipI, gName, gTup, gCons, gNil, gSub, tTup, tLst, tAndV, tOrV, tNotV, tIf, tAnd, tOr, tNot, tTest, tB, tCB, tCons, tNil, tC, tVar, tOp, tUn, tCal, tChain, tBM, tBM0, tDGet, tDGet2, tDIn, tSl, tPart, tNoPart, tYes, iRng1, iRng3, iList, iTup, iStr, iEnum, iEnumT, iKeys, tLenSetT, tDNewK, tTupIdx, sDPut, rAddI, rSubI, rMulI, rModI, rDivI, rPowI, rLtI, rLeI, rGtI, rGeI, rNegI, rI, rI0, rU])
local macro_rules | `(tactic| walk_at "rs") => `(tactic| dsimp only [tRet, tSeq, tIfS, tNext, tNever, tAsg, tDrop, tAug, ipI, gName, gTup, gCons, gNil, gSub, tTup, tLst, tAndV, tOrV, tNotV, tAnd, tOr, tNot, tTest, tB, tCB, tCons, tNil, tC, tVar, tOp, tUn, tCal, tChain, tBM, tBM0, tDGet, tDGet2, tDIn, tSl, tPart, tNoPart, tYes, iRng1, iRng3, iList, iTup, iStr, iEnum, iEnumT, iKeys, tLenSetT, tDNewK, tTupIdx, sDPut, rAddI, rSubI, rMulI, rModI, rDivI, rPowI, rLtI, rLeI, rGtI, rGeI, rNegI, rI, rI0, rU])
section
variable {K : PySem.W.Frag} {vs : List V} {H : Hp} {Q : VK} {E : XK}
theorem lsts_get {H : Hp} {xs : List V} {rows : List (List Str)} {i : Nat} {x : V} (h : Lsts H xs (rows.map vS)) (hx : xs[i]? = some x) : ∃ a r, x = .ref a ∧ rows[i]? = some r ∧ H a = some (.lst (vS r)) := by
  obtain ⟨a, r, h1, h2, h3⟩ := h.2 i x hx
  rw [List.getElem?_map] at h2
  cases e : rows[i]? with
  | none => rw [e] at h2; cases h2
  | some d =>
    rw [e] at h2
    have : vS d = r := Option.some.inj h2
    rw [← this] at h3
    exact ⟨a, d, h1, rfl, h3⟩
theorem pLawMovers (h : spMovers vs H Q E) : tLawMovers K (En Q) (start nLawMovers vs) H := by
  obtain ⟨l, rows, rfl, ⟨xs, hl, T⟩, hrs, hro, q⟩ := h
  have hxl : xs.length = rows.length := by have := T.1; simpa using this
  have hrs : rows.length ≤ 1000 := hrs
  unfold tLawMovers
  walk_at "rd"
  refine fun D hD => ?_
  have e0 : Ex H (upd H D (.dK [])) := ex_new hD
  refine ⟨_, rfl, l, rfl, ⟨xs, SqL.of (e0 l _ hl)⟩, for_list (xs := xs) (fun i σ' H' => ∃ a2 a3 a4, σ' = [some (.ref l), some (.ref D), a2, a3, a4] ∧ Ex H H' ∧ DV H' D (fun p k => ∃ r ∈ rows.take i, r[k]? = some p) (1000 * i))
    ⟨none, none, none, rfl, e0, [], upd_same, Nat.zero_le _, List.nodup_nil, (fun k v h => by cases h), fun p k h => by obtain ⟨r, hr, _⟩ := h; cases hr⟩ (fun i σ' H' _ p => ?_) (fun i x σ' H' hx p => ?_) fun σ' H' p => ?_⟩
  · obtain ⟨_, _, _, _, e, _⟩ := p
    exact SqL.of (e l _ hl)
  · walk_at "rd"
    obtain ⟨_, a3, a4, rfl, e, dv⟩ := p
    have hi := (List.getElem?_eq_some_iff.mp hx).1
    obtain ⟨ra, row, rfl, hr, hra⟩ := lsts_get T hx
    have hrl : row.length ≤ 1000 := hro row (List.mem_of_getElem? hr)
    refine forR1 row.length (by omega) (fun C hC => by walk_at "rd"; exact ⟨_, rfl, lenL (SqL.of (e ra _ hra)) (by rw [vS_len]; exact hC)⟩) (fun j σ' H' => ∃ a3 a4, σ' = [some (.ref l), some (.ref D), some (.ref ra), a3, a4] ∧ Ex H H' ∧ DV H' D (fun p k => (∃ r ∈ rows.take i, r[k]? = some p) ∨ (k < j ∧ row[k]? = some p)) (1000 * i + j))
      ⟨a3, a4, rfl, e, dv.iff (fun p k => ⟨.inl, fun z => z.elim id fun z => absurd z.1 (Nat.not_lt_zero _)⟩) (Nat.le_refl _)⟩ (fun j σ' H' hj p => ?_) fun σ' H' p => ?_
    · obtain ⟨_, a4, rfl, e, dv⟩ := p
      obtain ⟨x, hx⟩ : ∃ x, row[j]? = some x := ⟨_, List.getElem?_eq_getElem hj⟩
      have hra' := e ra _ hra
      obtain ⟨kvs, hk, hkl, hkn, hkm, hkv⟩ := id dv
      walk_at "rd"
      refine ⟨_, rfl, D, rfl, .inl ⟨kvs, .inl hk⟩, _, rfl, _, rfl, ixL (SqL.of hra') (vS_at hx) ⟨Nat.zero_le _, fun ln hln => ?_⟩⟩
      have e1 := ex_new (o := .lst []) hln
      refine ⟨_, DGet.k (k := Sum.inr x) (e1 D _ hk), ?_⟩
      -- what was known
      have known : ∃ kn L, (valV kvs (Sum.inr x)).getD (.ref ln) = .ref kn ∧ (upd H' ln (.lst [])) kn = some (.lst (iV L)) ∧ L.Nodup ∧ L.length ≤ 1000 * i + j ∧ ∀ k, k ∈ L ↔ ((∃ r ∈ rows.take i, r[k]? = some x) ∨ (k < j ∧ row[k]? = some x)) := by
        cases ev : valV kvs (Sum.inr x) with
        | none =>
          refine ⟨ln, [], rfl, upd_same, List.nodup_nil, Nat.zero_le _, fun k => ⟨fun z => (by cases z), fun z => ?_⟩⟩
          exact absurd (hkv x k z) (valV_no ev)
        | some v =>
          obtain ⟨p, L, a, e1', rfl, g3, g4, g5, g6, _⟩ := hkm _ _ (valV_mem ev)
          cases e1'
          exact ⟨a, L, rfl, e1 a _ g3, g4, g5, g6⟩
      obtain ⟨kn, L, ek, hkn2, hLn, hLl, hLi⟩ := known
      rw [ek]
      refine ⟨_, rfl, _, rfl, kn, iV L, rfl, .inl (SqL.of hkn2), rfl, flat_iV L, ?_⟩
      rw [inV_iV]
      refine ⟨_, rfl, ?_⟩
      by_cases hjL : j ∈ L
      · rw [decide_eq_true hjL]
        refine iteF ⟨_, _, rfl, e.trans e1, (dv.ex e1).iff (fun p k => ?_) (by omega)⟩
        refine ⟨fun z => z.imp id fun z => ⟨by omega, z.2⟩, fun z => ?_⟩
        rcases z with z | ⟨z1, z2⟩
        · exact .inl z
        · by_cases ekj : k = j
          · subst ekj
            rw [hx] at z2
            cases z2
            exact (hLi k).mp hjL
          · exact .inr ⟨by omega, z2⟩
      · rw [decide_eq_false hjL]
        refine iteT ⟨_, rfl, _, rfl, by show 1 ≤ sizeLine; decide, fun l1 hl1 => ?_⟩
        have e2 := ex_new (o := .lst [V.int (j : Nat)]) hl1
        refine ⟨kn, l1, _, _, rfl, rfl, e2 kn _ hkn2, upd_same, ?_, fun l2 hl2 => ?_⟩
        · have hs : sizeLine = 16777216 := sizeLine_eq
          rw [List.length_map]
          show L.length + 1 ≤ sizeLine
          omega
        have e3 := ex_new (o := .lst (iV L ++ [V.int (j : Nat)])) hl2
        have e4 := (e1.trans e2).trans e3
        have hk4 := e4 D _ hk
        have hs : sizeLine = 16777216 := sizeLine_eq
        refine ⟨_, rfl, _, rfl, _, rfl, ixL (SqL.of (e4 ra _ hra')) (vS_at hx) ⟨D, _, rfl, DPut.k (k := Sum.inr x) hk4 (by omega), ?_⟩⟩
        refine ⟨_, _, rfl, ex_put (e.trans e4) hD, (dv_put (j := j) (L := L) (dv.ex e4) hk4 ?_ hLn (by omega) (fun k => hLi k) hjL).iff (fun p k => ?_) (by omega)⟩
        · rw [upd_same, iV, iV, List.map_append]
          rfl
        · constructor
          · rintro (z | ⟨rfl, rfl⟩)
            · exact z.imp id fun z => ⟨by omega, z.2⟩
            · exact .inr ⟨by omega, hx⟩
          · rintro (z | ⟨z1, z2⟩)
            · exact .inl (.inl z)
            · by_cases ekj : k = j
              · subst ekj
                rw [hx] at z2
                cases z2
                exact .inr ⟨rfl, rfl⟩
              · exact .inl (.inr ⟨by omega, z2⟩)
    · obtain ⟨_, _, rfl, e, dv⟩ := p
      refine ⟨_, _, _, rfl, e, dv.iff (fun p k => ?_) (by omega)⟩
      rw [take_snoc hr]
      constructor
      · rintro (⟨r, h1, h2⟩ | ⟨h1, h2⟩)
        · exact ⟨r, List.mem_append_left _ h1, h2⟩
        · exact ⟨row, List.mem_append_right _ List.mem_cons_self, h2⟩
      · rintro ⟨r, h1, h2⟩
        rcases List.mem_append.mp h1 with h1 | h1
        · exact .inl ⟨r, h1, h2⟩
        · have : r = row := by simpa using h1
          subst this
          exact .inr ⟨(List.getElem?_eq_some_iff.mp h2).1, h2⟩
  · walk_at "rd"
    obtain ⟨_, _, _, rfl, e, dv⟩ := p
    rw [hxl, List.take_length] at dv
    obtain ⟨sp, h1, h2⟩ := dv.done
    exact ⟨_, rfl, q D sp H' hD e h1 h2⟩
end
end K60

namespace K60
open PySem PySem.Spec PyProof.Rows L2 Lf
local macro_rules | `(tactic| walk_at "rd") => `(tactic| dsimp only [tRet, tSeq, tIfS, tNext, tNever, tAsg, tDrop, tAug, ipI, gName, gTup, gCons, gNil, gSub, tTup, tLst, tAndV, tOrV, tNotV, tIf, tAnd, tOr, tNot, tTest, tB, tCB, tCons, tNil, tC, tVar, tOp, tUn, tCal, tChain, tBM, tBM0, tDGet, tDGet2, tDIn, tSl, tPart, tNoPart, tYes, iRng1, iRng3, iList, iTup, iStr, iEnum, iEnumT, iKeys, tLenSetT, tDNewK, tTupIdx, sDPut, rAddI, rSubI, rMulI, rModI, rDivI, rPowI, rLtI, rLeI, rGtI, rGeI, rNegI, rI, rI0, rU])
local macro_rules | `(tactic| walk_at "rs") => `(tactic| dsimp only [tRet, tSeq, tIfS, tNext, tNever, tAsg, tDrop, tAug, ipI, gName, gTup, gCons, gNil, gSub, tTup, tLst, tAndV, tOrV, tNotV, tAnd, tOr, tNot, tTest, tB, tCB, tCons, tNil, tC, tVar, tOp, tUn, tCal, tChain, tBM, tBM0, tDGet, tDGet2, tDIn, tSl, tPart, tNoPart, tYes, iRng1, iRng3, iList, iTup, iStr, iEnum, iEnumT, iKeys, tLenSetT, tDNewK, tTupIdx, sDPut, rAddI, rSubI, rMulI, rModI, rDivI, rPowI, rLtI, rLeI, rGtI, rGeI, rNegI, rI, rI0, rU])
/-! ### data told to == -/
def pd : V → PyData
  | .bl b => .bool b
  | .int i => .int i
  | .str x => .str x
  | _ => .none
def okV (v : V) : Bool := scal1 v && match v with
  | .str x => PyData.strOk x
  | _ => true
theorem okV_int (i : Int) : okV (.int i) = true := rfl
theorem okV_str {x : Str} (h : PyData.strOk x = true) : okV (.str x) = true := by
  show (true && PyData.strOk x) = true
  rw [h]
  rfl
theorem alpha_ok : ∀ c ∈ alpha.cps.toList, c < 0x110000 := by decide +kernel
theorem OkName.str {x : Str} (h : OkName x) : PyData.strOk x = true := by
  unfold PyData.strOk
  rw [← Array.all_toList, List.all_eq_true]
  intro c hc
  exact decide_eq_true (alpha_ok c (h.2.2 c hc))
theorem okV_name {x : Str} (h : OkName x) : okV (.str x) = true := okV_str h.str
theorem pd_lay {v : V} (h : okV v = true) : (pd v).canLay0 = true ∧ (pd v).depth ≤ 1 := by
  cases v with
  | str x =>
    refine ⟨?_, by simp [pd, PyData.depth]⟩
    have h : (true && PyData.strOk x) = true := h
    simpa [pd, PyData.canLay0] using h
  | _ => exact ⟨by simp [pd, PyData.canLay0], by simp [pd, PyData.depth]⟩
theorem lay_all : ∀ {ds : List PyData} {n : Nat}, (∀ d ∈ ds, d.canLay0 = true ∧ d.depth ≤ n) → PyData.canLayAll0 ds = true ∧ PyData.depthAll ds ≤ n
  | [], n, _ => ⟨rfl, by simp [PyData.depthAll]⟩
  | d :: r, n, h => by
    have h1 := h d List.mem_cons_self
    have h2 := lay_all (ds := r) (n := n) fun x hx => h x (List.mem_cons_of_mem _ hx)
    refine ⟨by rw [PyData.canLayAll0, h1.1, h2.1]; rfl, ?_⟩
    rw [PyData.depthAll]
    exact Nat.max_le.mpr ⟨h1.2, h2.2⟩
theorem pds_lay {xs : List V} (h : ∀ v ∈ xs, okV v = true) : ∀ d ∈ xs.map pd, d.canLay0 = true ∧ d.depth ≤ 1 := by
  intro d hd
  obtain ⟨v, hv, rfl⟩ := List.mem_map.mp hd
  exact pd_lay (h v hv)
def rowPd (r : List V) : PyData := .tuple (r.map pd)
theorem rowPd_lay {r : List V} (h : ∀ v ∈ r, okV v = true) : (rowPd r).canLay0 = true ∧ (rowPd r).depth ≤ 2 := by
  have := lay_all (pds_lay h)
  unfold rowPd
  refine ⟨by rw [PyData.canLay0]; exact this.1, ?_⟩
  rw [PyData.depth]
  omega
theorem shaped_tup {r : List V} (h : ∀ v ∈ r, okV v = true) : SeqAt.shaped (.tuple (r.map pd)) = true := by
  have := rowPd_lay h
  unfold rowPd at this
  unfold SeqAt.shaped
  rw [this.1, decide_eq_true (by omega)]
  rfl
theorem shaped_lst {r : List V} (h : ∀ v ∈ r, okV v = true) : SeqAt.shaped (.list (r.map pd)) = true := by
  have := lay_all (pds_lay h)
  unfold SeqAt.shaped
  rw [PyData.canLay0, this.1, PyData.depth, decide_eq_true (by omega)]
  rfl
theorem shaped_rows {rs : List (List V)} (h : ∀ r ∈ rs, ∀ v ∈ r, okV v = true) : SeqAt.shaped (.list (rs.map rowPd)) = true := by
  have := lay_all (ds := rs.map rowPd) (n := 2) fun d hd => by
    obtain ⟨r, hr, rfl⟩ := List.mem_map.mp hd
    exact rowPd_lay (h r hr)
  unfold SeqAt.shaped
  rw [PyData.canLay0, this.1, PyData.depth, decide_eq_true (by omega)]
  rfl
theorem eqv_self {d : PyData} (h : SeqAt.shaped d = true) : PyData.eqv d d = true := SeqAt.eqv_refl d (SeqAt.canLay_of_shaped h)
theorem eqv_nil_l (ds : List PyData) : PyData.eqv (.list ds) (.list []) = decide (ds = []) := by
  cases ds with
  | nil => rfl
  | cons d r => simp [PyData.eqv, PyData.eqvAll]
theorem eqv_nil_t (ds : List PyData) : PyData.eqv (.tuple ds) (.tuple []) = decide (ds = []) := by
  cases ds with
  | nil => rfl
  | cons d r => simp [PyData.eqv, PyData.eqvAll]
section
variable {K : PySem.W.Frag} {H : Hp} {Q : VK}
theorem dp_scal {v : V} (h : okV v = true) : Dp K H v (pd v) := by
  cases v with
  | non => exact .non
  | bl b => exact .bl b
  | int i => exact .int i
  | str x => exact .str x
  | _ => cases h
theorem dpAll_scal : ∀ {xs : List V}, (∀ v ∈ xs, okV v = true) → DpAll K H xs (xs.map pd)
  | [], _ => .nil
  | v :: r, h => .cons (dp_scal (h v List.mem_cons_self)) (dpAll_scal fun u hu => h u (List.mem_cons_of_mem _ hu))
theorem dpAll_tups : ∀ {xs : List V} {rs : List (List V)}, Tups H xs rs → (∀ r ∈ rs, ∀ v ∈ r, okV v = true) → DpAll K H xs (rs.map rowPd)
  | [], [], _, _ => .nil
  | [], r :: rs, h, _ => by have := h.1; simp at this
  | x :: xs, [], h, _ => by have := h.1; simp at this
  | x :: xs, r :: rs, h, hv => by
    obtain ⟨a, r', h1, h2, h3⟩ := h.2 0 x rfl
    have : r = r' := by simpa using h2
    subst this
    subst h1
    refine .cons (.tup (SqT.of h3) (dpAll_scal (hv r List.mem_cons_self))) (dpAll_tups ⟨by have := h.1; simpa using this, fun i y hy => ?_⟩ fun r hr => hv r (List.mem_cons_of_mem _ hr))
    obtain ⟨b, s, g1, g2, g3⟩ := h.2 (i + 1) y (by simpa using hy)
    exact ⟨b, s, g1, by simpa using g2, g3⟩
theorem ok_vS {xs : List Str} (h : OkNames xs) : ∀ v ∈ vS xs, okV v = true := by
  intro v hv
  obtain ⟨x, hx, rfl⟩ := List.mem_map.mp hv
  exact okV_name (h x hx)
/-- a list of tuples against an empty list -/
theorem eq_nil_tups {a b : Addr} {rs : List (List V)} (h : TupsAt H a rs) (hv : ∀ r ∈ rs, ∀ v ∈ r, okV v = true) (hb : H b = some (.lst [])) (q : Q (.bl (decide (rs = []))) H) : rEqD K (.ref a) (.ref b) H Q := by
  obtain ⟨xs, h1, h2⟩ := h
  refine ⟨_, _, .lst (SqL.of h1) (dpAll_tups h2 hv), .lst (SqL.of hb) .nil, shaped_rows hv, rfl, ?_⟩
  rw [eqv_nil_l]
  have e : decide (rs.map rowPd = []) = decide (rs = []) := by cases rs <;> rfl
  rw [e]
  exact q
theorem ne_nil_tups {a b : Addr} {rs : List (List V)} (h : TupsAt H a rs) (hv : ∀ r ∈ rs, ∀ v ∈ r, okV v = true) (hb : H b = some (.lst [])) (q : Q (.bl (!decide (rs = []))) H) : rNeD K (.ref a) (.ref b) H Q := by
  obtain ⟨xs, h1, h2⟩ := h
  refine ⟨_, _, .lst (SqL.of h1) (dpAll_tups h2 hv), .lst (SqL.of hb) .nil, shaped_rows hv, rfl, ?_⟩
  rw [eqv_nil_l]
  have e : decide (rs.map rowPd = []) = decide (rs = []) := by cases rs <;> rfl
  rw [e]
  exact q
/-- a list of texts against an empty list -/
theorem ne_nil_vS {a b : Addr} {xs : List Str} (h : H a = some (.lst (vS xs))) (hv : OkNames xs) (hb : H b = some (.lst [])) (q : Q (.bl (!decide (xs = []))) H) : rNeD K (.ref a) (.ref b) H Q := by
  refine ⟨_, _, .lst (SqL.of h) (dpAll_scal (ok_vS hv)), .lst (SqL.of hb) .nil, shaped_lst (ok_vS hv), rfl, ?_⟩
  rw [eqv_nil_l]
  have e : decide ((vS xs).map pd = []) = decide (xs = []) := by cases xs <;> rfl
  rw [e]
  exact q
/-- a tuple of texts against an empty one -/
theorem ne_nil_tup {a b : Addr} {xs : List Str} (h : SqT K H a (vS xs)) (hv : OkNames xs) (hb : SqT K H b []) (q : Q (.bl (!decide (xs = []))) H) : rNeD K (.ref a) (.ref b) H Q := by
  refine ⟨_, _, .tup h (dpAll_scal (ok_vS hv)), .tup hb .nil, shaped_tup (ok_vS hv), rfl, ?_⟩
  rw [eqv_nil_t]
  have e : decide ((vS xs).map pd = []) = decide (xs = []) := by cases xs <;> rfl
  rw [e]
  exact q
/-- two lists of the same tuples -/
theorem ne_same_tups {a b : Addr} {rs : List (List V)} (h : TupsAt H a rs) (g : TupsAt H b rs) (hv : ∀ r ∈ rs, ∀ v ∈ r, okV v = true) (q : Q (.bl false) H) : rNeD K (.ref a) (.ref b) H Q := by
  obtain ⟨xs, h1, h2⟩ := h
  obtain ⟨ys, g1, g2⟩ := g
  refine ⟨_, _, .lst (SqL.of h1) (dpAll_tups h2 hv), .lst (SqL.of g1) (dpAll_tups g2 hv), shaped_rows hv, shaped_rows hv, ?_⟩
  rw [eqv_self (shaped_rows hv)]
  exact q
end
/-! ### what stays but the bag -/
theorem SqT.exb {K : PySem.W.Frag} {H H' : Hp} {b a : Addr} {n : Nat} {xs : List V} (e : ExB b H H') (hb : BagAt H b n) (h : SqT K H a xs) : SqT K H' a xs := by
  obtain ⟨x, y, z, hb, _⟩ := hb
  rcases h with (h | ⟨o, h⟩) | h
  · exact .inl (.inl (e a _ (ne_of h hb (by intro z; cases z)) h))
  · exact .inl (.inr ⟨o, e a _ (ne_of h hb (by intro z; cases z)) h⟩)
  · exact .inr h
theorem Tups.exb {H H' : Hp} {b : Addr} {n : Nat} {xs : List V} {rs : List (List V)} (h : Tups H xs rs) (e : ExB b H H') (hb : BagAt H b n) : Tups H' xs rs := ⟨h.1, fun i x hx => by
  obtain ⟨x', y, z, hb, _⟩ := hb
  obtain ⟨a, r, h1, h2, h3⟩ := h.2 i x hx
  exact ⟨a, r, h1, h2, e a _ (ne_of h3 hb (by intro z; cases z)) h3⟩⟩
theorem TupsAt.exb {H H' : Hp} {b l : Addr} {n : Nat} {rs : List (List V)} (h : TupsAt H l rs) (e : ExB b H H') (hb : BagAt H b n) (hl : b ≠ l) : TupsAt H' l rs := by
  obtain ⟨xs, h1, h2⟩ := h
  exact ⟨xs, e l _ hl.symm h1, h2.exb e hb⟩
theorem RowAt.exb {K : PySem.W.Frag} {H H' : Hp} {b a : Addr} {n : Nat} {xs : List Str} (h : RowAt K H a xs) (e : ExB b H H') (hb : BagAt H b n) : RowAt K H' a xs := ⟨SqT.exb e hb h.at_, h.nd, h.ok, h.small⟩
theorem WordOf.exb {H H' : Hp} {row : List Str} {b l : Addr} {n : Nat} {w : Wd} (h : WordOf H row l w) (e : ExB b H H') (hb : BagAt H b n) (hl : b ≠ l) : WordOf H' row l w := ⟨h.at_.exb e hb hl, h.okw, h.ok, h.small⟩
theorem DeedsOf.exb {H H' : Hp} {row : List Str} {b l : Addr} {n : Nat} {ds : List Dd} (h : DeedsOf H row l ds) (e : ExB b H H') (hb : BagAt H b n) (hl : b ≠ l) : DeedsOf H' row l ds := ⟨h.at_.exb e hb hl, h.okd, h.ok, h.small⟩
theorem Three.exb {K : PySem.W.Frag} {H H' : Hp} {b r l e : Addr} {n : Nat} {row : List Str} {w : Wd} {en : List Str} (h : Three K H r l e row w en) (x : ExB b H H') (hb : BagAt H b n) (hl : b ≠ l) : Three K H' r l e row w en :=
  ⟨h.hrow.exb x hb, h.word.exb x hb hl, h.hen.exb x hb, h.len, h.these⟩
theorem KnAt.exb {H H' : Hp} {b d : Addr} {n : Nat} {ks : Kn Str} (h : KnAt H d ks) (e : ExB b H H') (hb : BagAt H b n) : KnAt H' d ks := by
  obtain ⟨x, y, z, hb, _⟩ := hb
  obtain ⟨kvs, h1, h2⟩ := h
  refine ⟨kvs, e d _ (ne_of h1 hb (by intro z; cases z)) h1, fun p c m hm => ?_⟩
  obtain ⟨t, h3, h4⟩ := h2 p c m hm
  exact ⟨t, h3, e t _ (ne_of h4 hb (by intro z; cases z)) h4⟩
end K60

namespace K60
open PySem PySem.Spec PyProof.Rows L2 Lf
local macro_rules | `(tactic| walk_at "rd") => `(tactic| dsimp only [tRet, tSeq, tIfS, tNext, tNever, tAsg, tDrop, tAug, ipI, gName, gTup, gCons, gNil, gSub, tTup, tLst, tAndV, tOrV, tNotV, tIf, tAnd, tOr, tNot, tTest, tB, tCB, tCons, tNil, tC, tVar, tOp, tUn, tCal, tChain, tBM, tBM0, tDGet, tDGet2, tDIn, tSl, tPart, tNoPart, tYes, iRng1, iRng3, iList, iTup, iStr, iEnum, iEnumT, iKeys, tLenSetT, tDNewK, tTupIdx, sDPut, rAddI, rSubI, rMulI, rModI, rDivI, rPowI, rLtI, rLeI, rGtI, rGeI, rNegI, rI, rI0, rU])
local macro_rules | `(tactic| walk_at "rs") => `(tactic| dsimp only [tRet, tSeq, tIfS, tNext, tNever, tAsg, tDrop, tAug, ipI, gName, gTup, gCons, gNil, gSub, tTup, tLst, tAndV, tOrV, tNotV, tAnd, tOr, tNot, tTest, tB, tCB, tCons, tNil, tC, tVar, tOp, tUn, tCal, tChain, tBM, tBM0, tDGet, tDGet2, tDIn, tSl, tPart, tNoPart, tYes, iRng1, iRng3, iList, iTup, iStr, iEnum, iEnumT, iKeys, tLenSetT, tDNewK, tTupIdx, sDPut, rAddI, rSubI, rMulI, rModI, rDivI, rPowI, rLtI, rLeI, rGtI, rGeI, rNegI, rI, rI0, rU])
def badL (ks : Kn Str) (be : List Str) (n : Nat) : List Nat := (List.range n).filter fun i => wrongAt ks (nth be i) i
def badR (be : List Str) (i : Nat) : List V := [.str (nth be i), .int (i : Nat)]
theorem nth_at {be : List Str} {i : Nat} {x : Str} (h : be[i]? = some x) : nth be i = x := by
  unfold nth
  rw [h]
  rfl
theorem badL_succ (ks : Kn Str) (be : List Str) (n : Nat) : badL ks be (n + 1) = badL ks be n ++ (if wrongAt ks (nth be n) n = true then [n] else []) := by
  unfold badL
  rw [List.range_succ, List.filter_append, List.filter_cons]
  rfl
theorem fw_bad (ks : Kn Str) (be : List Str) : fw ks be = (badL ks be be.length).head? := by
  unfold badL
  rw [List.head?_filter]
  cases e : List.find? (fun i => wrongAt ks (nth be i) i) (List.range be.length) with
  | none =>
    refine fwF_none fun j x hx => ?_
    have hj := (List.getElem?_eq_some_iff.mp hx).1
    have := List.find?_eq_none.mp e j (List.mem_range.mpr hj)
    rw [nth_at hx] at this
    rw [Nat.zero_add]
    simpa using this
  | some i =>
    obtain ⟨h1, h2, h3⟩ := List.find?_range_eq_some.mp e
    have hi := List.mem_range.mp h2
    have hx : be[i]? = some be[i] := List.getElem?_eq_getElem hi
    have := fwF_some (ks := ks) (e := be) (k := 0) (i := i) hx (by rw [Nat.zero_add]; rw [nth_at hx] at h1; exact h1) fun j y hj hy => by
      have := h3 j hj
      rw [nth_at hy] at this
      rw [Nat.zero_add]
      simpa using this
    rw [Nat.zero_add] at this
    exact this
section
variable {K : PySem.W.Frag} {vs : List V} {H : Hp} {Q : VK} {E : XK}
theorem setL_ok {l : Addr} {xs : List V} {i : Nat} {v : V} {H : Hp} {C : Hp → Prop} (h : H l = some (.lst xs)) (hi : i < xs.length) (q : C (upd H l (.lst (xs.set i v)))) : rSetL (.ref l) (.int (i : Nat)) v H C := by
  refine ⟨l, xs, _, i, rfl, rfl, h, ?_, q⟩
  unfold ixN
  rw [if_pos (by omega), if_pos (by omega)]
  rfl
theorem pLawExchanged (h : spExchanged K vs H Q E) : tLawExchanged K (En Q) (start nLawExchanged vs) H := by
  obtain ⟨b, r, l, e, d, row, w, en, n, rfl, B, hk, q⟩ := h
  have T := B.three
  have hen : en.length ≤ 1000 := T.hen.small
  have hvl : (vS en).length = en.length := vS_len en
  have hpos := B.pos
  have hn := B.n
  unfold tLawExchanged
  walk_at "rd"
  refine ⟨_, rfl, _, rfl, lenT T.hen.at_ (take_ok (m := (vS en).length) B.bag (by omega) (by omega) (by omega) fun one o1 h1 hb1 eb1 => ?_)⟩
  have T1 := T.exb eb1 B.bag B.ne.2.1
  have k1 := hk.exb eb1 B.bag
  refine ⟨_, rfl, _, rfl, lenT T1.hen.at_ (take_ok (m := (vS en).length) hb1 (by omega) (by omega) (by omega) fun oth o2 h2 hb2 eb2 => ?_)⟩
  have T2 := T1.exb eb2 hb1 B.ne.2.1
  have k2 := k1.exb eb2 hb1
  rw [hvl] at h1 h2
  refine ⟨_, rfl, listT T2.hen.at_ fun nb hnb => ?_⟩
  have x1 : en[one]? = some en[one] := List.getElem?_eq_getElem h1
  have x2 : en[oth]? = some en[oth] := List.getElem?_eq_getElem h2
  refine ⟨_, rfl, _, rfl, ixL (SqL.of upd_same) (vS_at x2) ⟨_, rfl, _, rfl, ixL (SqL.of upd_same) (vS_at x1) ⟨by show 2 ≤ sizeLine; decide, fun tp htp => ?_⟩⟩⟩
  have e3 := ex_new (o := .lst (vS en)) hnb
  have e4 := ex_new (o := .tup [V.str en[oth], V.str en[one]]) htp
  have hnt : nb ≠ tp := ne_of_none upd_same htp
  obtain ⟨be, hbe⟩ : ∃ be, be = (en.set one en[oth]).set oth en[one] := ⟨_, rfl⟩
  have hperm : be.Perm en := by
    rw [hbe]
    exact List.set_set_perm h1 h2
  have hbl : be.length = en.length := hperm.length_eq
  have hnb4 : (upd (upd (upd (upd H b o1) b o2) nb (.lst (vS en))) tp (.tup [V.str en[oth], V.str en[one]])) nb = some (.lst (vS en)) := e4 nb _ upd_same
  refine ⟨tp, _, rfl, SqT.of upd_same, rfl, _, _, rfl, _, rfl, _, rfl, setL_ok hnb4 (by omega) ⟨_, _, rfl, _, rfl, _, rfl, setL_ok upd_same (by rw [List.length_set]; omega) ⟨rfl, Nat.zero_le _, fun fo hfo => ?_⟩⟩⟩
  rw [upd_upd] at hfo ⊢
  have ebe : ((vS en).set one (V.str en[oth])).set oth (V.str en[one]) = vS be := by
    rw [hbe, vS, vS, List.map_set, List.map_set]
  rw [ebe] at hfo ⊢
  -- the heap so far
  have eH : ∃ H4, H4 = (upd (upd (upd (upd (upd H b o1) b o2) nb (.lst (vS en))) tp (.tup [V.str en[oth], V.str en[one]])) nb (.lst (vS be))) := ⟨_, rfl⟩
  obtain ⟨H4, eH4⟩ := eH
  rw [← eH4] at hfo ⊢
  have ex4 : Ex (upd (upd H b o1) b o2) H4 := by
    rw [eH4]
    exact ex_put (e3.trans e4) hnb
  have hnbe : H4 nb = some (.lst (vS be)) := by
    rw [eH4]
    exact upd_same
  have exb4 : ExB b H H4 := (eb1.trans eb2).ex ex4
  have ex5 := ex_new (o := .lst []) hfo
  have T5 := (T2.ex ex4).ex ex5
  have k5 := (k2.ex ex4).ex ex5
  have hb5 := (hb2.ex ex4).ex ex5
  have hnf : nb ≠ fo := ne_of_none hnbe hfo
  have hnd := T.nodup
  have these : ∀ x ∈ be, ∃ c m, (x, c, m) ∈ kn0 row w := fun x hx => T.these x (hperm.mem_iff.mp hx)
  refine forR1 be.length (by omega) (fun C hC => by walk_at "rd"; exact ⟨_, rfl, lenL (SqL.of (ex5 nb _ hnbe)) (by rw [vS_len]; exact hC)⟩) (fun i σ' H' => ∃ a9 a10 a11 a12 fs, σ' = [some (.ref b), some (.ref r), some (.ref l), some (.ref e), some (.ref d), some (.int (one : Nat)), some (.int (oth : Nat)), some (.ref nb), some (.ref fo), a9, a10, a11, a12] ∧ Ex H4 H' ∧ H' fo = some (.lst fs) ∧ fs.length ≤ i ∧ Tups H' fs ((badL (kn0 row w) be i).map (badR be)))
    ⟨none, none, none, none, [], rfl, ex5, upd_same, Nat.le_refl _, tups_nil _⟩ (fun i σ' H' hi p => ?_) fun σ' H' p => ?_
  · obtain ⟨a9, a10, a11, a12, fs, rfl, e6, hf, hfl, ht⟩ := p
    have hx : be[i]? = some be[i] := List.getElem?_eq_getElem hi
    obtain ⟨c, m, hm⟩ := these _ (List.getElem_mem hi)
    obtain ⟨kvs, hd2, hkv⟩ := (k2.ex ex4).ex e6
    obtain ⟨t, g1, g2⟩ := hkv _ c m hm
    have hw := wrong_is (i := i) hnd hm
    have hnb6 := e6 nb _ hnbe
    walk_at "rd"
    refine ⟨_, rfl, _, rfl, _, rfl, ixL (SqL.of hnb6) (vS_at hx) ⟨d, .ref t, rfl, by rw [← g1]; exact DGet.k (k := Sum.inr be[i]) hd2, ?_⟩⟩
    refine ⟨t, _, rfl, SqT.of g2, rfl, _, _, rfl, _, _, rfl, rfl, _, rfl, _, rfl, _, _, rfl, rfl, _, rfl, _, rfl, _, _, rfl, rfl, _, rfl, ?_⟩
    have hsucc := badL_succ (kn0 row w) be i
    rw [nth_at hx, hw] at hsucc
    have add : may c m i = false → ∀ (p : Addr) (C : VK), H' p = none → (∀ H7 fs, Ex H4 H7 → H7 fo = some (.lst fs) → fs.length ≤ i + 1 → Tups H7 fs ((badL (kn0 row w) be (i + 1)).map (badR be)) → C .non H7) → rAppend (.ref fo) [.ref p] (upd H' p (.tup [.str be[i], .int (i : Nat)])) C := by
      intro hmay p C hp q7
      have e7 := ex_new (o := .tup [V.str be[i], V.int (i : Nat)]) hp
      refine appd (e7 fo _ hf) (by omega) (q7 _ _ (ex_put (e6.trans e7) hfo) upd_same (by simp; omega) ?_)
      rw [hsucc, hmay, if_pos (by decide), List.map_append]
      refine ((ht.te (ex_te e7)).te (te_put (e7 fo _ hf))).snoc ?_
      rw [upd_ne (ne_of_none hf hp).symm, upd_same, badR, nth_at hx]
    have stay : may c m i = true → badL (kn0 row w) be (i + 1) = badL (kn0 row w) be i := by
      intro hmay
      rw [hsucc, hmay, if_neg (by decide), List.append_nil]
    by_cases hcm : c < m
    · rw [decide_eq_true (by omega)]
      have em : decide (((i : Nat) : Int) = ((c : Nat) : Int)) = may c m i := by
        unfold may
        rw [if_pos hcm]
        by_cases hic : i = c
        · rw [decide_eq_true hic, decide_eq_true (by omega)]
        · rw [decide_eq_false hic, decide_eq_false (by omega)]
      refine iteT ⟨_, rfl, _, rfl, eqI ?_⟩
      rw [em]
      refine ⟨_, rfl, _, rfl, ?_⟩
      cases hmay : may c m i with
      | false =>
        refine iteT ⟨_, rfl, tyL hf, _, rfl, _, rfl, ixL (SqL.of hnb6) (vS_at hx) ⟨_, rfl, by show 2 ≤ sizeLine; decide, fun p hp => ?_⟩⟩
        exact add hmay p _ hp fun H7 fs e7 h7 h8 h9 => ⟨_, _, _, _, fs, rfl, e7, h7, h8, h9⟩
      | true =>
        refine iteF ⟨_, _, _, _, fs, rfl, e6, hf, by omega, ?_⟩
        rw [stay hmay]
        exact ht
    · rw [decide_eq_false (by omega)]
      have em : decide (((i : Nat) : Int) < ((m : Nat) : Int)) = may c m i := by
        unfold may
        rw [if_neg hcm]
        by_cases hic : i < m
        · rw [decide_eq_true hic, decide_eq_true (by omega)]
        · rw [decide_eq_false hic, decide_eq_false (by omega)]
      rw [em]
      refine iteF ⟨_, rfl, _, rfl, ?_⟩
      cases hmay : may c m i with
      | false =>
        refine iteT ⟨_, rfl, tyL hf, _, rfl, _, rfl, ixL (SqL.of hnb6) (vS_at hx) ⟨_, rfl, by show 2 ≤ sizeLine; decide, fun p hp => ?_⟩⟩
        exact add hmay p _ hp fun H7 fs e7 h7 h8 h9 => ⟨_, _, _, _, fs, rfl, e7, h7, h8, h9⟩
      | true =>
        refine iteF ⟨_, _, _, _, fs, rfl, e6, hf, by omega, ?_⟩
        rw [stay hmay]
        exact ht
  · obtain ⟨a9, a10, a11, a12, fs, rfl, e6, hf, hfl, ht⟩ := p
    have TA : TupsAt H' fo ((badL (kn0 row w) be be.length).map (badR be)) := ⟨fs, hf, ht⟩
    have okR : ∀ r ∈ (badL (kn0 row w) be be.length).map (badR be), ∀ v ∈ r, okV v = true := by
      intro r hr v hv
      obtain ⟨i, hi, rfl⟩ := List.mem_map.mp hr
      have hi : i < be.length := List.mem_range.mp (List.mem_filter.mp hi).1
      unfold badR at hv
      have hx : be[i]? = some be[i] := List.getElem?_eq_getElem hi
      rw [nth_at hx] at hv
      rcases List.mem_cons.mp hv with rfl | hv
      · exact okV_name (T.hen.ok _ (hperm.mem_iff.mp (List.getElem_mem hi)))
      · have : v = .int (i : Nat) := by simpa using hv
        rw [this]
        rfl
    have hfw := fw_bad (kn0 row w) be
    -- the three, bent
    have bent3 : ∀ (H7 : Hp) (t : Addr), Ex H4 H7 → H7 t = some (.tup (vS be)) → Three K H7 r l t row w be := fun H7 t e7 h7 =>
      ⟨(T2.hrow.ex ex4).ex e7, (T2.word.ex ex4).ex e7, ⟨SqT.of h7, hperm.nodup_iff.mpr T.hen.nd, fun x hx => T.hen.ok x (hperm.mem_iff.mp hx), by show be.length ≤ 1000; omega⟩, by rw [hbl]; exact T.len, these⟩
    walk_at "rd"
    refine ⟨_, rfl, _, rfl, _, rfl, nb, vS be, rfl, .inl ⟨SqL.of (e6 nb _ hnbe), fun t1 ht1 => ?_⟩⟩
    have e7 := ex_new (o := .tup (vS be)) ht1
    refine ⟨r, l, t1, row, w, be, rfl, bent3 _ t1 (e6.trans e7) upd_same, fun H8 e8 => ?_⟩
    have e8 := e7.trans e8
    have ebad : decide ((badL (kn0 row w) be be.length).map (badR be) = []) = decide (fw (kn0 row w) be = none) := by
      rw [hfw]
      cases badL (kn0 row w) be be.length <;> rfl
    refine ⟨_, rfl, Nat.zero_le _, fun n1 hn1 => ?_⟩
    have e9 := e8.trans (ex_new (o := .lst []) hn1)
    refine eq_nil_tups (TA.ex e9) okR upd_same ?_
    rw [ebad]
    refine .inl ⟨_, rfl, rfl, fun H10 e10 => ⟨_, rfl, iteF ?_⟩⟩
    have e10 := e9.trans e10
    refine ⟨_, rfl, _, rfl, _, rfl, nb, vS be, rfl, .inl ⟨SqL.of (e10 nb _ (e6 nb _ hnbe)), fun t2 ht2 => ?_⟩⟩
    have e11 := e10.trans (ex_new (o := .tup (vS be)) ht2)
    have last : ∀ H12, Ex H' H12 → Q (.bl true) H12 := fun H12 e12 => q H12 (exb4.ex (e6.trans e12)) ((hb2.ex ex4).ex (e6.trans e12))
    refine ⟨r, l, t2, row, w, be, rfl, bent3 _ t2 (e6.trans e11) upd_same, fun hnone H12 e12 => ?_, fun i x hfi hx p H12 hp e12 hp12 => ?_⟩
    · have e12 := e11.trans e12
      refine ⟨_, rfl, Nat.zero_le _, fun n2 hn2 => ?_⟩
      have e13 := e12.trans (ex_new (o := .lst []) hn2)
      refine ne_nil_tups (TA.ex e13) okR upd_same ⟨_, rfl, ?_⟩
      rw [ebad, hnone]
      exact iteF (.inl ⟨_, rfl, rfl, fun H14 e14 => last H14 (e13.trans e14)⟩)
    · have e12' := e11.trans e12
      refine ⟨_, rfl, Nat.zero_le _, fun n2 hn2 => ?_⟩
      have e2n := ex_new (o := .lst []) hn2
      have e13 := e12'.trans e2n
      refine ne_nil_tups (TA.ex e13) okR upd_same ⟨_, rfl, ?_⟩
      rw [ebad, hfi]
      have hd0 : ∃ rest, badL (kn0 row w) be be.length = i :: rest := by
        rw [hfi] at hfw
        cases hb : badL (kn0 row w) be be.length with
        | nil => rw [hb] at hfw; cases hfw
        | cons j rest =>
          rw [hb] at hfw
          have : i = j := Option.some.inj hfw
          exact ⟨rest, by rw [this]⟩
      obtain ⟨rest, hd0⟩ := hd0
      rw [hd0] at ht
      cases fs with
      | nil => have := ht.1; simp at this
      | cons f0 fr =>
        obtain ⟨a0, r0, hf0, hr0, ha0⟩ := ht.2 0 f0 rfl
        have hr0 : badR be i = r0 := by simpa using hr0
        rw [← hr0, badR, nth_at hx] at ha0
        subst hf0
        refine iteT ⟨_, rfl, ixL (i := 0) (SqL.of (e13 fo _ hf)) rfl ?_⟩
        exact .inr ⟨p, a0, [.str x, .int (i : Nat)], rfl, .inl ⟨SqT.of (e2n p _ hp12), SqT.of (e13 a0 _ ha0)⟩, rfl, by show 2 ≤ 1000; decide, fun H14 e14 => last H14 (e13.trans e14)⟩
end
end K60

namespace K60
open PySem PySem.Spec PyProof.Rows L2 Lf
local macro_rules | `(tactic| walk_at "rd") => `(tactic| dsimp only [tRet, tSeq, tIfS, tNext, tNever, tAsg, tDrop, tAug, ipI, gName, gTup, gCons, gNil, gSub, tTup, tLst, tAndV, tOrV, tNotV, tIf, tAnd, tOr, tNot, tTest, tB, tCB, tCons, tNil, tC, tVar, tOp, tUn, tCal, tChain, tBM, tBM0, tDGet, tDGet2, tDIn, tSl, tPart, tNoPart, tYes, iRng1, iRng3, iList, iTup, iStr, iEnum, iEnumT, iKeys, tLenSetT, tDNewK, tTupIdx, sDPut, rAddI, rSubI, rMulI, rModI, rDivI, rPowI, rLtI, rLeI, rGtI, rGeI, rNegI, rI, rI0, rU])
local macro_rules | `(tactic| walk_at "rs") => `(tactic| dsimp only [tRet, tSeq, tIfS, tNext, tNever, tAsg, tDrop, tAug, ipI, gName, gTup, gCons, gNil, gSub, tTup, tLst, tAndV, tOrV, tNotV, tAnd, tOr, tNot, tTest, tB, tCB, tCons, tNil, tC, tVar, tOp, tUn, tCal, tChain, tBM, tBM0, tDGet, tDGet2, tDIn, tSl, tPart, tNoPart, tYes, iRng1, iRng3, iList, iTup, iStr, iEnum, iEnumT, iKeys, tLenSetT, tDNewK, tTupIdx, sDPut, rAddI, rSubI, rMulI, rModI, rDivI, rPowI, rLtI, rLeI, rGtI, rGeI, rNegI, rI, rI0, rU])
/-! ### sorted lists of texts are alike where their members are -/
def leS (a b : Str) : Prop := a.cps.toList ≤ b.cps.toList
theorem leS_anti {a b : Str} (h1 : leS a b) (h2 : leS b a) : a = b := by
  have e : a.cps.toList = b.cps.toList := List.le_antisymm h1 h2
  cases a with
  | mk a => cases b with
    | mk b => exact congrArg Str.mk (Array.toList_inj.mp e)
theorem rising_pw : ∀ {l : List Str} {p : Str}, risingS p l = true → (p :: l).Pairwise leS
  | [], p, _ => by simp
  | x :: r, p, h => by
    have h : (!ltCps x.cps.toList p.cps.toList && risingS x r) = true := h
    rw [Bool.and_eq_true] at h
    have h1 : leS p x := by
      have := h.1
      rw [ltCps_eq] at this
      simp only [Bool.not_eq_true', decide_eq_false_iff_not] at this
      exact this
    have h2 := rising_pw h.2
    rw [List.pairwise_cons]
    refine ⟨fun y hy => ?_, h2⟩
    rcases List.mem_cons.mp hy with rfl | hy
    · exact h1
    · exact List.le_trans h1 ((List.pairwise_cons.mp h2).1 y hy)
theorem sorted_pw : ∀ {l : List Str}, sortedS l = true → l.Pairwise leS
  | [], _ => List.Pairwise.nil
  | _ :: _, h => rising_pw h
theorem sorted_eq {xs ys : List Str} (hx : sortedS xs = true) (hy : sortedS ys = true) (hp : xs.Perm ys) : xs = ys :=
  List.Perm.eq_of_pairwise (fun _ _ _ _ a b => leS_anti a b) (sorted_pw hx) (sorted_pw hy) hp

/-! ### from the marks to the plain law -/
theorem three_fit {K : PySem.W.Frag} {H : Hp} {r l e : Addr} {row : List Str} {w : Wd} {en : List Str} (T : Three K H r l e row w en) (h : fw (kn0 row w) en = none) : Fit (ks0 row) row.length w en := by
  intro i q hi
  obtain ⟨c, m, hm⟩ := T.these q (List.mem_of_getElem? hi)
  refine ⟨c, m, hm, ?_⟩
  have := fwF_no h i q hi
  rw [Nat.zero_add, wrong_is T.nodup hm] at this
  simpa using this
theorem three_told {K : PySem.W.Frag} {H : Hp} {r l e : Addr} {row : List Str} {w : Wd} {en : List Str} (T : Three K H r l e row w en) (h : fw (kn0 row w) en = none) : Told en (ks0 row) row.length w row row (hist (wishOf en) row w) :=
  told_all T.hrow.nd T.hen.nd T.word.okw (three_fit T h) T.len
theorem wordOf_len (ds : List Dd) : (wordOf ds).length = ds.length := List.length_map ..
theorem told_deeds {K : PySem.W.Frag} {H : Hp} {r l e t : Addr} {row : List Str} {w : Wd} {en : List Str} (T : Three K H r l e row w en) (h : fw (kn0 row w) en = none) (ht : DeedsAt H t (hist (wishOf en) row w)) : DeedsOf H row t (hist (wishOf en) row w) := by
  have Td := three_told T h
  refine ⟨ht, Td.ok, fun x hx => T.word.ok x ?_, ?_⟩
  · rw [← Td.word]
    exact List.mem_map.mpr ⟨_, hx, rfl⟩
  · show (hist (wishOf en) row w).length ≤ 1000
    rw [← wordOf_len, Td.word]
    exact T.word.small
theorem rowsL_snoc : ∀ (ds : List Dd) (r : List Str), ∃ ini, rowsL r ds = ini ++ [runD r ds] ∧ ini.length = ds.length
  | [], r => ⟨[], rfl, rfl⟩
  | d :: ds, r => by
    obtain ⟨ini, h1, h2⟩ := rowsL_snoc ds (stepD r d)
    refine ⟨r :: ini, ?_, by simp [h2]⟩
    show r :: rowsL (stepD r d) ds = _
    rw [h1]
    rfl
/-- the row that was lived -/
theorem lived_three {K : PySem.W.Frag} {H : Hp} {r l e : Addr} {row : List Str} {ds : List Dd} (R : RowAt K H r row) (hl : WordAt H l (wordOf ds)) (he : SqT K H e (vS (runD row ds))) (ho : Okd row row.length ds) (hk : ∀ x, Deed.inn x ∈ ds → OkName x) (hs : row.length + ds.length ≤ 1000) : Three K H r l e row (wordOf ds) (runD row ds) := by
  have hw : ∀ x, some x ∈ wordOf ds → OkName x := fun x hx => by
    obtain ⟨d, hd, e⟩ := List.mem_map.mp hx
    cases d with
    | inn y =>
      have : y = x := Option.some.inj e
      exact hk x (by rw [← this]; exact hd)
    | out p => cases e
  refine ⟨R, ⟨hl, ho.word, hw, by show (wordOf ds).length ≤ 1000; rw [wordOf_len]; omega⟩, ⟨he, run_nodup R.nd (fun _ z => z) ho, fun x hx => ?_, ?_⟩, runD_len ds row, fun x hx => ?_⟩
  · rcases run_sub hx with h | h
    · exact R.ok x h
    · refine hw x ?_
      obtain ⟨o, h1, h2⟩ := List.mem_filterMap.mp h
      have h2 : o = some x := h2
      rw [← h2]
      exact h1
  · have := runD_le ds row
    show (runD row ds).length ≤ 1000
    omega
  · obtain ⟨i, hi⟩ := List.mem_iff_getElem?.mp hx
    obtain ⟨c, m, h1, _⟩ := lived_fit ho i x hi
    exact ⟨c, m, h1⟩
theorem lived_right {K : PySem.W.Frag} {H : Hp} {r l e : Addr} {row : List Str} {ds : List Dd} (T : Three K H r l e row (wordOf ds) (runD row ds)) (ho : Okd row row.length ds) : fw (kn0 row (wordOf ds)) (runD row ds) = none := by
  refine fwF_none fun j x hx => ?_
  obtain ⟨c, m, h1, h2⟩ := lived_fit ho j x hx
  rw [Nat.zero_add, wrong_is T.nodup h1, h2]
  rfl

/-! ### who moved -/
theorem two_le {L : List Nat} {a b : Nat} (ha : a ∈ L) (hb : b ∈ L) (h : a ≠ b) : 2 ≤ L.length := by
  cases L with
  | nil => cases ha
  | cons x r => cases r with
    | nil =>
      have h1 : a = x := by simpa using ha
      have h2 : b = x := by simpa using hb
      exact absurd (h1.trans h2.symm) h
    | cons y r => simp
section
variable {row : List Str} {en : List Str} {w : Wd} {hs ds : List Dd} {sp sp2 : List (Str × List Nat)}
theorem Spots.key {rows : List (List Str)} {sp : List (Str × List Nat)} (S : Spots rows sp) {p : Str} {r : List Str} (hr : r ∈ rows) (hp : p ∈ r) : ∃ L, (p, L) ∈ sp := by
  obtain ⟨z, hz, e⟩ := List.mem_map.mp (S.all r hr p hp)
  exact ⟨z.2, by rw [← e]; exact hz⟩
/-- what told rows say of the spots -/
structure Mv (row en : List Str) (w : Wd) (sp : List (Str × List Nat)) : Prop where
  nd : en.Nodup
  knd : ((kn0 row w).map (·.1)).Nodup
  keys : (sp.map (·.1)).Nodup
  nds : ∀ p L, (p, L) ∈ sp → L.Nodup
  of : ∀ p L, (p, L) ∈ sp → ∀ j ∈ L, ∃ c M, (p, c, M) ∈ kn0 row w ∧ (j = c ∨ en[j]? = some p)
  to : ∀ p c M, (p, c, M) ∈ kn0 row w → p ∈ en → ∃ L, (p, L) ∈ sp ∧ c ∈ L ∧ ∀ i, en[i]? = some p → i ∈ L
theorem mv_of (T : Told en (ks0 row) row.length w row row hs) (nd : en.Nodup) (knd : ((kn0 row w).map (·.1)).Nodup) (S : Spots (rowsL row hs) sp) : Mv row en w sp := by
  refine ⟨nd, knd, S.keys, S.nd, fun p L hp j hj => ?_, fun p c M hm hpe => ?_⟩
  · obtain ⟨r, hr, hi⟩ := (S.at_ p L hp j).mp hj
    exact T.rows r hr j p hi
  · have hlast : en ∈ rowsL row hs := by
      have := rows_last hs row
      rw [T.run] at this
      exact this
    obtain ⟨L, hL⟩ := S.key hlast hpe
    refine ⟨L, hL, ?_, fun i hi => (S.at_ p L hL i).mpr ⟨en, hlast, hi⟩⟩
    obtain ⟨r, hr, hc⟩ := came_all (ds := hs) (row := row) (p := p) (c := c) (M := M) (by rw [T.word]; exact hm)
    exact (S.at_ p L hL c).mpr ⟨r, hr, hc⟩
theorem Mv.uniq (m : Mv row en w sp) {p : Str} {L M : List Nat} (h1 : (p, L) ∈ sp) (h2 : (p, M) ∈ sp) : L = M := by
  have : ∀ (l : List (Str × List Nat)), (l.map (·.1)).Nodup → (p, L) ∈ l → (p, M) ∈ l → L = M := by
    intro l
    induction l with
    | nil => intro _ h; cases h
    | cons z r ih =>
      intro hn h1 h2
      rw [List.map_cons, List.nodup_cons] at hn
      rcases List.mem_cons.mp h1 with h1 | h1
      · rcases List.mem_cons.mp h2 with h2 | h2
        · rw [← h1] at h2
          exact (Prod.mk.inj h2).2.symm
        · exact absurd (List.mem_map.mpr ⟨_, h2, by rw [← h1]⟩) hn.1
      · rcases List.mem_cons.mp h2 with h2 | h2
        · exact absurd (List.mem_map.mpr ⟨_, h1, by rw [← h2]⟩) hn.1
        · exact ih hn.2 h1 h2
  exact this sp m.keys h1 h2
def dueL (en : List Str) (sp : List (Str × List Nat)) : List Str := (sp.filter fun z => decide (z.1 ∈ en) && decide (1 < z.2.length)).map (·.1)
theorem due_iff {p : Str} : p ∈ dueL en sp ↔ ∃ L, (p, L) ∈ sp ∧ p ∈ en ∧ 1 < L.length := by
  unfold dueL
  rw [List.mem_map]
  constructor
  · rintro ⟨z, hz, rfl⟩
    obtain ⟨h1, h2⟩ := List.mem_filter.mp hz
    rw [Bool.and_eq_true] at h2
    exact ⟨z.2, h1, of_decide_eq_true h2.1, of_decide_eq_true h2.2⟩
  · rintro ⟨L, h1, h2, h3⟩
    exact ⟨(p, L), List.mem_filter.mpr ⟨h1, by rw [decide_eq_true h2, decide_eq_true h3]; rfl⟩, rfl⟩
theorem movedL_iff {p : Str} (knd : ((kn0 row w).map (·.1)).Nodup) : p ∈ movedL (kn0 row w) en ↔ ∃ i, en[i]? = some p ∧ placeOf (kn0 row w) p ≠ i := by
  unfold movedL
  rw [List.mem_map]
  constructor
  · rintro ⟨i, hi, rfl⟩
    obtain ⟨h1, h2⟩ := List.mem_filter.mp hi
    have h1 := List.mem_range.mp h1
    have hx : en[i]? = some en[i] := List.getElem?_eq_getElem h1
    rw [nth_at hx] at h2 ⊢
    exact ⟨i, hx, by simpa using h2⟩
  · rintro ⟨i, h1, h2⟩
    refine ⟨i, List.mem_filter.mpr ⟨List.mem_range.mpr (List.getElem?_eq_some_iff.mp h1).1, ?_⟩, nth_at h1⟩
    rw [nth_at h1]
    simpa using h2
theorem Mv.all (m : Mv row en w sp) {p : Str} {L : List Nat} {c M : Nat} (h : (p, L) ∈ sp) (hm : (p, c, M) ∈ kn0 row w) {j : Nat} (hj : j ∈ L) : j = c ∨ en[j]? = some p := by
  obtain ⟨c', M', h1, h2⟩ := m.of p L h j hj
  have := (kn_inj m.knd h1 hm).1
  rw [← this]
  exact h2
theorem Mv.same (m : Mv row en w sp) (these : ∀ x ∈ en, ∃ c M, (x, c, M) ∈ kn0 row w) {p : Str} : p ∈ dueL en sp ↔ p ∈ movedL (kn0 row w) en := by
  rw [due_iff, movedL_iff m.knd]
  constructor
  · rintro ⟨L, h1, h2, h3⟩
    obtain ⟨c, M, hm⟩ := these p h2
    obtain ⟨i, hi⟩ := List.mem_iff_getElem?.mp h2
    refine ⟨i, hi, fun e => ?_⟩
    rw [place_is m.knd hm] at e
    have := nodup_le (l := L) (xs := [c]) (m.nds p L h1) fun j hj => by
      rcases m.all h1 hm hj with h | h
      · simp [h]
      · have := nd_at m.nd h hi
        simp [this, e]
    simp at this
    omega
  · rintro ⟨i, hi, hne⟩
    have hpe := List.mem_of_getElem? hi
    obtain ⟨c, M, hm⟩ := these p hpe
    rw [place_is m.knd hm] at hne
    obtain ⟨L, h1, h2, h3⟩ := m.to p c M hm hpe
    exact ⟨L, h1, hpe, two_le h2 (h3 i hi) hne⟩
theorem movedL_nodup (nd : en.Nodup) (ks : Kn Str) : (movedL ks en).Nodup := by
  unfold movedL
  have : ∀ l : List Nat, l.Nodup → (∀ i ∈ l, i < en.length) → (l.map (nth en)).Nodup := by
    intro l
    induction l with
    | nil => intro _ _; exact List.nodup_nil
    | cons a r ih =>
      intro h hi
      rw [List.nodup_cons] at h
      rw [List.map_cons, List.nodup_cons]
      refine ⟨fun hm => ?_, ih h.2 fun i hi' => hi i (List.mem_cons_of_mem _ hi')⟩
      obtain ⟨b, hb, e⟩ := List.mem_map.mp hm
      have ha := List.getElem?_eq_getElem (hi a List.mem_cons_self)
      have hb' := List.getElem?_eq_getElem (hi b (List.mem_cons_of_mem _ hb))
      rw [nth_at ha, nth_at hb'] at e
      have e' := e.symm
      rw [e'] at ha
      exact h.1 (by rw [nd_at nd ha hb']; exact hb)
  refine this _ (List.Nodup.sublist List.filter_sublist List.nodup_range) fun i hi => List.mem_range.mp (List.mem_filter.mp hi).1
theorem due_nodup (m : Mv row en w sp) : (dueL en sp).Nodup := by
  unfold dueL
  exact List.Nodup.sublist (List.Sublist.map _ List.filter_sublist) m.keys
theorem due_perm (m : Mv row en w sp) (these : ∀ x ∈ en, ∃ c M, (x, c, M) ∈ kn0 row w) : (dueL en sp).Perm (movedL (kn0 row w) en) :=
  (List.perm_ext_iff_of_nodup (due_nodup m) (movedL_nodup m.nd _)).mpr fun _ => m.same these
/-- nobody moves more than once -/
theorem Mv.once (m : Mv row en w sp) {p : Str} {L : List Nat} (h : (p, L) ∈ sp) : L.length ≤ 1 + (if p ∈ dueL en sp then 1 else 0) := by
  cases L with
  | nil => simp
  | cons j0 r =>
    obtain ⟨c, M, hm, _⟩ := m.of p _ h j0 List.mem_cons_self
    by_cases hpe : p ∈ en
    · by_cases hd : p ∈ dueL en sp
      · rw [if_pos hd]
        obtain ⟨i, hi⟩ := List.mem_iff_getElem?.mp hpe
        have := nodup_le (l := j0 :: r) (xs := [c, i]) (m.nds p _ h) fun j hj => by
          rcases m.all h hm hj with h | h
          · simp [h]
          · simp [nd_at m.nd h hi]
        simpa using this
      · rw [if_neg hd]
        refine Decidable.byContradiction fun hlt => hd (due_iff.mpr ⟨_, h, hpe, by omega⟩)
    · have := nodup_le (l := j0 :: r) (xs := [c]) (m.nds p _ h) fun j hj => by
        rcases m.all h hm hj with h | h
        · simp [h]
        · exact absurd (List.mem_of_getElem? h) hpe
      have h2 : (j0 :: r).length ≤ 1 := by simpa using this
      exact Nat.le_trans h2 (Nat.le_add_right _ _)
/-- whoever is due moved in the lived history, too -/
theorem lived_moved (S : Spots (rowsL row ds) sp2) (knd : ((kn0 row (wordOf ds)).map (·.1)).Nodup) (these : ∀ x ∈ runD row ds, ∃ c M, (x, c, M) ∈ kn0 row (wordOf ds)) {p : Str} (h : p ∈ movedL (kn0 row (wordOf ds)) (runD row ds)) :
    (∃ L, (p, L) ∈ sp2) ∧ ∀ L, (p, L) ∈ sp2 → 2 ≤ L.length := by
  obtain ⟨i, hi, hne⟩ := (movedL_iff knd).mp h
  have hpe := List.mem_of_getElem? hi
  obtain ⟨c, M, hm⟩ := these p hpe
  rw [place_is knd hm] at hne
  have hlast := rows_last ds row
  refine ⟨S.key hlast hpe, fun L hL => ?_⟩
  obtain ⟨r, hr, hc⟩ := came_all hm
  exact two_le ((S.at_ p L hL c).mpr ⟨r, hr, hc⟩) ((S.at_ p L hL i).mpr ⟨_, hlast, hi⟩) hne
end
end K60

namespace K60
open PySem PySem.Spec PyProof.Rows L2 Lf
local macro_rules | `(tactic| walk_at "rd") => `(tactic| dsimp only [tRet, tSeq, tIfS, tNext, tNever, tAsg, tDrop, tAug, ipI, gName, gTup, gCons, gNil, gSub, tTup, tLst, tAndV, tOrV, tNotV, tIf, tAnd, tOr, tNot, tTest, tB, tCB, tCons, tNil, tC, tVar, tOp, tUn, tCal, tChain, tBM, tBM0, tDGet, tDGet2, tDIn, tSl, tPart, tNoPart, tYes, iRng1, iRng3, iList, iTup, iStr, iEnum, iEnumT, iKeys, tLenSetT, tDNewK, tTupIdx, sDPut, rAddI, rSubI, rMulI, rModI, rDivI, rPowI, rLtI, rLeI, rGtI, rGeI, rNegI, rI, rI0, rU])
local macro_rules | `(tactic| walk_at "rs") => `(tactic| dsimp only [tRet, tSeq, tIfS, tNext, tNever, tAsg, tDrop, tAug, ipI, gName, gTup, gCons, gNil, gSub, tTup, tLst, tAndV, tOrV, tNotV, tAnd, tOr, tNot, tTest, tB, tCB, tCons, tNil, tC, tVar, tOp, tUn, tCal, tChain, tBM, tBM0, tDGet, tDGet2, tDIn, tSl, tPart, tNoPart, tYes, iRng1, iRng3, iList, iTup, iStr, iEnum, iEnumT, iKeys, tLenSetT, tDNewK, tTupIdx, sDPut, rAddI, rSubI, rMulI, rModI, rDivI, rPowI, rLtI, rLeI, rGtI, rGeI, rNegI, rI, rI0, rU])
section
variable {K : PySem.W.Frag} {vs : List V} {H : Hp} {Q : VK} {E : XK}
theorem tups_ne_bag {l a : Addr} {rs : List (List V)} {n : Nat} (h : TupsAt H a rs) (hb : BagAt H l n) : l ≠ a := by
  rintro rfl
  obtain ⟨x, y, z, h1, _⟩ := hb
  obtain ⟨xs, h2, h3⟩ := h
  rw [h1] at h2
  have h2 := Option.some.inj h2
  injection h2 with h2
  obtain ⟨a, r, h4, _⟩ := h3.2 0 (.int x) (by rw [← h2]; rfl)
  cases h4
theorem Bent.exb {H' : Hp} {b r l e : Addr} {row : List Str} {w : Wd} {en : List Str} {n m : Nat} (B : Bent K H b r l e row w en n) (x : ExB b H H') (hb : BagAt H' b m) (hm : m ≤ 100000) : Bent K H' b r l e row w en m := ⟨B.three.exb x B.bag B.ne.2.1, B.ne, hb, hm, B.pos⟩
theorem Bent.ex {H' : Hp} {b r l e : Addr} {row : List Str} {w : Wd} {en : List Str} {n : Nat} (B : Bent K H b r l e row w en n) (x : Ex H H') : Bent K H' b r l e row w en n := ⟨B.three.ex x, B.ne, B.bag.ex x, B.n, B.pos⟩
theorem pLawBentRight (h : spBentRight K vs H Q E) : tLawBentRight K (En Q) (start nLawBentRight vs) H := by
  obtain ⟨b, r, l, e, t, row, w, en, n, rfl, B, hn, ⟨o, ho, hod⟩, hfw, hdt, q⟩ := h
  have T := B.three
  have hen : en.length ≤ 1000 := T.hen.small
  have hpos := B.pos
  have hnd := T.nodup
  have hks := kn_small T.hrow.small T.word.small
  have Td := three_told T hfw
  have D0 := told_deeds T hfw hdt
  have hbt := tups_ne_bag hdt B.bag
  obtain ⟨bs, hbs⟩ := B.bag.some
  unfold tLawBentRight
  walk_at "rd"
  refine fun D hD => ?_
  have hbD : b ≠ D := ne_of_none hbs hD
  have e0 := ex_new (o := .dK []) hD
  have T0 := T.ex e0
  refine ⟨_, rfl, _, rfl, r, l, row, w, rfl, T0.hrow, T0.word, fun mk H1 hmk e1 hM => ⟨mk, rfl, ?_⟩⟩
  obtain ⟨xs, hx, hT⟩ := hM
  have hxl : xs.length = (kn0 row w).length := by have := hT.1; simpa using this
  have hD1 : H1 D = some (.dK []) := e1 D _ upd_same
  have hmD : mk ≠ D := ne_of hx hD1 (by intro z; cases z)
  refine ⟨⟨xs, SqL.of hx⟩, for_list (xs := xs) (fun i σ' H' => ∃ a6 a7 a8 a9 a10 kvs, σ' = [some (.ref b), some (.ref r), some (.ref l), some (.ref e), some (.ref t), some (.ref D), a6, a7, a8, a9, a10] ∧ Ex H H' ∧ H' mk = some (.lst xs) ∧ Tups H' xs ((kn0 row w).map mV) ∧ H' D = some (.dK kvs) ∧ kvs.length ≤ i ∧ ∀ p c m, (p, c, m) ∈ (kn0 row w).take i → ∃ t : Addr, valV kvs (Sum.inr p) = some (V.ref t) ∧ H' t = some (.tup [.int (c : Nat), .int (m : Nat)]))
    ⟨none, none, none, none, none, [], rfl, e0.trans e1, hx, hT, hD1, Nat.le_refl _, fun p c m h => by simp at h⟩ (fun i σ' H' _ p => ?_) (fun i x σ' H' hx p => ?_) fun σ' H' p => ?_⟩
  · obtain ⟨_, _, _, _, _, _, _, _, h, _⟩ := p
    exact SqL.of h
  · obtain ⟨a6, a7, a8, a9, a10, kvs, rfl, e2, hm2, hT2, hD2, hkl, hk⟩ := p
    have hi := (List.getElem?_eq_some_iff.mp hx).1
    obtain ⟨ta, p, c, m, rfl, hp, hta⟩ := mark_get hT2 hx
    refine three_ok (SqT.of hta) ?_
    walk_at "rd"
    refine ⟨_, rfl, _, rfl, by show 2 ≤ sizeLine; decide, fun t2 ht2 => ?_⟩
    have e3 := ex_new (o := .tup [V.int (c : Nat), V.int (m : Nat)]) ht2
    have hD3 := e3 D _ hD2
    have hs : sizeLine = 16777216 := sizeLine_eq
    have te4 : TE' H' (upd (upd H' t2 (.tup [V.int (c : Nat), V.int (m : Nat)])) D (.dK (putK kvs (Sum.inr p) (.ref t2)))) := fun a r g => by
      rw [upd_ne (ne_of (e3 a _ g) hD3 (by intro z; cases z))]
      exact e3 a _ g
    refine ⟨_, rfl, _, rfl, D, _, rfl, DPut.k (k := Sum.inr p) hD3 (by omega), ?_⟩
    refine ⟨_, _, _, _, _, _, rfl, ex_put (e2.trans e3) hD, by rw [upd_ne hmD]; exact e3 mk _ hm2, hT2.te te4, upd_same, ?_, fun p' c' m' hm' => ?_⟩
    · have := keys_putK kvs (Sum.inr p) (.ref t2)
      have hl : (putK kvs (Sum.inr p) (.ref t2)).length = ((putK kvs (Sum.inr p) (.ref t2)).map (·.1)).length := (List.length_map ..).symm
      rw [hl]
      rcases this with ⟨_, e⟩ | ⟨_, e⟩ <;> rw [e] <;> simp <;> omega
    · rw [take_snoc hp] at hm'
      rcases List.mem_append.mp hm' with hm' | hm'
      · obtain ⟨t3, g1, g2⟩ := hk p' c' m' hm'
        refine ⟨t3, ?_, te4 _ _ g2⟩
        rw [valV_put, if_neg fun z => ?_]
        · exact g1
        · have z : p' = p := Sum.inr.inj z
          obtain ⟨j, hj⟩ := List.mem_iff_getElem?.mp hm'
          rw [List.getElem?_take] at hj
          by_cases hji : j < i
          · rw [if_pos hji] at hj
            have h1 : ((kn0 row w).map (·.1))[j]? = some p := by
              rw [List.getElem?_map, hj, z]
              rfl
            have h2 : ((kn0 row w).map (·.1))[i]? = some p := by
              rw [List.getElem?_map, hp]
              rfl
            have := nd_at hnd h1 h2
            omega
          · rw [if_neg hji] at hj
            cases hj
      · have hm' : (p', c', m') = (p, c, m) := by simpa using hm'
        cases hm'
        refine ⟨t2, by rw [valV_put, if_pos rfl], ?_⟩
        rw [upd_ne (ne_of_none hD2 ht2).symm, upd_same]
  · obtain ⟨a6, a7, a8, a9, a10, kvs, rfl, e2, hm2, hT2, hD2, hkl, hk⟩ := p
    rw [hxl, List.take_length] at hk
    have KA : KnAt H' D (kn0 row w) := ⟨kvs, hD2, hk⟩
    have B2 := B.ex e2
    walk_at "rd"
    refine forR1 4 (by decide) (fun C hC => by walk_at "rd"; exact hC) (fun j σ2 H2 => ∃ a9, σ2 = [some (.ref b), some (.ref r), some (.ref l), some (.ref e), some (.ref t), some (.ref D), a6, a7, a8, a9, a10] ∧ ExB b H' H2 ∧ BagAt H2 b (n + 2 * j))
      ⟨a9, rfl, ExB.refl b _, B2.bag⟩ (fun j σ2 H2 hj p => ?_) fun σ2 H2 p => ?_
    · obtain ⟨a9, rfl, e3, hb3⟩ := p
      walk_at "rd"
      refine ⟨_, rfl, _, rfl, _, rfl, _, rfl, _, rfl, b, r, l, e, D, row, w, en, n + 2 * j, rfl, B2.exb e3 hb3 (by omega), KA.exb e3 B2.bag, fun H3 e4 hb4 => ⟨_, rfl, iteF ?_⟩⟩
      exact ⟨_, rfl, e3.trans e4, hb4⟩
    · obtain ⟨a9, rfl, e3, hb3⟩ := p
      have B3 := B2.exb e3 hb3 (by omega)
      have ho3 : H2 e = some (.frz o (.tup (vS en))) := e3 e _ B.ne.2.2.symm (e2 e _ ho)
      have D3 : DeedsOf H2 row t (hist (wishOf en) row w) := (D0.ex e2).exb e3 B2.bag hbt
      have hvl : (vS en).length = en.length := vS_len en
      walk_at "rd"
      refine ⟨_, rfl, _, rfl, _, rfl, lenT B3.three.hen.at_ (take_ok (m := (vS en).length) hb3 (by omega) (by omega) (by omega) fun k o3 hk3 hb4 eb4 => ?_)⟩
      rw [hvl] at hk3
      have hxk : en[k]? = some en[k] := List.getElem?_eq_getElem hk3
      have B4 := B3.exb eb4 hb4 (by omega)
      have ho4 := eb4 e _ B.ne.2.2.symm ho3
      have D4 := D3.exb eb4 hb3 hbt
      have okx : OkName en[k] := T.hen.ok _ (List.getElem_mem hk3)
      refine ixT B4.three.hen.at_ (vS_at hxk) ?_
      generalize hhs : hist (wishOf en) row w = hs at D4 Td
      have hrun := Td.run
      obtain ⟨ini, hini, hinl⟩ := rowsL_snoc hs row
      rw [hrun] at hini
      have hsl : hs.length ≤ 1000 := D4.small
      have hRl : ((rowsL row hs).map (plV en[k])).length = hs.length + 1 := by rw [List.length_map, hini]; simp [hinl]
      have hidx : en.idxOf en[k] = k := by
        have := wish_some T.hen.nd hxk
        unfold wishOf at this
        rw [if_pos (List.getElem_mem hk3)] at this
        exact Option.some.inj this
      have hlastv : (((rowsL row hs).map (plV en[k]))[hs.length]?).getD .non = .int (k : Nat) := by
        rw [hini, List.map_append, List.getElem?_append_right (by simp [hinl])]
        simp only [List.length_map, hinl, Nat.sub_self, List.map_cons, List.map_nil, List.getElem?_cons_zero, Option.getD_some]
        unfold plV
        rw [if_pos (List.getElem_mem hk3), hidx]
      refine ⟨_, rfl, _, rfl, _, rfl, r, t, row, hs, en[k], rfl, B4.three.hrow, D4, okx, fun pl H5 hpl e5 hP => ⟨pl, rfl, ⟨_, SqL.of hP⟩, fun D' hD' => lc_gen (walk_list (xs := (rowsL row hs).map (plV en[k]))) (fun i => !decide ((((rowsL row hs).map (plV en[k]))[i]?).getD .non = .non)) (fun i v _ => v = (((rowsL row hs).map (plV en[k]))[i]?).getD .non) (fun _ _ _ _ _ h => h) hD' (by omega) (fun H' e => SqL.of (e pl _ hP)) (fun i x H6 H7 N C hi e6 y hN hC => ?_) (fun H6 ys e6 hx6 ha6 => ?_)⟩⟩
      · obtain ⟨rfl, hy⟩ := y
        have hv : (((rowsL row hs).map (plV en[k]))[i]?).getD .non = x := by rw [hy]; rfl
        simp only [hv] at hN hC
        refine ⟨rfl, ?_⟩
        walk_at "rd"
        refine ⟨_, rfl, rfl, _, rfl, ?_⟩
        cases hb : (!decide (x = V.non)) with
        | false => exact iteF (hN hb _ (Same.refl _))
        | true => exact iteT ⟨_, rfl, hC hb _ _ (Same.refl _) rfl⟩
      · have hy := allR_map ha6
        rw [hRl, List.range_succ, List.filter_append, List.filter_cons, hlastv] at hy
        simp only [reduceCtorEq, decide_false, Bool.not_false, if_true, List.filter_nil, List.map_append, List.map_cons, List.map_nil, hlastv] at hy
        rw [hy] at hx6
        have e56 := e5.trans e6
        have ho6 := e56 e _ ho4
        refine ⟨1, rfl, ixLast (SqL.of hx6) ⟨_, rfl, ⟨e, o, _, rfl, ho6, hod⟩, _, rfl, e, en, en[k], k, rfl, rfl, .inl (.inr ⟨o, ho6⟩), hxk, fun m hm hxm => ?_, eqI ?_⟩⟩
        · have := nd_at T.hen.nd hxm hxk
          omega
        · rw [decide_eq_true rfl]
          exact q _ (((exb_of e2).trans e3).trans eb4 |>.ex e56)
end
end K60

namespace K60
open PySem PySem.Spec PyProof.Rows L2 Lf
local macro_rules | `(tactic| walk_at "rd") => `(tactic| dsimp only [tRet, tSeq, tIfS, tNext, tNever, tAsg, tDrop, tAug, ipI, gName, gTup, gCons, gNil, gSub, tTup, tLst, tAndV, tOrV, tNotV, tIf, tAnd, tOr, tNot, tTest, tB, tCB, tCons, tNil, tC, tVar, tOp, tUn, tCal, tChain, tBM, tBM0, tDGet, tDGet2, tDIn, tSl, tPart, tNoPart, tYes, iRng1, iRng3, iList, iTup, iStr, iEnum, iEnumT, iKeys, tLenSetT, tDNewK, tTupIdx, sDPut, rAddI, rSubI, rMulI, rModI, rDivI, rPowI, rLtI, rLeI, rGtI, rGeI, rNegI, rI, rI0, rU])
local macro_rules | `(tactic| walk_at "rs") => `(tactic| dsimp only [tRet, tSeq, tIfS, tNext, tNever, tAsg, tDrop, tAug, ipI, gName, gTup, gCons, gNil, gSub, tTup, tLst, tAndV, tOrV, tNotV, tAnd, tOr, tNot, tTest, tB, tCB, tCons, tNil, tC, tVar, tOp, tUn, tCal, tChain, tBM, tBM0, tDGet, tDGet2, tDIn, tSl, tPart, tNoPart, tYes, iRng1, iRng3, iList, iTup, iStr, iEnum, iEnumT, iKeys, tLenSetT, tDNewK, tTupIdx, sDPut, rAddI, rSubI, rMulI, rModI, rDivI, rPowI, rLtI, rLeI, rGtI, rGeI, rNegI, rI, rI0, rU])
theorem pick_range {α β : Type} (xs : List α) (f : α → Bool) (g : α → β) (dflt : β) : ∀ n, n ≤ xs.length → ((List.range n).filter fun i => ((xs[i]?).map f).getD false).map (fun i => ((xs[i]?).map g).getD dflt) = ((xs.take n).filter f).map g
  | 0, _ => by simp
  | n + 1, h => by
    have hx : xs[n]? = some xs[n] := List.getElem?_eq_getElem (by omega)
    rw [List.range_succ, List.filter_append, List.map_append, pick_range xs f g dflt n (by omega), take_snoc hx, List.filter_append, List.map_append]
    congr 1
    cases hf : f xs[n] <;> simp [hx, hf]
/-- spots, read while the dict is locked -/
def FzSp (H : Hp) (d : Addr) (sp : List (Str × List Nat)) : Prop := ∀ p L, (p, L) ∈ sp → ∃ (la : Addr) (od : Obj) (kvs : List (Key × V)), H d = some (.frz od (.dK kvs)) ∧ valV kvs (Sum.inr p) = some (.ref la) ∧ H la = some (.lst (iV L))
theorem FzSp.get {H : Hp} {d : Addr} {sp : List (Str × List Nat)} (h : FzSp H d sp) {p : Str} {L : List Nat} (hp : (p, L) ∈ sp) : ∃ la : Addr, DGet H d (.str p) (some (.ref la)) ∧ H la = some (.lst (iV L)) := by
  obtain ⟨la, od, kvs, h1, h2, h3⟩ := h p L hp
  exact ⟨la, .inl ⟨kvs, Sum.inr p, .inr ⟨od, h1⟩, rfl, h2.symm⟩, h3⟩
theorem FzSp.ex {H H' : Hp} {d : Addr} {sp : List (Str × List Nat)} (h : FzSp H d sp) (e : Ex H H') : FzSp H' d sp := fun p L hp => by
  obtain ⟨la, od, kvs, h1, h2, h3⟩ := h p L hp
  exact ⟨la, od, kvs, e d _ h1, h2, e la _ h3⟩
section
variable {K : PySem.W.Frag} {H : Hp} {Q : VK}
theorem spv {sp : List (Str × List Nat)} {kvs : List (Key × V)} (hk : (sp.map (·.1)).Nodup) (hl : kvs.length = sp.length) (h : ∀ (i : Nat) (kv : Key × V), kvs[i]? = some kv → ∃ (p : Str) (L : List Nat) (a : Addr), sp[i]? = some (p, L) ∧ kv = (Sum.inr p, V.ref a) ∧ H a = some (.lst (L.map fun n => .int (n : Nat)))) {p : Str} {L : List Nat} (hp : (p, L) ∈ sp) : ∃ a : Addr, valV kvs (Sum.inr p) = some (.ref a) ∧ H a = some (.lst (iV L)) := by
  have keys : kvs.map (·.1) = (sp.map (·.1)).map Sum.inr := by
    refine List.ext_getElem? fun i => ?_
    rw [List.getElem?_map, List.getElem?_map, List.getElem?_map]
    by_cases hi : i < kvs.length
    · have e : kvs[i]? = some kvs[i] := List.getElem?_eq_getElem hi
      obtain ⟨p, L, a, y1, y2, _⟩ := h i _ e
      rw [e, y1, y2]
      rfl
    · rw [List.getElem?_eq_none (by omega), List.getElem?_eq_none (by omega)]
      rfl
  have hnd : (kvs.map (·.1)).Nodup := by
    rw [keys]
    have : ∀ l : List Str, l.Nodup → (l.map (Sum.inr (α := Int))).Nodup := by
      intro l
      induction l with
      | nil => intro _; exact List.nodup_nil
      | cons a r ih =>
        intro h
        rw [List.nodup_cons] at h
        rw [List.map_cons, List.nodup_cons]
        refine ⟨fun hm => ?_, ih h.2⟩
        obtain ⟨b, hb, e⟩ := List.mem_map.mp hm
        exact h.1 (by rw [← Sum.inr.inj e]; exact hb)
    exact this _ hk
  obtain ⟨i, hi⟩ := List.mem_iff_getElem?.mp hp
  have hlt := (List.getElem?_eq_some_iff.mp hi).1
  have e : kvs[i]? = some kvs[i] := List.getElem?_eq_getElem (by omega)
  obtain ⟨p', L', a, y1, y2, y3⟩ := h i _ e
  rw [hi] at y1
  cases y1
  refine ⟨a, valV_of hnd ?_, y3⟩
  rw [← y2]
  exact List.getElem_mem _
theorem SpAt.get {d : Addr} {sp : List (Str × List Nat)} (S : SpAt H d sp) (hk : (sp.map (·.1)).Nodup) {p : Str} {L : List Nat} (hp : (p, L) ∈ sp) : ∃ a : Addr, DGet H d (.str p) (some (.ref a)) ∧ H a = some (.lst (iV L)) := by
  obtain ⟨kvs, h1, h2, h3⟩ := S
  obtain ⟨a, g1, g2⟩ := spv hk h2 h3 hp
  exact ⟨a, by rw [← g1]; exact DGet.k (k := Sum.inr p) h1, g2⟩
/-- a comprehension over the spots' names -/
theorem keys_lc {sl x : Nat} {tt : TT} {σ : L2.St} {d : Addr} {sp : List (Str × List Nat)} (hsl : (wipe σ [x])[sl]? = some (some (.ref d)) ∧ σ[sl]? = some (some (.ref d))) (hw : ∀ v, wipe ((wipe σ [x]).set x (some v)) [x] = wipe σ [x]) (hx : ∀ v, ((wipe σ [x]).set x (some v))[x]? = some (some v)) (S : SpAt H d sp) (hk : (sp.map (·.1)).Nodup) (hn : sp.length ≤ 100000) (t : Str × List Nat → Bool)
    (hs : ∀ (i : Nat) (z : Str × List Nat) (H' : Hp) (C : Bool → Hp → Prop), sp[i]? = some z → (∀ a o, a ≠ d → H a = some o → H' a = some o) → FzSp H' d sp → (∀ H2, Ex H' H2 → C (t z) H2) → tt ((wipe σ [x]).set x (some (.str z.1))) H' C)
    (hd : ∀ D H', H D = none → Ex H H' → H' D = some (.lst (vS ((sp.filter t).map (·.1)))) → Q (.ref D) H') :
    tLockE (tLc (iKeys (tVar sl)) (gName x) tt (tVar x) [x]) σ H Q := by
  obtain ⟨kvs, h1, h2, h3⟩ := S
  refine ⟨d, _, h1, ?_, fun od => ?_⟩
  · exact trivial
  have hfz : FzSp (upd H d (.frz od (.dK kvs))) d sp := fun p L hp => by
    obtain ⟨a, g1, g2⟩ := spv hk h2 h3 hp
    refine ⟨a, od, kvs, upd_same, g1, ?_⟩
    rw [upd_ne (ne_of g2 h1 (by intro z; cases z))]
    exact g2
  refine ⟨_, hsl.2, d, od, rfl, .inl ⟨kvs, upd_same, fun D hD => lc_gen (walk_keys (kvs := kvs)) (fun i => ((sp[i]?).map t).getD false) (fun i v _ => v = .str (((sp[i]?).map (·.1)).getD Str.empty)) (fun _ _ _ _ _ h => h) hD (by omega) (fun H' e => e d _ upd_same) (fun i y H4 H5 N C hi e6 yy hN hC => ?_) (fun H4 ys e6 hx4 ha => ?_)⟩⟩
  · obtain ⟨rfl, k, v, hkv, rfl⟩ := yy
    obtain ⟨p, L, a, g1, g2, g3⟩ := h3 i _ hkv
    cases g2
    have ht : ((sp[i]?).map t).getD false = t (p, L) := by rw [g1]; rfl
    have hnm : ((sp[i]?).map (·.1)).getD Str.empty = p := by rw [g1]; rfl
    rw [ht] at hN hC
    refine ⟨hw _, ?_⟩
    refine hs i (p, L) _ _ g1 (fun b u hb hbu => e6 b _ (by rw [upd_ne hb]; exact hbu)) (hfz.ex e6) fun H6 e7 => ?_
    · cases htt : t (p, L) with
      | false => exact hN htt _ e7
      | true =>
        rw [if_pos rfl]
        refine ⟨_, hx _, ?_⟩
        refine hC htt _ _ e7 ?_
        rw [hnm]
        rfl
  · have hy := allR_map ha
    have hfl : (List.range kvs.length).filter (fun i => ((sp[i]?).map t).getD false) = (List.range sp.length).filter fun i => ((sp[i]?).map t).getD false := by rw [h2]
    rw [hfl] at hy
    have h5 := pick_range sp t (·.1) Str.empty sp.length (Nat.le_refl _)
    rw [List.take_length] at h5
    have hDd : D ≠ d := by
      rintro rfl
      rw [upd_same] at hD
      cases hD
    refine ⟨e6 d _ upd_same, hd D _ (by rw [upd_ne hDd] at hD; exact hD) (fun b u hbu => ?_) ?_⟩
    · by_cases hbd : b = d
      · subst hbd
        rw [upd_same, ← hbu, h1]
      · rw [upd_ne hbd]
        exact e6 b _ (by rw [upd_ne hbd]; exact hbu)
    · rw [upd_ne hDd, hx4, hy, ← h5, vS, List.map_map]
      rfl
end
end K60

namespace K60
open PySem PySem.Spec PyProof.Rows L2 Lf
local macro_rules | `(tactic| walk_at "rd") => `(tactic| dsimp only [tRet, tSeq, tIfS, tNext, tNever, tAsg, tDrop, tAug, ipI, gName, gTup, gCons, gNil, gSub, tTup, tLst, tAndV, tOrV, tNotV, tIf, tAnd, tOr, tNot, tTest, tB, tCB, tCons, tNil, tC, tVar, tOp, tUn, tCal, tChain, tBM, tBM0, tDGet, tDGet2, tDIn, tSl, tPart, tNoPart, tYes, iRng1, iRng3, iList, iTup, iStr, iEnum, iEnumT, iKeys, tLenSetT, tDNewK, tTupIdx, sDPut, rAddI, rSubI, rMulI, rModI, rDivI, rPowI, rLtI, rLeI, rGtI, rGeI, rNegI, rI, rI0, rU])
local macro_rules | `(tactic| walk_at "rs") => `(tactic| dsimp only [tRet, tSeq, tIfS, tNext, tNever, tAsg, tDrop, tAug, ipI, gName, gTup, gCons, gNil, gSub, tTup, tLst, tAndV, tOrV, tNotV, tAnd, tOr, tNot, tTest, tB, tCB, tCons, tNil, tC, tVar, tOp, tUn, tCal, tChain, tBM, tBM0, tDGet, tDGet2, tDIn, tSl, tPart, tNoPart, tYes, iRng1, iRng3, iList, iTup, iStr, iEnum, iEnumT, iKeys, tLenSetT, tDNewK, tTupIdx, sDPut, rAddI, rSubI, rMulI, rModI, rDivI, rPowI, rLtI, rLeI, rGtI, rGeI, rNegI, rI, rI0, rU])
theorem tups_allR {H : Hp} {xs : List V} {rs : List (List V)} {n : Nat} (h : AllR (fun i v H => ∃ (a : Addr) (r : List V), v = .ref a ∧ rs[i]? = some r ∧ H a = some (.tup r)) H xs (List.range n)) (hn : n = rs.length) : Tups H xs rs := by
  refine ⟨by rw [h.1, List.length_range, hn], fun i x hx => ?_⟩
  obtain ⟨j, h1, a, r, h2, h3, h4⟩ := h.2 i x hx
  have hj : i = j := by
    have hlt := (List.getElem?_eq_some_iff.mp hx).1
    rw [h.1, List.length_range] at hlt
    rw [List.getElem?_range hlt] at h1
    exact Option.some.inj h1
  subst hj
  exact ⟨a, r, h2, h3, h4⟩
theorem scal_vS (xs : List Str) : (vS xs).all scal1 = true := by
  unfold vS
  rw [List.all_map]
  exact List.all_eq_true.mpr fun _ _ => rfl
theorem ok_word {w : Wd} (h : ∀ x, some x ∈ w → OkName x) : ∀ r ∈ w.map wV, ∀ v ∈ r, okV v = true := by
  intro r hr v hv
  obtain ⟨d, hd, rfl⟩ := List.mem_map.mp hr
  cases d with
  | none =>
    have hv : v ∈ [V.str "out"] := hv
    have : v = .str "out" := by simpa using hv
    rw [this]
    decide +kernel
  | some x =>
    have hv : v ∈ [V.str "in", V.str x] := hv
    rcases List.mem_cons.mp hv with rfl | hv
    · decide +kernel
    · have : v = .str x := by simpa using hv
      rw [this]
      exact okV_name (h x hd)
theorem ex_bag {H H1 H2 : Hp} {b : Addr} (e : Ex H H1) (hb : H b = none) (x : ExB b H1 H2) : Ex H H2 := fun a o h => x a o (ne_of_none h hb) (e a o h)
theorem lsts_last {H : Hp} {ys : List V} {ini : List (List Str)} {en : List Str} (h : Lsts H ys ((ini ++ [en]).map vS)) : ∃ ys0 la, ys = ys0 ++ [V.ref la] ∧ H la = some (.lst (vS en)) := by
  have hl : ys.length = ini.length + 1 := by rw [h.1]; simp
  have hy : ys[ini.length]? = some (ys[ini.length]'(by omega)) := List.getElem?_eq_getElem _
  obtain ⟨a, r, h1, h2, h3⟩ := h.2 ini.length _ hy
  have h2 : some (vS en) = some r := by
    rw [← h2, List.map_append, List.getElem?_append_right (by simp)]
    simp
  cases h2
  refine ⟨ys.take ini.length, a, ?_, h3⟩
  rw [← h1]
  have := take_snoc hy
  rw [← this, List.take_of_length_le (by omega)]
section
variable {K : PySem.W.Frag} {vs : List V} {H : Hp} {Q : VK} {E : XK}
theorem pLaw (h : spLaw K vs H Q E) : tLaw K (En Q) (start nLaw vs) H := by
  obtain ⟨a, ns, rfl, hS, hns, q⟩ := h
  unfold tLaw
  obtain ⟨n, hn⟩ : ∃ n : Nat, (if (if ((ns.map V.int).length : Int) < 2 then ((ns.map V.int).length : Int) else 2) > 1 then (if ((ns.map V.int).length : Int) < 2 then ((ns.map V.int).length : Int) else 2) else 1) = (n : Int) ∧ n ≤ 2 := by
    refine ⟨(if (if ((ns.map V.int).length : Int) < 2 then ((ns.map V.int).length : Int) else 2) > 1 then (if ((ns.map V.int).length : Int) < 2 then ((ns.map V.int).length : Int) else 2) else 1).toNat, ?_, ?_⟩
    · split <;> split at * <;> omega
    · split <;> split at * <;> omega
  refine forR1 n (by omega) (fun C hC => ?_) (fun k σ' H' => ∃ ss, σ' = some (.ref a) :: ss ∧ ss.length = 16 ∧ Ex H H') ⟨_, rfl, rfl, Same.refl _⟩ (fun k σ' H0 hk p => ?_) fun σ' H' p => ?_
  · walk_at "rd"
    refine ⟨_, rfl, lenL hS ⟨_, _, rfl, _, _, rfl, ?_⟩⟩
    rw [hn.1]
    exact hC
  · have hn2 := hn.2
    clear hn
    obtain ⟨ss, rfl, hss, e0⟩ := p
    match ss, hss with
    | [s1, s2, s3, s4, s5, s6, s7, s8, s9, s10, s11, s12, s13, s14, s15, s16], _ =>
    walk_at "rd"
    refine ⟨_, rfl, _, rfl, a, ns, k, rfl, Same.seq e0 hS, fun c H1 e1 => ?_⟩
    refine ⟨_, rfl, c, k, rfl, (by omega), fun b H2 hbn e2 hbag => ?_⟩
    have hb0 : H b = none := e0.free (e1.free hbn)
    have e02 := (e0.trans e1).trans e2
    refine ⟨_, rfl, take_ok (m := 31) hbag (by decide) (by decide) (by omega) fun m o1 hm hb3 eb3 => ?_⟩
    have hHb : ∀ H', ExB b H2 H' → Ex H H' := fun H' x => ex_bag e02 hb0 x
    refine ⟨_, rfl, _, rfl, _, rfl, take_ok (m := 40) hb3 (by decide) (by decide) (by omega) fun m2 o2 hm2 hb4 eb4 => ?_⟩
    refine ⟨_, _, rfl, rfl, b, m + m2, _, rfl, by omega, by omega, hb4, fun nm xs H5 hnm hnb eb5 hb5 hx5 hxl hxn hxo => ?_⟩
    refine ⟨_, rfl, _, rfl, _, rfl, _, rfl, take_ok (m := 81) hb5 (by decide) (by decide) (by omega) fun asks o6 hasks hb6 eb6 => ?_⟩
    refine ⟨b, nm, xs, m, asks, _, rfl, eb6 nm _ hnb hx5, hxn, hxo, by omega, by omega, by omega, by omega, hb6, fun dl ds H7 hdl hdb eb7 hb7 D7 hds => ?_⟩
    try dsimp only [List.set]
    have x7 : ExB b H2 H7 := (((eb3.trans eb4).trans eb5).trans eb6).trans eb7
    have hx7 := eb7 nm _ hnb (eb6 nm _ hnb hx5)
    have ecut : cutV (vS xs) none (some (m : Nat)) = vS (xs.take m) := by
      unfold cutV
      have h1 : HT.sIx (vS xs).length 0 none = 0 := rfl
      have h2 : HT.sIx (vS xs).length (vS xs).length (some (m : Nat)) = m := by
        rw [vS_len, HT.sIx_nat]
        exact Nat.min_eq_left (by omega)
      rw [h1, h2, List.drop_zero, Nat.sub_zero, vS, vS, List.map_take]
    refine ⟨_, rfl, _, rfl, _, rfl, nm, _, rfl, SqL.of hx7, fun sl hsl => ?_⟩
    rw [ecut]
    refine ⟨sl, _, rfl, .inl ⟨SqL.of upd_same, fun ra hra => ?_⟩⟩
    generalize hrow : xs.take m = row at D7 hra
    have hrl : row.length ≤ 30 := by
      rw [← hrow, List.length_take]
      omega
    have e8 := (ex_new (o := .lst (vS row)) hsl).trans (ex_new (o := .tup (vS row)) hra)
    have R : RowAt K (upd (upd H7 sl (.lst (vS row))) ra (.tup (vS row))) ra row := ⟨SqT.of upd_same, by rw [← hrow]; exact List.Nodup.sublist (List.take_sublist _ _) hxn, fun x hx => hxo x (by rw [← hrow] at hx; exact List.mem_of_mem_take hx), by show row.length ≤ 1000; omega⟩
    have D8 := D7.ex e8
    refine ⟨_, rfl, _, rfl, ra, dl, row, ds, rfl, R, D8, fun rl H9 hrl9 e9 L9 => ?_⟩
    try dsimp only [List.set]
    obtain ⟨ys, hy, hL⟩ := id L9
    obtain ⟨ini, hini, hinl⟩ := rowsL_snoc ds row
    obtain ⟨ys0, la, rfl, hla⟩ := lsts_last (by rw [← hini]; exact hL)
    refine ⟨_, rfl, 1, rfl, ixLast (SqL.of hy) ⟨la, _, rfl, SqL.of hla, fun ea oe hea hoe => ?_⟩⟩
    try dsimp only [List.set]
    have e10 := ex_new (o := .frz oe (.tup (vS (runD row ds)))) hea
    have D10 := (D8.ex e9).ex e10
    obtain ⟨xd, hxd, hTd⟩ := id D10.at_
    have hxdl : xd.length = ds.length := by have := hTd.1; simpa using this
    refine ⟨_, rfl, dl, rfl, ⟨xd, SqL.of hxd⟩, fun wl hwl => lc_gen (walk_list (xs := xd)) (fun _ => true) (fun i v H' => ∃ (a : Addr) (r : List V), v = .ref a ∧ ((wordOf ds).map wV)[i]? = some r ∧ H' a = some (.tup r)) (fun i v H1 H2 t g => by obtain ⟨a, r, g1, g2, g3⟩ := g; exact ⟨a, r, g1, g2, t a r g3⟩) hwl (by omega) (fun H' e => SqL.of (e dl _ hxd)) (fun i x H4 H5 N C hi e6 y hN hC => ?_) (fun H11 ws e11 hws haw => ?_)⟩
    · obtain ⟨rfl, hy⟩ := y
      obtain ⟨da, d, rfl, hd, hda⟩ := deed_get hTd hy
      have hda := e6 da _ hda
      have hwi : ((wordOf ds).map wV)[i]? = some (wV (sgn d)) := by
        rw [List.getElem?_map, wordOf, List.getElem?_map, hd]
        rfl
      refine ⟨rfl, ?_⟩
      walk_at "rd"
      cases d with
      | inn z =>
        refine iteT ⟨_, rfl, ixT0 hda (eqS ⟨_, rfl, iteT ⟨_, rfl, hC rfl _ _ (Same.refl _) ⟨da, _, rfl, hwi, hda⟩⟩⟩)⟩
      | out z =>
        refine iteT ⟨_, rfl, ixT0 hda (eqS ⟨_, rfl, ?_⟩)⟩
        rw [in_ne_out]
        exact iteF ⟨by show 1 ≤ sizeLine; decide, fun t ht => hC rfl _ _ (ex_new ht) ⟨t, _, rfl, hwi, upd_same⟩⟩
    try dsimp only [List.set]
    have hea11 := e11 ea _ upd_same
    have hW : WordAt H11 wl (wordOf ds) := ⟨ws, hws, tups_allR haw.all (by rw [List.length_map, wordOf_len, hxdl])⟩
    have T : Three K H11 ra wl ea row (wordOf ds) (runD row ds) := lived_three (((R.ex e9).ex e10).ex e11) hW (.inl (.inr ⟨oe, hea11⟩)) D7.okd D7.ok (by omega)
    have hfw := lived_right T D7.okd
    have Td := three_told T hfw
    refine ⟨_, rfl, _, rfl, _, rfl, ra, wl, ea, row, _, _, rfl, T, fun H12 e12 => ?_⟩
    rw [hfw]
    refine .inl ⟨_, rfl, rfl, fun H13 e13 => ⟨_, rfl, iteF ?_⟩⟩
    have e13 := e12.trans e13
    refine ⟨_, rfl, _, rfl, _, rfl, ra, wl, ea, row, _, _, rfl, T.ex e13, fun _ H14 e14 => ⟨rfl, _, rfl, iteF ?_⟩, fun i x hf => by rw [hfw] at hf; cases hf⟩
    have e14 := e13.trans e14
    refine ⟨_, rfl, _, rfl, _, rfl, ra, wl, ea, row, _, _, rfl, T.ex e14, hfw, fun ta H15 hta e15 ht15 => ?_⟩
    try dsimp only [List.set]
    have e15' := e14.trans e15
    have D15 := told_deeds (T.ex e15') hfw ht15
    obtain ⟨hs, hhs⟩ : ∃ hs, hs = hist (wishOf (runD row ds)) row (wordOf ds) := ⟨_, rfl⟩
    rw [← hhs] at D15 ht15 Td
    obtain ⟨en, hen⟩ : ∃ en, en = runD row ds := ⟨_, rfl⟩
    rw [← hen] at T Td hfw hea11 hhs
    have hshl : hs.length = ds.length := by rw [← wordOf_len, Td.word, wordOf_len]
    have R15 := (T.ex e15').hrow
    refine ⟨_, rfl, _, rfl, ra, ta, row, hs, rfl, R15, D15, fun pp pe pg H16 e16 hpp hpe => ixT0 hpp ⟨_, rfl, ?_⟩⟩
    rw [Td.run] at hpe
    have e16' := e15'.trans e16
    refine .inr ⟨pe, ea, vS en, rfl, .inl ⟨SqT.of hpe, (T.ex e16').hen.at_⟩, scal_vS en, (by show (vS en).length ≤ 1000; rw [vS_len]; exact T.hen.small), fun H17 e17 => ⟨_, rfl, iteF ?_⟩⟩
    try dsimp only [List.set]
    have e17' := e16'.trans e17
    have D17 := (D15.ex e16).ex e17
    obtain ⟨xt, hxt, hTt⟩ := id D17.at_
    have hxtl : xt.length = hs.length := by have := hTt.1; simpa using this
    have okW := ok_word T.word.ok
    refine ⟨_, rfl, ta, rfl, ⟨xt, SqL.of hxt⟩, fun dn hdn => lc_gen (walk_list (xs := xt)) (fun _ => true) (fun i v H' => ∃ (a : Addr) (r : List V), v = .ref a ∧ ((wordOf ds).map wV)[i]? = some r ∧ H' a = some (.tup r)) (fun i v H1 H2 t g => by obtain ⟨a, r, g1, g2, g3⟩ := g; exact ⟨a, r, g1, g2, t a r g3⟩) hdn (by omega) (fun H' e => SqL.of (e ta _ hxt)) (fun i x H4 H5 N C hi e6 y hN hC => ?_) (fun H18 ts e18 hts hat => ?_)⟩
    · obtain ⟨rfl, hy⟩ := y
      obtain ⟨da, d, rfl, hd, hda⟩ := deed_get hTt hy
      have hda := e6 da _ hda
      have hwi : ((wordOf ds).map wV)[i]? = some (wV (sgn d)) := by
        rw [← Td.word, List.getElem?_map, wordOf, List.getElem?_map, hd]
        rfl
      refine ⟨rfl, ?_⟩
      walk_at "rd"
      cases d with
      | inn z =>
        refine iteT ⟨_, rfl, ixT0 hda (eqS ⟨_, rfl, iteT ⟨_, rfl, hC rfl _ _ (Same.refl _) ⟨da, _, rfl, hwi, hda⟩⟩⟩)⟩
      | out z =>
        refine iteT ⟨_, rfl, ixT0 hda (eqS ⟨_, rfl, ?_⟩)⟩
        rw [in_ne_out]
        exact iteF ⟨_, rfl, _, rfl, da, _, rfl, SqT.of hda, (by rintro ⟨_, h⟩; have h : (1 : Nat) = 2 := h; omega), fun t ht => hC rfl _ _ (ex_new ht) ⟨t, _, rfl, hwi, upd_same⟩⟩
    try dsimp only [List.set]
    have e18' := e17'.trans e18
    have hW18 : TupsAt H18 dn ((wordOf ds).map wV) := ⟨ts, hts, tups_allR hat.all (by rw [List.length_map, wordOf_len, hxtl, hshl])⟩
    refine ⟨_, rfl, ne_same_tups hW18 (hW.ex e18') okW ⟨_, rfl, iteF ?_⟩⟩
    have D18 := D17.ex e18
    refine ⟨_, rfl, _, rfl, ra, ta, row, hs, rfl, (T.ex e18').hrow, D18, fun rl2 H19 hrl2 e19 L19 => ⟨rl2, rowsL row hs, rfl, L19, (by show (rowsL row hs).length ≤ 1000; rw [rowsL_len]; omega), (fun r hr => by have := rows_le hs row r hr; show r.length ≤ 1000; omega), fun sd sp H20 hsd e20 S20 Sp20 => ?_⟩⟩
    have e20' := (e18'.trans e19).trans e20
    have L20 : LstsAt H20 rl ((rowsL row ds).map vS) := ((L9.ex e10).ex e11).ex e20'
    refine ⟨_, rfl, rl, rowsL row ds, rfl, L20, (by show (rowsL row ds).length ≤ 1000; rw [rowsL_len]; omega), (fun r hr => by have := rows_le ds row r hr; show r.length ≤ 1000; omega), fun sd2 sp2 H21 hsd2 e21 S21 Sp21 => ?_⟩
    try dsimp only [List.set]
    have mv := mv_of Td T.hen.nd T.nodup Sp20
    have e21' := e20'.trans e21
    have S21' := S20.ex e21
    have hea21 := e21' ea _ hea11
    have sdne : ea ≠ sd := by
      obtain ⟨kvs, h1, _⟩ := S21'
      exact ne_of hea21 h1 (by intro z; cases z)
    have hspl : sp.length ≤ 100000 := by
      have h1 := nodup_le (l := sp.map (·.1)) (xs := (kn0 row (wordOf ds)).map (·.1)) mv.keys fun p hp => by
        obtain ⟨z, hz, rfl⟩ := List.mem_map.mp hp
        obtain ⟨i, hi⟩ := Sp20.fil z.1 z.2 hz
        obtain ⟨c, M, hm, _⟩ := mv.of z.1 z.2 hz i hi
        exact List.mem_map.mpr ⟨_, hm, rfl⟩
      have h2 := kn_small T.hrow.small T.word.small
      rw [List.length_map, List.length_map] at h1
      omega
    refine keys_lc (sl := 11) (x := 16) ⟨rfl, rfl⟩ (fun _ => rfl) (fun _ => rfl) S21' mv.keys hspl (fun z => decide (z.1 ∈ en) && decide (1 < z.2.length)) (fun i z H' C hz hst hfz hC => ?_) (fun DD H22 hDD e22 hx22 => ?_)
    · walk_at "rd"
      refine ⟨_, rfl, _, rfl, in_ok (.inr (.inl (.inr ⟨oe, hst ea _ sdne hea21⟩))) ⟨_, rfl, ?_⟩⟩
      obtain ⟨p, L⟩ := z
      by_cases hin : p ∈ en
      · rw [decide_eq_true hin]
        obtain ⟨lz, g1, g2⟩ := hfz.get (List.mem_of_getElem? hz)
        refine iteT ⟨_, rfl, _, rfl, sd, .ref lz, rfl, g1, lenL (SqL.of g2) ⟨_, _, rfl, rfl, _, rfl, ?_⟩⟩
        have := hC H' (Same.refl _)
        simp only [decide_eq_true hin, Bool.true_and] at this
        have el : decide (1 < (((iV L).length : Nat) : Int)) = decide (1 < L.length) := by
          rw [List.length_map]
          by_cases h : 1 < L.length
          · rw [decide_eq_true h, decide_eq_true (by omega)]
          · rw [decide_eq_false h, decide_eq_false (by omega)]
        rw [el]
        exact this
      · rw [decide_eq_false hin]
        have := hC H' (Same.refl _)
        simp only [decide_eq_false hin, Bool.false_and] at this
        exact iteF this
    try dsimp only [List.set]
    have e22' := e21'.trans e22
    refine ⟨DD, dueL en sp, rfl, SqL.of hx22, fun due dp hdperm hdsort hdp => ?_⟩
    have e23 := ex_new (o := .lst (due.map V.str)) hdp
    have e23' := e22'.trans e23
    have hdue : ∀ p, p ∈ due ↔ p ∈ dueL en sp := fun p => hdperm.mem_iff
    have hduen : ∀ p, p ∈ due → p ∈ en := fun p hp => by
      obtain ⟨_, _, h, _⟩ := due_iff.mp ((hdue p).mp hp)
      exact h
    have hduel : due.length ≤ 1000 := by
      have h1 := nodup_le (l := dueL en sp) (xs := en) (due_nodup mv) fun p hp => hduen p ((hdue p).mpr hp)
      have h2 := hdperm.length_eq
      have h3 : en.length ≤ 1000 := T.hen.small
      omega
    have hdueok : OkNames due := fun p hp => T.hen.ok p (hduen p hp)
    refine ⟨_, rfl, _, rfl, _, rfl, ra, wl, ea, row, _, _, rfl, T.ex e23', hfw, fun zs mp H24 hzperm hzs hmp e24 hz24 => ⟨_, rfl, ?_⟩⟩
    try dsimp only [List.set]
    have ezs : zs = due := sorted_eq hzs hdsort (hzperm.trans ((due_perm mv T.these).symm.trans hdperm.symm))
    subst ezs
    have hdp24 := e24 dp _ upd_same
    refine .inr ⟨mp, dp, vS zs, rfl, .inr ⟨hz24, hdp24⟩, scal_vS zs, (by show (vS zs).length ≤ 1000; rw [vS_len]; exact hduel), fun H25 e25 => ⟨_, rfl, iteF ?_⟩⟩
    try dsimp only [List.set]
    have e25' := (e23'.trans e24).trans e25
    have e2125 := ((e22.trans e23).trans e24).trans e25
    have S25 := S21'.ex e2125
    have hdp25 := e25 dp _ hdp24
    have dpne : dp ≠ sd := by
      obtain ⟨kvs, h1, _⟩ := S25
      exact ne_of hdp25 h1 (by intro z; cases z)
    refine keys_lc (sl := 11) (x := 16) ⟨rfl, rfl⟩ (fun _ => rfl) (fun _ => rfl) S25 mv.keys hspl (fun z => decide (1 + (if z.1 ∈ zs then 1 else 0) < z.2.length)) (fun i z H' C hz hst hfz hC => ?_) (fun D26 H26 hD26 e26 hx26 => ?_)
    · walk_at "rd"
      obtain ⟨p, L⟩ := z
      obtain ⟨lz, g1, g2⟩ := hfz.get (List.mem_of_getElem? hz)
      refine ⟨_, rfl, _, rfl, sd, .ref lz, rfl, g1, lenL (SqL.of g2) ?_⟩
      refine ⟨_, rfl, _, rfl, in_ok (xs := zs) (.inl (SqL.of (hst dp _ dpne hdp25))) (.inr ⟨_, rfl, ?_⟩)⟩
      have := hC H' (Same.refl _)
      refine ⟨_, _, rfl, rfl, _, _, rfl, rfl, _, rfl, ?_⟩
      have el : decide (1 + (if decide (p ∈ zs) = true then (1 : Int) else 0) < (((iV L).length : Nat) : Int)) = decide (1 + (if p ∈ zs then 1 else 0) < L.length) := by
        rw [List.length_map]
        by_cases hp : p ∈ zs
        · rw [if_pos hp, if_pos (decide_eq_true hp)]
          by_cases h : 1 + 1 < L.length
          · rw [decide_eq_true h, decide_eq_true (by omega)]
          · rw [decide_eq_false h, decide_eq_false (by omega)]
        · rw [if_neg hp, if_neg (by rw [decide_eq_false hp]; decide)]
          by_cases h : 1 + 0 < L.length
          · rw [decide_eq_true h, decide_eq_true (by omega)]
          · rw [decide_eq_false h, decide_eq_false (by omega)]
      rw [el]
      exact this
    have enone : (sp.filter fun z => decide (1 + (if z.1 ∈ zs then 1 else 0) < z.2.length)) = [] := by
      rw [List.filter_eq_nil_iff]
      rintro ⟨p, L⟩ hz
      have := mv.once hz
      have e : (if p ∈ zs then 1 else 0) = (if p ∈ dueL en sp then 1 else 0) := by
        by_cases h : p ∈ zs
        · rw [if_pos h, if_pos ((hdue p).mp h)]
        · rw [if_neg h, if_neg fun z => h ((hdue p).mpr z)]
      show ¬ decide (1 + (if p ∈ zs then 1 else 0) < L.length) = true
      rw [e, decide_eq_true_iff]
      omega
    rw [enone] at hx26
    refine ⟨Nat.zero_le _, fun n1 hn1 => ne_nil_vS (xs := []) (ex_new hn1 D26 _ hx26) (fun x hx => by cases hx) upd_same ⟨_, rfl, iteF ?_⟩⟩
    try dsimp only [List.set]
    have e27' := (e25'.trans e26).trans (ex_new (o := .lst []) hn1)
    have e2127 := (e2125.trans e26).trans (ex_new (o := .lst []) hn1)
    have hdp27 := ((e26.trans (ex_new (o := .lst []) hn1))) dp _ hdp25
    have S27 := S21.ex e2127
    refine ⟨_, rfl, dp, rfl, ⟨vS zs, SqL.of hdp27⟩, fun D28 hD28 => lc_gen (walk_list (xs := vS zs)) (fun _ => false) (fun _ _ _ => True) (fun _ _ _ _ _ _ => trivial) hD28 (by rw [vS_len]; omega) (fun H' e => SqL.of (e dp _ hdp27)) (fun i x H4 H5 N C hi e6 y hN hC => ?_) (fun H28 us e28 hus hau => ?_)⟩
    · obtain ⟨rfl, hy⟩ := y
      obtain ⟨p, hp, rfl⟩ := vS_get hy
      have hpm : p ∈ movedL (kn0 row (wordOf ds)) en := (mv.same T.these).mp ((hdue p).mp (List.mem_of_getElem? hp))
      have hth := T.these
      rw [hen] at hpm hth
      obtain ⟨⟨L, hL⟩, hall⟩ := lived_moved Sp21 T.nodup hth hpm
      have h2 := hall L hL
      obtain ⟨lz, g1, g2⟩ := (S27.ex e6).get Sp21.keys hL
      refine ⟨rfl, ?_⟩
      walk_at "rd"
      refine ⟨_, rfl, _, rfl, sd2, .ref lz, rfl, g1, lenL (SqL.of g2) ⟨_, _, rfl, rfl, _, rfl, ?_⟩⟩
      rw [List.length_map, decide_eq_false (by omega)]
      exact iteF (hN rfl _ (Same.refl _))
    have hus0 : us = [] := by
      have := hau.1
      rw [List.filter_eq_nil_iff.mpr fun _ _ => (by decide)] at this
      exact List.eq_nil_of_length_eq_zero this
    subst hus0
    refine ⟨Nat.zero_le _, fun n2 hn2 => ne_nil_vS (xs := []) (ex_new hn2 D28 _ hus) (fun x hx => by cases hx) upd_same ⟨_, rfl, iteF ?_⟩⟩
    try dsimp only [List.set]
    have e29' := (e27'.trans e28).trans (ex_new (o := .lst []) hn2)
    -- the row's end
    refine ⟨_, rfl, Nat.zero_le _, fun tt htt => ?_⟩
    have e30 := ex_new (o := .tup []) htt
    have e30' := e29'.trans e30
    have T30 := T.ex e30'
    have x30 : ExB b H2 _ := x7.ex (((((e8.trans e9).trans e10).trans e11)).trans e30')
    refine ne_nil_tup T30.hen.at_ T.hen.ok (SqT.of upd_same) ⟨_, rfl, ?_⟩
    have back : ∀ H', ExB b H2 H' → ∃ ss, ([some (V.ref a), some (V.int (k : Nat)), some (V.ref b), some (V.int (m : Nat)), some (V.ref nm), some (V.ref dl), some (V.ref ra), some (V.ref rl), some (V.ref ea), some (V.ref wl), some (V.ref ta), some (V.ref sd), some (V.ref sd2), some (V.ref dp), s14, s15, s16] : L2.St) = some (V.ref a) :: ss ∧ ss.length = 16 ∧ Ex H H' := fun H' x => ⟨_, rfl, rfl, hHb H' x⟩
    by_cases hnil : en = []
    · rw [decide_eq_true hnil]
      exact iteF (back _ x30)
    · rw [decide_eq_false hnil]
      obtain ⟨bs7, hbs7⟩ := hb7.some
      have nra : b ≠ ra := ne_of_none (ex_new hsl b _ hbs7) hra
      have nea : b ≠ ea := ne_of_none (e9 b _ (e8 b _ hbs7)) hea
      have nwl : b ≠ wl := ne_of_none (e10 b _ (e9 b _ (e8 b _ hbs7))) hwl
      have e730 := (((e8.trans e9).trans e10).trans e11).trans e30'
      have B30 : Bent K _ b ra wl ea row (wordOf ds) en _ := ⟨T30, ⟨nra, nwl, nea⟩, hb7.ex e730, by omega, List.length_pos_iff.mpr hnil⟩
      have t30 := ht15.ex (((((((((e16.trans e17).trans e18).trans e19).trans e20).trans e21).trans e2127).trans e28).trans (ex_new (o := .lst []) hn2)).trans e30)
      rw [hhs] at t30
      rw [Bool.not_false]

      refine iteT ⟨_, rfl, _, rfl, _, rfl, _, rfl, _, rfl, ?_⟩
      refine ⟨b, ra, wl, ea, ta, row, _, en, _, rfl, B30, by omega, ⟨oe, e30' ea _ hea11, hoe⟩, hfw, t30, fun H31 x31 => ⟨_, rfl, iteF (back _ (x30.trans x31))⟩⟩
  · walk_at "rd"
    exact q H'
end
end K60

namespace K60
open PySem PySem.Spec PyProof.Rows L2

theorem derIsAmount {P : Program} {w : World} {K : PySem.W.Frag} {mg : Str → Option Value} {base : Heap} {A : Around} {outer : List Env} {s : Shared} {H : Hp} {E : XK} {f : Addr} {cdv : Value} (T : Nm mg)
    (hr : Room 0 (A.deeper (envOfC "is_amount" (defScope sIsAmount) s.heap.objs.size f cdv))) :
    PSs (cxOf CX0 P w K mg base nIsAmount "is_amount" (defScope sIsAmount) f cdv A outer s H E).nox (defBody sIsAmount) (tIsAmount K) :=
    (pss_one (ps_ret (pe_and (pe_callB call_isi (by rfl) T.isinst (by decide +kernel) (pa_cons (pv 0) (pa_cons (pe_bltn (v := .ty "int") (by rfl) T.int' (by decide +kernel) rfl) pa_nil))) (pe_and (pe_not (pe_callB call_isi (by rfl) T.isinst (by decide +kernel) (pa_cons (pv 0) (pa_cons (pe_bltn (v := .ty "bool") (by rfl) T.bool' (by decide +kernel) rfl) pa_nil)))) (pe_one (pe_cmpR op_ge (pv 0) pe_int (nomark _)))))))

theorem derNeedRow {P : Program} {w : World} {K : PySem.W.Frag} {mg : Str → Option Value} {base : Heap} {A : Around} {outer : List Env} {s : Shared} {H : Hp} {E : XK} {f : Addr} {cdv : Value} (T : Nm mg) (c_is_row : Cal P w K mg base 2 "is_row" ["thing"] (spIsRow K))
    (hr : Room 2 (A.deeper (envOfC "need_row" (defScope sNeedRow) s.heap.objs.size f cdv))) :
    PSs (cxOf CX0 P w K mg base nNeedRow "need_row" (defScope sNeedRow) f cdv A outer s H E).nox (defBody sNeedRow) (tNeedRow K) :=
    (pss_one (ps_if (pt_not (pt_val (pe_cal c_is_row hr (by decide) (by rfl) (pa_cons (pv 0) pa_nil)))) (pss_one ps_never) pss_nil))

theorem derPlaces {P : Program} {w : World} {K : PySem.W.Frag} {mg : Str → Option Value} {base : Heap} {A : Around} {outer : List Env} {s : Shared} {H : Hp} {E : XK} {f : Addr} {cdv : Value} (T : Nm mg) (c_is_person : Cal P w K mg base 1 "is_person" ["thing"] spIsPerson) (c_need_row : Cal P w K mg base 3 "need_row" ["row"] (spNeedRow K)) (c_go_out : Cal P w K mg base 1 "go_out" ["people", "place"] spGoOut) (c_need_deeds : Cal P w K mg base 4 "need_deeds" ["row", "deeds"] (spNeedDeeds K))
    (hr : Room 4 (A.deeper (envOfC "places" (defScope sPlaces) s.heap.objs.size f cdv))) :
    PSs (cxOf CX0 P w K mg base nPlaces "places" (defScope sPlaces) f cdv A outer s H E).nox (defBody sPlaces) (tPlaces K) :=
    (pss_cons (ps_expr (pe_cal c_need_row hr (by decide) (by rfl) (pa_cons (pv 0) pa_nil)))
    (pss_cons (ps_expr (pe_cal c_need_deeds hr (by decide) (by rfl) (pa_cons (pv 0) (pa_cons (pv 1) pa_nil))))
    (pss_cons (ps_if (pt_not (pt_val (pe_cal c_is_person hr (by decide) (by rfl) (pa_cons (pv 2) pa_nil)))) (pss_one ps_never) pss_nil)
    (pss_cons (ps_set (i := 3) scPlaces.nd rfl (by first | exact Or.inl rfl | exact Or.inr rfl) (pe_callTy c_list (by rfl) T.list' (by decide +kernel) (pa_cons (pv 0) pa_nil)))
    (pss_cons (ps_set (i := 4) scPlaces.nd rfl (by first | exact Or.inl rfl | exact Or.inr rfl) (pe_lst (pa_cons (pe_ifExp (pt_cmpR op_in_seq (pv 2) (pv 3) (by rfl)) (pe_bm PySem.F.plainAttrs_list PySem.F.slot_list_index PySem.F.type_list_index mt_index (pv 3) (pa_cons (pv 2) pa_nil)) pe_non) pa_nil)))
    (pss_cons (ps_for PassesOwn.never rfl (pi_list (pv 1)) (pg_name (i := 5) scPlaces.nd rfl (by first | exact Or.inl rfl | exact Or.inr rfl)) (pss_cons (ps_if (pt_cmpR op_eq (pe_ix ix_tup (pv 5) pe_int (fun _ _ => rfl)) pe_str (nomark _)) (pss_one (ps_expr (pe_bm PySem.F.plainAttrs_list PySem.F.slot_list_append PySem.F.type_list_append mt_append (pv 3) (pa_cons (pe_ix ix_tup (pv 5) pe_int (fun _ _ => rfl)) pa_nil)))) (pss_one (ps_expr (pe_cal c_go_out hr (by decide) (by rfl) (pa_cons (pv 3) (pa_cons (pe_ix ix_tup (pv 5) pe_int (fun _ _ => rfl)) pa_nil))))))
    (pss_one (ps_expr (pe_bm PySem.F.plainAttrs_list PySem.F.slot_list_append PySem.F.type_list_append mt_append (pv 4) (pa_cons (pe_ifExp (pt_cmpR op_in_seq (pv 2) (pv 3) (by rfl)) (pe_bm PySem.F.plainAttrs_list PySem.F.slot_list_index PySem.F.type_list_index mt_index (pv 3) (pa_cons (pv 2) pa_nil)) pe_non) pa_nil))))))
    (pss_one (ps_ret (pv 4)))))))))

theorem derMayStand {P : Program} {w : World} {K : PySem.W.Frag} {mg : Str → Option Value} {base : Heap} {A : Around} {outer : List Env} {s : Shared} {H : Hp} {E : XK} {f : Addr} {cdv : Value} (T : Nm mg)
    (hr : Room 0 (A.deeper (envOfC "may_stand" (defScope sMayStand) s.heap.objs.size f cdv))) :
    PSs (cxOf CX0 P w K mg base nMayStand "may_stand" (defScope sMayStand) f cdv A outer s H E).nox (defBody sMayStand) (tMayStand) :=
    (pss_one (ps_ret (pe_ifExp (pt_cmpR op_lt (pv 0) (pv 1) (nomark _)) (pe_cmpR op_eq (pv 2) (pv 0) (nomark _)) (pe_cmpR op_lt (pv 2) (pv 1) (nomark _)))))

theorem derIsPossible {P : Program} {w : World} {K : PySem.W.Frag} {mg : Str → Option Value} {base : Heap} {A : Around} {outer : List Env} {s : Shared} {H : Hp} {E : XK} {f : Addr} {cdv : Value} (T : Nm mg) (c_is_of_these : Cal P w K mg base 4 "is_of_these" ["row", "word", "end"] (spIsOfThese K)) (c_first_wrong : Cal P w K mg base 4 "first_wrong" ["row", "word", "end"] (spFirstWrong K))
    (hr : Room 4 (A.deeper (envOfC "is_possible" (defScope sIsPossible) s.heap.objs.size f cdv))) :
    PSs (cxOf CX0 P w K mg base nIsPossible "is_possible" (defScope sIsPossible) f cdv A outer s H E).nox (defBody sIsPossible) (tIsPossible K) :=
    (pss_one (ps_ret (pe_and (pe_cal c_is_of_these hr (by decide) (by rfl) (pa_cons (pv 0) (pa_cons (pv 1) (pa_cons (pv 2) pa_nil)))) (pe_one (pe_cmpR o_isN (pe_cal c_first_wrong hr (by decide) (by rfl) (pa_cons (pv 0) (pa_cons (pv 1) (pa_cons (pv 2) pa_nil)))) pe_non (nomark _))))))

theorem derLawBag {P : Program} {w : World} {K : PySem.W.Frag} {mg : Str → Option Value} {base : Heap} {A : Around} {outer : List Env} {s : Shared} {H : Hp} {E : XK} {f : Addr} {cdv : Value} (T : Nm mg)
    (hr : Room 0 (A.deeper (envOfC "_law_bag" (defScope sLawBag) s.heap.objs.size f cdv))) :
    PSs (cxOf CX0 P w K mg base nLawBag "_law_bag" (defScope sLawBag) f cdv A outer s H E).nox (defBody sLawBag) (tLawBag) :=
    (pss_one (ps_ret (pe_lst (pa_cons (pe_callB (c_max rfl) (by rfl) T.max' (by decide +kernel) (pa_cons pe_int (pa_cons (pe_op op_sub (pv 0) (pe_op op_powG pe_int pe_int)) pa_nil))) (pa_cons (pe_op op_add (pe_op op_mod (pv 0) pe_int) (pe_op op_mul pe_int (pe_op op_add (pv 1) pe_int))) (pa_cons pe_int pa_nil))))))

theorem derLawMovers {P : Program} {w : World} {K : PySem.W.Frag} {mg : Str → Option Value} {base : Heap} {A : Around} {outer : List Env} {s : Shared} {H : Hp} {E : XK} {f : Addr} {cdv : Value} (T : Nm mg)
    (hr : Room 0 (A.deeper (envOfC "_law_movers" (defScope sLawMovers) s.heap.objs.size f cdv))) :
    PSs (cxOf CX0 P w K mg base nLawMovers "_law_movers" (defScope sLawMovers) f cdv A outer s H E).nox (defBody sLawMovers) (tLawMovers K) :=
    (pss_cons (ps_set (i := 1) scLawMovers.nd rfl (by first | exact Or.inl rfl | exact Or.inr rfl) pe_dnewK)
    (pss_cons (ps_for PassesOwn.never rfl (pi_list (pv 0)) (pg_name (i := 2) scLawMovers.nd rfl (by first | exact Or.inl rfl | exact Or.inr rfl)) (pss_one (ps_for PassesOwn.never rfl (pi_range1 (by rfl) T.range' (pa_cons (pe_callB c_len (by rfl) T.len (by decide +kernel) (pa_cons (pv 2) pa_nil)) pa_nil)) (pg_name (i := 3) scLawMovers.nd rfl (by first | exact Or.inl rfl | exact Or.inr rfl)) (pss_cons (ps_set (i := 4) scLawMovers.nd rfl (by first | exact Or.inl rfl | exact Or.inr rfl) (pe_dget2 (hu_of hr) (pv 1) (pe_ix ix_list (pv 2) (pv 3) (fun _ _ => rfl)) (pe_lst pa_nil) ⟨rfl, rfl, rfl, rfl⟩))
    (pss_one (ps_if (pt_cmpR op_notIn_seq (pv 3) (pv 4) (by rfl)) (pss_one (ps_dput (hu_of hr) (pv 1) (pe_ix ix_list (pv 2) (pv 3) (fun _ _ => rfl)) (pe_op op_cat (pv 4) (pe_lst (pa_cons (pv 3) pa_nil))) rfl)) pss_nil))))))
    (pss_one (ps_ret (pv 1)))))

end K60

namespace K60
open PySem PySem.Spec PyProof.Rows L2

theorem derIsPerson {P : Program} {w : World} {K : PySem.W.Frag} {mg : Str → Option Value} {base : Heap} {A : Around} {outer : List Env} {s : Shared} {H : Hp} {E : XK} {f : Addr} {cdv : Value} (T : Nm mg)
    (hr : Room 0 (A.deeper (envOfC "is_person" (defScope sIsPerson) s.heap.objs.size f cdv))) :
    PSs (cxOf CX0 P w K mg base nIsPerson "is_person" (defScope sIsPerson) f cdv A outer s H E).nox (defBody sIsPerson) (tIsPerson K) :=
    (pss_one (ps_ret (pe_and (pe_callB call_isi (by rfl) T.isinst (by decide +kernel) (pa_cons (pv 0) (pa_cons (pe_bltn (v := .ty "str") (by rfl) T.str' (by decide +kernel) rfl) pa_nil))) (pe_and (pe_chain op_le op_le pe_int (pe_callB c_lenS (by rfl) T.len (by decide +kernel) (pa_cons (pv 0) pa_nil)) (pe_gl (by rfl) T.most')) (pe_one (pe_callB (cr_all rfl) (by rfl) T.all (by decide +kernel) (pa_cons (pe_lc (own := [("sign", 1)]) (g := (gName 1)) (tt := tYes) rfl scIsPerson.nd (pi_str (pv 0)) (blkOk_by (N := nIsPerson) (sc := defScope sIsPerson) (by decide +kernel)) (fun _ _ _ _ _ => (pg_name (i := 1) scIsPerson.nd rfl (by first | exact Or.inl rfl | exact Or.inr rfl))) (fun _ _ _ _ _ => pts_nil) (fun _ _ _ _ _ => (pe_cmpR o_insign (pv 1) (pe_gl (by rfl) T.signs') (by rfl)))) pa_nil)))))))

theorem derGoOut {P : Program} {w : World} {K : PySem.W.Frag} {mg : Str → Option Value} {base : Heap} {A : Around} {outer : List Env} {s : Shared} {H : Hp} {E : XK} {f : Addr} {cdv : Value} (T : Nm mg)
    (hr : Room 0 (A.deeper (envOfC "go_out" (defScope sGoOut) s.heap.objs.size f cdv))) :
    PSs (cxOf CX0 P w K mg base nGoOut "go_out" (defScope sGoOut) f cdv A outer s H E).nox (defBody sGoOut) (tGoOut K) :=
    (pss_cons (ps_set (i := 2) scGoOut.nd rfl (by first | exact Or.inl rfl | exact Or.inr rfl) (pe_ix ix_list (pv 0) (pv 1) (fun _ _ => rfl)))
    (pss_cons (ps_set (i := 3) scGoOut.nd rfl (by first | exact Or.inl rfl | exact Or.inr rfl) (pe_bm0 PySem.F.plainAttrs_list PySem.F.slot_list_pop PySem.F.type_list_pop mt_pop (pv 0)))
    (pss_cons (ps_if (pt_cmpR op_lt (pv 1) (pe_callB c_len (by rfl) T.len (by decide +kernel) (pa_cons (pv 0) pa_nil)) (nomark _)) (pss_one (ps_asg (pv 3) (pg_sub (pv 0) (pv 1) set_list))) pss_nil)
    (pss_one (ps_ret (pv 2))))))

theorem derNeedWord {P : Program} {w : World} {K : PySem.W.Frag} {mg : Str → Option Value} {base : Heap} {A : Around} {outer : List Env} {s : Shared} {H : Hp} {E : XK} {f : Addr} {cdv : Value} (T : Nm mg) (c_is_person : Cal P w K mg base 1 "is_person" ["thing"] spIsPerson) (c_need_row : Cal P w K mg base 3 "need_row" ["row"] (spNeedRow K))
    (hr : Room 3 (A.deeper (envOfC "need_word" (defScope sNeedWord) s.heap.objs.size f cdv))) :
    PSs (cxOf CX0 P w K mg base nNeedWord "need_word" (defScope sNeedWord) f cdv A outer s H E).nox (defBody sNeedWord) (tNeedWord K) :=
    (pss_cons (ps_expr (pe_cal c_need_row hr (by decide) (by rfl) (pa_cons (pv 0) pa_nil)))
    (pss_cons (ps_if (pt_not (pt_val (pe_callB call_isi (by rfl) T.isinst (by decide +kernel) (pa_cons (pv 1) (pa_cons (pe_bltn (v := .ty "list") (by rfl) T.list' (by decide +kernel) rfl) pa_nil))))) (pss_one ps_never) pss_nil)
    (pss_cons (ps_set (i := 2) scNeedWord.nd rfl (by first | exact Or.inl rfl | exact Or.inr rfl) (pe_callTy c_list (by rfl) T.list' (by decide +kernel) (pa_cons (pv 0) pa_nil)))
    (pss_cons (ps_set (i := 3) scNeedWord.nd rfl (by first | exact Or.inl rfl | exact Or.inr rfl) (pe_callB c_len (by rfl) T.len (by decide +kernel) (pa_cons (pv 0) pa_nil)))
    (pss_one (ps_for PassesOwn.never rfl (pi_list (pv 1)) (pg_name (i := 4) scNeedWord.nd rfl (by first | exact Or.inl rfl | exact Or.inr rfl)) (pss_cons (ps_if (pt_not (pt_val (pe_callB call_isi (by rfl) T.isinst (by decide +kernel) (pa_cons (pv 4) (pa_cons (pe_bltn (v := .ty "tuple") (by rfl) T.tuple' (by decide +kernel) rfl) pa_nil))))) (pss_one ps_never) pss_nil)
    (pss_one (ps_if (PW.pt (pw_and (pt_cmpR op_eq (pe_callB c_len (by rfl) T.len (by decide +kernel) (pa_cons (pv 4) pa_nil)) pe_int (nomark _)) (pw_and (pt_cmpR op_eq (pe_ix ix_tup (pv 4) pe_int (fun _ _ => rfl)) pe_str (nomark _)) (pw_and (pt_val (pe_cal c_is_person hr (by decide) (by rfl) (pa_cons (pe_ix ix_tup (pv 4) pe_int (fun _ _ => rfl)) pa_nil))) (pw_and1 (pt_cmpR op_notIn_seq (pe_ix ix_tup (pv 4) pe_int (fun _ _ => rfl)) (pv 2) (by rfl))))))) (pss_cons (ps_expr (pe_bm PySem.F.plainAttrs_list PySem.F.slot_list_append PySem.F.type_list_append mt_append (pv 2) (pa_cons (pe_ix ix_tup (pv 4) pe_int (fun _ _ => rfl)) pa_nil)))
    (pss_one (ps_aug (i := 3) scNeedWord.nd rfl (by first | exact Or.inl rfl | exact Or.inr rfl) pe_int ip_add))) (pss_one (ps_if (PW.pt (pw_and (pt_cmpR (op_eqD hr.units) (pv 4) (pe_tup (pa_cons pe_str pa_nil)) (nomark _)) (pw_and1 (pt_cmpR op_gt (pv 3) pe_int (nomark _))))) (pss_one (ps_aug (i := 3) scNeedWord.nd rfl (by first | exact Or.inl rfl | exact Or.inr rfl) pe_int ip_sub)) (pss_one ps_never))))))))))))

theorem derLastSize {P : Program} {w : World} {K : PySem.W.Frag} {mg : Str → Option Value} {base : Heap} {A : Around} {outer : List Env} {s : Shared} {H : Hp} {E : XK} {f : Addr} {cdv : Value} (T : Nm mg) (c_word_sizes : Cal P w K mg base 1 "word_sizes" ["row", "word"] (spWordSizes K))
    (hr : Room 1 (A.deeper (envOfC "last_size" (defScope sLastSize) s.heap.objs.size f cdv))) :
    PSs (cxOf CX0 P w K mg base nLastSize "last_size" (defScope sLastSize) f cdv A outer s H E).nox (defBody sLastSize) (tLastSize K) :=
    (pss_one (ps_ret (pe_ix ix_list (pe_cal c_word_sizes hr (by decide) (by rfl) (pa_cons (pv 0) (pa_cons (pv 1) pa_nil))) (pe_un un_neg pe_int) (fun _ _ => rfl))))

theorem derCanBe {P : Program} {w : World} {K : PySem.W.Frag} {mg : Str → Option Value} {base : Heap} {A : Around} {outer : List Env} {s : Shared} {H : Hp} {E : XK} {f : Addr} {cdv : Value} (T : Nm mg) (c_need_end : Cal P w K mg base 5 "need_end" ["row", "word", "end"] (spNeedEnd K)) (c_is_possible : Cal P w K mg base 5 "is_possible" ["row", "word", "end"] (spCanBe K))
    (hr : Room 5 (A.deeper (envOfC "can_be" (defScope sCanBe) s.heap.objs.size f cdv))) :
    PSs (cxOf CX0 P w K mg base nCanBe "can_be" (defScope sCanBe) f cdv A outer s H E).nox (defBody sCanBe) (tCanBe K) :=
    (pss_cons (ps_expr (pe_cal c_need_end hr (by decide) (by rfl) (pa_cons (pv 0) (pa_cons (pv 1) (pa_cons (pv 2) pa_nil)))))
    (pss_one (ps_ret (pe_cal c_is_possible hr (by decide) (by rfl) (pa_cons (pv 0) (pa_cons (pv 1) (pa_cons (pv 2) pa_nil)))))))

theorem derLawTake {P : Program} {w : World} {K : PySem.W.Frag} {mg : Str → Option Value} {base : Heap} {A : Around} {outer : List Env} {s : Shared} {H : Hp} {E : XK} {f : Addr} {cdv : Value} (T : Nm mg)
    (hr : Room 0 (A.deeper (envOfC "_law_take" (defScope sLawTake) s.heap.objs.size f cdv))) :
    PSs (cxOf CX0 P w K mg base nLawTake "_law_take" (defScope sLawTake) f cdv A outer s H E).nox (defBody sLawTake) (tLawTake K) :=
    (pss_cons (ps_if (pt_cmpR op_gt (pe_ix ix_list (pv 0) pe_int (fun _ _ => rfl)) pe_int (nomark _)) (pss_cons (ps_set (i := 2) scLawTake.nd rfl (by first | exact Or.inl rfl | exact Or.inr rfl) (pe_op op_mod (pe_ix ix_list (pv 0) pe_int (fun _ _ => rfl)) (pv 1)))
    (pss_cons (ps_asg (pe_op op_fdiv (pe_ix ix_list (pv 0) pe_int (fun _ _ => rfl)) (pv 1)) (pg_sub (pv 0) pe_int set_list))
    (pss_one (ps_ret (pv 2))))) pss_nil)
    (pss_cons (ps_asg (pe_op op_add (pe_ix ix_list (pv 0) pe_int (fun _ _ => rfl)) pe_int) (pg_sub (pv 0) pe_int set_list))
    (pss_cons (ps_set (i := 3) scLawTake.nd rfl (by first | exact Or.inl rfl | exact Or.inr rfl) (pe_op op_mod (pe_op op_powG (pe_op op_add (pe_ix ix_list (pv 0) pe_int (fun _ _ => rfl)) (pe_op op_mul pe_int (pe_ix ix_list (pv 0) pe_int (fun _ _ => rfl)))) pe_int) pe_int))
    (pss_cons (ps_set (i := 3) scLawTake.nd rfl (by first | exact Or.inl rfl | exact Or.inr rfl) (pe_op op_mod (pe_op op_powG (pe_op op_add (pv 3) (pe_op op_mul pe_int (pe_ix ix_list (pv 0) pe_int (fun _ _ => rfl)))) pe_int) pe_int))
    (pss_one (ps_ret (pe_op op_mod (pe_op op_fdiv (pv 3) pe_int) (pv 1))))))))

theorem derLawExchanged {P : Program} {w : World} {K : PySem.W.Frag} {mg : Str → Option Value} {base : Heap} {A : Around} {outer : List Env} {s : Shared} {H : Hp} {E : XK} {f : Addr} {cdv : Value} (T : Nm mg) (c_can_be : Cal P w K mg base 6 "can_be" ["row", "word", "end"] (spCanBe K)) (c_why_not : Cal P w K mg base 6 "why_not" ["row", "word", "end"] (spWhyNot K)) (c_law_take : Cal P w K mg base 1 "_law_take" ["_law_bag_here", "_law_many"] spTake) (c_law_alike : Cal P w K mg base 2 "_law_alike" ["_law_found", "_law_due"] (spAlike K))
    (hr : Room 6 (A.deeper (envOfC "_law_exchanged" (defScope sLawExchanged) s.heap.objs.size f cdv))) :
    PSs (cxOf CX0 P w K mg base nLawExchanged "_law_exchanged" (defScope sLawExchanged) f cdv A outer s H E).nox (defBody sLawExchanged) (tLawExchanged K) :=
    (pss_cons (ps_set (i := 5) scLawExchanged.nd rfl (by first | exact Or.inl rfl | exact Or.inr rfl) (pe_cal c_law_take hr (by decide) (by rfl) (pa_cons (pv 0) (pa_cons (pe_callB c_len (by rfl) T.len (by decide +kernel) (pa_cons (pv 3) pa_nil)) pa_nil))))
    (pss_cons (ps_set (i := 6) scLawExchanged.nd rfl (by first | exact Or.inl rfl | exact Or.inr rfl) (pe_cal c_law_take hr (by decide) (by rfl) (pa_cons (pv 0) (pa_cons (pe_callB c_len (by rfl) T.len (by decide +kernel) (pa_cons (pv 3) pa_nil)) pa_nil))))
    (pss_cons (ps_set (i := 7) scLawExchanged.nd rfl (by first | exact Or.inl rfl | exact Or.inr rfl) (pe_callTy c_list (by rfl) T.list' (by decide +kernel) (pa_cons (pv 3) pa_nil)))
    (pss_cons (ps_asg (pe_tup (pa_cons (pe_ix ix_list (pv 7) (pv 6) (fun _ _ => rfl)) (pa_cons (pe_ix ix_list (pv 7) (pv 5) (fun _ _ => rfl)) pa_nil))) (pg_tup rfl (pgs_cons (pg_sub (pv 7) (pv 5) set_list) (pgs_cons (pg_sub (pv 7) (pv 6) set_list) pgs_nil))))
    (pss_cons (ps_set (i := 8) scLawExchanged.nd rfl (by first | exact Or.inl rfl | exact Or.inr rfl) (pe_lst pa_nil))
    (pss_cons (ps_for PassesOwn.never rfl (pi_range1 (by rfl) T.range' (pa_cons (pe_callB c_len (by rfl) T.len (by decide +kernel) (pa_cons (pv 7) pa_nil)) pa_nil)) (pg_name (i := 9) scLawExchanged.nd rfl (by first | exact Or.inl rfl | exact Or.inr rfl)) (pss_cons (ps_asg (pe_dget (hu_of hr) (pv 4) (pe_ix ix_list (pv 7) (pv 9) (fun _ _ => rfl)) (fun _ _ => rfl)) (pg_tup rfl (pgs_cons (pg_name (i := 10) scLawExchanged.nd rfl (by first | exact Or.inl rfl | exact Or.inr rfl)) (pgs_cons (pg_name (i := 11) scLawExchanged.nd rfl (by first | exact Or.inl rfl | exact Or.inr rfl)) pgs_nil))))
    (pss_cons (ps_set (i := 12) scLawExchanged.nd rfl (by first | exact Or.inl rfl | exact Or.inr rfl) (pe_cmpR op_lt (pv 9) (pv 11) (nomark _)))
    (pss_cons (ps_if (pt_cmpR op_lt (pv 10) (pv 11) (nomark _)) (pss_one (ps_set (i := 12) scLawExchanged.nd rfl (by first | exact Or.inl rfl | exact Or.inr rfl) (pe_cmpR op_eq (pv 9) (pv 10) (nomark _)))) pss_nil)
    (pss_one (ps_if (pt_not (pt_val (pv 12))) (pss_one (ps_expr (pe_bm PySem.F.plainAttrs_list PySem.F.slot_list_append PySem.F.type_list_append mt_append (pv 8) (pa_cons (pe_tup (pa_cons (pe_ix ix_list (pv 7) (pv 9) (fun _ _ => rfl)) (pa_cons (pv 9) pa_nil))) pa_nil)))) pss_nil))))))
    (pss_cons (ps_if (pt_not (pt_val (pe_cal c_law_alike hr (by decide) (by rfl) (pa_cons (pe_cal c_can_be hr (by decide) (by rfl) (pa_cons (pv 1) (pa_cons (pv 2) (pa_cons (pe_callTy c_tup (by rfl) T.tuple' (by decide +kernel) (pa_cons (pv 7) pa_nil)) pa_nil)))) (pa_cons (pe_cmpR (op_eqD hr.units) (pv 8) (pe_lst pa_nil) (nomark _)) pa_nil))))) (pss_one (ps_ret pe_bl)) pss_nil)
    (pss_one (ps_ret (pe_cal c_law_alike hr (by decide) (by rfl) (pa_cons (pe_cal c_why_not hr (by decide) (by rfl) (pa_cons (pv 1) (pa_cons (pv 2) (pa_cons (pe_callTy c_tup (by rfl) T.tuple' (by decide +kernel) (pa_cons (pv 7) pa_nil)) pa_nil)))) (pa_cons (pe_ifExp (pt_cmpR (op_neD hr.units) (pv 8) (pe_lst pa_nil) (nomark _)) (pe_ix ix_list (pv 8) pe_int (fun _ _ => rfl)) pe_non) pa_nil))))))))))))

end K60

namespace K60
open PySem PySem.Spec PyProof.Rows L2

theorem derIsRow {P : Program} {w : World} {K : PySem.W.Frag} {mg : Str → Option Value} {base : Heap} {A : Around} {outer : List Env} {s : Shared} {H : Hp} {E : XK} {f : Addr} {cdv : Value} (T : Nm mg) (c_is_person : Cal P w K mg base 1 "is_person" ["thing"] spIsPerson)
    (hr : Room 1 (A.deeper (envOfC "is_row" (defScope sIsRow) s.heap.objs.size f cdv))) :
    PSs (cxOf CX0 P w K mg base nIsRow "is_row" (defScope sIsRow) f cdv A outer s H E).nox (defBody sIsRow) (tIsRow K) :=
    (pss_one (ps_ret (pe_and (pe_callB call_isi (by rfl) T.isinst (by decide +kernel) (pa_cons (pv 0) (pa_cons (pe_bltn (v := .ty "tuple") (by rfl) T.tuple' (by decide +kernel) rfl) pa_nil))) (pe_and (pe_callB (cr_all rfl) (by rfl) T.all (by decide +kernel) (pa_cons (pe_lc (own := [("one", 1)]) (g := (gName 1)) (tt := tYes) rfl scIsRow.nd (pi_tup (pv 0)) (blkOk_by (N := nIsRow) (sc := defScope sIsRow) (by decide +kernel)) (fun _ _ _ _ _ => (pg_name (i := 1) scIsRow.nd rfl (by first | exact Or.inl rfl | exact Or.inr rfl))) (fun _ _ _ _ _ => pts_nil) (fun _ _ _ _ _ => (pe_cal c_is_person hr (by decide) (by rfl) (pa_cons (pv 1) pa_nil)))) pa_nil)) (pe_one (pe_cmpR op_eq (pe_lenSetT (by rfl) T.len (by rfl) T.set' (pv 0)) (pe_callB c_len (by rfl) T.len (by decide +kernel) (pa_cons (pv 0) pa_nil)) (nomark _)))))))

theorem derIsDeedsOf {P : Program} {w : World} {K : PySem.W.Frag} {mg : Str → Option Value} {base : Heap} {A : Around} {outer : List Env} {s : Shared} {H : Hp} {E : XK} {f : Addr} {cdv : Value} (T : Nm mg) (c_is_coming : Cal P w K mg base 2 "is_coming" ["thing"] spIsComing) (c_is_going : Cal P w K mg base 2 "is_going" ["thing"] spIsGoing) (c_go_out : Cal P w K mg base 1 "go_out" ["people", "place"] spGoOut)
    (hr : Room 2 (A.deeper (envOfC "is_deeds_of" (defScope sIsDeedsOf) s.heap.objs.size f cdv))) :
    PSs (cxOf CX0 P w K mg base nIsDeedsOf "is_deeds_of" (defScope sIsDeedsOf) f cdv A outer s H E).nox (defBody sIsDeedsOf) (tIsDeedsOf K) :=
    (pss_cons (ps_if (pt_not (pt_val (pe_callB call_isi (by rfl) T.isinst (by decide +kernel) (pa_cons (pv 1) (pa_cons (pe_bltn (v := .ty "list") (by rfl) T.list' (by decide +kernel) rfl) pa_nil))))) (pss_one (ps_ret pe_bl)) pss_nil)
    (pss_cons (ps_set (i := 2) scIsDeedsOf.nd rfl (by first | exact Or.inl rfl | exact Or.inr rfl) (pe_callTy c_list (by rfl) T.list' (by decide +kernel) (pa_cons (pv 0) pa_nil)))
    (pss_cons (ps_for PassesOwn.never rfl (pi_list (pv 1)) (pg_name (i := 3) scIsDeedsOf.nd rfl (by first | exact Or.inl rfl | exact Or.inr rfl)) (pss_one (ps_if (PW.pt (pw_and (pt_val (pe_cal c_is_coming hr (by decide) (by rfl) (pa_cons (pv 3) pa_nil))) (pw_and1 (pt_cmpR op_notIn_seq (pe_ix ix_tup (pv 3) pe_int (fun _ _ => rfl)) (pv 2) (by rfl))))) (pss_one (ps_expr (pe_bm PySem.F.plainAttrs_list PySem.F.slot_list_append PySem.F.type_list_append mt_append (pv 2) (pa_cons (pe_ix ix_tup (pv 3) pe_int (fun _ _ => rfl)) pa_nil)))) (pss_one (ps_if (PW.pt (pw_and (pt_val (pe_cal c_is_going hr (by decide) (by rfl) (pa_cons (pv 3) pa_nil))) (pw_and1 (pt_cmpR op_lt (pe_ix ix_tup (pv 3) pe_int (fun _ _ => rfl)) (pe_callB c_len (by rfl) T.len (by decide +kernel) (pa_cons (pv 2) pa_nil)) (nomark _))))) (pss_one (ps_expr (pe_cal c_go_out hr (by decide) (by rfl) (pa_cons (pv 2) (pa_cons (pe_ix ix_tup (pv 3) pe_int (fun _ _ => rfl)) pa_nil))))) (pss_one (ps_ret pe_bl)))))))
    (pss_one (ps_ret pe_bl)))))

theorem derWordSizes {P : Program} {w : World} {K : PySem.W.Frag} {mg : Str → Option Value} {base : Heap} {A : Around} {outer : List Env} {s : Shared} {H : Hp} {E : XK} {f : Addr} {cdv : Value} (T : Nm mg)
    (hr : Room 0 (A.deeper (envOfC "word_sizes" (defScope sWordSizes) s.heap.objs.size f cdv))) :
    PSs (cxOf CX0 P w K mg base nWordSizes "word_sizes" (defScope sWordSizes) f cdv A outer s H E).nox (defBody sWordSizes) (tWordSizes K) :=
    (pss_cons (ps_set (i := 2) scWordSizes.nd rfl (by first | exact Or.inl rfl | exact Or.inr rfl) (pe_lst (pa_cons (pe_callB c_len (by rfl) T.len (by decide +kernel) (pa_cons (pv 0) pa_nil)) pa_nil)))
    (pss_cons (ps_for PassesOwn.never rfl (pi_list (pv 1)) (pg_name (i := 3) scWordSizes.nd rfl (by first | exact Or.inl rfl | exact Or.inr rfl)) (pss_one (ps_expr (pe_bm PySem.F.plainAttrs_list PySem.F.slot_list_append PySem.F.type_list_append mt_append (pv 2) (pa_cons (pe_op op_add (pe_ix ix_list (pv 2) (pe_un un_neg pe_int) (fun _ _ => rfl)) (pe_ifExp (pt_cmpR op_eq (pe_ix ix_tup (pv 3) pe_int (fun _ _ => rfl)) pe_str (nomark _)) pe_int (pe_un un_neg pe_int))) pa_nil)))))
    (pss_one (ps_ret (pv 2)))))

theorem derKnownOf {P : Program} {w : World} {K : PySem.W.Frag} {mg : Str → Option Value} {base : Heap} {A : Around} {outer : List Env} {s : Shared} {H : Hp} {E : XK} {f : Addr} {cdv : Value} (T : Nm mg) (c_marks_of : Cal P w K mg base 2 "marks_of" ["row", "word"] (spMarks K))
    (hr : Room 2 (A.deeper (envOfC "known_of" (defScope sKnownOf) s.heap.objs.size f cdv))) :
    PSs (cxOf CX0 P w K mg base nKnownOf "known_of" (defScope sKnownOf) f cdv A outer s H E).nox (defBody sKnownOf) (tKnownOf K) :=
    (pss_one (ps_ret (pe_dc (own := [("person", 2), ("place", 3), ("mark", 4)]) (g := (gTup K 3 (gCons (gName 2) (gCons (gName 3) (gCons (gName 4) gNil))))) (tt := tYes) rfl scKnownOf.nd (pi_list (pe_cal c_marks_of hr (by decide) (by rfl) (pa_cons (pv 0) (pa_cons (pv 1) pa_nil)))) (blkOk_by (N := nKnownOf) (sc := defScope sKnownOf) (by decide +kernel)) (fun _ _ _ _ _ => (pg_tup rfl (pgs_cons (pg_name (i := 2) scKnownOf.nd rfl (by first | exact Or.inl rfl | exact Or.inr rfl)) (pgs_cons (pg_name (i := 3) scKnownOf.nd rfl (by first | exact Or.inl rfl | exact Or.inr rfl)) (pgs_cons (pg_name (i := 4) scKnownOf.nd rfl (by first | exact Or.inl rfl | exact Or.inr rfl)) pgs_nil))))) (fun _ _ _ _ _ => pts_nil) (fun _ _ _ _ _ => (pv 2)) (fun _ _ _ _ _ => (pe_tup (pa_cons (pv 3) (pa_cons (pv 4) pa_nil)))))))

theorem derWhyNot {P : Program} {w : World} {K : PySem.W.Frag} {mg : Str → Option Value} {base : Heap} {A : Around} {outer : List Env} {s : Shared} {H : Hp} {E : XK} {f : Addr} {cdv : Value} (T : Nm mg) (c_need_end : Cal P w K mg base 5 "need_end" ["row", "word", "end"] (spNeedEnd K)) (c_is_of_these : Cal P w K mg base 4 "is_of_these" ["row", "word", "end"] (spIsOfThese K)) (c_first_wrong : Cal P w K mg base 4 "first_wrong" ["row", "word", "end"] (spFirstWrong K))
    (hr : Room 5 (A.deeper (envOfC "why_not" (defScope sWhyNot) s.heap.objs.size f cdv))) :
    PSs (cxOf CX0 P w K mg base nWhyNot "why_not" (defScope sWhyNot) f cdv A outer s H E).nox (defBody sWhyNot) (tWhyNot K) :=
    (pss_cons (ps_expr (pe_cal c_need_end hr (by decide) (by rfl) (pa_cons (pv 0) (pa_cons (pv 1) (pa_cons (pv 2) pa_nil)))))
    (pss_cons (ps_if (pt_not (pt_val (pe_cal c_is_of_these hr (by decide) (by rfl) (pa_cons (pv 0) (pa_cons (pv 1) (pa_cons (pv 2) pa_nil)))))) (pss_one ps_never) pss_nil)
    (pss_cons (ps_set (i := 3) scWhyNot.nd rfl (by first | exact Or.inl rfl | exact Or.inr rfl) (pe_cal c_first_wrong hr (by decide) (by rfl) (pa_cons (pv 0) (pa_cons (pv 1) (pa_cons (pv 2) pa_nil)))))
    (pss_one (ps_ret (pe_ifExp (pt_cmpR o_isN (pv 3) pe_non (nomark _)) pe_non (pe_tup (pa_cons (pe_ix ix_tup (pv 2) (pv 3) (fun _ _ => rfl)) (pa_cons (pv 3) pa_nil)))))))))

theorem derLawAlike {P : Program} {w : World} {K : PySem.W.Frag} {mg : Str → Option Value} {base : Heap} {A : Around} {outer : List Env} {s : Shared} {H : Hp} {E : XK} {f : Addr} {cdv : Value} {k : Nat} {sp : Sp} (T : Nm mg) (c_law_alike : Cal P w K mg base k "_law_alike" ["_law_found", "_law_due"] sp)
    (hr : Room k (A.deeper (envOfC "_law_alike" (defScope sLawAlike) s.heap.objs.size f cdv))) :
    PSs (cxOf CX0 P w K mg base nLawAlike "_law_alike" (defScope sLawAlike) f cdv A outer s H E).nox (defBody sLawAlike) (tLawAlike K sp) :=
    (pss_cons (ps_if (pt_val (pe_callB call_isiT (by rfl) T.isinst (by decide +kernel) (pa_cons (pv 1) (pa_cons (pe_tup (pa_cons (pe_bltn (v := .ty "list") (by rfl) T.list' (by decide +kernel) rfl) (pa_cons (pe_bltn (v := .ty "tuple") (by rfl) T.tuple' (by decide +kernel) rfl) pa_nil))) pa_nil)))) (pss_cons (ps_if (PW.pt (pw_or (pt_cmpR op_ne (pe_callB call_isi (by rfl) T.isinst (by decide +kernel) (pa_cons (pv 0) (pa_cons (pe_bltn (v := .ty "list") (by rfl) T.list' (by decide +kernel) rfl) pa_nil))) (pe_callB call_isi (by rfl) T.isinst (by decide +kernel) (pa_cons (pv 1) (pa_cons (pe_bltn (v := .ty "list") (by rfl) T.list' (by decide +kernel) rfl) pa_nil))) (nomark _)) (pw_or1 (pt_not (pt_val (pe_callB call_isiT (by rfl) T.isinst (by decide +kernel) (pa_cons (pv 0) (pa_cons (pe_tup (pa_cons (pe_bltn (v := .ty "list") (by rfl) T.list' (by decide +kernel) rfl) (pa_cons (pe_bltn (v := .ty "tuple") (by rfl) T.tuple' (by decide +kernel) rfl) pa_nil))) pa_nil)))))))) (pss_one (ps_ret pe_bl)) pss_nil)
    (pss_cons (ps_if (pt_cmpR op_ne (pe_callB c_len (by rfl) T.len (by decide +kernel) (pa_cons (pv 0) pa_nil)) (pe_callB c_len (by rfl) T.len (by decide +kernel) (pa_cons (pv 1) pa_nil)) (nomark _)) (pss_one (ps_ret pe_bl)) pss_nil)
    (pss_one (ps_ret (pe_callB (cr_all rfl) (by rfl) T.all (by decide +kernel) (pa_cons (pe_lc (own := [("_law_k", 2)]) (g := (gName 2)) (tt := tYes) rfl scLawAlike.nd (pi_range1 (by rfl) T.range' (pa_cons (pe_callB c_len (by rfl) T.len (by decide +kernel) (pa_cons (pv 1) pa_nil)) pa_nil)) (blkOk_by (N := nLawAlike) (sc := defScope sLawAlike) (by decide +kernel)) (fun _ _ _ _ _ => (pg_name (i := 2) scLawAlike.nd rfl (by first | exact Or.inl rfl | exact Or.inr rfl))) (fun _ _ _ _ _ => pts_nil) (fun _ _ _ _ _ => (pe_cal c_law_alike hr (Nat.le_refl _) (by rfl) (pa_cons (pe_ix ix_seq (pv 0) (pv 2) (fun _ _ => rfl)) (pa_cons (pe_ix ix_seq (pv 1) (pv 2) (fun _ _ => rfl)) pa_nil))))) pa_nil)))))) pss_nil)
    (pss_cons (ps_if (PW.pt (pw_or (pt_val (pe_callB call_isi (by rfl) T.isinst (by decide +kernel) (pa_cons (pv 1) (pa_cons (pe_bltn (v := .ty "bool") (by rfl) T.bool' (by decide +kernel) rfl) pa_nil)))) (pw_or1 (pt_val (pe_callB call_isi (by rfl) T.isinst (by decide +kernel) (pa_cons (pv 0) (pa_cons (pe_bltn (v := .ty "bool") (by rfl) T.bool' (by decide +kernel) rfl) pa_nil))))))) (pss_one (ps_ret (pe_and (pe_callB call_isi (by rfl) T.isinst (by decide +kernel) (pa_cons (pv 1) (pa_cons (pe_bltn (v := .ty "bool") (by rfl) T.bool' (by decide +kernel) rfl) pa_nil))) (pe_and (pe_callB call_isi (by rfl) T.isinst (by decide +kernel) (pa_cons (pv 0) (pa_cons (pe_bltn (v := .ty "bool") (by rfl) T.bool' (by decide +kernel) rfl) pa_nil))) (pe_one (pe_cmpR op_eq (pv 0) (pv 1) (nomark _))))))) pss_nil)
    (pss_one (ps_ret (pe_cmpR op_eq (pv 0) (pv 1) (nomark _))))))

theorem derLawBentRight {P : Program} {w : World} {K : PySem.W.Frag} {mg : Str → Option Value} {base : Heap} {A : Around} {outer : List Env} {s : Shared} {H : Hp} {E : XK} {f : Addr} {cdv : Value} (T : Nm mg) (c_places : Cal P w K mg base 5 "places" ["row", "deeds", "person"] (spPlaces K)) (c_marks : Cal P w K mg base 5 "marks" ["row", "word"] (spMarks K)) (c_law_take : Cal P w K mg base 1 "_law_take" ["_law_bag_here", "_law_many"] spTake) (c_law_exchanged : Cal P w K mg base 7 "_law_exchanged" ["_law_bag_here", "_law_row", "_law_word", "_law_end", "_law_known"] (spExchanged K))
    (hr : Room 7 (A.deeper (envOfC "_law_bent_right" (defScope sLawBentRight) s.heap.objs.size f cdv))) :
    PSs (cxOf CX0 P w K mg base nLawBentRight "_law_bent_right" (defScope sLawBentRight) f cdv A outer s H E).nox (defBody sLawBentRight) (tLawBentRight K) :=
    (pss_cons (ps_set (i := 5) scLawBentRight.nd rfl (by first | exact Or.inl rfl | exact Or.inr rfl) pe_dnewK)
    (pss_cons (ps_for PassesOwn.never rfl (pi_list (pe_cal c_marks hr (by decide) (by rfl) (pa_cons (pv 1) (pa_cons (pv 2) pa_nil)))) (pg_tup rfl (pgs_cons (pg_name (i := 6) scLawBentRight.nd rfl (by first | exact Or.inl rfl | exact Or.inr rfl)) (pgs_cons (pg_name (i := 7) scLawBentRight.nd rfl (by first | exact Or.inl rfl | exact Or.inr rfl)) (pgs_cons (pg_name (i := 8) scLawBentRight.nd rfl (by first | exact Or.inl rfl | exact Or.inr rfl)) pgs_nil)))) (pss_one (ps_dput (hu_of hr) (pv 5) (pv 6) (pe_tup (pa_cons (pv 7) (pa_cons (pv 8) pa_nil))) rfl)))
    (pss_cons (ps_for PassesOwn.never rfl (pi_range1 (by rfl) T.range' (pa_cons pe_int pa_nil)) (pg_name (i := 9) scLawBentRight.nd rfl (by first | exact Or.inl rfl | exact Or.inr rfl)) (pss_one (ps_if (pt_not (pt_val (pe_cal c_law_exchanged hr (by decide) (by rfl) (pa_cons (pv 0) (pa_cons (pv 1) (pa_cons (pv 2) (pa_cons (pv 3) (pa_cons (pv 5) pa_nil)))))))) (pss_one (ps_ret pe_bl)) pss_nil)))
    (pss_cons (ps_set (i := 6) scLawBentRight.nd rfl (by first | exact Or.inl rfl | exact Or.inr rfl) (pe_ix ix_tup (pv 3) (pe_cal c_law_take hr (by decide) (by rfl) (pa_cons (pv 0) (pa_cons (pe_callB c_len (by rfl) T.len (by decide +kernel) (pa_cons (pv 3) pa_nil)) pa_nil))) (fun _ _ => rfl)))
    (pss_one (ps_ret (pe_cmpR op_eq (pe_ix ix_list (pe_lc (own := [("_law_spot", 10)]) (g := (gName 10)) (tt := (tTest (tOp rNotN (tVar 10) (tC .non)))) rfl scLawBentRight.nd (pi_list (pe_cal c_places hr (by decide) (by rfl) (pa_cons (pv 1) (pa_cons (pv 4) (pa_cons (pv 6) pa_nil))))) (blkOk_by (N := nLawBentRight) (sc := defScope sLawBentRight) (by decide +kernel)) (fun _ _ _ _ _ => (pg_name (i := 10) scLawBentRight.nd rfl (by first | exact Or.inl rfl | exact Or.inr rfl))) (fun _ _ _ _ _ => (pts_one (pt_cmpR o_notN (pv 10) pe_non (nomark _)))) (fun _ _ _ _ _ => (pv 10))) (pe_un un_neg pe_int) (fun _ _ => rfl)) (pe_tupIdx (pv 3) (pa_cons (pv 6) pa_nil)) (nomark _))))))))

end K60

namespace K60
open PySem PySem.Spec PyProof.Rows L2

theorem derIsPair {P : Program} {w : World} {K : PySem.W.Frag} {mg : Str → Option Value} {base : Heap} {A : Around} {outer : List Env} {s : Shared} {H : Hp} {E : XK} {f : Addr} {cdv : Value} (T : Nm mg)
    (hr : Room 0 (A.deeper (envOfC "is_pair" (defScope sIsPair) s.heap.objs.size f cdv))) :
    PSs (cxOf CX0 P w K mg base nIsPair "is_pair" (defScope sIsPair) f cdv A outer s H E).nox (defBody sIsPair) (tIsPair K) :=
    (pss_one (ps_ret (pe_and (pe_callB call_isi (by rfl) T.isinst (by decide +kernel) (pa_cons (pv 0) (pa_cons (pe_bltn (v := .ty "tuple") (by rfl) T.tuple' (by decide +kernel) rfl) pa_nil))) (pe_and (pe_cmpR op_eq (pe_callB c_len (by rfl) T.len (by decide +kernel) (pa_cons (pv 0) pa_nil)) pe_int (nomark _)) (pe_and (pe_callB call_isi (by rfl) T.isinst (by decide +kernel) (pa_cons (pe_ix ix_tup (pv 0) pe_int (fun _ _ => rfl)) (pa_cons (pe_bltn (v := .ty "str") (by rfl) T.str' (by decide +kernel) rfl) pa_nil))) (pe_one (pe_cmpR op_eq (pe_ix ix_tup (pv 0) pe_int (fun _ _ => rfl)) (pv 1) (nomark _))))))))

theorem derNeedDeeds {P : Program} {w : World} {K : PySem.W.Frag} {mg : Str → Option Value} {base : Heap} {A : Around} {outer : List Env} {s : Shared} {H : Hp} {E : XK} {f : Addr} {cdv : Value} (T : Nm mg) (c_is_deeds_of : Cal P w K mg base 3 "is_deeds_of" ["row", "thing"] (spIsDeedsOf K))
    (hr : Room 3 (A.deeper (envOfC "need_deeds" (defScope sNeedDeeds) s.heap.objs.size f cdv))) :
    PSs (cxOf CX0 P w K mg base nNeedDeeds "need_deeds" (defScope sNeedDeeds) f cdv A outer s H E).nox (defBody sNeedDeeds) (tNeedDeeds K) :=
    (pss_one (ps_if (pt_not (pt_val (pe_cal c_is_deeds_of hr (by decide) (by rfl) (pa_cons (pv 0) (pa_cons (pv 1) pa_nil))))) (pss_one ps_never) pss_nil))

theorem derLeastOn {P : Program} {w : World} {K : PySem.W.Frag} {mg : Str → Option Value} {base : Heap} {A : Around} {outer : List Env} {s : Shared} {H : Hp} {E : XK} {f : Addr} {cdv : Value} (T : Nm mg)
    (hr : Room 0 (A.deeper (envOfC "least_on" (defScope sLeastOn) s.heap.objs.size f cdv))) :
    PSs (cxOf CX0 P w K mg base nLeastOn "least_on" (defScope sLeastOn) f cdv A outer s H E).nox (defBody sLeastOn) (tLeastOn K) :=
    (pss_cons (ps_set (i := 1) scLeastOn.nd rfl (by first | exact Or.inl rfl | exact Or.inr rfl) (pe_callTy c_list (by rfl) T.list' (by decide +kernel) (pa_cons (pv 0) pa_nil)))
    (pss_cons (ps_for PassesOwn.never rfl (pi_range3 (by rfl) T.range' (pa_cons (pe_op op_sub (pe_callB c_len (by rfl) T.len (by decide +kernel) (pa_cons (pv 0) pa_nil)) pe_int) (pa_cons (pe_un un_neg pe_int) (pa_cons (pe_un un_neg pe_int) pa_nil)))) (pg_name (i := 2) scLeastOn.nd rfl (by first | exact Or.inl rfl | exact Or.inr rfl)) (pss_one (ps_asg (pe_callB (c_min rfl) (by rfl) T.min' (by decide +kernel) (pa_cons (pe_ix ix_list (pv 1) (pv 2) (fun _ _ => rfl)) (pa_cons (pe_ix ix_list (pv 1) (pe_op op_add (pv 2) pe_int) (fun _ _ => rfl)) pa_nil))) (pg_sub (pv 1) (pv 2) set_list))))
    (pss_one (ps_ret (pv 1)))))

theorem derNeedEnd {P : Program} {w : World} {K : PySem.W.Frag} {mg : Str → Option Value} {base : Heap} {A : Around} {outer : List Env} {s : Shared} {H : Hp} {E : XK} {f : Addr} {cdv : Value} (T : Nm mg) (c_is_row : Cal P w K mg base 2 "is_row" ["thing"] (spIsRow K)) (c_need_word : Cal P w K mg base 4 "need_word" ["row", "word"] (spNeedWord K))
    (hr : Room 4 (A.deeper (envOfC "need_end" (defScope sNeedEnd) s.heap.objs.size f cdv))) :
    PSs (cxOf CX0 P w K mg base nNeedEnd "need_end" (defScope sNeedEnd) f cdv A outer s H E).nox (defBody sNeedEnd) (tNeedEnd K) :=
    (pss_cons (ps_expr (pe_cal c_need_word hr (by decide) (by rfl) (pa_cons (pv 0) (pa_cons (pv 1) pa_nil))))
    (pss_one (ps_if (pt_not (pt_val (pe_cal c_is_row hr (by decide) (by rfl) (pa_cons (pv 2) pa_nil)))) (pss_one ps_never) pss_nil)))

theorem derHistory {P : Program} {w : World} {K : PySem.W.Frag} {mg : Str → Option Value} {base : Heap} {A : Around} {outer : List Env} {s : Shared} {H : Hp} {E : XK} {f : Addr} {cdv : Value} (T : Nm mg) (c_need_end : Cal P w K mg base 5 "need_end" ["row", "word", "end"] (spNeedEnd K)) (c_is_possible : Cal P w K mg base 5 "is_possible" ["row", "word", "end"] (spCanBe K))
    (hr : Room 5 (A.deeper (envOfC "history" (defScope sHistory) s.heap.objs.size f cdv))) :
    PSs (cxOf CX0 P w K mg base nHistory "history" (defScope sHistory) f cdv A outer s H E).nox (defBody sHistory) (tHistory K) :=
    (pss_cons (ps_expr (pe_cal c_need_end hr (by decide) (by rfl) (pa_cons (pv 0) (pa_cons (pv 1) (pa_cons (pv 2) pa_nil)))))
    (pss_cons (ps_if (pt_not (pt_val (pe_cal c_is_possible hr (by decide) (by rfl) (pa_cons (pv 0) (pa_cons (pv 1) (pa_cons (pv 2) pa_nil)))))) (pss_one (ps_ret pe_non)) pss_nil)
    (pss_cons (ps_setDc (i := 3) (own := [("spot", 8), ("person", 7)]) (g := (gTup K 2 (gCons (gName 8) (gCons (gName 7) gNil)))) (tt := tYes) rfl scHistory.nd rfl rfl (sw_trueD rfl rfl rfl (by decide +kernel)) (pi_enumT (by rfl) T.enum' (pa_cons (pv 2) pa_nil)) (blkOk_by (N := nHistory) (sc := defScope sHistory) (by decide +kernel)) (fun _ _ _ _ _ => (pg_tup rfl (pgs_cons (pg_name (i := 8) scHistory.nd rfl (by first | exact Or.inl rfl | exact Or.inr rfl)) (pgs_cons (pg_name (i := 7) scHistory.nd rfl (by first | exact Or.inl rfl | exact Or.inr rfl)) pgs_nil)))) (fun _ _ _ _ _ => pts_nil) (fun _ _ _ _ _ => (pv 7)) (fun _ _ _ _ _ => (pv 8)))
    (pss_cons (ps_set (i := 4) scHistory.nd rfl (by first | exact Or.inl rfl | exact Or.inr rfl) (pe_callTy c_list (by rfl) T.list' (by decide +kernel) (pa_cons (pv 0) pa_nil)))
    (pss_cons (ps_set (i := 5) scHistory.nd rfl (by first | exact Or.inl rfl | exact Or.inr rfl) (pe_lst pa_nil))
    (pss_cons (ps_for PassesOwn.never rfl (pi_list (pv 1)) (pg_name (i := 6) scHistory.nd rfl (by first | exact Or.inl rfl | exact Or.inr rfl)) (pss_one (ps_if (pt_cmpR op_eq (pe_ix ix_tup (pv 6) pe_int (fun _ _ => rfl)) pe_str (nomark _)) (pss_cons (ps_expr (pe_bm PySem.F.plainAttrs_list PySem.F.slot_list_append PySem.F.type_list_append mt_append (pv 4) (pa_cons (pe_ix ix_tup (pv 6) pe_int (fun _ _ => rfl)) pa_nil)))
    (pss_one (ps_expr (pe_bm PySem.F.plainAttrs_list PySem.F.slot_list_append PySem.F.type_list_append mt_append (pv 5) (pa_cons (pv 6) pa_nil))))) (pss_cons (ps_set (i := 7) scHistory.nd rfl (by first | exact Or.inl rfl | exact Or.inr rfl) (pe_bm0 PySem.F.plainAttrs_list PySem.F.slot_list_pop PySem.F.type_list_pop mt_pop (pv 4)))
    (pss_cons (ps_set (i := 8) scHistory.nd rfl (by first | exact Or.inl rfl | exact Or.inr rfl) (pe_dget2 (hu_of hr) (pv 3) (pv 7) (pe_callB c_len (by rfl) T.len (by decide +kernel) (pa_cons (pv 4) pa_nil)) ⟨rfl, rfl, rfl, rfl⟩))
    (pss_cons (ps_if (pt_cmpR op_lt (pv 8) (pe_callB c_len (by rfl) T.len (by decide +kernel) (pa_cons (pv 4) pa_nil)) (nomark _)) (pss_one (ps_asg (pv 7) (pg_sub (pv 4) (pv 8) set_list))) pss_nil)
    (pss_one (ps_expr (pe_bm PySem.F.plainAttrs_list PySem.F.slot_list_append PySem.F.type_list_append mt_append (pv 5) (pa_cons (pe_tup (pa_cons pe_str (pa_cons (pv 8) pa_nil))) pa_nil))))))))))
    (pss_one (ps_ret (pv 5)))))))))

theorem derLawNames {P : Program} {w : World} {K : PySem.W.Frag} {mg : Str → Option Value} {base : Heap} {A : Around} {outer : List Env} {s : Shared} {H : Hp} {E : XK} {f : Addr} {cdv : Value} (T : Nm mg) (c_law_take : Cal P w K mg base 1 "_law_take" ["_law_bag_here", "_law_many"] spTake)
    (hr : Room 1 (A.deeper (envOfC "_law_names" (defScope sLawNames) s.heap.objs.size f cdv))) :
    PSs (cxOf CX0 P w K mg base nLawNames "_law_names" (defScope sLawNames) f cdv A outer s H E).nox (defBody sLawNames) (tLawNames K) :=
    (pss_cons (ps_set (i := 2) scLawNames.nd rfl (by first | exact Or.inl rfl | exact Or.inr rfl) (pe_lst pa_nil))
    (pss_cons (ps_set (i := 3) scLawNames.nd rfl (by first | exact Or.inl rfl | exact Or.inr rfl) pe_str)
    (pss_cons (ps_while PassesOwn.never (pt_cmpR op_lt (pe_callB c_len (by rfl) T.len (by decide +kernel) (pa_cons (pv 2) pa_nil)) (pv 1) (nomark _)) (pss_cons (ps_set (i := 4) scLawNames.nd rfl (by first | exact Or.inl rfl | exact Or.inr rfl) pe_str)
    (pss_cons (ps_for PassesOwn.never rfl (pi_range1 (by rfl) T.range' (pa_cons (pe_op op_add pe_int (pe_cal c_law_take hr (by decide) (by rfl) (pa_cons (pv 0) (pa_cons pe_int pa_nil)))) pa_nil)) (pg_name (i := 5) scLawNames.nd rfl (by first | exact Or.inl rfl | exact Or.inr rfl)) (pss_one (ps_set (i := 4) scLawNames.nd rfl (by first | exact Or.inl rfl | exact Or.inr rfl) (pe_op o_adds (pv 4) (pe_ix ix_str (pv 3) (pe_cal c_law_take hr (by decide) (by rfl) (pa_cons (pv 0) (pa_cons pe_int pa_nil))) (fun _ _ => rfl))))))
    (pss_one (ps_if (pt_cmpR op_notIn_seq (pv 4) (pv 2) (by rfl)) (pss_one (ps_expr (pe_bm PySem.F.plainAttrs_list PySem.F.slot_list_append PySem.F.type_list_append mt_append (pv 2) (pa_cons (pv 4) pa_nil)))) (pss_cons (ps_set (i := 6) scLawNames.nd rfl (by first | exact Or.inl rfl | exact Or.inr rfl) pe_int)
    (pss_cons (ps_while PassesOwn.never (pt_cmpR op_in_seq (pe_op o_adds (pe_ix ix_str (pv 3) (pe_op op_fdiv (pv 6) pe_int) (fun _ _ => rfl)) (pe_ix ix_str (pv 3) (pe_op op_mod (pv 6) pe_int) (fun _ _ => rfl))) (pv 2) (by rfl)) (pss_one (ps_set (i := 6) scLawNames.nd rfl (by first | exact Or.inl rfl | exact Or.inr rfl) (pe_op op_add (pv 6) pe_int))))
    (pss_one (ps_expr (pe_bm PySem.F.plainAttrs_list PySem.F.slot_list_append PySem.F.type_list_append mt_append (pv 2) (pa_cons (pe_op o_adds (pe_ix ix_str (pv 3) (pe_op op_fdiv (pv 6) pe_int) (fun _ _ => rfl)) (pe_ix ix_str (pv 3) (pe_op op_mod (pv 6) pe_int) (fun _ _ => rfl))) pa_nil)))))))))))
    (pss_one (ps_ret (pv 2))))))

theorem derLaw {P : Program} {w : World} {K : PySem.W.Frag} {mg : Str → Option Value} {base : Heap} {A : Around} {outer : List Env} {s : Shared} {H : Hp} {E : XK} {f : Addr} {cdv : Value} (T : Nm mg) (c_go : Cal P w K mg base 5 "go" ["row", "deeds"] (spGoneBy K)) (c_can_be : Cal P w K mg base 6 "can_be" ["row", "word", "end"] (spCanBe K)) (c_why_not : Cal P w K mg base 6 "why_not" ["row", "word", "end"] (spWhyNot K)) (c_history : Cal P w K mg base 6 "history" ["row", "word", "end"] (spHistory K)) (c_moved : Cal P w K mg base 6 "moved" ["row", "word", "end"] (spMoved K)) (c_law_cell_at : Cal P w K mg base 1 "_law_cell_at" ["_law_script", "_law_k"] (spCellAt K)) (c_law_bag : Cal P w K mg base 1 "_law_bag" ["_law_cell", "_law_k"] spBag) (c_law_take : Cal P w K mg base 1 "_law_take" ["_law_bag_here", "_law_many"] spTake) (c_law_alike : Cal P w K mg base 2 "_law_alike" ["_law_found", "_law_due"] (spAlike K)) (c_law_names : Cal P w K mg base 2 "_law_names" ["_law_bag_here", "_law_many"] spNames) (c_law_deeds : Cal P w K mg base 2 "_law_deeds" ["_law_bag_here", "_law_names_here", "_law_many", "_law_asks"] spDeeds) (c_law_rows : Cal P w K mg base 1 "_law_rows" ["_law_row", "_law_deeds_here"] (spRows K)) (c_law_movers : Cal P w K mg base 1 "_law_movers" ["_law_rows_here"] spMovers) (c_law_bent_right : Cal P w K mg base 8 "_law_bent_right" ["_law_bag_here", "_law_row", "_law_word", "_law_end", "_law_told"] (spBentRight K))
    (hr : Room 8 (A.deeper (envOfC "law" (defScope sLaw) s.heap.objs.size f cdv))) :
    PSs (cxOf CX0 P w K mg base nLaw "law" (defScope sLaw) f cdv A outer s H E).nox (defBody sLaw) (tLaw K) :=
    (pss_cons (ps_for PassesOwn.never rfl (pi_range1 (by rfl) T.range' (pa_cons (pe_callB (c_max rfl) (by rfl) T.max' (by decide +kernel) (pa_cons pe_int (pa_cons (pe_callB (c_min rfl) (by rfl) T.min' (by decide +kernel) (pa_cons pe_int (pa_cons (pe_callB c_len (by rfl) T.len (by decide +kernel) (pa_cons (pv 0) pa_nil)) pa_nil))) pa_nil))) pa_nil)) (pg_name (i := 1) scLaw.nd rfl (by first | exact Or.inl rfl | exact Or.inr rfl)) (pss_cons (ps_set (i := 2) scLaw.nd rfl (by first | exact Or.inl rfl | exact Or.inr rfl) (pe_cal c_law_bag hr (by decide) (by rfl) (pa_cons (pe_cal c_law_cell_at hr (by decide) (by rfl) (pa_cons (pv 0) (pa_cons (pv 1) pa_nil))) (pa_cons (pv 1) pa_nil))))
    (pss_cons (ps_set (i := 3) scLaw.nd rfl (by first | exact Or.inl rfl | exact Or.inr rfl) (pe_cal c_law_take hr (by decide) (by rfl) (pa_cons (pv 2) (pa_cons pe_int pa_nil))))
    (pss_cons (ps_set (i := 4) scLaw.nd rfl (by first | exact Or.inl rfl | exact Or.inr rfl) (pe_cal c_law_names hr (by decide) (by rfl) (pa_cons (pv 2) (pa_cons (pe_op op_add (pv 3) (pe_cal c_law_take hr (by decide) (by rfl) (pa_cons (pv 2) (pa_cons pe_int pa_nil)))) pa_nil))))
    (pss_cons (ps_set (i := 5) scLaw.nd rfl (by first | exact Or.inl rfl | exact Or.inr rfl) (pe_cal c_law_deeds hr (by decide) (by rfl) (pa_cons (pv 2) (pa_cons (pv 4) (pa_cons (pv 3) (pa_cons (pe_cal c_law_take hr (by decide) (by rfl) (pa_cons (pv 2) (pa_cons pe_int pa_nil))) pa_nil))))))
    (pss_cons (ps_set (i := 6) scLaw.nd rfl (by first | exact Or.inl rfl | exact Or.inr rfl) (pe_callTy c_tup (by rfl) T.tuple' (by decide +kernel) (pa_cons (pe_slice sl_list (pv 4) po_none (po_some (pv 3))) pa_nil)))
    (pss_cons (ps_set (i := 7) scLaw.nd rfl (by first | exact Or.inl rfl | exact Or.inr rfl) (pe_cal c_law_rows hr (by decide) (by rfl) (pa_cons (pv 6) (pa_cons (pv 5) pa_nil))))
    (pss_cons (ps_set (i := 8) scLaw.nd rfl (by first | exact Or.inl rfl | exact Or.inr rfl) (pe_callTy cr_tupleF (by rfl) T.tuple' (by decide +kernel) (pa_cons (pe_ix ix_list (pv 7) (pe_un un_neg pe_int) (fun _ _ => rfl)) pa_nil)))
    (pss_cons (ps_setLc (i := 9) (own := [("_law_deed", 14)]) (g := (gName 14)) (tt := tYes) rfl scLaw.nd rfl rfl (sw_true rfl rfl rfl (by decide +kernel)) (pi_list (pv 5)) (blkOk_by (N := nLaw) (sc := defScope sLaw) (by decide +kernel)) (fun _ _ _ _ _ => (pg_name (i := 14) scLaw.nd rfl (by first | exact Or.inl rfl | exact Or.inr rfl))) (fun _ _ _ _ _ => pts_nil) (fun _ _ _ _ _ => (pe_ifExp (pt_cmpR op_eq (pe_ix ix_tup (pv 14) pe_int (fun _ _ => rfl)) pe_str (nomark _)) (pv 14) (pe_tup (pa_cons pe_str pa_nil)))))
    (pss_cons (ps_if (PW.pt (pw_or (pt_not (pt_val (pe_cal c_law_alike hr (by decide) (by rfl) (pa_cons (pe_cal c_can_be hr (by decide) (by rfl) (pa_cons (pv 6) (pa_cons (pv 9) (pa_cons (pv 8) pa_nil)))) (pa_cons pe_bl pa_nil))))) (pw_or1 (pt_cmpR o_notN (pe_cal c_why_not hr (by decide) (by rfl) (pa_cons (pv 6) (pa_cons (pv 9) (pa_cons (pv 8) pa_nil)))) pe_non (nomark _))))) (pss_one (ps_ret pe_bl)) pss_nil)
    (pss_cons (ps_set (i := 10) scLaw.nd rfl (by first | exact Or.inl rfl | exact Or.inr rfl) (pe_cal c_history hr (by decide) (by rfl) (pa_cons (pv 6) (pa_cons (pv 9) (pa_cons (pv 8) pa_nil)))))
    (pss_cons (ps_if (pt_not (pt_val (pe_cal c_law_alike hr (by decide) (by rfl) (pa_cons (pe_ix ix_tup (pe_cal c_go hr (by decide) (by rfl) (pa_cons (pv 6) (pa_cons (pv 10) pa_nil))) pe_int (fun _ _ => rfl)) (pa_cons (pv 8) pa_nil))))) (pss_one (ps_ret pe_bl)) pss_nil)
    (pss_cons (ps_if (pt_cmpR (op_neD hr.units) (pe_lc (own := [("_law_one", 15)]) (g := (gName 15)) (tt := tYes) rfl scLaw.nd (pi_list (pv 10)) (blkOk_by (N := nLaw) (sc := defScope sLaw) (by decide +kernel)) (fun _ _ _ _ _ => (pg_name (i := 15) scLaw.nd rfl (by first | exact Or.inl rfl | exact Or.inr rfl))) (fun _ _ _ _ _ => pts_nil) (fun _ _ _ _ _ => (pe_ifExp (pt_cmpR op_eq (pe_ix ix_tup (pv 15) pe_int (fun _ _ => rfl)) pe_str (nomark _)) (pv 15) (pe_slice sl_tup (pv 15) po_none (po_some pe_int))))) (pv 9) (nomark _)) (pss_one (ps_ret pe_bl)) pss_nil)
    (pss_cons (ps_set (i := 11) scLaw.nd rfl (by first | exact Or.inl rfl | exact Or.inr rfl) (pe_cal c_law_movers hr (by decide) (by rfl) (pa_cons (pe_cal c_law_rows hr (by decide) (by rfl) (pa_cons (pv 6) (pa_cons (pv 10) pa_nil))) pa_nil)))
    (pss_cons (ps_set (i := 12) scLaw.nd rfl (by first | exact Or.inl rfl | exact Or.inr rfl) (pe_cal c_law_movers hr (by decide) (by rfl) (pa_cons (pv 7) pa_nil)))
    (pss_cons (ps_set (i := 13) scLaw.nd rfl (by first | exact Or.inl rfl | exact Or.inr rfl) (pe_callB cr_sortedA (by rfl) T.sorted' (by decide +kernel) (pa_cons (pe_lock (pe_lc (own := [("_law_person", 16)]) (g := (gName 16)) (tt := (tAnd (tTest (tOp (rIn K false) (tVar 16) (tVar 8))) (tTest (tOp rGtI (tCB (rLenQ K) (tCons (tDGet (tVar 11) (tVar 16)) tNil)) (tC (.int 1)))))) rfl scLaw.nd (pi_keys (pv 11)) (blkOk_by (N := nLaw) (sc := defScope sLaw) (by decide +kernel)) (fun _ _ _ _ _ => (pg_name (i := 16) scLaw.nd rfl (by first | exact Or.inl rfl | exact Or.inr rfl))) (fun _ _ _ _ _ => (pts_one (PW.pt (pw_and (pt_cmpR op_in_seq (pv 16) (pv 8) (by rfl)) (pw_and1 (pt_cmpR op_gt (pe_callB c_len (by rfl) T.len (by decide +kernel) (pa_cons (pe_dget (hu_of hr) (pv 11) (pv 16) (fun _ _ => rfl)) pa_nil)) pe_int (nomark _))))))) (fun _ _ _ _ _ => (pv 16)))) pa_nil)))
    (pss_cons (ps_if (pt_not (pt_val (pe_cal c_law_alike hr (by decide) (by rfl) (pa_cons (pe_cal c_moved hr (by decide) (by rfl) (pa_cons (pv 6) (pa_cons (pv 9) (pa_cons (pv 8) pa_nil)))) (pa_cons (pv 13) pa_nil))))) (pss_one (ps_ret pe_bl)) pss_nil)
    (pss_cons (ps_if (pt_cmpR (op_neD hr.units) (pe_lock (pe_lc (own := [("_law_person", 16)]) (g := (gName 16)) (tt := (tTest (tOp rGtI (tCB (rLenQ K) (tCons (tDGet (tVar 11) (tVar 16)) tNil)) (tOp rAddI (tC (.int 1)) (tCB rIntQ (tCons (tOp (rIn K false) (tVar 16) (tVar 13)) tNil)))))) rfl scLaw.nd (pi_keys (pv 11)) (blkOk_by (N := nLaw) (sc := defScope sLaw) (by decide +kernel)) (fun _ _ _ _ _ => (pg_name (i := 16) scLaw.nd rfl (by first | exact Or.inl rfl | exact Or.inr rfl))) (fun _ _ _ _ _ => (pts_one (pt_cmpR op_gt (pe_callB c_len (by rfl) T.len (by decide +kernel) (pa_cons (pe_dget (hu_of hr) (pv 11) (pv 16) (fun _ _ => rfl)) pa_nil)) (pe_op op_add pe_int (pe_callTy c_int (by rfl) T.int' (by decide +kernel) (pa_cons (pe_cmpR op_in_seq (pv 16) (pv 13) (by rfl)) pa_nil))) (nomark _)))) (fun _ _ _ _ _ => (pv 16)))) (pe_lst pa_nil) (nomark _)) (pss_one (ps_ret pe_bl)) pss_nil)
    (pss_cons (ps_if (pt_cmpR (op_neD hr.units) (pe_lc (own := [("_law_person", 16)]) (g := (gName 16)) (tt := (tTest (tOp rLtI (tCB (rLenQ K) (tCons (tDGet (tVar 12) (tVar 16)) tNil)) (tC (.int 2))))) rfl scLaw.nd (pi_list (pv 13)) (blkOk_by (N := nLaw) (sc := defScope sLaw) (by decide +kernel)) (fun _ _ _ _ _ => (pg_name (i := 16) scLaw.nd rfl (by first | exact Or.inl rfl | exact Or.inr rfl))) (fun _ _ _ _ _ => (pts_one (pt_cmpR op_lt (pe_callB c_len (by rfl) T.len (by decide +kernel) (pa_cons (pe_dget (hu_of hr) (pv 12) (pv 16) (fun _ _ => rfl)) pa_nil)) pe_int (nomark _)))) (fun _ _ _ _ _ => (pv 16))) (pe_lst pa_nil) (nomark _)) (pss_one (ps_ret pe_bl)) pss_nil)
    (pss_one (ps_if (PW.pt (pw_and (pt_cmpR (op_neD hr.units) (pv 8) (pe_tup pa_nil) (nomark _)) (pw_and1 (pt_not (pt_val (pe_cal c_law_bent_right hr (by decide) (by rfl) (pa_cons (pv 2) (pa_cons (pv 6) (pa_cons (pv 9) (pa_cons (pv 8) (pa_cons (pv 10) pa_nil))))))))))) (pss_one (ps_ret pe_bl)) pss_nil)))))))))))))))))))))
    (pss_one (ps_ret pe_bl)))

end K60

namespace K60
open PySem PySem.Spec PyProof.Rows L2

theorem derIsComing {P : Program} {w : World} {K : PySem.W.Frag} {mg : Str → Option Value} {base : Heap} {A : Around} {outer : List Env} {s : Shared} {H : Hp} {E : XK} {f : Addr} {cdv : Value} (T : Nm mg) (c_is_person : Cal P w K mg base 1 "is_person" ["thing"] spIsPerson) (c_is_pair : Cal P w K mg base 1 "is_pair" ["thing", "word"] spIsPair)
    (hr : Room 1 (A.deeper (envOfC "is_coming" (defScope sIsComing) s.heap.objs.size f cdv))) :
    PSs (cxOf CX0 P w K mg base nIsComing "is_coming" (defScope sIsComing) f cdv A outer s H E).nox (defBody sIsComing) (tIsComing K) :=
    (pss_one (ps_ret (pe_and (pe_cal c_is_pair hr (by decide) (by rfl) (pa_cons (pv 0) (pa_cons pe_str pa_nil))) (pe_one (pe_cal c_is_person hr (by decide) (by rfl) (pa_cons (pe_ix ix_tup (pv 0) pe_int (fun _ _ => rfl)) pa_nil))))))

theorem derGoneBy {P : Program} {w : World} {K : PySem.W.Frag} {mg : Str → Option Value} {base : Heap} {A : Around} {outer : List Env} {s : Shared} {H : Hp} {E : XK} {f : Addr} {cdv : Value} (T : Nm mg) (c_go_out : Cal P w K mg base 1 "go_out" ["people", "place"] spGoOut)
    (hr : Room 1 (A.deeper (envOfC "gone_by" (defScope sGoneBy) s.heap.objs.size f cdv))) :
    PSs (cxOf CX0 P w K mg base nGoneBy "gone_by" (defScope sGoneBy) f cdv A outer s H E).nox (defBody sGoneBy) (tGoneBy K) :=
    (pss_cons (ps_set (i := 2) scGoneBy.nd rfl (by first | exact Or.inl rfl | exact Or.inr rfl) (pe_callTy c_list (by rfl) T.list' (by decide +kernel) (pa_cons (pv 0) pa_nil)))
    (pss_cons (ps_set (i := 3) scGoneBy.nd rfl (by first | exact Or.inl rfl | exact Or.inr rfl) (pe_lst pa_nil))
    (pss_cons (ps_for PassesOwn.never rfl (pi_list (pv 1)) (pg_name (i := 4) scGoneBy.nd rfl (by first | exact Or.inl rfl | exact Or.inr rfl)) (pss_one (ps_if (pt_cmpR op_eq (pe_ix ix_tup (pv 4) pe_int (fun _ _ => rfl)) pe_str (nomark _)) (pss_one (ps_expr (pe_bm PySem.F.plainAttrs_list PySem.F.slot_list_append PySem.F.type_list_append mt_append (pv 2) (pa_cons (pe_ix ix_tup (pv 4) pe_int (fun _ _ => rfl)) pa_nil)))) (pss_one (ps_expr (pe_bm PySem.F.plainAttrs_list PySem.F.slot_list_append PySem.F.type_list_append mt_append (pv 3) (pa_cons (pe_cal c_go_out hr (by decide) (by rfl) (pa_cons (pv 2) (pa_cons (pe_ix ix_tup (pv 4) pe_int (fun _ _ => rfl)) pa_nil))) pa_nil)))))))
    (pss_one (ps_ret (pe_tup (pa_cons (pe_callTy c_tup (by rfl) T.tuple' (by decide +kernel) (pa_cons (pv 2) pa_nil)) (pa_cons (pv 3) pa_nil))))))))

theorem derMarksOf {P : Program} {w : World} {K : PySem.W.Frag} {mg : Str → Option Value} {base : Heap} {A : Around} {outer : List Env} {s : Shared} {H : Hp} {E : XK} {f : Addr} {cdv : Value} (T : Nm mg) (c_word_sizes : Cal P w K mg base 1 "word_sizes" ["row", "word"] (spWordSizes K)) (c_least_on : Cal P w K mg base 1 "least_on" ["sizes"] spLeastOn)
    (hr : Room 1 (A.deeper (envOfC "marks_of" (defScope sMarksOf) s.heap.objs.size f cdv))) :
    PSs (cxOf CX0 P w K mg base nMarksOf "marks_of" (defScope sMarksOf) f cdv A outer s H E).nox (defBody sMarksOf) (tMarksOf K) :=
    (pss_cons (ps_set (i := 2) scMarksOf.nd rfl (by first | exact Or.inl rfl | exact Or.inr rfl) (pe_cal c_word_sizes hr (by decide) (by rfl) (pa_cons (pv 0) (pa_cons (pv 1) pa_nil))))
    (pss_cons (ps_set (i := 3) scMarksOf.nd rfl (by first | exact Or.inl rfl | exact Or.inr rfl) (pe_cal c_least_on hr (by decide) (by rfl) (pa_cons (pv 2) pa_nil)))
    (pss_cons (ps_setLc (i := 4) (own := [("place", 7), ("person", 8)]) (g := (gTup K 2 (gCons (gName 7) (gCons (gName 8) gNil)))) (tt := tYes) rfl scMarksOf.nd rfl rfl (sw_true rfl rfl rfl (by decide +kernel)) (pi_enumT (by rfl) T.enum' (pa_cons (pv 0) pa_nil)) (blkOk_by (N := nMarksOf) (sc := defScope sMarksOf) (by decide +kernel)) (fun _ _ _ _ _ => (pg_tup rfl (pgs_cons (pg_name (i := 7) scMarksOf.nd rfl (by first | exact Or.inl rfl | exact Or.inr rfl)) (pgs_cons (pg_name (i := 8) scMarksOf.nd rfl (by first | exact Or.inl rfl | exact Or.inr rfl)) pgs_nil)))) (fun _ _ _ _ _ => pts_nil) (fun _ _ _ _ _ => (pe_tup (pa_cons (pv 8) (pa_cons (pv 7) (pa_cons (pe_ix ix_list (pv 3) pe_int (fun _ _ => rfl)) pa_nil))))))
    (pss_cons (ps_for PassesOwn.never rfl (pi_enum (by rfl) T.enum' (pa_cons (pv 1) pa_nil)) (pg_tup rfl (pgs_cons (pg_name (i := 5) scMarksOf.nd rfl (by first | exact Or.inl rfl | exact Or.inr rfl)) (pgs_cons (pg_name (i := 6) scMarksOf.nd rfl (by first | exact Or.inl rfl | exact Or.inr rfl)) pgs_nil))) (pss_one (ps_if (pt_cmpR op_eq (pe_ix ix_tup (pv 6) pe_int (fun _ _ => rfl)) pe_str (nomark _)) (pss_one (ps_expr (pe_bm PySem.F.plainAttrs_list PySem.F.slot_list_append PySem.F.type_list_append mt_append (pv 4) (pa_cons (pe_tup (pa_cons (pe_ix ix_tup (pv 6) pe_int (fun _ _ => rfl)) (pa_cons (pe_ix ix_list (pv 2) (pv 5) (fun _ _ => rfl)) (pa_cons (pe_ix ix_list (pv 3) (pe_op op_add (pv 5) pe_int) (fun _ _ => rfl)) pa_nil)))) pa_nil)))) pss_nil)))
    (pss_one (ps_ret (pv 4)))))))

theorem derIsOfThese {P : Program} {w : World} {K : PySem.W.Frag} {mg : Str → Option Value} {base : Heap} {A : Around} {outer : List Env} {s : Shared} {H : Hp} {E : XK} {f : Addr} {cdv : Value} (T : Nm mg) (c_last_size : Cal P w K mg base 2 "last_size" ["row", "word"] (spLastSize K)) (c_known_of : Cal P w K mg base 3 "known_of" ["row", "word"] (spKnownOf K))
    (hr : Room 3 (A.deeper (envOfC "is_of_these" (defScope sIsOfThese) s.heap.objs.size f cdv))) :
    PSs (cxOf CX0 P w K mg base nIsOfThese "is_of_these" (defScope sIsOfThese) f cdv A outer s H E).nox (defBody sIsOfThese) (tIsOfThese K) :=
    (pss_cons (ps_set (i := 3) scIsOfThese.nd rfl (by first | exact Or.inl rfl | exact Or.inr rfl) (pe_cal c_known_of hr (by decide) (by rfl) (pa_cons (pv 0) (pa_cons (pv 1) pa_nil))))
    (pss_one (ps_ret (pe_and (pe_cmpR op_eq (pe_callB c_len (by rfl) T.len (by decide +kernel) (pa_cons (pv 2) pa_nil)) (pe_cal c_last_size hr (by decide) (by rfl) (pa_cons (pv 0) (pa_cons (pv 1) pa_nil))) (nomark _)) (pe_one (pe_callB (cr_all rfl) (by rfl) T.all (by decide +kernel) (pa_cons (pe_lc (own := [("person", 4)]) (g := (gName 4)) (tt := tYes) rfl scIsOfThese.nd (pi_tup (pv 2)) (blkOk_by (N := nIsOfThese) (sc := defScope sIsOfThese) (by decide +kernel)) (fun _ _ _ _ _ => (pg_name (i := 4) scIsOfThese.nd rfl (by first | exact Or.inl rfl | exact Or.inr rfl))) (fun _ _ _ _ _ => pts_nil) (fun _ _ _ _ _ => (pe_cmp (pc_din (hu_of hr) (pv 4) (pv 3)) rfl))) pa_nil)))))))

theorem derMoved {P : Program} {w : World} {K : PySem.W.Frag} {mg : Str → Option Value} {base : Heap} {A : Around} {outer : List Env} {s : Shared} {H : Hp} {E : XK} {f : Addr} {cdv : Value} (T : Nm mg) (c_known_of : Cal P w K mg base 3 "known_of" ["row", "word"] (spKnownOf K)) (c_need_end : Cal P w K mg base 5 "need_end" ["row", "word", "end"] (spNeedEnd K)) (c_is_possible : Cal P w K mg base 5 "is_possible" ["row", "word", "end"] (spCanBe K))
    (hr : Room 5 (A.deeper (envOfC "moved" (defScope sMoved) s.heap.objs.size f cdv))) :
    PSs (cxOf CX0 P w K mg base nMoved "moved" (defScope sMoved) f cdv A outer s H E).nox (defBody sMoved) (tMoved K) :=
    (pss_cons (ps_expr (pe_cal c_need_end hr (by decide) (by rfl) (pa_cons (pv 0) (pa_cons (pv 1) (pa_cons (pv 2) pa_nil)))))
    (pss_cons (ps_if (pt_not (pt_val (pe_cal c_is_possible hr (by decide) (by rfl) (pa_cons (pv 0) (pa_cons (pv 1) (pa_cons (pv 2) pa_nil)))))) (pss_one ps_never) pss_nil)
    (pss_cons (ps_set (i := 3) scMoved.nd rfl (by first | exact Or.inl rfl | exact Or.inr rfl) (pe_cal c_known_of hr (by decide) (by rfl) (pa_cons (pv 0) (pa_cons (pv 1) pa_nil))))
    (pss_one (ps_ret (pe_callB cr_sortedA (by rfl) T.sorted' (by decide +kernel) (pa_cons (pe_lc (own := [("spot", 4), ("person", 5)]) (g := (gTup K 2 (gCons (gName 4) (gCons (gName 5) gNil)))) (tt := (tTest (tOp rNe (tOp (rIxT K) (tDGet (tVar 3) (tVar 5)) (tC (.int 0))) (tVar 4)))) rfl scMoved.nd (pi_enumT (by rfl) T.enum' (pa_cons (pv 2) pa_nil)) (blkOk_by (N := nMoved) (sc := defScope sMoved) (by decide +kernel)) (fun _ _ _ _ _ => (pg_tup rfl (pgs_cons (pg_name (i := 4) scMoved.nd rfl (by first | exact Or.inl rfl | exact Or.inr rfl)) (pgs_cons (pg_name (i := 5) scMoved.nd rfl (by first | exact Or.inl rfl | exact Or.inr rfl)) pgs_nil)))) (fun _ _ _ _ _ => (pts_one (pt_cmpR op_ne (pe_ix ix_tup (pe_dget (hu_of hr) (pv 3) (pv 5) (fun _ _ => rfl)) pe_int (fun _ _ => rfl)) (pv 4) (nomark _)))) (fun _ _ _ _ _ => (pv 5))) pa_nil)))))))

theorem derLawDeeds {P : Program} {w : World} {K : PySem.W.Frag} {mg : Str → Option Value} {base : Heap} {A : Around} {outer : List Env} {s : Shared} {H : Hp} {E : XK} {f : Addr} {cdv : Value} (T : Nm mg) (c_law_take : Cal P w K mg base 1 "_law_take" ["_law_bag_here", "_law_many"] spTake)
    (hr : Room 1 (A.deeper (envOfC "_law_deeds" (defScope sLawDeeds) s.heap.objs.size f cdv))) :
    PSs (cxOf CX0 P w K mg base nLawDeeds "_law_deeds" (defScope sLawDeeds) f cdv A outer s H E).nox (defBody sLawDeeds) (tLawDeeds K) :=
    (pss_cons (ps_set (i := 4) scLawDeeds.nd rfl (by first | exact Or.inl rfl | exact Or.inr rfl) (pe_lst pa_nil))
    (pss_cons (ps_set (i := 5) scLawDeeds.nd rfl (by first | exact Or.inl rfl | exact Or.inr rfl) (pv 2))
    (pss_cons (ps_set (i := 6) scLawDeeds.nd rfl (by first | exact Or.inl rfl | exact Or.inr rfl) (pv 2))
    (pss_cons (ps_set (i := 7) scLawDeeds.nd rfl (by first | exact Or.inl rfl | exact Or.inr rfl) (pe_op op_add pe_int (pe_cal c_law_take hr (by decide) (by rfl) (pa_cons (pv 0) (pa_cons pe_int pa_nil)))))
    (pss_cons (ps_for PassesOwn.never rfl (pi_range1 (by rfl) T.range' (pa_cons (pv 3) pa_nil)) (pg_name (i := 8) scLawDeeds.nd rfl (by first | exact Or.inl rfl | exact Or.inr rfl)) (pss_one (ps_if (PW.pt (pw_and (pt_cmpR op_lt (pv 6) (pe_callB c_len (by rfl) T.len (by decide +kernel) (pa_cons (pv 1) pa_nil)) (nomark _)) (pw_and1 (PW.pt (pw_or (pt_cmpR op_eq (pv 5) pe_int (nomark _)) (pw_or1 (pt_cmpR op_lt (pe_cal c_law_take hr (by decide) (by rfl) (pa_cons (pv 0) (pa_cons pe_int pa_nil))) (pv 7) (nomark _)))))))) (pss_cons (ps_expr (pe_bm PySem.F.plainAttrs_list PySem.F.slot_list_append PySem.F.type_list_append mt_append (pv 4) (pa_cons (pe_tup (pa_cons pe_str (pa_cons (pe_ix ix_list (pv 1) (pv 6) (fun _ _ => rfl)) pa_nil))) pa_nil)))
    (pss_cons (ps_set (i := 6) scLawDeeds.nd rfl (by first | exact Or.inl rfl | exact Or.inr rfl) (pe_op op_add (pv 6) pe_int))
    (pss_one (ps_set (i := 5) scLawDeeds.nd rfl (by first | exact Or.inl rfl | exact Or.inr rfl) (pe_op op_add (pv 5) pe_int))))) (pss_one (ps_if (pt_cmpR op_gt (pv 5) pe_int (nomark _)) (pss_cons (ps_set (i := 9) scLawDeeds.nd rfl (by first | exact Or.inl rfl | exact Or.inr rfl) (pe_lst (pa_cons (pe_cal c_law_take hr (by decide) (by rfl) (pa_cons (pv 0) (pa_cons (pv 5) pa_nil))) (pa_cons (pe_cal c_law_take hr (by decide) (by rfl) (pa_cons (pv 0) (pa_cons (pv 5) pa_nil))) (pa_cons (pe_op op_sub (pv 5) pe_int) (pa_cons pe_int pa_nil))))))
    (pss_cons (ps_expr (pe_bm PySem.F.plainAttrs_list PySem.F.slot_list_append PySem.F.type_list_append mt_append (pv 4) (pa_cons (pe_tup (pa_cons pe_str (pa_cons (pe_ix ix_list (pv 9) (pe_cal c_law_take hr (by decide) (by rfl) (pa_cons (pv 0) (pa_cons pe_int pa_nil))) (fun _ _ => rfl)) pa_nil))) pa_nil)))
    (pss_one (ps_set (i := 5) scLawDeeds.nd rfl (by first | exact Or.inl rfl | exact Or.inr rfl) (pe_op op_sub (pv 5) pe_int))))) pss_nil)))))
    (pss_one (ps_ret (pv 4))))))))

end K60

namespace K60
open PySem PySem.Spec PyProof.Rows L2

theorem derIsGoing {P : Program} {w : World} {K : PySem.W.Frag} {mg : Str → Option Value} {base : Heap} {A : Around} {outer : List Env} {s : Shared} {H : Hp} {E : XK} {f : Addr} {cdv : Value} (T : Nm mg) (c_is_amount : Cal P w K mg base 1 "is_amount" ["thing"] spIsAmount) (c_is_pair : Cal P w K mg base 1 "is_pair" ["thing", "word"] spIsPair)
    (hr : Room 1 (A.deeper (envOfC "is_going" (defScope sIsGoing) s.heap.objs.size f cdv))) :
    PSs (cxOf CX0 P w K mg base nIsGoing "is_going" (defScope sIsGoing) f cdv A outer s H E).nox (defBody sIsGoing) (tIsGoing K) :=
    (pss_one (ps_ret (pe_and (pe_cal c_is_pair hr (by decide) (by rfl) (pa_cons (pv 0) (pa_cons pe_str pa_nil))) (pe_one (pe_cal c_is_amount hr (by decide) (by rfl) (pa_cons (pe_ix ix_tup (pv 0) pe_int (fun _ _ => rfl)) pa_nil))))))

theorem derGo {P : Program} {w : World} {K : PySem.W.Frag} {mg : Str → Option Value} {base : Heap} {A : Around} {outer : List Env} {s : Shared} {H : Hp} {E : XK} {f : Addr} {cdv : Value} (T : Nm mg) (c_need_row : Cal P w K mg base 3 "need_row" ["row"] (spNeedRow K)) (c_need_deeds : Cal P w K mg base 4 "need_deeds" ["row", "deeds"] (spNeedDeeds K)) (c_gone_by : Cal P w K mg base 2 "gone_by" ["row", "deeds"] (spGoneBy K))
    (hr : Room 4 (A.deeper (envOfC "go" (defScope sGo) s.heap.objs.size f cdv))) :
    PSs (cxOf CX0 P w K mg base nGo "go" (defScope sGo) f cdv A outer s H E).nox (defBody sGo) (tGo K) :=
    (pss_cons (ps_expr (pe_cal c_need_row hr (by decide) (by rfl) (pa_cons (pv 0) pa_nil)))
    (pss_cons (ps_expr (pe_cal c_need_deeds hr (by decide) (by rfl) (pa_cons (pv 0) (pa_cons (pv 1) pa_nil))))
    (pss_one (ps_ret (pe_cal c_gone_by hr (by decide) (by rfl) (pa_cons (pv 0) (pa_cons (pv 1) pa_nil)))))))

theorem derMarks {P : Program} {w : World} {K : PySem.W.Frag} {mg : Str → Option Value} {base : Heap} {A : Around} {outer : List Env} {s : Shared} {H : Hp} {E : XK} {f : Addr} {cdv : Value} (T : Nm mg) (c_need_word : Cal P w K mg base 4 "need_word" ["row", "word"] (spNeedWord K)) (c_marks_of : Cal P w K mg base 2 "marks_of" ["row", "word"] (spMarks K))
    (hr : Room 4 (A.deeper (envOfC "marks" (defScope sMarks) s.heap.objs.size f cdv))) :
    PSs (cxOf CX0 P w K mg base nMarks "marks" (defScope sMarks) f cdv A outer s H E).nox (defBody sMarks) (tMarks K) :=
    (pss_cons (ps_expr (pe_cal c_need_word hr (by decide) (by rfl) (pa_cons (pv 0) (pa_cons (pv 1) pa_nil))))
    (pss_one (ps_ret (pe_cal c_marks_of hr (by decide) (by rfl) (pa_cons (pv 0) (pa_cons (pv 1) pa_nil))))))

theorem derFirstWrong {P : Program} {w : World} {K : PySem.W.Frag} {mg : Str → Option Value} {base : Heap} {A : Around} {outer : List Env} {s : Shared} {H : Hp} {E : XK} {f : Addr} {cdv : Value} (T : Nm mg) (c_may_stand : Cal P w K mg base 1 "may_stand" ["place", "mark", "spot"] spMayStand) (c_known_of : Cal P w K mg base 3 "known_of" ["row", "word"] (spKnownOf K))
    (hr : Room 3 (A.deeper (envOfC "first_wrong" (defScope sFirstWrong) s.heap.objs.size f cdv))) :
    PSs (cxOf CX0 P w K mg base nFirstWrong "first_wrong" (defScope sFirstWrong) f cdv A outer s H E).nox (defBody sFirstWrong) (tFirstWrong K) :=
    (pss_cons (ps_set (i := 3) scFirstWrong.nd rfl (by first | exact Or.inl rfl | exact Or.inr rfl) (pe_cal c_known_of hr (by decide) (by rfl) (pa_cons (pv 0) (pa_cons (pv 1) pa_nil))))
    (pss_cons (ps_for PassesOwn.never rfl (pi_enumT (by rfl) T.enum' (pa_cons (pv 2) pa_nil)) (pg_tup rfl (pgs_cons (pg_name (i := 4) scFirstWrong.nd rfl (by first | exact Or.inl rfl | exact Or.inr rfl)) (pgs_cons (pg_name (i := 5) scFirstWrong.nd rfl (by first | exact Or.inl rfl | exact Or.inr rfl)) pgs_nil))) (pss_cons (ps_asg (pe_dget (hu_of hr) (pv 3) (pv 5) (fun _ _ => rfl)) (pg_tup rfl (pgs_cons (pg_name (i := 6) scFirstWrong.nd rfl (by first | exact Or.inl rfl | exact Or.inr rfl)) (pgs_cons (pg_name (i := 7) scFirstWrong.nd rfl (by first | exact Or.inl rfl | exact Or.inr rfl)) pgs_nil))))
    (pss_one (ps_if (pt_not (pt_val (pe_cal c_may_stand hr (by decide) (by rfl) (pa_cons (pv 6) (pa_cons (pv 7) (pa_cons (pv 4) pa_nil)))))) (pss_one (ps_ret (pv 4))) pss_nil))))
    (pss_one (ps_ret pe_non))))

theorem derLawCellAt {P : Program} {w : World} {K : PySem.W.Frag} {mg : Str → Option Value} {base : Heap} {A : Around} {outer : List Env} {s : Shared} {H : Hp} {E : XK} {f : Addr} {cdv : Value} (T : Nm mg)
    (hr : Room 0 (A.deeper (envOfC "_law_cell_at" (defScope sLawCellAt) s.heap.objs.size f cdv))) :
    PSs (cxOf CX0 P w K mg base nLawCellAt "_law_cell_at" (defScope sLawCellAt) f cdv A outer s H E).nox (defBody sLawCellAt) (tLawCellAt K) :=
    (pss_cons (ps_if (pt_cmpR op_lt (pv 1) (pe_callB c_len (by rfl) T.len (by decide +kernel) (pa_cons (pv 0) pa_nil)) (nomark _)) (pss_one (ps_ret (pe_ix ix_list (pv 0) (pv 1) (fun _ _ => rfl)))) pss_nil)
    (pss_one (ps_ret pe_int)))

theorem derLawRows {P : Program} {w : World} {K : PySem.W.Frag} {mg : Str → Option Value} {base : Heap} {A : Around} {outer : List Env} {s : Shared} {H : Hp} {E : XK} {f : Addr} {cdv : Value} (T : Nm mg)
    (hr : Room 0 (A.deeper (envOfC "_law_rows" (defScope sLawRows) s.heap.objs.size f cdv))) :
    PSs (cxOf CX0 P w K mg base nLawRows "_law_rows" (defScope sLawRows) f cdv A outer s H E).nox (defBody sLawRows) (tLawRows K) :=
    (pss_cons (ps_set (i := 2) scLawRows.nd rfl (by first | exact Or.inl rfl | exact Or.inr rfl) (pe_lst (pa_cons (pe_callTy c_list (by rfl) T.list' (by decide +kernel) (pa_cons (pv 0) pa_nil)) pa_nil)))
    (pss_cons (ps_for PassesOwn.never rfl (pi_list (pv 1)) (pg_tup rfl (pgs_cons (pg_name (i := 3) scLawRows.nd rfl (by first | exact Or.inl rfl | exact Or.inr rfl)) (pgs_cons (pg_name (i := 4) scLawRows.nd rfl (by first | exact Or.inl rfl | exact Or.inr rfl)) pgs_nil))) (pss_cons (ps_set (i := 5) scLawRows.nd rfl (by first | exact Or.inl rfl | exact Or.inr rfl) (pe_callTy c_list (by rfl) T.list' (by decide +kernel) (pa_cons (pe_ix ix_list (pv 2) (pe_un un_neg pe_int) (fun _ _ => rfl)) pa_nil)))
    (pss_cons (ps_if (pt_cmpR op_eq (pv 3) pe_str (nomark _)) (pss_one (ps_expr (pe_bm PySem.F.plainAttrs_list PySem.F.slot_list_append PySem.F.type_list_append mt_append (pv 5) (pa_cons (pv 4) pa_nil)))) (pss_cons (ps_set (i := 6) scLawRows.nd rfl (by first | exact Or.inl rfl | exact Or.inr rfl) (pe_bm0 PySem.F.plainAttrs_list PySem.F.slot_list_pop PySem.F.type_list_pop mt_pop (pv 5)))
    (pss_one (ps_if (pt_cmpR op_lt (pv 4) (pe_callB c_len (by rfl) T.len (by decide +kernel) (pa_cons (pv 5) pa_nil)) (nomark _)) (pss_one (ps_asg (pv 6) (pg_sub (pv 5) (pv 4) set_list))) pss_nil))))
    (pss_one (ps_expr (pe_bm PySem.F.plainAttrs_list PySem.F.slot_list_append PySem.F.type_list_append mt_append (pv 2) (pa_cons (pv 5) pa_nil)))))))
    (pss_one (ps_ret (pv 2)))))

end K60

namespace K60
open PySem PySem.Spec PyProof.Rows L2 Lf

section
variable {P : Program} {w : World} {K : PySem.W.Frag} {mg : Str → Option Value} {base : Heap} {f : Addr} {fd : FuncData}
abbrev FnP (K : PySem.W.Frag) (x : Str) (st : Stmt) (f : Addr) (fd : FuncData) : Prop := FunD K x x (defArgs st) (defBody st) (defScope st) [] [] f fd
theorem okIsAmount (F : FnP K "is_amount" sIsAmount f fd) (T : Nm mg) : FnOk P w K mg base CX0 1 f fd ["thing"] spIsAmount :=
  F.ok scIsAmount (fun vs H Q E h => (by first | (obtain ⟨_, rfl, _⟩ := h; rfl) | (obtain ⟨_, _, rfl, _⟩ := h; rfl) | (obtain ⟨_, _, _, rfl, _⟩ := h; rfl) | (obtain ⟨_, _, _, _, rfl, _⟩ := h; rfl) | (obtain ⟨_, _, _, _, _, rfl, _⟩ := h; rfl) | (obtain ⟨_, _, _, _, _, _, rfl, _⟩ := h; rfl) | (obtain ⟨_, _, _, _, _, _, _, rfl, _⟩ := h; rfl) | (obtain ⟨_, _, _, _, _, _, _, _, rfl, _⟩ := h; rfl) | (obtain ⟨_, _, _, _, _, _, _, _, _, rfl, _⟩ := h; rfl) | (obtain ⟨_, _, _, _, _, _, _, _, _, _, rfl, _⟩ := h; rfl) | (obtain ⟨_, _, _, _, _, _, _, _, _, _, _, rfl, _⟩ := h; rfl))) (fun cdv A outer s H vs Q E hr h => ⟨tIsAmount K, PSs.nox (derIsAmount T  hr), pIsAmount h⟩)
theorem calIsAmount (F : FnP K "is_amount" sIsAmount f fd) (T : Nm mg) (g : mg "is_amount" = some (.ref f)) : Cal P w K mg base 1 "is_amount" ["thing"] spIsAmount :=
  ⟨f, fd, okIsAmount F T , g, F.kp, (F.bindsN fun _ _ _ _ _ _ us hl => match us, hl with | [_], _ => rfl)⟩
theorem okIsPerson (F : FnP K "is_person" sIsPerson f fd) (T : Nm mg) : FnOk P w K mg base CX0 1 f fd ["thing"] spIsPerson :=
  F.ok scIsPerson (fun vs H Q E h => (by first | (obtain ⟨_, rfl, _⟩ := h; rfl) | (obtain ⟨_, _, rfl, _⟩ := h; rfl) | (obtain ⟨_, _, _, rfl, _⟩ := h; rfl) | (obtain ⟨_, _, _, _, rfl, _⟩ := h; rfl) | (obtain ⟨_, _, _, _, _, rfl, _⟩ := h; rfl) | (obtain ⟨_, _, _, _, _, _, rfl, _⟩ := h; rfl) | (obtain ⟨_, _, _, _, _, _, _, rfl, _⟩ := h; rfl) | (obtain ⟨_, _, _, _, _, _, _, _, rfl, _⟩ := h; rfl) | (obtain ⟨_, _, _, _, _, _, _, _, _, rfl, _⟩ := h; rfl) | (obtain ⟨_, _, _, _, _, _, _, _, _, _, rfl, _⟩ := h; rfl) | (obtain ⟨_, _, _, _, _, _, _, _, _, _, _, rfl, _⟩ := h; rfl))) (fun cdv A outer s H vs Q E hr h => ⟨tIsPerson K, PSs.nox (derIsPerson T  hr), pIsPerson h⟩)
theorem calIsPerson (F : FnP K "is_person" sIsPerson f fd) (T : Nm mg) (g : mg "is_person" = some (.ref f)) : Cal P w K mg base 1 "is_person" ["thing"] spIsPerson :=
  ⟨f, fd, okIsPerson F T , g, F.kp, (F.bindsN fun _ _ _ _ _ _ us hl => match us, hl with | [_], _ => rfl)⟩
theorem okIsPair (F : FnP K "is_pair" sIsPair f fd) (T : Nm mg) : FnOk P w K mg base CX0 1 f fd ["thing", "word"] spIsPair :=
  F.ok scIsPair (fun vs H Q E h => (by first | (obtain ⟨_, rfl, _⟩ := h; rfl) | (obtain ⟨_, _, rfl, _⟩ := h; rfl) | (obtain ⟨_, _, _, rfl, _⟩ := h; rfl) | (obtain ⟨_, _, _, _, rfl, _⟩ := h; rfl) | (obtain ⟨_, _, _, _, _, rfl, _⟩ := h; rfl) | (obtain ⟨_, _, _, _, _, _, rfl, _⟩ := h; rfl) | (obtain ⟨_, _, _, _, _, _, _, rfl, _⟩ := h; rfl) | (obtain ⟨_, _, _, _, _, _, _, _, rfl, _⟩ := h; rfl) | (obtain ⟨_, _, _, _, _, _, _, _, _, rfl, _⟩ := h; rfl) | (obtain ⟨_, _, _, _, _, _, _, _, _, _, rfl, _⟩ := h; rfl) | (obtain ⟨_, _, _, _, _, _, _, _, _, _, _, rfl, _⟩ := h; rfl))) (fun cdv A outer s H vs Q E hr h => ⟨tIsPair K, PSs.nox (derIsPair T  hr), pIsPair h⟩)
theorem calIsPair (F : FnP K "is_pair" sIsPair f fd) (T : Nm mg) (g : mg "is_pair" = some (.ref f)) : Cal P w K mg base 1 "is_pair" ["thing", "word"] spIsPair :=
  ⟨f, fd, okIsPair F T , g, F.kp, (F.bindsN fun _ _ _ _ _ _ us hl => match us, hl with | [_, _], _ => rfl)⟩
theorem okGoOut (F : FnP K "go_out" sGoOut f fd) (T : Nm mg) : FnOk P w K mg base CX0 1 f fd ["people", "place"] spGoOut :=
  F.ok scGoOut (fun vs H Q E h => (by first | (obtain ⟨_, rfl, _⟩ := h; rfl) | (obtain ⟨_, _, rfl, _⟩ := h; rfl) | (obtain ⟨_, _, _, rfl, _⟩ := h; rfl) | (obtain ⟨_, _, _, _, rfl, _⟩ := h; rfl) | (obtain ⟨_, _, _, _, _, rfl, _⟩ := h; rfl) | (obtain ⟨_, _, _, _, _, _, rfl, _⟩ := h; rfl) | (obtain ⟨_, _, _, _, _, _, _, rfl, _⟩ := h; rfl) | (obtain ⟨_, _, _, _, _, _, _, _, rfl, _⟩ := h; rfl) | (obtain ⟨_, _, _, _, _, _, _, _, _, rfl, _⟩ := h; rfl) | (obtain ⟨_, _, _, _, _, _, _, _, _, _, rfl, _⟩ := h; rfl) | (obtain ⟨_, _, _, _, _, _, _, _, _, _, _, rfl, _⟩ := h; rfl))) (fun cdv A outer s H vs Q E hr h => ⟨tGoOut K, PSs.nox (derGoOut T  hr), pGoOut h⟩)
theorem calGoOut (F : FnP K "go_out" sGoOut f fd) (T : Nm mg) (g : mg "go_out" = some (.ref f)) : Cal P w K mg base 1 "go_out" ["people", "place"] spGoOut :=
  ⟨f, fd, okGoOut F T , g, F.kp, (F.bindsN fun _ _ _ _ _ _ us hl => match us, hl with | [_, _], _ => rfl)⟩
theorem okWordSizes (F : FnP K "word_sizes" sWordSizes f fd) (T : Nm mg) : FnOk P w K mg base CX0 1 f fd ["row", "word"] (spWordSizes K) :=
  F.ok scWordSizes (fun vs H Q E h => (by first | (obtain ⟨_, rfl, _⟩ := h; rfl) | (obtain ⟨_, _, rfl, _⟩ := h; rfl) | (obtain ⟨_, _, _, rfl, _⟩ := h; rfl) | (obtain ⟨_, _, _, _, rfl, _⟩ := h; rfl) | (obtain ⟨_, _, _, _, _, rfl, _⟩ := h; rfl) | (obtain ⟨_, _, _, _, _, _, rfl, _⟩ := h; rfl) | (obtain ⟨_, _, _, _, _, _, _, rfl, _⟩ := h; rfl) | (obtain ⟨_, _, _, _, _, _, _, _, rfl, _⟩ := h; rfl) | (obtain ⟨_, _, _, _, _, _, _, _, _, rfl, _⟩ := h; rfl) | (obtain ⟨_, _, _, _, _, _, _, _, _, _, rfl, _⟩ := h; rfl) | (obtain ⟨_, _, _, _, _, _, _, _, _, _, _, rfl, _⟩ := h; rfl))) (fun cdv A outer s H vs Q E hr h => ⟨tWordSizes K, PSs.nox (derWordSizes T  hr), pWordSizes h⟩)
theorem calWordSizes (F : FnP K "word_sizes" sWordSizes f fd) (T : Nm mg) (g : mg "word_sizes" = some (.ref f)) : Cal P w K mg base 1 "word_sizes" ["row", "word"] (spWordSizes K) :=
  ⟨f, fd, okWordSizes F T , g, F.kp, (F.bindsN fun _ _ _ _ _ _ us hl => match us, hl with | [_, _], _ => rfl)⟩
theorem okLeastOn (F : FnP K "least_on" sLeastOn f fd) (T : Nm mg) : FnOk P w K mg base CX0 1 f fd ["sizes"] spLeastOn :=
  F.ok scLeastOn (fun vs H Q E h => (by first | (obtain ⟨_, rfl, _⟩ := h; rfl) | (obtain ⟨_, _, rfl, _⟩ := h; rfl) | (obtain ⟨_, _, _, rfl, _⟩ := h; rfl) | (obtain ⟨_, _, _, _, rfl, _⟩ := h; rfl) | (obtain ⟨_, _, _, _, _, rfl, _⟩ := h; rfl) | (obtain ⟨_, _, _, _, _, _, rfl, _⟩ := h; rfl) | (obtain ⟨_, _, _, _, _, _, _, rfl, _⟩ := h; rfl) | (obtain ⟨_, _, _, _, _, _, _, _, rfl, _⟩ := h; rfl) | (obtain ⟨_, _, _, _, _, _, _, _, _, rfl, _⟩ := h; rfl) | (obtain ⟨_, _, _, _, _, _, _, _, _, _, rfl, _⟩ := h; rfl) | (obtain ⟨_, _, _, _, _, _, _, _, _, _, _, rfl, _⟩ := h; rfl))) (fun cdv A outer s H vs Q E hr h => ⟨tLeastOn K, PSs.nox (derLeastOn T  hr), pLeastOn h⟩)
theorem calLeastOn (F : FnP K "least_on" sLeastOn f fd) (T : Nm mg) (g : mg "least_on" = some (.ref f)) : Cal P w K mg base 1 "least_on" ["sizes"] spLeastOn :=
  ⟨f, fd, okLeastOn F T , g, F.kp, (F.bindsN fun _ _ _ _ _ _ us hl => match us, hl with | [_], _ => rfl)⟩
theorem okMayStand (F : FnP K "may_stand" sMayStand f fd) (T : Nm mg) : FnOk P w K mg base CX0 1 f fd ["place", "mark", "spot"] spMayStand :=
  F.ok scMayStand (fun vs H Q E h => (by first | (obtain ⟨_, rfl, _⟩ := h; rfl) | (obtain ⟨_, _, rfl, _⟩ := h; rfl) | (obtain ⟨_, _, _, rfl, _⟩ := h; rfl) | (obtain ⟨_, _, _, _, rfl, _⟩ := h; rfl) | (obtain ⟨_, _, _, _, _, rfl, _⟩ := h; rfl) | (obtain ⟨_, _, _, _, _, _, rfl, _⟩ := h; rfl) | (obtain ⟨_, _, _, _, _, _, _, rfl, _⟩ := h; rfl) | (obtain ⟨_, _, _, _, _, _, _, _, rfl, _⟩ := h; rfl) | (obtain ⟨_, _, _, _, _, _, _, _, _, rfl, _⟩ := h; rfl) | (obtain ⟨_, _, _, _, _, _, _, _, _, _, rfl, _⟩ := h; rfl) | (obtain ⟨_, _, _, _, _, _, _, _, _, _, _, rfl, _⟩ := h; rfl))) (fun cdv A outer s H vs Q E hr h => ⟨tMayStand, PSs.nox (derMayStand T  hr), pMayStand h⟩)
theorem calMayStand (F : FnP K "may_stand" sMayStand f fd) (T : Nm mg) (g : mg "may_stand" = some (.ref f)) : Cal P w K mg base 1 "may_stand" ["place", "mark", "spot"] spMayStand :=
  ⟨f, fd, okMayStand F T , g, F.kp, (F.bindsN fun _ _ _ _ _ _ us hl => match us, hl with | [_, _, _], _ => rfl)⟩
theorem okLawCellAt (F : FnP K "_law_cell_at" sLawCellAt f fd) (T : Nm mg) : FnOk P w K mg base CX0 1 f fd ["_law_script", "_law_k"] (spCellAt K) :=
  F.ok scLawCellAt (fun vs H Q E h => (by first | (obtain ⟨_, rfl, _⟩ := h; rfl) | (obtain ⟨_, _, rfl, _⟩ := h; rfl) | (obtain ⟨_, _, _, rfl, _⟩ := h; rfl) | (obtain ⟨_, _, _, _, rfl, _⟩ := h; rfl) | (obtain ⟨_, _, _, _, _, rfl, _⟩ := h; rfl) | (obtain ⟨_, _, _, _, _, _, rfl, _⟩ := h; rfl) | (obtain ⟨_, _, _, _, _, _, _, rfl, _⟩ := h; rfl) | (obtain ⟨_, _, _, _, _, _, _, _, rfl, _⟩ := h; rfl) | (obtain ⟨_, _, _, _, _, _, _, _, _, rfl, _⟩ := h; rfl) | (obtain ⟨_, _, _, _, _, _, _, _, _, _, rfl, _⟩ := h; rfl) | (obtain ⟨_, _, _, _, _, _, _, _, _, _, _, rfl, _⟩ := h; rfl))) (fun cdv A outer s H vs Q E hr h => ⟨tLawCellAt K, PSs.nox (derLawCellAt T  hr), pLawCellAt h⟩)
theorem calLawCellAt (F : FnP K "_law_cell_at" sLawCellAt f fd) (T : Nm mg) (g : mg "_law_cell_at" = some (.ref f)) : Cal P w K mg base 1 "_law_cell_at" ["_law_script", "_law_k"] (spCellAt K) :=
  ⟨f, fd, okLawCellAt F T , g, F.kp, (F.bindsN fun _ _ _ _ _ _ us hl => match us, hl with | [_, _], _ => rfl)⟩
theorem okLawBag (F : FnP K "_law_bag" sLawBag f fd) (T : Nm mg) : FnOk P w K mg base CX0 1 f fd ["_law_cell", "_law_k"] spBag :=
  F.ok scLawBag (fun vs H Q E h => (by first | (obtain ⟨_, rfl, _⟩ := h; rfl) | (obtain ⟨_, _, rfl, _⟩ := h; rfl) | (obtain ⟨_, _, _, rfl, _⟩ := h; rfl) | (obtain ⟨_, _, _, _, rfl, _⟩ := h; rfl) | (obtain ⟨_, _, _, _, _, rfl, _⟩ := h; rfl) | (obtain ⟨_, _, _, _, _, _, rfl, _⟩ := h; rfl) | (obtain ⟨_, _, _, _, _, _, _, rfl, _⟩ := h; rfl) | (obtain ⟨_, _, _, _, _, _, _, _, rfl, _⟩ := h; rfl) | (obtain ⟨_, _, _, _, _, _, _, _, _, rfl, _⟩ := h; rfl) | (obtain ⟨_, _, _, _, _, _, _, _, _, _, rfl, _⟩ := h; rfl) | (obtain ⟨_, _, _, _, _, _, _, _, _, _, _, rfl, _⟩ := h; rfl))) (fun cdv A outer s H vs Q E hr h => ⟨tLawBag, PSs.nox (derLawBag T  hr), pLawBag h⟩)
theorem calLawBag (F : FnP K "_law_bag" sLawBag f fd) (T : Nm mg) (g : mg "_law_bag" = some (.ref f)) : Cal P w K mg base 1 "_law_bag" ["_law_cell", "_law_k"] spBag :=
  ⟨f, fd, okLawBag F T , g, F.kp, (F.bindsN fun _ _ _ _ _ _ us hl => match us, hl with | [_, _], _ => rfl)⟩
theorem okLawTake (F : FnP K "_law_take" sLawTake f fd) (T : Nm mg) : FnOk P w K mg base CX0 1 f fd ["_law_bag_here", "_law_many"] spTake :=
  F.ok scLawTake (fun vs H Q E h => (by first | (obtain ⟨_, rfl, _⟩ := h; rfl) | (obtain ⟨_, _, rfl, _⟩ := h; rfl) | (obtain ⟨_, _, _, rfl, _⟩ := h; rfl) | (obtain ⟨_, _, _, _, rfl, _⟩ := h; rfl) | (obtain ⟨_, _, _, _, _, rfl, _⟩ := h; rfl) | (obtain ⟨_, _, _, _, _, _, rfl, _⟩ := h; rfl) | (obtain ⟨_, _, _, _, _, _, _, rfl, _⟩ := h; rfl) | (obtain ⟨_, _, _, _, _, _, _, _, rfl, _⟩ := h; rfl) | (obtain ⟨_, _, _, _, _, _, _, _, _, rfl, _⟩ := h; rfl) | (obtain ⟨_, _, _, _, _, _, _, _, _, _, rfl, _⟩ := h; rfl) | (obtain ⟨_, _, _, _, _, _, _, _, _, _, _, rfl, _⟩ := h; rfl))) (fun cdv A outer s H vs Q E hr h => ⟨tLawTake K, PSs.nox (derLawTake T  hr), pLawTake h⟩)
theorem calLawTake (F : FnP K "_law_take" sLawTake f fd) (T : Nm mg) (g : mg "_law_take" = some (.ref f)) : Cal P w K mg base 1 "_law_take" ["_law_bag_here", "_law_many"] spTake :=
  ⟨f, fd, okLawTake F T , g, F.kp, (F.bindsN fun _ _ _ _ _ _ us hl => match us, hl with | [_, _], _ => rfl)⟩
theorem okLawRows (F : FnP K "_law_rows" sLawRows f fd) (T : Nm mg) : FnOk P w K mg base CX0 1 f fd ["_law_row", "_law_deeds_here"] (spRows K) :=
  F.ok scLawRows (fun vs H Q E h => (by first | (obtain ⟨_, rfl, _⟩ := h; rfl) | (obtain ⟨_, _, rfl, _⟩ := h; rfl) | (obtain ⟨_, _, _, rfl, _⟩ := h; rfl) | (obtain ⟨_, _, _, _, rfl, _⟩ := h; rfl) | (obtain ⟨_, _, _, _, _, rfl, _⟩ := h; rfl) | (obtain ⟨_, _, _, _, _, _, rfl, _⟩ := h; rfl) | (obtain ⟨_, _, _, _, _, _, _, rfl, _⟩ := h; rfl) | (obtain ⟨_, _, _, _, _, _, _, _, rfl, _⟩ := h; rfl) | (obtain ⟨_, _, _, _, _, _, _, _, _, rfl, _⟩ := h; rfl) | (obtain ⟨_, _, _, _, _, _, _, _, _, _, rfl, _⟩ := h; rfl) | (obtain ⟨_, _, _, _, _, _, _, _, _, _, _, rfl, _⟩ := h; rfl))) (fun cdv A outer s H vs Q E hr h => ⟨tLawRows K, PSs.nox (derLawRows T  hr), pLawRows h⟩)
theorem calLawRows (F : FnP K "_law_rows" sLawRows f fd) (T : Nm mg) (g : mg "_law_rows" = some (.ref f)) : Cal P w K mg base 1 "_law_rows" ["_law_row", "_law_deeds_here"] (spRows K) :=
  ⟨f, fd, okLawRows F T , g, F.kp, (F.bindsN fun _ _ _ _ _ _ us hl => match us, hl with | [_, _], _ => rfl)⟩
theorem okLawMovers (F : FnP K "_law_movers" sLawMovers f fd) (T : Nm mg) : FnOk P w K mg base CX0 1 f fd ["_law_rows_here"] spMovers :=
  F.ok scLawMovers (fun vs H Q E h => (by first | (obtain ⟨_, rfl, _⟩ := h; rfl) | (obtain ⟨_, _, rfl, _⟩ := h; rfl) | (obtain ⟨_, _, _, rfl, _⟩ := h; rfl) | (obtain ⟨_, _, _, _, rfl, _⟩ := h; rfl) | (obtain ⟨_, _, _, _, _, rfl, _⟩ := h; rfl) | (obtain ⟨_, _, _, _, _, _, rfl, _⟩ := h; rfl) | (obtain ⟨_, _, _, _, _, _, _, rfl, _⟩ := h; rfl) | (obtain ⟨_, _, _, _, _, _, _, _, rfl, _⟩ := h; rfl) | (obtain ⟨_, _, _, _, _, _, _, _, _, rfl, _⟩ := h; rfl) | (obtain ⟨_, _, _, _, _, _, _, _, _, _, rfl, _⟩ := h; rfl) | (obtain ⟨_, _, _, _, _, _, _, _, _, _, _, rfl, _⟩ := h; rfl))) (fun cdv A outer s H vs Q E hr h => ⟨tLawMovers K, PSs.nox (derLawMovers T  hr), pLawMovers h⟩)
theorem calLawMovers (F : FnP K "_law_movers" sLawMovers f fd) (T : Nm mg) (g : mg "_law_movers" = some (.ref f)) : Cal P w K mg base 1 "_law_movers" ["_law_rows_here"] spMovers :=
  ⟨f, fd, okLawMovers F T , g, F.kp, (F.bindsN fun _ _ _ _ _ _ us hl => match us, hl with | [_], _ => rfl)⟩
theorem okIsRow (F : FnP K "is_row" sIsRow f fd) (T : Nm mg) (c_is_person : Cal P w K mg base 1 "is_person" ["thing"] spIsPerson) : FnOk P w K mg base CX0 2 f fd ["thing"] (spIsRow K) :=
  F.ok scIsRow (fun vs H Q E h => (by first | (obtain ⟨_, rfl, _⟩ := h; rfl) | (obtain ⟨_, _, rfl, _⟩ := h; rfl) | (obtain ⟨_, _, _, rfl, _⟩ := h; rfl) | (obtain ⟨_, _, _, _, rfl, _⟩ := h; rfl) | (obtain ⟨_, _, _, _, _, rfl, _⟩ := h; rfl) | (obtain ⟨_, _, _, _, _, _, rfl, _⟩ := h; rfl) | (obtain ⟨_, _, _, _, _, _, _, rfl, _⟩ := h; rfl) | (obtain ⟨_, _, _, _, _, _, _, _, rfl, _⟩ := h; rfl) | (obtain ⟨_, _, _, _, _, _, _, _, _, rfl, _⟩ := h; rfl) | (obtain ⟨_, _, _, _, _, _, _, _, _, _, rfl, _⟩ := h; rfl) | (obtain ⟨_, _, _, _, _, _, _, _, _, _, _, rfl, _⟩ := h; rfl))) (fun cdv A outer s H vs Q E hr h => ⟨tIsRow K, PSs.nox (derIsRow T c_is_person hr), pIsRow h⟩)
theorem calIsRow (F : FnP K "is_row" sIsRow f fd) (T : Nm mg) (g : mg "is_row" = some (.ref f)) (c_is_person : Cal P w K mg base 1 "is_person" ["thing"] spIsPerson) : Cal P w K mg base 2 "is_row" ["thing"] (spIsRow K) :=
  ⟨f, fd, okIsRow F T c_is_person, g, F.kp, (F.bindsN fun _ _ _ _ _ _ us hl => match us, hl with | [_], _ => rfl)⟩
theorem okIsComing (F : FnP K "is_coming" sIsComing f fd) (T : Nm mg) (c_is_person : Cal P w K mg base 1 "is_person" ["thing"] spIsPerson) (c_is_pair : Cal P w K mg base 1 "is_pair" ["thing", "word"] spIsPair) : FnOk P w K mg base CX0 2 f fd ["thing"] spIsComing :=
  F.ok scIsComing (fun vs H Q E h => (by first | (obtain ⟨_, rfl, _⟩ := h; rfl) | (obtain ⟨_, _, rfl, _⟩ := h; rfl) | (obtain ⟨_, _, _, rfl, _⟩ := h; rfl) | (obtain ⟨_, _, _, _, rfl, _⟩ := h; rfl) | (obtain ⟨_, _, _, _, _, rfl, _⟩ := h; rfl) | (obtain ⟨_, _, _, _, _, _, rfl, _⟩ := h; rfl) | (obtain ⟨_, _, _, _, _, _, _, rfl, _⟩ := h; rfl) | (obtain ⟨_, _, _, _, _, _, _, _, rfl, _⟩ := h; rfl) | (obtain ⟨_, _, _, _, _, _, _, _, _, rfl, _⟩ := h; rfl) | (obtain ⟨_, _, _, _, _, _, _, _, _, _, rfl, _⟩ := h; rfl) | (obtain ⟨_, _, _, _, _, _, _, _, _, _, _, rfl, _⟩ := h; rfl))) (fun cdv A outer s H vs Q E hr h => ⟨tIsComing K, PSs.nox (derIsComing T c_is_person c_is_pair hr), pIsComing h⟩)
theorem calIsComing (F : FnP K "is_coming" sIsComing f fd) (T : Nm mg) (g : mg "is_coming" = some (.ref f)) (c_is_person : Cal P w K mg base 1 "is_person" ["thing"] spIsPerson) (c_is_pair : Cal P w K mg base 1 "is_pair" ["thing", "word"] spIsPair) : Cal P w K mg base 2 "is_coming" ["thing"] spIsComing :=
  ⟨f, fd, okIsComing F T c_is_person c_is_pair, g, F.kp, (F.bindsN fun _ _ _ _ _ _ us hl => match us, hl with | [_], _ => rfl)⟩
theorem okIsGoing (F : FnP K "is_going" sIsGoing f fd) (T : Nm mg) (c_is_amount : Cal P w K mg base 1 "is_amount" ["thing"] spIsAmount) (c_is_pair : Cal P w K mg base 1 "is_pair" ["thing", "word"] spIsPair) : FnOk P w K mg base CX0 2 f fd ["thing"] spIsGoing :=
  F.ok scIsGoing (fun vs H Q E h => (by first | (obtain ⟨_, rfl, _⟩ := h; rfl) | (obtain ⟨_, _, rfl, _⟩ := h; rfl) | (obtain ⟨_, _, _, rfl, _⟩ := h; rfl) | (obtain ⟨_, _, _, _, rfl, _⟩ := h; rfl) | (obtain ⟨_, _, _, _, _, rfl, _⟩ := h; rfl) | (obtain ⟨_, _, _, _, _, _, rfl, _⟩ := h; rfl) | (obtain ⟨_, _, _, _, _, _, _, rfl, _⟩ := h; rfl) | (obtain ⟨_, _, _, _, _, _, _, _, rfl, _⟩ := h; rfl) | (obtain ⟨_, _, _, _, _, _, _, _, _, rfl, _⟩ := h; rfl) | (obtain ⟨_, _, _, _, _, _, _, _, _, _, rfl, _⟩ := h; rfl) | (obtain ⟨_, _, _, _, _, _, _, _, _, _, _, rfl, _⟩ := h; rfl))) (fun cdv A outer s H vs Q E hr h => ⟨tIsGoing K, PSs.nox (derIsGoing T c_is_amount c_is_pair hr), pIsGoing h⟩)
theorem calIsGoing (F : FnP K "is_going" sIsGoing f fd) (T : Nm mg) (g : mg "is_going" = some (.ref f)) (c_is_amount : Cal P w K mg base 1 "is_amount" ["thing"] spIsAmount) (c_is_pair : Cal P w K mg base 1 "is_pair" ["thing", "word"] spIsPair) : Cal P w K mg base 2 "is_going" ["thing"] spIsGoing :=
  ⟨f, fd, okIsGoing F T c_is_amount c_is_pair, g, F.kp, (F.bindsN fun _ _ _ _ _ _ us hl => match us, hl with | [_], _ => rfl)⟩
theorem okGoneBy (F : FnP K "gone_by" sGoneBy f fd) (T : Nm mg) (c_go_out : Cal P w K mg base 1 "go_out" ["people", "place"] spGoOut) : FnOk P w K mg base CX0 2 f fd ["row", "deeds"] (spGoneBy K) :=
  F.ok scGoneBy (fun vs H Q E h => (by first | (obtain ⟨_, rfl, _⟩ := h; rfl) | (obtain ⟨_, _, rfl, _⟩ := h; rfl) | (obtain ⟨_, _, _, rfl, _⟩ := h; rfl) | (obtain ⟨_, _, _, _, rfl, _⟩ := h; rfl) | (obtain ⟨_, _, _, _, _, rfl, _⟩ := h; rfl) | (obtain ⟨_, _, _, _, _, _, rfl, _⟩ := h; rfl) | (obtain ⟨_, _, _, _, _, _, _, rfl, _⟩ := h; rfl) | (obtain ⟨_, _, _, _, _, _, _, _, rfl, _⟩ := h; rfl) | (obtain ⟨_, _, _, _, _, _, _, _, _, rfl, _⟩ := h; rfl) | (obtain ⟨_, _, _, _, _, _, _, _, _, _, rfl, _⟩ := h; rfl) | (obtain ⟨_, _, _, _, _, _, _, _, _, _, _, rfl, _⟩ := h; rfl))) (fun cdv A outer s H vs Q E hr h => ⟨tGoneBy K, PSs.nox (derGoneBy T c_go_out hr), pGoneBy h⟩)
theorem calGoneBy (F : FnP K "gone_by" sGoneBy f fd) (T : Nm mg) (g : mg "gone_by" = some (.ref f)) (c_go_out : Cal P w K mg base 1 "go_out" ["people", "place"] spGoOut) : Cal P w K mg base 2 "gone_by" ["row", "deeds"] (spGoneBy K) :=
  ⟨f, fd, okGoneBy F T c_go_out, g, F.kp, (F.bindsN fun _ _ _ _ _ _ us hl => match us, hl with | [_, _], _ => rfl)⟩
theorem okMarksOf (F : FnP K "marks_of" sMarksOf f fd) (T : Nm mg) (c_word_sizes : Cal P w K mg base 1 "word_sizes" ["row", "word"] (spWordSizes K)) (c_least_on : Cal P w K mg base 1 "least_on" ["sizes"] spLeastOn) : FnOk P w K mg base CX0 2 f fd ["row", "word"] (spMarks K) :=
  F.ok scMarksOf (fun vs H Q E h => (by first | (obtain ⟨_, rfl, _⟩ := h; rfl) | (obtain ⟨_, _, rfl, _⟩ := h; rfl) | (obtain ⟨_, _, _, rfl, _⟩ := h; rfl) | (obtain ⟨_, _, _, _, rfl, _⟩ := h; rfl) | (obtain ⟨_, _, _, _, _, rfl, _⟩ := h; rfl) | (obtain ⟨_, _, _, _, _, _, rfl, _⟩ := h; rfl) | (obtain ⟨_, _, _, _, _, _, _, rfl, _⟩ := h; rfl) | (obtain ⟨_, _, _, _, _, _, _, _, rfl, _⟩ := h; rfl) | (obtain ⟨_, _, _, _, _, _, _, _, _, rfl, _⟩ := h; rfl) | (obtain ⟨_, _, _, _, _, _, _, _, _, _, rfl, _⟩ := h; rfl) | (obtain ⟨_, _, _, _, _, _, _, _, _, _, _, rfl, _⟩ := h; rfl))) (fun cdv A outer s H vs Q E hr h => ⟨tMarksOf K, PSs.nox (derMarksOf T c_word_sizes c_least_on hr), pMarksOf h⟩)
theorem calMarksOf (F : FnP K "marks_of" sMarksOf f fd) (T : Nm mg) (g : mg "marks_of" = some (.ref f)) (c_word_sizes : Cal P w K mg base 1 "word_sizes" ["row", "word"] (spWordSizes K)) (c_least_on : Cal P w K mg base 1 "least_on" ["sizes"] spLeastOn) : Cal P w K mg base 2 "marks_of" ["row", "word"] (spMarks K) :=
  ⟨f, fd, okMarksOf F T c_word_sizes c_least_on, g, F.kp, (F.bindsN fun _ _ _ _ _ _ us hl => match us, hl with | [_, _], _ => rfl)⟩
theorem okLastSize (F : FnP K "last_size" sLastSize f fd) (T : Nm mg) (c_word_sizes : Cal P w K mg base 1 "word_sizes" ["row", "word"] (spWordSizes K)) : FnOk P w K mg base CX0 2 f fd ["row", "word"] (spLastSize K) :=
  F.ok scLastSize (fun vs H Q E h => (by first | (obtain ⟨_, rfl, _⟩ := h; rfl) | (obtain ⟨_, _, rfl, _⟩ := h; rfl) | (obtain ⟨_, _, _, rfl, _⟩ := h; rfl) | (obtain ⟨_, _, _, _, rfl, _⟩ := h; rfl) | (obtain ⟨_, _, _, _, _, rfl, _⟩ := h; rfl) | (obtain ⟨_, _, _, _, _, _, rfl, _⟩ := h; rfl) | (obtain ⟨_, _, _, _, _, _, _, rfl, _⟩ := h; rfl) | (obtain ⟨_, _, _, _, _, _, _, _, rfl, _⟩ := h; rfl) | (obtain ⟨_, _, _, _, _, _, _, _, _, rfl, _⟩ := h; rfl) | (obtain ⟨_, _, _, _, _, _, _, _, _, _, rfl, _⟩ := h; rfl) | (obtain ⟨_, _, _, _, _, _, _, _, _, _, _, rfl, _⟩ := h; rfl))) (fun cdv A outer s H vs Q E hr h => ⟨tLastSize K, PSs.nox (derLastSize T c_word_sizes hr), pLastSize h⟩)
theorem calLastSize (F : FnP K "last_size" sLastSize f fd) (T : Nm mg) (g : mg "last_size" = some (.ref f)) (c_word_sizes : Cal P w K mg base 1 "word_sizes" ["row", "word"] (spWordSizes K)) : Cal P w K mg base 2 "last_size" ["row", "word"] (spLastSize K) :=
  ⟨f, fd, okLastSize F T c_word_sizes, g, F.kp, (F.bindsN fun _ _ _ _ _ _ us hl => match us, hl with | [_, _], _ => rfl)⟩
theorem calAlikeN (F : FnP K "_law_alike" sLawAlike f fd) (g : mg "_law_alike" = some (.ref f)) : Cal P w K mg base 0 "_law_alike" ["_law_found", "_law_due"] (fun _ _ _ _ => False) :=
  ⟨f, fd, ⟨fun _ _ _ _ h => h.elim, fun _ _ _ _ _ _ _ _ _ _ _ _ _ h => h.elim⟩, g, F.kp, (F.bindsN fun _ _ _ _ _ _ us hl => match us, hl with | [_, _], _ => rfl)⟩
theorem calAlike0 (F : FnP K "_law_alike" sLawAlike f fd) (T : Nm mg) (g : mg "_law_alike" = some (.ref f)) : Cal P w K mg base 1 "_law_alike" ["_law_found", "_law_due"] spAlike0 :=
  ⟨f, fd, F.ok scLawAlike (fun vs H Q E h => (by first | (obtain ⟨_, rfl, _⟩ := h; rfl) | (obtain ⟨_, _, rfl, _⟩ := h; rfl) | (obtain ⟨_, _, _, rfl, _⟩ := h; rfl) | (obtain ⟨_, _, _, _, rfl, _⟩ := h; rfl) | (obtain ⟨_, _, _, _, _, rfl, _⟩ := h; rfl) | (obtain ⟨_, _, _, _, _, _, rfl, _⟩ := h; rfl) | (obtain ⟨_, _, _, _, _, _, _, rfl, _⟩ := h; rfl) | (obtain ⟨_, _, _, _, _, _, _, _, rfl, _⟩ := h; rfl) | (obtain ⟨_, _, _, _, _, _, _, _, _, rfl, _⟩ := h; rfl) | (obtain ⟨_, _, _, _, _, _, _, _, _, _, rfl, _⟩ := h; rfl) | (obtain ⟨_, _, _, _, _, _, _, _, _, _, _, rfl, _⟩ := h; rfl))) (fun cdv A outer s H vs Q E hr h => ⟨tLawAlike K _, PSs.nox (derLawAlike T (calAlikeN F g) hr), pLawAlike0 h⟩), g, F.kp, (F.bindsN fun _ _ _ _ _ _ us hl => match us, hl with | [_, _], _ => rfl)⟩
theorem calLawAlike (F : FnP K "_law_alike" sLawAlike f fd) (T : Nm mg) (g : mg "_law_alike" = some (.ref f)) : Cal P w K mg base 2 "_law_alike" ["_law_found", "_law_due"] (spAlike K) :=
  ⟨f, fd, F.ok scLawAlike (fun vs H Q E h => (by rcases h with ⟨_, rfl, _⟩ | ⟨_, _, _, rfl, _⟩ <;> rfl)) (fun cdv A outer s H vs Q E hr h => ⟨tLawAlike K spAlike0, PSs.nox (derLawAlike T (calAlike0 F T g) hr), pLawAlike h⟩), g, F.kp, (F.bindsN fun _ _ _ _ _ _ us hl => match us, hl with | [_, _], _ => rfl)⟩
theorem okLawNames (F : FnP K "_law_names" sLawNames f fd) (T : Nm mg) (c_law_take : Cal P w K mg base 1 "_law_take" ["_law_bag_here", "_law_many"] spTake) : FnOk P w K mg base CX0 2 f fd ["_law_bag_here", "_law_many"] spNames :=
  F.ok scLawNames (fun vs H Q E h => (by first | (obtain ⟨_, rfl, _⟩ := h; rfl) | (obtain ⟨_, _, rfl, _⟩ := h; rfl) | (obtain ⟨_, _, _, rfl, _⟩ := h; rfl) | (obtain ⟨_, _, _, _, rfl, _⟩ := h; rfl) | (obtain ⟨_, _, _, _, _, rfl, _⟩ := h; rfl) | (obtain ⟨_, _, _, _, _, _, rfl, _⟩ := h; rfl) | (obtain ⟨_, _, _, _, _, _, _, rfl, _⟩ := h; rfl) | (obtain ⟨_, _, _, _, _, _, _, _, rfl, _⟩ := h; rfl) | (obtain ⟨_, _, _, _, _, _, _, _, _, rfl, _⟩ := h; rfl) | (obtain ⟨_, _, _, _, _, _, _, _, _, _, rfl, _⟩ := h; rfl) | (obtain ⟨_, _, _, _, _, _, _, _, _, _, _, rfl, _⟩ := h; rfl))) (fun cdv A outer s H vs Q E hr h => ⟨tLawNames K, PSs.nox (derLawNames T c_law_take hr), pLawNames h⟩)
theorem calLawNames (F : FnP K "_law_names" sLawNames f fd) (T : Nm mg) (g : mg "_law_names" = some (.ref f)) (c_law_take : Cal P w K mg base 1 "_law_take" ["_law_bag_here", "_law_many"] spTake) : Cal P w K mg base 2 "_law_names" ["_law_bag_here", "_law_many"] spNames :=
  ⟨f, fd, okLawNames F T c_law_take, g, F.kp, (F.bindsN fun _ _ _ _ _ _ us hl => match us, hl with | [_, _], _ => rfl)⟩
theorem okLawDeeds (F : FnP K "_law_deeds" sLawDeeds f fd) (T : Nm mg) (c_law_take : Cal P w K mg base 1 "_law_take" ["_law_bag_here", "_law_many"] spTake) : FnOk P w K mg base CX0 2 f fd ["_law_bag_here", "_law_names_here", "_law_many", "_law_asks"] spDeeds :=
  F.ok scLawDeeds (fun vs H Q E h => (by first | (obtain ⟨_, rfl, _⟩ := h; rfl) | (obtain ⟨_, _, rfl, _⟩ := h; rfl) | (obtain ⟨_, _, _, rfl, _⟩ := h; rfl) | (obtain ⟨_, _, _, _, rfl, _⟩ := h; rfl) | (obtain ⟨_, _, _, _, _, rfl, _⟩ := h; rfl) | (obtain ⟨_, _, _, _, _, _, rfl, _⟩ := h; rfl) | (obtain ⟨_, _, _, _, _, _, _, rfl, _⟩ := h; rfl) | (obtain ⟨_, _, _, _, _, _, _, _, rfl, _⟩ := h; rfl) | (obtain ⟨_, _, _, _, _, _, _, _, _, rfl, _⟩ := h; rfl) | (obtain ⟨_, _, _, _, _, _, _, _, _, _, rfl, _⟩ := h; rfl) | (obtain ⟨_, _, _, _, _, _, _, _, _, _, _, rfl, _⟩ := h; rfl))) (fun cdv A outer s H vs Q E hr h => ⟨tLawDeeds K, PSs.nox (derLawDeeds T c_law_take hr), pLawDeeds h⟩)
theorem calLawDeeds (F : FnP K "_law_deeds" sLawDeeds f fd) (T : Nm mg) (g : mg "_law_deeds" = some (.ref f)) (c_law_take : Cal P w K mg base 1 "_law_take" ["_law_bag_here", "_law_many"] spTake) : Cal P w K mg base 2 "_law_deeds" ["_law_bag_here", "_law_names_here", "_law_many", "_law_asks"] spDeeds :=
  ⟨f, fd, okLawDeeds F T c_law_take, g, F.kp, (F.bindsN fun _ _ _ _ _ _ us hl => match us, hl with | [_, _, _, _], _ => rfl)⟩
theorem okNeedRow (F : FnP K "need_row" sNeedRow f fd) (T : Nm mg) (c_is_row : Cal P w K mg base 2 "is_row" ["thing"] (spIsRow K)) : FnOk P w K mg base CX0 3 f fd ["row"] (spNeedRow K) :=
  F.ok scNeedRow (fun vs H Q E h => (by first | (obtain ⟨_, rfl, _⟩ := h; rfl) | (obtain ⟨_, _, rfl, _⟩ := h; rfl) | (obtain ⟨_, _, _, rfl, _⟩ := h; rfl) | (obtain ⟨_, _, _, _, rfl, _⟩ := h; rfl) | (obtain ⟨_, _, _, _, _, rfl, _⟩ := h; rfl) | (obtain ⟨_, _, _, _, _, _, rfl, _⟩ := h; rfl) | (obtain ⟨_, _, _, _, _, _, _, rfl, _⟩ := h; rfl) | (obtain ⟨_, _, _, _, _, _, _, _, rfl, _⟩ := h; rfl) | (obtain ⟨_, _, _, _, _, _, _, _, _, rfl, _⟩ := h; rfl) | (obtain ⟨_, _, _, _, _, _, _, _, _, _, rfl, _⟩ := h; rfl) | (obtain ⟨_, _, _, _, _, _, _, _, _, _, _, rfl, _⟩ := h; rfl))) (fun cdv A outer s H vs Q E hr h => ⟨tNeedRow K, PSs.nox (derNeedRow T c_is_row hr), pNeedRow h⟩)
theorem calNeedRow (F : FnP K "need_row" sNeedRow f fd) (T : Nm mg) (g : mg "need_row" = some (.ref f)) (c_is_row : Cal P w K mg base 2 "is_row" ["thing"] (spIsRow K)) : Cal P w K mg base 3 "need_row" ["row"] (spNeedRow K) :=
  ⟨f, fd, okNeedRow F T c_is_row, g, F.kp, (F.bindsN fun _ _ _ _ _ _ us hl => match us, hl with | [_], _ => rfl)⟩
theorem okIsDeedsOf (F : FnP K "is_deeds_of" sIsDeedsOf f fd) (T : Nm mg) (c_is_coming : Cal P w K mg base 2 "is_coming" ["thing"] spIsComing) (c_is_going : Cal P w K mg base 2 "is_going" ["thing"] spIsGoing) (c_go_out : Cal P w K mg base 1 "go_out" ["people", "place"] spGoOut) : FnOk P w K mg base CX0 3 f fd ["row", "thing"] (spIsDeedsOf K) :=
  F.ok scIsDeedsOf (fun vs H Q E h => (by first | (obtain ⟨_, rfl, _⟩ := h; rfl) | (obtain ⟨_, _, rfl, _⟩ := h; rfl) | (obtain ⟨_, _, _, rfl, _⟩ := h; rfl) | (obtain ⟨_, _, _, _, rfl, _⟩ := h; rfl) | (obtain ⟨_, _, _, _, _, rfl, _⟩ := h; rfl) | (obtain ⟨_, _, _, _, _, _, rfl, _⟩ := h; rfl) | (obtain ⟨_, _, _, _, _, _, _, rfl, _⟩ := h; rfl) | (obtain ⟨_, _, _, _, _, _, _, _, rfl, _⟩ := h; rfl) | (obtain ⟨_, _, _, _, _, _, _, _, _, rfl, _⟩ := h; rfl) | (obtain ⟨_, _, _, _, _, _, _, _, _, _, rfl, _⟩ := h; rfl) | (obtain ⟨_, _, _, _, _, _, _, _, _, _, _, rfl, _⟩ := h; rfl))) (fun cdv A outer s H vs Q E hr h => ⟨tIsDeedsOf K, PSs.nox (derIsDeedsOf T c_is_coming c_is_going c_go_out hr), pIsDeedsOf h⟩)
theorem calIsDeedsOf (F : FnP K "is_deeds_of" sIsDeedsOf f fd) (T : Nm mg) (g : mg "is_deeds_of" = some (.ref f)) (c_is_coming : Cal P w K mg base 2 "is_coming" ["thing"] spIsComing) (c_is_going : Cal P w K mg base 2 "is_going" ["thing"] spIsGoing) (c_go_out : Cal P w K mg base 1 "go_out" ["people", "place"] spGoOut) : Cal P w K mg base 3 "is_deeds_of" ["row", "thing"] (spIsDeedsOf K) :=
  ⟨f, fd, okIsDeedsOf F T c_is_coming c_is_going c_go_out, g, F.kp, (F.bindsN fun _ _ _ _ _ _ us hl => match us, hl with | [_, _], _ => rfl)⟩
theorem okKnownOf (F : FnP K "known_of" sKnownOf f fd) (T : Nm mg) (c_marks_of : Cal P w K mg base 2 "marks_of" ["row", "word"] (spMarks K)) : FnOk P w K mg base CX0 3 f fd ["row", "word"] (spKnownOf K) :=
  F.ok scKnownOf (fun vs H Q E h => (by first | (obtain ⟨_, rfl, _⟩ := h; rfl) | (obtain ⟨_, _, rfl, _⟩ := h; rfl) | (obtain ⟨_, _, _, rfl, _⟩ := h; rfl) | (obtain ⟨_, _, _, _, rfl, _⟩ := h; rfl) | (obtain ⟨_, _, _, _, _, rfl, _⟩ := h; rfl) | (obtain ⟨_, _, _, _, _, _, rfl, _⟩ := h; rfl) | (obtain ⟨_, _, _, _, _, _, _, rfl, _⟩ := h; rfl) | (obtain ⟨_, _, _, _, _, _, _, _, rfl, _⟩ := h; rfl) | (obtain ⟨_, _, _, _, _, _, _, _, _, rfl, _⟩ := h; rfl) | (obtain ⟨_, _, _, _, _, _, _, _, _, _, rfl, _⟩ := h; rfl) | (obtain ⟨_, _, _, _, _, _, _, _, _, _, _, rfl, _⟩ := h; rfl))) (fun cdv A outer s H vs Q E hr h => ⟨tKnownOf K, PSs.nox (derKnownOf T c_marks_of hr), pKnownOf h⟩)
theorem calKnownOf (F : FnP K "known_of" sKnownOf f fd) (T : Nm mg) (g : mg "known_of" = some (.ref f)) (c_marks_of : Cal P w K mg base 2 "marks_of" ["row", "word"] (spMarks K)) : Cal P w K mg base 3 "known_of" ["row", "word"] (spKnownOf K) :=
  ⟨f, fd, okKnownOf F T c_marks_of, g, F.kp, (F.bindsN fun _ _ _ _ _ _ us hl => match us, hl with | [_, _], _ => rfl)⟩
theorem okNeedDeeds (F : FnP K "need_deeds" sNeedDeeds f fd) (T : Nm mg) (c_is_deeds_of : Cal P w K mg base 3 "is_deeds_of" ["row", "thing"] (spIsDeedsOf K)) : FnOk P w K mg base CX0 4 f fd ["row", "deeds"] (spNeedDeeds K) :=
  F.ok scNeedDeeds (fun vs H Q E h => (by first | (obtain ⟨_, rfl, _⟩ := h; rfl) | (obtain ⟨_, _, rfl, _⟩ := h; rfl) | (obtain ⟨_, _, _, rfl, _⟩ := h; rfl) | (obtain ⟨_, _, _, _, rfl, _⟩ := h; rfl) | (obtain ⟨_, _, _, _, _, rfl, _⟩ := h; rfl) | (obtain ⟨_, _, _, _, _, _, rfl, _⟩ := h; rfl) | (obtain ⟨_, _, _, _, _, _, _, rfl, _⟩ := h; rfl) | (obtain ⟨_, _, _, _, _, _, _, _, rfl, _⟩ := h; rfl) | (obtain ⟨_, _, _, _, _, _, _, _, _, rfl, _⟩ := h; rfl) | (obtain ⟨_, _, _, _, _, _, _, _, _, _, rfl, _⟩ := h; rfl) | (obtain ⟨_, _, _, _, _, _, _, _, _, _, _, rfl, _⟩ := h; rfl))) (fun cdv A outer s H vs Q E hr h => ⟨tNeedDeeds K, PSs.nox (derNeedDeeds T c_is_deeds_of hr), pNeedDeeds h⟩)
theorem calNeedDeeds (F : FnP K "need_deeds" sNeedDeeds f fd) (T : Nm mg) (g : mg "need_deeds" = some (.ref f)) (c_is_deeds_of : Cal P w K mg base 3 "is_deeds_of" ["row", "thing"] (spIsDeedsOf K)) : Cal P w K mg base 4 "need_deeds" ["row", "deeds"] (spNeedDeeds K) :=
  ⟨f, fd, okNeedDeeds F T c_is_deeds_of, g, F.kp, (F.bindsN fun _ _ _ _ _ _ us hl => match us, hl with | [_, _], _ => rfl)⟩
theorem okNeedWord (F : FnP K "need_word" sNeedWord f fd) (T : Nm mg) (c_is_person : Cal P w K mg base 1 "is_person" ["thing"] spIsPerson) (c_need_row : Cal P w K mg base 3 "need_row" ["row"] (spNeedRow K)) : FnOk P w K mg base CX0 4 f fd ["row", "word"] (spNeedWord K) :=
  F.ok scNeedWord (fun vs H Q E h => (by first | (obtain ⟨_, rfl, _⟩ := h; rfl) | (obtain ⟨_, _, rfl, _⟩ := h; rfl) | (obtain ⟨_, _, _, rfl, _⟩ := h; rfl) | (obtain ⟨_, _, _, _, rfl, _⟩ := h; rfl) | (obtain ⟨_, _, _, _, _, rfl, _⟩ := h; rfl) | (obtain ⟨_, _, _, _, _, _, rfl, _⟩ := h; rfl) | (obtain ⟨_, _, _, _, _, _, _, rfl, _⟩ := h; rfl) | (obtain ⟨_, _, _, _, _, _, _, _, rfl, _⟩ := h; rfl) | (obtain ⟨_, _, _, _, _, _, _, _, _, rfl, _⟩ := h; rfl) | (obtain ⟨_, _, _, _, _, _, _, _, _, _, rfl, _⟩ := h; rfl) | (obtain ⟨_, _, _, _, _, _, _, _, _, _, _, rfl, _⟩ := h; rfl))) (fun cdv A outer s H vs Q E hr h => ⟨tNeedWord K, PSs.nox (derNeedWord T c_is_person c_need_row hr), pNeedWord h⟩)
theorem calNeedWord (F : FnP K "need_word" sNeedWord f fd) (T : Nm mg) (g : mg "need_word" = some (.ref f)) (c_is_person : Cal P w K mg base 1 "is_person" ["thing"] spIsPerson) (c_need_row : Cal P w K mg base 3 "need_row" ["row"] (spNeedRow K)) : Cal P w K mg base 4 "need_word" ["row", "word"] (spNeedWord K) :=
  ⟨f, fd, okNeedWord F T c_is_person c_need_row, g, F.kp, (F.bindsN fun _ _ _ _ _ _ us hl => match us, hl with | [_, _], _ => rfl)⟩
theorem okIsOfThese (F : FnP K "is_of_these" sIsOfThese f fd) (T : Nm mg) (c_last_size : Cal P w K mg base 2 "last_size" ["row", "word"] (spLastSize K)) (c_known_of : Cal P w K mg base 3 "known_of" ["row", "word"] (spKnownOf K)) : FnOk P w K mg base CX0 4 f fd ["row", "word", "end"] (spIsOfThese K) :=
  F.ok scIsOfThese (fun vs H Q E h => (by first | (obtain ⟨_, rfl, _⟩ := h; rfl) | (obtain ⟨_, _, rfl, _⟩ := h; rfl) | (obtain ⟨_, _, _, rfl, _⟩ := h; rfl) | (obtain ⟨_, _, _, _, rfl, _⟩ := h; rfl) | (obtain ⟨_, _, _, _, _, rfl, _⟩ := h; rfl) | (obtain ⟨_, _, _, _, _, _, rfl, _⟩ := h; rfl) | (obtain ⟨_, _, _, _, _, _, _, rfl, _⟩ := h; rfl) | (obtain ⟨_, _, _, _, _, _, _, _, rfl, _⟩ := h; rfl) | (obtain ⟨_, _, _, _, _, _, _, _, _, rfl, _⟩ := h; rfl) | (obtain ⟨_, _, _, _, _, _, _, _, _, _, rfl, _⟩ := h; rfl) | (obtain ⟨_, _, _, _, _, _, _, _, _, _, _, rfl, _⟩ := h; rfl))) (fun cdv A outer s H vs Q E hr h => ⟨tIsOfThese K, PSs.nox (derIsOfThese T c_last_size c_known_of hr), pIsOfThese h⟩)
theorem calIsOfThese (F : FnP K "is_of_these" sIsOfThese f fd) (T : Nm mg) (g : mg "is_of_these" = some (.ref f)) (c_last_size : Cal P w K mg base 2 "last_size" ["row", "word"] (spLastSize K)) (c_known_of : Cal P w K mg base 3 "known_of" ["row", "word"] (spKnownOf K)) : Cal P w K mg base 4 "is_of_these" ["row", "word", "end"] (spIsOfThese K) :=
  ⟨f, fd, okIsOfThese F T c_last_size c_known_of, g, F.kp, (F.bindsN fun _ _ _ _ _ _ us hl => match us, hl with | [_, _, _], _ => rfl)⟩
theorem okFirstWrong (F : FnP K "first_wrong" sFirstWrong f fd) (T : Nm mg) (c_may_stand : Cal P w K mg base 1 "may_stand" ["place", "mark", "spot"] spMayStand) (c_known_of : Cal P w K mg base 3 "known_of" ["row", "word"] (spKnownOf K)) : FnOk P w K mg base CX0 4 f fd ["row", "word", "end"] (spFirstWrong K) :=
  F.ok scFirstWrong (fun vs H Q E h => (by first | (obtain ⟨_, rfl, _⟩ := h; rfl) | (obtain ⟨_, _, rfl, _⟩ := h; rfl) | (obtain ⟨_, _, _, rfl, _⟩ := h; rfl) | (obtain ⟨_, _, _, _, rfl, _⟩ := h; rfl) | (obtain ⟨_, _, _, _, _, rfl, _⟩ := h; rfl) | (obtain ⟨_, _, _, _, _, _, rfl, _⟩ := h; rfl) | (obtain ⟨_, _, _, _, _, _, _, rfl, _⟩ := h; rfl) | (obtain ⟨_, _, _, _, _, _, _, _, rfl, _⟩ := h; rfl) | (obtain ⟨_, _, _, _, _, _, _, _, _, rfl, _⟩ := h; rfl) | (obtain ⟨_, _, _, _, _, _, _, _, _, _, rfl, _⟩ := h; rfl) | (obtain ⟨_, _, _, _, _, _, _, _, _, _, _, rfl, _⟩ := h; rfl))) (fun cdv A outer s H vs Q E hr h => ⟨tFirstWrong K, PSs.nox (derFirstWrong T c_may_stand c_known_of hr), pFirstWrong h⟩)
theorem calFirstWrong (F : FnP K "first_wrong" sFirstWrong f fd) (T : Nm mg) (g : mg "first_wrong" = some (.ref f)) (c_may_stand : Cal P w K mg base 1 "may_stand" ["place", "mark", "spot"] spMayStand) (c_known_of : Cal P w K mg base 3 "known_of" ["row", "word"] (spKnownOf K)) : Cal P w K mg base 4 "first_wrong" ["row", "word", "end"] (spFirstWrong K) :=
  ⟨f, fd, okFirstWrong F T c_may_stand c_known_of, g, F.kp, (F.bindsN fun _ _ _ _ _ _ us hl => match us, hl with | [_, _, _], _ => rfl)⟩
theorem okGo (F : FnP K "go" sGo f fd) (T : Nm mg) (c_need_row : Cal P w K mg base 3 "need_row" ["row"] (spNeedRow K)) (c_need_deeds : Cal P w K mg base 4 "need_deeds" ["row", "deeds"] (spNeedDeeds K)) (c_gone_by : Cal P w K mg base 2 "gone_by" ["row", "deeds"] (spGoneBy K)) : FnOk P w K mg base CX0 5 f fd ["row", "deeds"] (spGoneBy K) :=
  F.ok scGo (fun vs H Q E h => (by first | (obtain ⟨_, rfl, _⟩ := h; rfl) | (obtain ⟨_, _, rfl, _⟩ := h; rfl) | (obtain ⟨_, _, _, rfl, _⟩ := h; rfl) | (obtain ⟨_, _, _, _, rfl, _⟩ := h; rfl) | (obtain ⟨_, _, _, _, _, rfl, _⟩ := h; rfl) | (obtain ⟨_, _, _, _, _, _, rfl, _⟩ := h; rfl) | (obtain ⟨_, _, _, _, _, _, _, rfl, _⟩ := h; rfl) | (obtain ⟨_, _, _, _, _, _, _, _, rfl, _⟩ := h; rfl) | (obtain ⟨_, _, _, _, _, _, _, _, _, rfl, _⟩ := h; rfl) | (obtain ⟨_, _, _, _, _, _, _, _, _, _, rfl, _⟩ := h; rfl) | (obtain ⟨_, _, _, _, _, _, _, _, _, _, _, rfl, _⟩ := h; rfl))) (fun cdv A outer s H vs Q E hr h => ⟨tGo K, PSs.nox (derGo T c_need_row c_need_deeds c_gone_by hr), pGo h⟩)
theorem calGo (F : FnP K "go" sGo f fd) (T : Nm mg) (g : mg "go" = some (.ref f)) (c_need_row : Cal P w K mg base 3 "need_row" ["row"] (spNeedRow K)) (c_need_deeds : Cal P w K mg base 4 "need_deeds" ["row", "deeds"] (spNeedDeeds K)) (c_gone_by : Cal P w K mg base 2 "gone_by" ["row", "deeds"] (spGoneBy K)) : Cal P w K mg base 5 "go" ["row", "deeds"] (spGoneBy K) :=
  ⟨f, fd, okGo F T c_need_row c_need_deeds c_gone_by, g, F.kp, (F.bindsN fun _ _ _ _ _ _ us hl => match us, hl with | [_, _], _ => rfl)⟩
theorem okPlaces (F : FnP K "places" sPlaces f fd) (T : Nm mg) (c_is_person : Cal P w K mg base 1 "is_person" ["thing"] spIsPerson) (c_need_row : Cal P w K mg base 3 "need_row" ["row"] (spNeedRow K)) (c_go_out : Cal P w K mg base 1 "go_out" ["people", "place"] spGoOut) (c_need_deeds : Cal P w K mg base 4 "need_deeds" ["row", "deeds"] (spNeedDeeds K)) : FnOk P w K mg base CX0 5 f fd ["row", "deeds", "person"] (spPlaces K) :=
  F.ok scPlaces (fun vs H Q E h => (by first | (obtain ⟨_, rfl, _⟩ := h; rfl) | (obtain ⟨_, _, rfl, _⟩ := h; rfl) | (obtain ⟨_, _, _, rfl, _⟩ := h; rfl) | (obtain ⟨_, _, _, _, rfl, _⟩ := h; rfl) | (obtain ⟨_, _, _, _, _, rfl, _⟩ := h; rfl) | (obtain ⟨_, _, _, _, _, _, rfl, _⟩ := h; rfl) | (obtain ⟨_, _, _, _, _, _, _, rfl, _⟩ := h; rfl) | (obtain ⟨_, _, _, _, _, _, _, _, rfl, _⟩ := h; rfl) | (obtain ⟨_, _, _, _, _, _, _, _, _, rfl, _⟩ := h; rfl) | (obtain ⟨_, _, _, _, _, _, _, _, _, _, rfl, _⟩ := h; rfl) | (obtain ⟨_, _, _, _, _, _, _, _, _, _, _, rfl, _⟩ := h; rfl))) (fun cdv A outer s H vs Q E hr h => ⟨tPlaces K, PSs.nox (derPlaces T c_is_person c_need_row c_go_out c_need_deeds hr), pPlaces h⟩)
theorem calPlaces (F : FnP K "places" sPlaces f fd) (T : Nm mg) (g : mg "places" = some (.ref f)) (c_is_person : Cal P w K mg base 1 "is_person" ["thing"] spIsPerson) (c_need_row : Cal P w K mg base 3 "need_row" ["row"] (spNeedRow K)) (c_go_out : Cal P w K mg base 1 "go_out" ["people", "place"] spGoOut) (c_need_deeds : Cal P w K mg base 4 "need_deeds" ["row", "deeds"] (spNeedDeeds K)) : Cal P w K mg base 5 "places" ["row", "deeds", "person"] (spPlaces K) :=
  ⟨f, fd, okPlaces F T c_is_person c_need_row c_go_out c_need_deeds, g, F.kp, (F.bindsN fun _ _ _ _ _ _ us hl => match us, hl with | [_, _, _], _ => rfl)⟩
theorem okMarks (F : FnP K "marks" sMarks f fd) (T : Nm mg) (c_need_word : Cal P w K mg base 4 "need_word" ["row", "word"] (spNeedWord K)) (c_marks_of : Cal P w K mg base 2 "marks_of" ["row", "word"] (spMarks K)) : FnOk P w K mg base CX0 5 f fd ["row", "word"] (spMarks K) :=
  F.ok scMarks (fun vs H Q E h => (by first | (obtain ⟨_, rfl, _⟩ := h; rfl) | (obtain ⟨_, _, rfl, _⟩ := h; rfl) | (obtain ⟨_, _, _, rfl, _⟩ := h; rfl) | (obtain ⟨_, _, _, _, rfl, _⟩ := h; rfl) | (obtain ⟨_, _, _, _, _, rfl, _⟩ := h; rfl) | (obtain ⟨_, _, _, _, _, _, rfl, _⟩ := h; rfl) | (obtain ⟨_, _, _, _, _, _, _, rfl, _⟩ := h; rfl) | (obtain ⟨_, _, _, _, _, _, _, _, rfl, _⟩ := h; rfl) | (obtain ⟨_, _, _, _, _, _, _, _, _, rfl, _⟩ := h; rfl) | (obtain ⟨_, _, _, _, _, _, _, _, _, _, rfl, _⟩ := h; rfl) | (obtain ⟨_, _, _, _, _, _, _, _, _, _, _, rfl, _⟩ := h; rfl))) (fun cdv A outer s H vs Q E hr h => ⟨tMarks K, PSs.nox (derMarks T c_need_word c_marks_of hr), pMarks h⟩)
theorem calMarks (F : FnP K "marks" sMarks f fd) (T : Nm mg) (g : mg "marks" = some (.ref f)) (c_need_word : Cal P w K mg base 4 "need_word" ["row", "word"] (spNeedWord K)) (c_marks_of : Cal P w K mg base 2 "marks_of" ["row", "word"] (spMarks K)) : Cal P w K mg base 5 "marks" ["row", "word"] (spMarks K) :=
  ⟨f, fd, okMarks F T c_need_word c_marks_of, g, F.kp, (F.bindsN fun _ _ _ _ _ _ us hl => match us, hl with | [_, _], _ => rfl)⟩
theorem okNeedEnd (F : FnP K "need_end" sNeedEnd f fd) (T : Nm mg) (c_is_row : Cal P w K mg base 2 "is_row" ["thing"] (spIsRow K)) (c_need_word : Cal P w K mg base 4 "need_word" ["row", "word"] (spNeedWord K)) : FnOk P w K mg base CX0 5 f fd ["row", "word", "end"] (spNeedEnd K) :=
  F.ok scNeedEnd (fun vs H Q E h => (by first | (obtain ⟨_, rfl, _⟩ := h; rfl) | (obtain ⟨_, _, rfl, _⟩ := h; rfl) | (obtain ⟨_, _, _, rfl, _⟩ := h; rfl) | (obtain ⟨_, _, _, _, rfl, _⟩ := h; rfl) | (obtain ⟨_, _, _, _, _, rfl, _⟩ := h; rfl) | (obtain ⟨_, _, _, _, _, _, rfl, _⟩ := h; rfl) | (obtain ⟨_, _, _, _, _, _, _, rfl, _⟩ := h; rfl) | (obtain ⟨_, _, _, _, _, _, _, _, rfl, _⟩ := h; rfl) | (obtain ⟨_, _, _, _, _, _, _, _, _, rfl, _⟩ := h; rfl) | (obtain ⟨_, _, _, _, _, _, _, _, _, _, rfl, _⟩ := h; rfl) | (obtain ⟨_, _, _, _, _, _, _, _, _, _, _, rfl, _⟩ := h; rfl))) (fun cdv A outer s H vs Q E hr h => ⟨tNeedEnd K, PSs.nox (derNeedEnd T c_is_row c_need_word hr), pNeedEnd h⟩)
theorem calNeedEnd (F : FnP K "need_end" sNeedEnd f fd) (T : Nm mg) (g : mg "need_end" = some (.ref f)) (c_is_row : Cal P w K mg base 2 "is_row" ["thing"] (spIsRow K)) (c_need_word : Cal P w K mg base 4 "need_word" ["row", "word"] (spNeedWord K)) : Cal P w K mg base 5 "need_end" ["row", "word", "end"] (spNeedEnd K) :=
  ⟨f, fd, okNeedEnd F T c_is_row c_need_word, g, F.kp, (F.bindsN fun _ _ _ _ _ _ us hl => match us, hl with | [_, _, _], _ => rfl)⟩
theorem okIsPossible (F : FnP K "is_possible" sIsPossible f fd) (T : Nm mg) (c_is_of_these : Cal P w K mg base 4 "is_of_these" ["row", "word", "end"] (spIsOfThese K)) (c_first_wrong : Cal P w K mg base 4 "first_wrong" ["row", "word", "end"] (spFirstWrong K)) : FnOk P w K mg base CX0 5 f fd ["row", "word", "end"] (spCanBe K) :=
  F.ok scIsPossible (fun vs H Q E h => (by first | (obtain ⟨_, rfl, _⟩ := h; rfl) | (obtain ⟨_, _, rfl, _⟩ := h; rfl) | (obtain ⟨_, _, _, rfl, _⟩ := h; rfl) | (obtain ⟨_, _, _, _, rfl, _⟩ := h; rfl) | (obtain ⟨_, _, _, _, _, rfl, _⟩ := h; rfl) | (obtain ⟨_, _, _, _, _, _, rfl, _⟩ := h; rfl) | (obtain ⟨_, _, _, _, _, _, _, rfl, _⟩ := h; rfl) | (obtain ⟨_, _, _, _, _, _, _, _, rfl, _⟩ := h; rfl) | (obtain ⟨_, _, _, _, _, _, _, _, _, rfl, _⟩ := h; rfl) | (obtain ⟨_, _, _, _, _, _, _, _, _, _, rfl, _⟩ := h; rfl) | (obtain ⟨_, _, _, _, _, _, _, _, _, _, _, rfl, _⟩ := h; rfl))) (fun cdv A outer s H vs Q E hr h => ⟨tIsPossible K, PSs.nox (derIsPossible T c_is_of_these c_first_wrong hr), pIsPossible h⟩)
theorem calIsPossible (F : FnP K "is_possible" sIsPossible f fd) (T : Nm mg) (g : mg "is_possible" = some (.ref f)) (c_is_of_these : Cal P w K mg base 4 "is_of_these" ["row", "word", "end"] (spIsOfThese K)) (c_first_wrong : Cal P w K mg base 4 "first_wrong" ["row", "word", "end"] (spFirstWrong K)) : Cal P w K mg base 5 "is_possible" ["row", "word", "end"] (spCanBe K) :=
  ⟨f, fd, okIsPossible F T c_is_of_these c_first_wrong, g, F.kp, (F.bindsN fun _ _ _ _ _ _ us hl => match us, hl with | [_, _, _], _ => rfl)⟩
theorem okCanBe (F : FnP K "can_be" sCanBe f fd) (T : Nm mg) (c_need_end : Cal P w K mg base 5 "need_end" ["row", "word", "end"] (spNeedEnd K)) (c_is_possible : Cal P w K mg base 5 "is_possible" ["row", "word", "end"] (spCanBe K)) : FnOk P w K mg base CX0 6 f fd ["row", "word", "end"] (spCanBe K) :=
  F.ok scCanBe (fun vs H Q E h => (by first | (obtain ⟨_, rfl, _⟩ := h; rfl) | (obtain ⟨_, _, rfl, _⟩ := h; rfl) | (obtain ⟨_, _, _, rfl, _⟩ := h; rfl) | (obtain ⟨_, _, _, _, rfl, _⟩ := h; rfl) | (obtain ⟨_, _, _, _, _, rfl, _⟩ := h; rfl) | (obtain ⟨_, _, _, _, _, _, rfl, _⟩ := h; rfl) | (obtain ⟨_, _, _, _, _, _, _, rfl, _⟩ := h; rfl) | (obtain ⟨_, _, _, _, _, _, _, _, rfl, _⟩ := h; rfl) | (obtain ⟨_, _, _, _, _, _, _, _, _, rfl, _⟩ := h; rfl) | (obtain ⟨_, _, _, _, _, _, _, _, _, _, rfl, _⟩ := h; rfl) | (obtain ⟨_, _, _, _, _, _, _, _, _, _, _, rfl, _⟩ := h; rfl))) (fun cdv A outer s H vs Q E hr h => ⟨tCanBe K, PSs.nox (derCanBe T c_need_end c_is_possible hr), pCanBe h⟩)
theorem calCanBe (F : FnP K "can_be" sCanBe f fd) (T : Nm mg) (g : mg "can_be" = some (.ref f)) (c_need_end : Cal P w K mg base 5 "need_end" ["row", "word", "end"] (spNeedEnd K)) (c_is_possible : Cal P w K mg base 5 "is_possible" ["row", "word", "end"] (spCanBe K)) : Cal P w K mg base 6 "can_be" ["row", "word", "end"] (spCanBe K) :=
  ⟨f, fd, okCanBe F T c_need_end c_is_possible, g, F.kp, (F.bindsN fun _ _ _ _ _ _ us hl => match us, hl with | [_, _, _], _ => rfl)⟩
theorem okWhyNot (F : FnP K "why_not" sWhyNot f fd) (T : Nm mg) (c_need_end : Cal P w K mg base 5 "need_end" ["row", "word", "end"] (spNeedEnd K)) (c_is_of_these : Cal P w K mg base 4 "is_of_these" ["row", "word", "end"] (spIsOfThese K)) (c_first_wrong : Cal P w K mg base 4 "first_wrong" ["row", "word", "end"] (spFirstWrong K)) : FnOk P w K mg base CX0 6 f fd ["row", "word", "end"] (spWhyNot K) :=
  F.ok scWhyNot (fun vs H Q E h => (by first | (obtain ⟨_, rfl, _⟩ := h; rfl) | (obtain ⟨_, _, rfl, _⟩ := h; rfl) | (obtain ⟨_, _, _, rfl, _⟩ := h; rfl) | (obtain ⟨_, _, _, _, rfl, _⟩ := h; rfl) | (obtain ⟨_, _, _, _, _, rfl, _⟩ := h; rfl) | (obtain ⟨_, _, _, _, _, _, rfl, _⟩ := h; rfl) | (obtain ⟨_, _, _, _, _, _, _, rfl, _⟩ := h; rfl) | (obtain ⟨_, _, _, _, _, _, _, _, rfl, _⟩ := h; rfl) | (obtain ⟨_, _, _, _, _, _, _, _, _, rfl, _⟩ := h; rfl) | (obtain ⟨_, _, _, _, _, _, _, _, _, _, rfl, _⟩ := h; rfl) | (obtain ⟨_, _, _, _, _, _, _, _, _, _, _, rfl, _⟩ := h; rfl))) (fun cdv A outer s H vs Q E hr h => ⟨tWhyNot K, PSs.nox (derWhyNot T c_need_end c_is_of_these c_first_wrong hr), pWhyNot h⟩)
theorem calWhyNot (F : FnP K "why_not" sWhyNot f fd) (T : Nm mg) (g : mg "why_not" = some (.ref f)) (c_need_end : Cal P w K mg base 5 "need_end" ["row", "word", "end"] (spNeedEnd K)) (c_is_of_these : Cal P w K mg base 4 "is_of_these" ["row", "word", "end"] (spIsOfThese K)) (c_first_wrong : Cal P w K mg base 4 "first_wrong" ["row", "word", "end"] (spFirstWrong K)) : Cal P w K mg base 6 "why_not" ["row", "word", "end"] (spWhyNot K) :=
  ⟨f, fd, okWhyNot F T c_need_end c_is_of_these c_first_wrong, g, F.kp, (F.bindsN fun _ _ _ _ _ _ us hl => match us, hl with | [_, _, _], _ => rfl)⟩
theorem okHistory (F : FnP K "history" sHistory f fd) (T : Nm mg) (c_need_end : Cal P w K mg base 5 "need_end" ["row", "word", "end"] (spNeedEnd K)) (c_is_possible : Cal P w K mg base 5 "is_possible" ["row", "word", "end"] (spCanBe K)) : FnOk P w K mg base CX0 6 f fd ["row", "word", "end"] (spHistory K) :=
  F.ok scHistory (fun vs H Q E h => (by first | (obtain ⟨_, rfl, _⟩ := h; rfl) | (obtain ⟨_, _, rfl, _⟩ := h; rfl) | (obtain ⟨_, _, _, rfl, _⟩ := h; rfl) | (obtain ⟨_, _, _, _, rfl, _⟩ := h; rfl) | (obtain ⟨_, _, _, _, _, rfl, _⟩ := h; rfl) | (obtain ⟨_, _, _, _, _, _, rfl, _⟩ := h; rfl) | (obtain ⟨_, _, _, _, _, _, _, rfl, _⟩ := h; rfl) | (obtain ⟨_, _, _, _, _, _, _, _, rfl, _⟩ := h; rfl) | (obtain ⟨_, _, _, _, _, _, _, _, _, rfl, _⟩ := h; rfl) | (obtain ⟨_, _, _, _, _, _, _, _, _, _, rfl, _⟩ := h; rfl) | (obtain ⟨_, _, _, _, _, _, _, _, _, _, _, rfl, _⟩ := h; rfl))) (fun cdv A outer s H vs Q E hr h => ⟨tHistory K, PSs.nox (derHistory T c_need_end c_is_possible hr), pHistory h⟩)
theorem calHistory (F : FnP K "history" sHistory f fd) (T : Nm mg) (g : mg "history" = some (.ref f)) (c_need_end : Cal P w K mg base 5 "need_end" ["row", "word", "end"] (spNeedEnd K)) (c_is_possible : Cal P w K mg base 5 "is_possible" ["row", "word", "end"] (spCanBe K)) : Cal P w K mg base 6 "history" ["row", "word", "end"] (spHistory K) :=
  ⟨f, fd, okHistory F T c_need_end c_is_possible, g, F.kp, (F.bindsN fun _ _ _ _ _ _ us hl => match us, hl with | [_, _, _], _ => rfl)⟩
theorem okMoved (F : FnP K "moved" sMoved f fd) (T : Nm mg) (c_known_of : Cal P w K mg base 3 "known_of" ["row", "word"] (spKnownOf K)) (c_need_end : Cal P w K mg base 5 "need_end" ["row", "word", "end"] (spNeedEnd K)) (c_is_possible : Cal P w K mg base 5 "is_possible" ["row", "word", "end"] (spCanBe K)) : FnOk P w K mg base CX0 6 f fd ["row", "word", "end"] (spMoved K) :=
  F.ok scMoved (fun vs H Q E h => (by first | (obtain ⟨_, rfl, _⟩ := h; rfl) | (obtain ⟨_, _, rfl, _⟩ := h; rfl) | (obtain ⟨_, _, _, rfl, _⟩ := h; rfl) | (obtain ⟨_, _, _, _, rfl, _⟩ := h; rfl) | (obtain ⟨_, _, _, _, _, rfl, _⟩ := h; rfl) | (obtain ⟨_, _, _, _, _, _, rfl, _⟩ := h; rfl) | (obtain ⟨_, _, _, _, _, _, _, rfl, _⟩ := h; rfl) | (obtain ⟨_, _, _, _, _, _, _, _, rfl, _⟩ := h; rfl) | (obtain ⟨_, _, _, _, _, _, _, _, _, rfl, _⟩ := h; rfl) | (obtain ⟨_, _, _, _, _, _, _, _, _, _, rfl, _⟩ := h; rfl) | (obtain ⟨_, _, _, _, _, _, _, _, _, _, _, rfl, _⟩ := h; rfl))) (fun cdv A outer s H vs Q E hr h => ⟨tMoved K, PSs.nox (derMoved T c_known_of c_need_end c_is_possible hr), pMoved h⟩)
theorem calMoved (F : FnP K "moved" sMoved f fd) (T : Nm mg) (g : mg "moved" = some (.ref f)) (c_known_of : Cal P w K mg base 3 "known_of" ["row", "word"] (spKnownOf K)) (c_need_end : Cal P w K mg base 5 "need_end" ["row", "word", "end"] (spNeedEnd K)) (c_is_possible : Cal P w K mg base 5 "is_possible" ["row", "word", "end"] (spCanBe K)) : Cal P w K mg base 6 "moved" ["row", "word", "end"] (spMoved K) :=
  ⟨f, fd, okMoved F T c_known_of c_need_end c_is_possible, g, F.kp, (F.bindsN fun _ _ _ _ _ _ us hl => match us, hl with | [_, _, _], _ => rfl)⟩
theorem okLawExchanged (F : FnP K "_law_exchanged" sLawExchanged f fd) (T : Nm mg) (c_can_be : Cal P w K mg base 6 "can_be" ["row", "word", "end"] (spCanBe K)) (c_why_not : Cal P w K mg base 6 "why_not" ["row", "word", "end"] (spWhyNot K)) (c_law_take : Cal P w K mg base 1 "_law_take" ["_law_bag_here", "_law_many"] spTake) (c_law_alike : Cal P w K mg base 2 "_law_alike" ["_law_found", "_law_due"] (spAlike K)) : FnOk P w K mg base CX0 7 f fd ["_law_bag_here", "_law_row", "_law_word", "_law_end", "_law_known"] (spExchanged K) :=
  F.ok scLawExchanged (fun vs H Q E h => (by first | (obtain ⟨_, rfl, _⟩ := h; rfl) | (obtain ⟨_, _, rfl, _⟩ := h; rfl) | (obtain ⟨_, _, _, rfl, _⟩ := h; rfl) | (obtain ⟨_, _, _, _, rfl, _⟩ := h; rfl) | (obtain ⟨_, _, _, _, _, rfl, _⟩ := h; rfl) | (obtain ⟨_, _, _, _, _, _, rfl, _⟩ := h; rfl) | (obtain ⟨_, _, _, _, _, _, _, rfl, _⟩ := h; rfl) | (obtain ⟨_, _, _, _, _, _, _, _, rfl, _⟩ := h; rfl) | (obtain ⟨_, _, _, _, _, _, _, _, _, rfl, _⟩ := h; rfl) | (obtain ⟨_, _, _, _, _, _, _, _, _, _, rfl, _⟩ := h; rfl) | (obtain ⟨_, _, _, _, _, _, _, _, _, _, _, rfl, _⟩ := h; rfl))) (fun cdv A outer s H vs Q E hr h => ⟨tLawExchanged K, PSs.nox (derLawExchanged T c_can_be c_why_not c_law_take c_law_alike hr), pLawExchanged h⟩)
theorem calLawExchanged (F : FnP K "_law_exchanged" sLawExchanged f fd) (T : Nm mg) (g : mg "_law_exchanged" = some (.ref f)) (c_can_be : Cal P w K mg base 6 "can_be" ["row", "word", "end"] (spCanBe K)) (c_why_not : Cal P w K mg base 6 "why_not" ["row", "word", "end"] (spWhyNot K)) (c_law_take : Cal P w K mg base 1 "_law_take" ["_law_bag_here", "_law_many"] spTake) (c_law_alike : Cal P w K mg base 2 "_law_alike" ["_law_found", "_law_due"] (spAlike K)) : Cal P w K mg base 7 "_law_exchanged" ["_law_bag_here", "_law_row", "_law_word", "_law_end", "_law_known"] (spExchanged K) :=
  ⟨f, fd, okLawExchanged F T c_can_be c_why_not c_law_take c_law_alike, g, F.kp, (F.bindsN fun _ _ _ _ _ _ us hl => match us, hl with | [_, _, _, _, _], _ => rfl)⟩
theorem okLawBentRight (F : FnP K "_law_bent_right" sLawBentRight f fd) (T : Nm mg) (c_places : Cal P w K mg base 5 "places" ["row", "deeds", "person"] (spPlaces K)) (c_marks : Cal P w K mg base 5 "marks" ["row", "word"] (spMarks K)) (c_law_take : Cal P w K mg base 1 "_law_take" ["_law_bag_here", "_law_many"] spTake) (c_law_exchanged : Cal P w K mg base 7 "_law_exchanged" ["_law_bag_here", "_law_row", "_law_word", "_law_end", "_law_known"] (spExchanged K)) : FnOk P w K mg base CX0 8 f fd ["_law_bag_here", "_law_row", "_law_word", "_law_end", "_law_told"] (spBentRight K) :=
  F.ok scLawBentRight (fun vs H Q E h => (by first | (obtain ⟨_, rfl, _⟩ := h; rfl) | (obtain ⟨_, _, rfl, _⟩ := h; rfl) | (obtain ⟨_, _, _, rfl, _⟩ := h; rfl) | (obtain ⟨_, _, _, _, rfl, _⟩ := h; rfl) | (obtain ⟨_, _, _, _, _, rfl, _⟩ := h; rfl) | (obtain ⟨_, _, _, _, _, _, rfl, _⟩ := h; rfl) | (obtain ⟨_, _, _, _, _, _, _, rfl, _⟩ := h; rfl) | (obtain ⟨_, _, _, _, _, _, _, _, rfl, _⟩ := h; rfl) | (obtain ⟨_, _, _, _, _, _, _, _, _, rfl, _⟩ := h; rfl) | (obtain ⟨_, _, _, _, _, _, _, _, _, _, rfl, _⟩ := h; rfl) | (obtain ⟨_, _, _, _, _, _, _, _, _, _, _, rfl, _⟩ := h; rfl))) (fun cdv A outer s H vs Q E hr h => ⟨tLawBentRight K, PSs.nox (derLawBentRight T c_places c_marks c_law_take c_law_exchanged hr), pLawBentRight h⟩)
theorem calLawBentRight (F : FnP K "_law_bent_right" sLawBentRight f fd) (T : Nm mg) (g : mg "_law_bent_right" = some (.ref f)) (c_places : Cal P w K mg base 5 "places" ["row", "deeds", "person"] (spPlaces K)) (c_marks : Cal P w K mg base 5 "marks" ["row", "word"] (spMarks K)) (c_law_take : Cal P w K mg base 1 "_law_take" ["_law_bag_here", "_law_many"] spTake) (c_law_exchanged : Cal P w K mg base 7 "_law_exchanged" ["_law_bag_here", "_law_row", "_law_word", "_law_end", "_law_known"] (spExchanged K)) : Cal P w K mg base 8 "_law_bent_right" ["_law_bag_here", "_law_row", "_law_word", "_law_end", "_law_told"] (spBentRight K) :=
  ⟨f, fd, okLawBentRight F T c_places c_marks c_law_take c_law_exchanged, g, F.kp, (F.bindsN fun _ _ _ _ _ _ us hl => match us, hl with | [_, _, _, _, _], _ => rfl)⟩
theorem okLaw (F : FnP K "law" sLaw f fd) (T : Nm mg) (c_go : Cal P w K mg base 5 "go" ["row", "deeds"] (spGoneBy K)) (c_can_be : Cal P w K mg base 6 "can_be" ["row", "word", "end"] (spCanBe K)) (c_why_not : Cal P w K mg base 6 "why_not" ["row", "word", "end"] (spWhyNot K)) (c_history : Cal P w K mg base 6 "history" ["row", "word", "end"] (spHistory K)) (c_moved : Cal P w K mg base 6 "moved" ["row", "word", "end"] (spMoved K)) (c_law_cell_at : Cal P w K mg base 1 "_law_cell_at" ["_law_script", "_law_k"] (spCellAt K)) (c_law_bag : Cal P w K mg base 1 "_law_bag" ["_law_cell", "_law_k"] spBag) (c_law_take : Cal P w K mg base 1 "_law_take" ["_law_bag_here", "_law_many"] spTake) (c_law_alike : Cal P w K mg base 2 "_law_alike" ["_law_found", "_law_due"] (spAlike K)) (c_law_names : Cal P w K mg base 2 "_law_names" ["_law_bag_here", "_law_many"] spNames) (c_law_deeds : Cal P w K mg base 2 "_law_deeds" ["_law_bag_here", "_law_names_here", "_law_many", "_law_asks"] spDeeds) (c_law_rows : Cal P w K mg base 1 "_law_rows" ["_law_row", "_law_deeds_here"] (spRows K)) (c_law_movers : Cal P w K mg base 1 "_law_movers" ["_law_rows_here"] spMovers) (c_law_bent_right : Cal P w K mg base 8 "_law_bent_right" ["_law_bag_here", "_law_row", "_law_word", "_law_end", "_law_told"] (spBentRight K)) : FnOk P w K mg base CX0 9 f fd ["_law_script"] (spLaw K) :=
  F.ok scLaw (fun vs H Q E h => (by first | (obtain ⟨_, rfl, _⟩ := h; rfl) | (obtain ⟨_, _, rfl, _⟩ := h; rfl) | (obtain ⟨_, _, _, rfl, _⟩ := h; rfl) | (obtain ⟨_, _, _, _, rfl, _⟩ := h; rfl) | (obtain ⟨_, _, _, _, _, rfl, _⟩ := h; rfl) | (obtain ⟨_, _, _, _, _, _, rfl, _⟩ := h; rfl) | (obtain ⟨_, _, _, _, _, _, _, rfl, _⟩ := h; rfl) | (obtain ⟨_, _, _, _, _, _, _, _, rfl, _⟩ := h; rfl) | (obtain ⟨_, _, _, _, _, _, _, _, _, rfl, _⟩ := h; rfl) | (obtain ⟨_, _, _, _, _, _, _, _, _, _, rfl, _⟩ := h; rfl) | (obtain ⟨_, _, _, _, _, _, _, _, _, _, _, rfl, _⟩ := h; rfl))) (fun cdv A outer s H vs Q E hr h => ⟨tLaw K, PSs.nox (derLaw T c_go c_can_be c_why_not c_history c_moved c_law_cell_at c_law_bag c_law_take c_law_alike c_law_names c_law_deeds c_law_rows c_law_movers c_law_bent_right hr), pLaw h⟩)
end
end K60

namespace K60
open PySem PySem.Spec PyProof.Rows L2

def dIsAmount : He.DefD := ⟨("is_amount", none), "is_amount", "is_amount", defArgs sIsAmount, defBody sIsAmount, defScope sIsAmount, [], []⟩
def dIsPerson : He.DefD := ⟨("is_person", none), "is_person", "is_person", defArgs sIsPerson, defBody sIsPerson, defScope sIsPerson, [], []⟩
def dIsRow : He.DefD := ⟨("is_row", none), "is_row", "is_row", defArgs sIsRow, defBody sIsRow, defScope sIsRow, [], []⟩
def dIsPair : He.DefD := ⟨("is_pair", none), "is_pair", "is_pair", defArgs sIsPair, defBody sIsPair, defScope sIsPair, [], []⟩
def dIsComing : He.DefD := ⟨("is_coming", none), "is_coming", "is_coming", defArgs sIsComing, defBody sIsComing, defScope sIsComing, [], []⟩
def dIsGoing : He.DefD := ⟨("is_going", none), "is_going", "is_going", defArgs sIsGoing, defBody sIsGoing, defScope sIsGoing, [], []⟩
def dNeedRow : He.DefD := ⟨("need_row", none), "need_row", "need_row", defArgs sNeedRow, defBody sNeedRow, defScope sNeedRow, [], []⟩
def dGoOut : He.DefD := ⟨("go_out", none), "go_out", "go_out", defArgs sGoOut, defBody sGoOut, defScope sGoOut, [], []⟩
def dIsDeedsOf : He.DefD := ⟨("is_deeds_of", none), "is_deeds_of", "is_deeds_of", defArgs sIsDeedsOf, defBody sIsDeedsOf, defScope sIsDeedsOf, [], []⟩
def dNeedDeeds : He.DefD := ⟨("need_deeds", none), "need_deeds", "need_deeds", defArgs sNeedDeeds, defBody sNeedDeeds, defScope sNeedDeeds, [], []⟩
def dGoneBy : He.DefD := ⟨("gone_by", none), "gone_by", "gone_by", defArgs sGoneBy, defBody sGoneBy, defScope sGoneBy, [], []⟩
def dGo : He.DefD := ⟨("go", none), "go", "go", defArgs sGo, defBody sGo, defScope sGo, [], []⟩
def dPlaces : He.DefD := ⟨("places", none), "places", "places", defArgs sPlaces, defBody sPlaces, defScope sPlaces, [], []⟩
def dNeedWord : He.DefD := ⟨("need_word", none), "need_word", "need_word", defArgs sNeedWord, defBody sNeedWord, defScope sNeedWord, [], []⟩
def dWordSizes : He.DefD := ⟨("word_sizes", none), "word_sizes", "word_sizes", defArgs sWordSizes, defBody sWordSizes, defScope sWordSizes, [], []⟩
def dLeastOn : He.DefD := ⟨("least_on", none), "least_on", "least_on", defArgs sLeastOn, defBody sLeastOn, defScope sLeastOn, [], []⟩
def dMarksOf : He.DefD := ⟨("marks_of", none), "marks_of", "marks_of", defArgs sMarksOf, defBody sMarksOf, defScope sMarksOf, [], []⟩
def dMarks : He.DefD := ⟨("marks", none), "marks", "marks", defArgs sMarks, defBody sMarks, defScope sMarks, [], []⟩
def dMayStand : He.DefD := ⟨("may_stand", none), "may_stand", "may_stand", defArgs sMayStand, defBody sMayStand, defScope sMayStand, [], []⟩
def dLastSize : He.DefD := ⟨("last_size", none), "last_size", "last_size", defArgs sLastSize, defBody sLastSize, defScope sLastSize, [], []⟩
def dKnownOf : He.DefD := ⟨("known_of", none), "known_of", "known_of", defArgs sKnownOf, defBody sKnownOf, defScope sKnownOf, [], []⟩
def dNeedEnd : He.DefD := ⟨("need_end", none), "need_end", "need_end", defArgs sNeedEnd, defBody sNeedEnd, defScope sNeedEnd, [], []⟩
def dIsOfThese : He.DefD := ⟨("is_of_these", none), "is_of_these", "is_of_these", defArgs sIsOfThese, defBody sIsOfThese, defScope sIsOfThese, [], []⟩
def dFirstWrong : He.DefD := ⟨("first_wrong", none), "first_wrong", "first_wrong", defArgs sFirstWrong, defBody sFirstWrong, defScope sFirstWrong, [], []⟩
def dIsPossible : He.DefD := ⟨("is_possible", none), "is_possible", "is_possible", defArgs sIsPossible, defBody sIsPossible, defScope sIsPossible, [], []⟩
def dCanBe : He.DefD := ⟨("can_be", none), "can_be", "can_be", defArgs sCanBe, defBody sCanBe, defScope sCanBe, [], []⟩
def dWhyNot : He.DefD := ⟨("why_not", none), "why_not", "why_not", defArgs sWhyNot, defBody sWhyNot, defScope sWhyNot, [], []⟩
def dHistory : He.DefD := ⟨("history", none), "history", "history", defArgs sHistory, defBody sHistory, defScope sHistory, [], []⟩
def dMoved : He.DefD := ⟨("moved", none), "moved", "moved", defArgs sMoved, defBody sMoved, defScope sMoved, [], []⟩
def dLawCellAt : He.DefD := ⟨("_law_cell_at", none), "_law_cell_at", "_law_cell_at", defArgs sLawCellAt, defBody sLawCellAt, defScope sLawCellAt, [], []⟩
def dLawBag : He.DefD := ⟨("_law_bag", none), "_law_bag", "_law_bag", defArgs sLawBag, defBody sLawBag, defScope sLawBag, [], []⟩
def dLawTake : He.DefD := ⟨("_law_take", none), "_law_take", "_law_take", defArgs sLawTake, defBody sLawTake, defScope sLawTake, [], []⟩
def dLawAlike : He.DefD := ⟨("_law_alike", none), "_law_alike", "_law_alike", defArgs sLawAlike, defBody sLawAlike, defScope sLawAlike, [], []⟩
def dLawNames : He.DefD := ⟨("_law_names", none), "_law_names", "_law_names", defArgs sLawNames, defBody sLawNames, defScope sLawNames, [], []⟩
def dLawDeeds : He.DefD := ⟨("_law_deeds", none), "_law_deeds", "_law_deeds", defArgs sLawDeeds, defBody sLawDeeds, defScope sLawDeeds, [], []⟩
def dLawRows : He.DefD := ⟨("_law_rows", none), "_law_rows", "_law_rows", defArgs sLawRows, defBody sLawRows, defScope sLawRows, [], []⟩
def dLawMovers : He.DefD := ⟨("_law_movers", none), "_law_movers", "_law_movers", defArgs sLawMovers, defBody sLawMovers, defScope sLawMovers, [], []⟩
def dLawExchanged : He.DefD := ⟨("_law_exchanged", none), "_law_exchanged", "_law_exchanged", defArgs sLawExchanged, defBody sLawExchanged, defScope sLawExchanged, [], []⟩
def dLawBentRight : He.DefD := ⟨("_law_bent_right", none), "_law_bent_right", "_law_bent_right", defArgs sLawBentRight, defBody sLawBentRight, defScope sLawBentRight, [], []⟩
def dLaw : He.DefD := ⟨("law", none), "law", "law", defArgs sLaw, defBody sLaw, defScope sLaw, [], []⟩
def fnAll : List He.DefD := [dIsAmount, dIsPerson, dIsRow, dIsPair, dIsComing, dIsGoing, dNeedRow, dGoOut, dIsDeedsOf, dNeedDeeds, dGoneBy, dGo, dPlaces, dNeedWord, dWordSizes, dLeastOn, dMarksOf, dMarks, dMayStand, dLastSize, dKnownOf, dNeedEnd, dIsOfThese, dFirstWrong, dIsPossible, dCanBe, dWhyNot, dHistory, dMoved, dLawCellAt, dLawBag, dLawTake, dLawAlike, dLawNames, dLawDeeds, dLawRows, dLawMovers, dLawExchanged, dLawBentRight, dLaw]
def faAll : List He.Fa := [.glo "is_amount", .glo "is_person", .glo "is_row", .glo "is_pair", .glo "is_coming", .glo "is_going", .glo "need_row", .glo "go_out", .glo "is_deeds_of", .glo "need_deeds", .glo "gone_by", .glo "go", .glo "places", .glo "need_word", .glo "word_sizes", .glo "least_on", .glo "marks_of", .glo "marks", .glo "may_stand", .glo "last_size", .glo "known_of", .glo "need_end", .glo "is_of_these", .glo "first_wrong", .glo "is_possible", .glo "can_be", .glo "why_not", .glo "history", .glo "moved", .glo "_law_cell_at", .glo "_law_bag", .glo "_law_take", .glo "_law_alike", .glo "_law_names", .glo "_law_deeds", .glo "_law_rows", .glo "_law_movers", .glo "_law_exchanged", .glo "_law_bent_right", .glo "law", .str "SIGNS" "abcdefghijklmnopqrstuvwxyz", .int "MOST_SIGNS" 4, .free "isinstance", .free "int", .free "bool", .free "str", .free "len", .free "all", .free "tuple", .free "set", .free "list", .free "range", .free "min", .free "max", .free "enumerate", .free "sorted"]
abbrev R : PySem.W.OpenRow := PySem.W.OpenLaw.row PySem.Challenge.rw_lastfills_k60_whole_lived_rows_can_be
abbrev hk : PySem.W.Hook := He.hookD 4 faAll fnAll
def ob (s : PySem.W.SharedT) : He.AlD := He.obsDG 4 faAll fnAll (HandSHeadRun.getT s)
theorem ob_eq (s : PySem.W.SharedT) : ob s = hk.obs s.abs := He.obsDG_eq (HandSHeadRun.getT_eq s)
def looseA : List PySem.Str := ["RowError", "NoRow", "NoDeeds", "NoPerson", "NoWord", "NoEnd", "SIGNS", "MOST_SIGNS", "is_amount", "is_person", "is_row", "is_pair", "is_coming", "is_going", "need_row", "go_out", "is_deeds_of", "need_deeds", "gone_by", "go", "places", "need_word", "word_sizes", "least_on", "marks_of", "marks", "may_stand", "last_size", "known_of", "need_end"]
def looseB : List PySem.Str := ["is_of_these", "first_wrong", "is_possible", "can_be", "why_not", "history", "moved", "_law_cell_at", "_law_bag", "_law_take", "_law_alike", "_law_names", "_law_deeds", "_law_rows", "_law_movers", "_law_exchanged", "_law_bent_right"]
abbrev loose : List PySem.Str := looseA ++ looseB
theorem run (w : World) : HandSHeadRun.RunEq R (PySem.W.view R.prog [52]) hk ob 5000 loose w := by
  intro os
  kernel_rfl
theorem names_of {K : PySem.W.Frag} {h : Heap} {mg : Str → Option Value} (X : K.In h) (G : h.Ns mainGlobals mg) (c : He.SaysD faAll fnAll K) : Nm mg :=
  ⟨He.str_ok X G (c.fact 40 (f := .str "SIGNS" "abcdefghijklmnopqrstuvwxyz") rfl), He.int_ok X G (c.fact 41 (f := .int "MOST_SIGNS" 4) rfl), He.free_ok X G (c.fact 42 (f := .free "isinstance") rfl), He.free_ok X G (c.fact 43 (f := .free "int") rfl), He.free_ok X G (c.fact 44 (f := .free "bool") rfl), He.free_ok X G (c.fact 45 (f := .free "str") rfl), He.free_ok X G (c.fact 46 (f := .free "len") rfl), He.free_ok X G (c.fact 47 (f := .free "all") rfl), He.free_ok X G (c.fact 48 (f := .free "tuple") rfl), He.free_ok X G (c.fact 49 (f := .free "set") rfl), He.free_ok X G (c.fact 50 (f := .free "list") rfl), He.free_ok X G (c.fact 51 (f := .free "range") rfl), He.free_ok X G (c.fact 52 (f := .free "min") rfl), He.free_ok X G (c.fact 53 (f := .free "max") rfl), He.free_ok X G (c.fact 54 (f := .free "enumerate") rfl), He.free_ok X G (c.fact 55 (f := .free "sorted") rfl)⟩
theorem facts {P : Program} {w : World} {K : PySem.W.Frag} {h : Heap} {mg : Str → Option Value} {f : Addr} (X : K.In h) (G : h.Ns mainGlobals mg) (hfa : mg ("law" : Str) = some (.ref f)) (c : He.SaysD faAll fnAll K) :
    ∃ fd : FuncData, (∀ (s : Shared) (v : Value), BindsTo s fd ⟨[v], []⟩ [("_law_script", v)]) ∧ ∀ base : Heap, K.In base → base.Ns mainGlobals mg → FnOk P w K mg base CX0 9 f fd ["_law_script"] (spLaw K) := by
  have T := names_of X G c
  obtain ⟨_, F0⟩ := c.def_ 0 (d := dIsAmount) rfl
  obtain ⟨_, F1⟩ := c.def_ 1 (d := dIsPerson) rfl
  obtain ⟨_, F2⟩ := c.def_ 2 (d := dIsRow) rfl
  obtain ⟨_, F3⟩ := c.def_ 3 (d := dIsPair) rfl
  obtain ⟨_, F4⟩ := c.def_ 4 (d := dIsComing) rfl
  obtain ⟨_, F5⟩ := c.def_ 5 (d := dIsGoing) rfl
  obtain ⟨_, F6⟩ := c.def_ 6 (d := dNeedRow) rfl
  obtain ⟨_, F7⟩ := c.def_ 7 (d := dGoOut) rfl
  obtain ⟨_, F8⟩ := c.def_ 8 (d := dIsDeedsOf) rfl
  obtain ⟨_, F9⟩ := c.def_ 9 (d := dNeedDeeds) rfl
  obtain ⟨_, F10⟩ := c.def_ 10 (d := dGoneBy) rfl
  obtain ⟨_, F11⟩ := c.def_ 11 (d := dGo) rfl
  obtain ⟨_, F12⟩ := c.def_ 12 (d := dPlaces) rfl
  obtain ⟨_, F13⟩ := c.def_ 13 (d := dNeedWord) rfl
  obtain ⟨_, F14⟩ := c.def_ 14 (d := dWordSizes) rfl
  obtain ⟨_, F15⟩ := c.def_ 15 (d := dLeastOn) rfl
  obtain ⟨_, F16⟩ := c.def_ 16 (d := dMarksOf) rfl
  obtain ⟨_, F17⟩ := c.def_ 17 (d := dMarks) rfl
  obtain ⟨_, F18⟩ := c.def_ 18 (d := dMayStand) rfl
  obtain ⟨_, F19⟩ := c.def_ 19 (d := dLastSize) rfl
  obtain ⟨_, F20⟩ := c.def_ 20 (d := dKnownOf) rfl
  obtain ⟨_, F21⟩ := c.def_ 21 (d := dNeedEnd) rfl
  obtain ⟨_, F22⟩ := c.def_ 22 (d := dIsOfThese) rfl
  obtain ⟨_, F23⟩ := c.def_ 23 (d := dFirstWrong) rfl
  obtain ⟨_, F24⟩ := c.def_ 24 (d := dIsPossible) rfl
  obtain ⟨_, F25⟩ := c.def_ 25 (d := dCanBe) rfl
  obtain ⟨_, F26⟩ := c.def_ 26 (d := dWhyNot) rfl
  obtain ⟨_, F27⟩ := c.def_ 27 (d := dHistory) rfl
  obtain ⟨_, F28⟩ := c.def_ 28 (d := dMoved) rfl
  obtain ⟨_, F29⟩ := c.def_ 29 (d := dLawCellAt) rfl
  obtain ⟨_, F30⟩ := c.def_ 30 (d := dLawBag) rfl
  obtain ⟨_, F31⟩ := c.def_ 31 (d := dLawTake) rfl
  obtain ⟨_, F32⟩ := c.def_ 32 (d := dLawAlike) rfl
  obtain ⟨_, F33⟩ := c.def_ 33 (d := dLawNames) rfl
  obtain ⟨_, F34⟩ := c.def_ 34 (d := dLawDeeds) rfl
  obtain ⟨_, F35⟩ := c.def_ 35 (d := dLawRows) rfl
  obtain ⟨_, F36⟩ := c.def_ 36 (d := dLawMovers) rfl
  obtain ⟨_, F37⟩ := c.def_ 37 (d := dLawExchanged) rfl
  obtain ⟨_, F38⟩ := c.def_ 38 (d := dLawBentRight) rfl
  obtain ⟨fd, F39⟩ := c.def_ 39 (d := dLaw) rfl
  have e := hfa.symm.trans (He.glo_ok X G (c.fact 39 (f := .glo "law") rfl))
  cases e
  have bb := FunD.bindsA (ps := ["_law_script"]) F39 fun _ _ _ _ _ _ us hl => match us, hl with | [_], _ => rfl
  refine ⟨fd, fun s v => bb s [v] rfl, fun base _ _ => ?_⟩
  have c_is_amount := calIsAmount (P := P) (w := w) (base := base) F0 T (He.glo_ok X G (c.fact 0 (f := .glo "is_amount") rfl)) 
  have c_is_person := calIsPerson (P := P) (w := w) (base := base) F1 T (He.glo_ok X G (c.fact 1 (f := .glo "is_person") rfl)) 
  have c_is_pair := calIsPair (P := P) (w := w) (base := base) F3 T (He.glo_ok X G (c.fact 3 (f := .glo "is_pair") rfl)) 
  have c_go_out := calGoOut (P := P) (w := w) (base := base) F7 T (He.glo_ok X G (c.fact 7 (f := .glo "go_out") rfl)) 
  have c_word_sizes := calWordSizes (P := P) (w := w) (base := base) F14 T (He.glo_ok X G (c.fact 14 (f := .glo "word_sizes") rfl)) 
  have c_least_on := calLeastOn (P := P) (w := w) (base := base) F15 T (He.glo_ok X G (c.fact 15 (f := .glo "least_on") rfl)) 
  have c_may_stand := calMayStand (P := P) (w := w) (base := base) F18 T (He.glo_ok X G (c.fact 18 (f := .glo "may_stand") rfl)) 
  have c_law_cell_at := calLawCellAt (P := P) (w := w) (base := base) F29 T (He.glo_ok X G (c.fact 29 (f := .glo "_law_cell_at") rfl)) 
  have c_law_bag := calLawBag (P := P) (w := w) (base := base) F30 T (He.glo_ok X G (c.fact 30 (f := .glo "_law_bag") rfl)) 
  have c_law_take := calLawTake (P := P) (w := w) (base := base) F31 T (He.glo_ok X G (c.fact 31 (f := .glo "_law_take") rfl)) 
  have c_law_rows := calLawRows (P := P) (w := w) (base := base) F35 T (He.glo_ok X G (c.fact 35 (f := .glo "_law_rows") rfl)) 
  have c_law_movers := calLawMovers (P := P) (w := w) (base := base) F36 T (He.glo_ok X G (c.fact 36 (f := .glo "_law_movers") rfl)) 
  have c_is_row := calIsRow (P := P) (w := w) (base := base) F2 T (He.glo_ok X G (c.fact 2 (f := .glo "is_row") rfl)) c_is_person
  have c_is_coming := calIsComing (P := P) (w := w) (base := base) F4 T (He.glo_ok X G (c.fact 4 (f := .glo "is_coming") rfl)) c_is_person c_is_pair
  have c_is_going := calIsGoing (P := P) (w := w) (base := base) F5 T (He.glo_ok X G (c.fact 5 (f := .glo "is_going") rfl)) c_is_amount c_is_pair
  have c_gone_by := calGoneBy (P := P) (w := w) (base := base) F10 T (He.glo_ok X G (c.fact 10 (f := .glo "gone_by") rfl)) c_go_out
  have c_marks_of := calMarksOf (P := P) (w := w) (base := base) F16 T (He.glo_ok X G (c.fact 16 (f := .glo "marks_of") rfl)) c_word_sizes c_least_on
  have c_last_size := calLastSize (P := P) (w := w) (base := base) F19 T (He.glo_ok X G (c.fact 19 (f := .glo "last_size") rfl)) c_word_sizes
  have c_law_alike := calLawAlike (P := P) (w := w) (base := base) F32 T (He.glo_ok X G (c.fact 32 (f := .glo "_law_alike") rfl)) 
  have c_law_names := calLawNames (P := P) (w := w) (base := base) F33 T (He.glo_ok X G (c.fact 33 (f := .glo "_law_names") rfl)) c_law_take
  have c_law_deeds := calLawDeeds (P := P) (w := w) (base := base) F34 T (He.glo_ok X G (c.fact 34 (f := .glo "_law_deeds") rfl)) c_law_take
  have c_need_row := calNeedRow (P := P) (w := w) (base := base) F6 T (He.glo_ok X G (c.fact 6 (f := .glo "need_row") rfl)) c_is_row
  have c_is_deeds_of := calIsDeedsOf (P := P) (w := w) (base := base) F8 T (He.glo_ok X G (c.fact 8 (f := .glo "is_deeds_of") rfl)) c_is_coming c_is_going c_go_out
  have c_known_of := calKnownOf (P := P) (w := w) (base := base) F20 T (He.glo_ok X G (c.fact 20 (f := .glo "known_of") rfl)) c_marks_of
  have c_need_deeds := calNeedDeeds (P := P) (w := w) (base := base) F9 T (He.glo_ok X G (c.fact 9 (f := .glo "need_deeds") rfl)) c_is_deeds_of
  have c_need_word := calNeedWord (P := P) (w := w) (base := base) F13 T (He.glo_ok X G (c.fact 13 (f := .glo "need_word") rfl)) c_is_person c_need_row
  have c_is_of_these := calIsOfThese (P := P) (w := w) (base := base) F22 T (He.glo_ok X G (c.fact 22 (f := .glo "is_of_these") rfl)) c_last_size c_known_of
  have c_first_wrong := calFirstWrong (P := P) (w := w) (base := base) F23 T (He.glo_ok X G (c.fact 23 (f := .glo "first_wrong") rfl)) c_may_stand c_known_of
  have c_go := calGo (P := P) (w := w) (base := base) F11 T (He.glo_ok X G (c.fact 11 (f := .glo "go") rfl)) c_need_row c_need_deeds c_gone_by
  have c_places := calPlaces (P := P) (w := w) (base := base) F12 T (He.glo_ok X G (c.fact 12 (f := .glo "places") rfl)) c_is_person c_need_row c_go_out c_need_deeds
  have c_marks := calMarks (P := P) (w := w) (base := base) F17 T (He.glo_ok X G (c.fact 17 (f := .glo "marks") rfl)) c_need_word c_marks_of
  have c_need_end := calNeedEnd (P := P) (w := w) (base := base) F21 T (He.glo_ok X G (c.fact 21 (f := .glo "need_end") rfl)) c_is_row c_need_word
  have c_is_possible := calIsPossible (P := P) (w := w) (base := base) F24 T (He.glo_ok X G (c.fact 24 (f := .glo "is_possible") rfl)) c_is_of_these c_first_wrong
  have c_can_be := calCanBe (P := P) (w := w) (base := base) F25 T (He.glo_ok X G (c.fact 25 (f := .glo "can_be") rfl)) c_need_end c_is_possible
  have c_why_not := calWhyNot (P := P) (w := w) (base := base) F26 T (He.glo_ok X G (c.fact 26 (f := .glo "why_not") rfl)) c_need_end c_is_of_these c_first_wrong
  have c_history := calHistory (P := P) (w := w) (base := base) F27 T (He.glo_ok X G (c.fact 27 (f := .glo "history") rfl)) c_need_end c_is_possible
  have c_moved := calMoved (P := P) (w := w) (base := base) F28 T (He.glo_ok X G (c.fact 28 (f := .glo "moved") rfl)) c_known_of c_need_end c_is_possible
  have c_law_exchanged := calLawExchanged (P := P) (w := w) (base := base) F37 T (He.glo_ok X G (c.fact 37 (f := .glo "_law_exchanged") rfl)) c_can_be c_why_not c_law_take c_law_alike
  have c_law_bent_right := calLawBentRight (P := P) (w := w) (base := base) F38 T (He.glo_ok X G (c.fact 38 (f := .glo "_law_bent_right") rfl)) c_places c_marks c_law_take c_law_exchanged
  exact okLaw F39 T c_go c_can_be c_why_not c_history c_moved c_law_cell_at c_law_bag c_law_take c_law_alike c_law_names c_law_deeds c_law_rows c_law_movers c_law_bent_right
end K60
open PySem PySem.W PySem.Calls PyProof.Rows
theorem PySem.Challenge.cw_lastfills_k60_whole_lived_rows_can_be_holds : PySem.Challenge.rw_lastfills_k60_whole_lived_rows_can_be.Holds := by
  w_on; o_law
  refine HandSHeadRun.head_any (r := OpenLaw.row PySem.Challenge.rw_lastfills_k60_whole_lived_rows_can_be) (q := view (OpenLaw.row PySem.Challenge.rw_lastfills_k60_whole_lived_rows_can_be).prog [52]) (H := K60.hk) (ob := K60.ob) (M := 5000) (loose := K60.loose) (d := HandSHeadRun.topDef (OpenLaw.row PySem.Challenge.rw_lastfills_k60_whole_lived_rows_can_be).prog 52) (kwd := []) K60.ob_eq
    (by kernel_rfl) (fun s => by kernel_rfl) K60.run (by kernel_rfl) (by kernel_rfl) (by kernel_rfl) (by rfl) (by first | assumption | decide +kernel) (by decide +kernel) ⟨rfl, rfl, rfl, rfl, rfl, by decide +kernel⟩ ?hw ?hc
  case hw => w_witness2
  case hc =>
    refine L2.walk_ofE (l := PySem.Challenge.rw_lastfills_k60_whole_lived_rows_can_be) (n := 63) (k := 9) (x := "_law_script") (CX := L2.CX0) rfl (by decide) (by kernel_rfl) ⟨rfl, by decide, by decide⟩ ?F (fun _ _ _ _ z => z)
    intro w mg fa h Y G hmg0
    obtain ⟨K, KX, c⟩ := Y
    have hmg : mg ("law" : PySem.Str) = some (.ref fa) := by
      have e : (HandSHeadRun.topDef (OpenLaw.row PySem.Challenge.rw_lastfills_k60_whole_lived_rows_can_be).prog 52).name = ("law" : PySem.Str) := by kernel_rfl
      rw [← e]
      exact hmg0
    obtain ⟨fd, hb, hF⟩ := K60.facts (P := (PySem.Challenge.rw_lastfills_k60_whole_lived_rows_can_be).prog) (w := w) KX G hmg c
    exact ⟨K, fd, K60.spLaw K, KX, hb, fun H a ns hl _ hS => ⟨a, ns, rfl, hS, hl, fun _ => rfl⟩, hF⟩

