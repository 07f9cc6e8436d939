import PyProof.Rows.All
import Wide.All
import OpenK.AllK
import Wide.FinOn
import HandS.ForMost
import HandS.Property
import HandS.Defaults
import HandS.MakeKw
import HandS.IsInst
import HandS.OwnEq
import HandS.TupAny
import HandS.Zip
import HandS.Conv
import HandS.NoneIn
import HandS.Style
import HandS.Walk
import HandS.More
import KE.GoesEnum
import HandS.HeadHook2
import HandS.Head2
import HandS.HeadEnd
import HandS.Codes
import HandS.Words
import PySem.Challenge.RW_wallwalks_k74_whole_heads_of_products
set_option Elab.async false
set_option linter.all false
section
set_option maxRecDepth 100000
set_option maxHeartbeats 2000000
namespace KX
open PySem PySem.Spec PyProof.Rows L2

section
variable {X : Cx} {n : Nat}
theorem relv_ne {v : V} {u : Value} (r : RelV v u) : u ≠ .notImplemented := by
  cases v with
  | non => cases r; intro h; cases h
  | bl _ => cases r; intro h; cases h
  | int _ => obtain ⟨t, rfl⟩ := r; intro h; cases h
  | str _ => obtain ⟨t, rfl⟩ := r; intro h; cases h
  | byt _ => obtain ⟨t, rfl⟩ := r; intro h; cases h
  | flt _ => obtain ⟨t, rfl⟩ := r; intro h; cases h
  | ref _ => cases r; intro h; cases h
  | ty _ => cases r; intro h; cases h
theorem cmpBack_of {Q : Value → Shared → Prop} {u : Value} {s : Shared} (h : u ≠ .notImplemented) (q : Q u s) : PySem.W.CmpBack Q u s := by
  cases u <;> first | exact absurd rfl h | exact q

/-- x op y by the class's own method -/
def rBinOwn (C : Addr) (sp : Sp) (E : XK) : R2 := fun x y H Q => ∃ a b dx dy fs gs, x = .ref a ∧ y = .ref b ∧ H a = some (.ins C dx fs) ∧ H b = some (.ins C dy gs) ∧ sp [.ref a, .ref b] H Q E
theorem op_binOwn {op : Operator} {CX : CXT} {C f : Addr} {fd : FuncData} {ps : List Str} {sp : Sp} {E : XK} (F : FnOk X.prog X.w X.K X.mg X.base CX n f fd ps sp)
    (hc : PySem.W.selfFirst X.K C = true) (hs : PySem.W.findIn X.K (.ref C) (PySem.dunder op.info.2) = some (some (.ref f))) (hf : PySem.W.isFn X.K (.ref f) = true) (hb : Binds X.K fd ps []) (hx : Passes CX X E) (hr : Room n X.A) :
    OpR X (binaryOp op) (rBinOwn C sp E) := by
  intro pins s σ H x y v u Q I rx ry hq
  obtain ⟨a, b, dx, dy, fs, gs, rfl, rfl, ha, hb', hsp⟩ := hq
  cases rx
  cases ry
  obtain ⟨mA, J, _⟩ := ins_get I.hok ha
  obtain ⟨mB, J', _⟩ := ins_get I.hok hb'
  obtain ⟨od, J, _⟩ := J.look
  obtain ⟨od', J', _⟩ := J'.look
  obtain ⟨m, hF⟩ := I.fr
  refine PySem.W.binop_K hF I.ok.mod.kin J J'.type hc hs hf ?_
  have hl := F.len _ _ _ _ hsp
  have r2 : Vals [V.ref a, V.ref b] [Value.ref a, Value.ref b] := .cons rfl (.cons rfl .nil)
  refine wpAny_call (codeAny_mono (F.run X.A X.stack s H ⟨[.ref a, .ref b], []⟩ [.ref a, .ref b] [.ref a, .ref b] _ E hr I.env0 (by
    have := hb s [.ref a, .ref b] I.kIn (by simpa using hl)
    simpa using this) r2 hsp) fun r s' hq => ?_)
  cases r with
  | error e => exact hx pins σ H s e s' I hq
  | ok fl =>
    cases fl with
    | ret w =>
      obtain ⟨z, H', I', rz, qz⟩ := I.after hq
      exact cmpBack_of (relv_ne rz) ⟨z, H', I', rz, qz⟩
    | next => exact False.elim hq
    | brk => exact False.elim hq
    | cont => exact False.elim hq
end

/-! ### != by an own __eq__ -/
section
variable {prog : Program} {w : World} {A : Around} {E : Value → Shared → Prop} {s : Shared} {K : PySem.W.Frag} {x C L f : Addr} {h₀ : Heap} {m : Str → Option Value} {ox : Obj} {od : Option Obj} {b : Value}
theorem ifBoundB_K {M : Model} {args : List Value} {name : Str} {id : String} {Q : Option Value → Shared → Prop} (X : K.In s.heap) (I : PySem.W.InstAt s.heap x ox C od) (hs : PySem.W.findIn K (.ref C) name = some (some (.builtin id)))
    (hbind : bindSpecial (.builtin id) (.ref x) = pure (.builtin id, [.ref x]))
    (h : wpAny M A (call (.builtin id) (.ref x :: args)) (fun v => Q (some v)) E s) : wpAny M A (callSpecialIfBound? (.ref x) name args) Q E s := by
  simp only [callSpecialIfBound?, bindSpecialIfBound?]
  refine wpAny_holding (wpAny_bind (wpAny_bind (wpAny_bind (I.type.here ((PySem.W.looks_findIn X hs).here ?_)))))
  refine wpAny_bind (wpAny_askSetting (wpAny_ite ?_))
  have fin : wpAny M A (call (.builtin id) ([.ref x] ++ args) >>= fun v => pure (some v)) Q E s := wpAny_bind (wpAny_mono h (fun v s' h' => wpAny_pure h') fun _ _ h' => h')
  rw [hbind]
  split
  · exact wpAny_bind (wpAny_pure (wpAny_pure fin))
  · exact wpAny_tryCatch (wpAny_bind (wpAny_pure (wpAny_pure fin)))
theorem check_K {M : Model} {id owner n : String} {rest : List Value} {Q : Unit → Shared → Prop} (X : K.In s.heap) (I : PySem.W.InstAt s.heap x ox C od) (hk : builtinKind id = some .slot) (hs : splitId id = some (owner, n))
    (ha : argsOk id ⟨.ref x :: rest, []⟩) (hsub : PySem.W.subIn K (.ref C) (.type owner) = some true) (hq : Q () s) :
    wpAny M A (checkBuiltinCall id ⟨.ref x :: rest, []⟩) Q E s := by
  simp only [checkBuiltinCall, hk, hs]
  refine wpAny_bind ?_
  · unfold isInstance
    refine wpAny_bind (I.type.here ((PySem.W.looks_subIn X hsub).here ?_))
    simp only [Bool.not_true, Bool.false_eq_true, if_false]
    cases hsig : Manifest.signature? id with
    | none => exact wpAny_pure hq
    | some sig =>
      simp only [argsOk, hsig] at ha
      simp only [ha]
      exact wpAny_pure (by first | exact hq | exact wpAny_pure hq)
theorem objNe_K {Q : Fin → Shared → Prop} (hu : A.units < cLine) (X : K.In s.heap) (I : PySem.W.InstAt s.heap x ox C od) (hs : PySem.W.findIn K (.ref C) "__eq__" = some (some (.ref f))) (hf : PySem.W.isFn K (.ref f) = true)
    (h : wpAny (model prog w) A (call (.ref f) [.ref x, b]) (fun v s' => ∃ k, v = .bool k ∧ Q (.done (.ret (.bool (!k)))) s') E s) :
    wpAny (model prog w) A (Builtin.«object.__ne__» ⟨[.ref x, b], []⟩) Q E s := by
  unfold Builtin.«object.__ne__»
  repeat (first
    | with_reducible refine wpAny_cRoomFor hu ?_
    | (refine wpAny_bind (m := callSpecialIfBound? (.ref x) (Str.ofString "__eq__") [b])
        (PySem.W.ifBound_K X I hs hf (wpAny_mono h (fun r s' hr => by
          obtain ⟨b, rfl, hq⟩ := hr
          repeat (first | exact hq | exact wpAny_pure hq | exact wpAny_truthy_bool hq | (refine wpAny_bind (m := truthy (.bool _)) (wpAny_truthy_bool ?_)) | wp_step)) fun _ _ e => e)))
    | wp_step)
theorem richNe_K {Q : Value → Shared → Prop} (hu : A.units + 1 < cLine) (F : Fr h₀ L s.heap m) (X₀ : K.In h₀) (I : PySem.W.InstAt s.heap x ox C od) (hb : PySem.W.Looks (model prog w) s.heap (typeOf b) (.ref C))
    (hn : PySem.W.findIn K (.ref C) "__ne__" = some (some (.builtin "object.__ne__"))) (ho : PySem.W.subIn K (.ref C) (.type "object") = some true)
    (hs : PySem.W.findIn K (.ref C) "__eq__" = some (some (.ref f))) (hf : PySem.W.isFn K (.ref f) = true)
    (h : wpAny (model prog w) A.in1 (call (.ref f) [.ref x, b]) (fun v s' => ∃ k, v = .bool k ∧ Q (.bool (!k)) s') E s) : wpAny (model prog w) A (richCompare .NotEq (.ref x) b) Q E s := by
  have X := X₀.keeps F.keep
  have one : wpAny (model prog w) A (tryCompare (.ref x) "__ne__" b) (fun r s' => ∃ v, r = some v ∧ Q v s') E s := by
    unfold tryCompare
    refine wpAny_bind (ifBoundB_K X I hn (PySem.F.cmp_object.ne.bind _) (wpAny_call (codeAny_call_builtin PySem.F.cmp_object.ne.plain PySem.F.cmpEntry_ne
      (check_K X I PySem.F.cmpKind_ne PySem.F.cmpSplit_ne (PySem.F.cmpArgs_ne _ _) ho (objNe_K (A := A.in1) (show A.in1.units < cLine from hu) X I hs hf (wpAny_mono h (fun v s' hv => ?_) fun _ _ e => e))))))
    obtain ⟨k, rfl, hq⟩ := hv
    exact ⟨k, rfl, wpAny_pure ⟨_, rfl, hq⟩⟩
  unfold richCompare
  simp only [oneThing_ref]
  refine wpAny_holding (wpAny_bind (wpAny_cRoomFor (Nat.lt_of_succ_lt hu) ?_))
  refine wpAny_bind (I.type.here (wpAny_bind (hb.here ?_)))
  rw [cmpInfo_NotEq]
  dsimp only
  rw [show (Value.ref C != Value.ref C) = false from by simp]
  simp only [Bool.false_eq_true, if_false]
  refine wpAny_bind (wpAny_pure ?_)
  simp only [Bool.false_eq_true, if_false]
  refine wpAny_bind (wpAny_mono one (fun r s' z => ?_) fun _ _ e => e)
  obtain ⟨v, rfl, hq⟩ := z
  exact wpAny_pure hq
end

section
variable {X : Cx} {n : Nat}
/-- != of two instances with the text's own ==, which says True -/
def rNeG (D : Eqv) : R2 := fun x y H Q => D x y H ∧ ∀ H', Ext H H' → Q (.bl false) H'
theorem op_neIns {CX : CXT} {C f : Addr} {fd : FuncData} {ps : List Str} {R : Addr → Addr → Hp → Prop} {E : XK} (F : FnOk X.prog X.w X.K X.mg X.base CX n f fd ps (spEq R))
    (hn : PySem.W.findIn X.K (.ref C) "__ne__" = some (some (.builtin "object.__ne__"))) (ho : PySem.W.subIn X.K (.ref C) (.type "object") = some true)
    (hs : PySem.W.findIn X.K (.ref C) "__eq__" = some (some (.ref f))) (hf : PySem.W.isFn X.K (.ref f) = true) (hb : Binds X.K fd ps []) (hx : Passes CX X E) (hr : Room (n + 1) X.A) :
    OpR X (compareOp .NotEq) (rNeG (DIns C R)) := by
  intro pins s σ H x y v u Q I rx ry hq
  obtain ⟨⟨a, b, dx, dy, fs, gs, rfl, rfl, ha, hb', hR⟩, q⟩ := hq
  cases rx
  cases ry
  obtain ⟨mA, J, _⟩ := ins_get I.hok ha
  obtain ⟨mB, J', _⟩ := ins_get I.hok hb'
  obtain ⟨od, J, _⟩ := J.look
  obtain ⟨od', J', _⟩ := J'.look
  obtain ⟨m, hF⟩ := I.fr
  refine PySem.W.cmp_ofNotEq (richNe_K (hu_of hr) hF I.ok.mod.kin J J'.type hn ho hs hf ?_)
  have hsp : spEq R [.ref a, .ref b] H (fun v H' => v = .bl true ∧ Ext H H') E := ⟨a, b, rfl, hR, fun H' e => ⟨rfl, e⟩⟩
  have hl := F.len _ _ _ _ hsp
  have r2 : Vals [V.ref a, V.ref b] [Value.ref a, Value.ref b] := .cons rfl (.cons rfl .nil)
  refine wpAny_call (codeAny_mono (F.run X.A.in1 X.stack s H ⟨[.ref a, .ref b], []⟩ [.ref a, .ref b] [.ref a, .ref b] _ E hr.in1 I.env0.in1 (by
    have := hb s [.ref a, .ref b] I.kIn (by simpa using hl)
    simpa using this) r2 hsp) fun r s' hq => ?_)
  cases r with
  | error e => exact hx pins σ H s e s' I hq
  | ok fl =>
    cases fl with
    | ret w =>
      obtain ⟨z, H', I', rz, ez, ex⟩ := I.after hq
      subst ez
      cases rz
      exact ⟨true, rfl, .bl false, H', I', rfl, q H' ex⟩
    | next => exact False.elim hq
    | brk => exact False.elim hq
    | cont => exact False.elim hq
end
end KX

namespace KXq
open PySem PySem.SeqAt GQ
open AutoSeq1 (wpAny_loadPart')
open MeetsSeq MeetsSeq2 MeetsSeq3 SeqRoads2
section
variable {prog : Program} {w : World} {A : Around} {R : Result → Shared → Prop}
theorem tuple_neG (l b : Addr) (items items2 : Array Value) (n n2 : Nat) (dd dd2 : Option Addr) (sl sl2 : Array (Option Value)) (hsz : items.size = items2.size) (I : Nat → Shared → Prop)
    (turn : ∀ i (h1 : i < items.size) (h2 : i < items2.size) s, I i s → wpAny (model prog w) A.in1 (eqBool items[i] items2[i]) (fun r s' => r = true ∧ I (i + 1) s') (fun e s' => R (.error e) s') s)
    (fin : ∀ s, I items.size s → R (.ok (.ret (.bool false))) s) {s : Shared} (hl1 : s.heap.get? l = some { cls := .type "tuple", dict := dd, data := .seq items n, slots := sl }) (hb1 : s.heap.get? b = some { cls := .type "tuple", dict := dd2, data := .seq items2 n2, slots := sl2 }) (h : I 0 s) :
    wpAny (model prog w) A.in1 (Builtin.«tuple.__ne__» ⟨[.ref l, .ref b], []⟩) (FinOf prog w A R) (fun e s' => R (.error e) s') s := by
  have f2 := AutoSeq1.sub_tuple_tuple
  have hZ : (items.toList.zip items2.toList).length = items.size := by simp [hsz]
  have h0 := h
  obtain ⟨hp, g, d, tk, os⟩ := s
  wp_walk using wpAny_loadPart' hl1, wpAny_loadPart' hb1, wpAny_forIn_list _ (fun rest b s' => b.1 = none ∧ ∃ i, rest = (items.toList.zip items2.toList).drop i ∧ i ≤ items.size ∧ I i s') _
  case turn =>
    rintro ⟨y, x⟩ rest b s' ⟨hb', i, hz, hi, hI⟩
    have hlt : i < (items.toList.zip items2.toList).length := by
      rcases Nat.lt_or_ge i (items.toList.zip items2.toList).length with h' | h'
      · exact h'
      · rw [List.drop_of_length_le h'] at hz; cases hz
    have h1 : i < items.size := hZ ▸ hlt
    have h2 : i < items2.size := hsz ▸ h1
    rw [List.drop_eq_getElem_cons hlt] at hz
    injection hz with hyx hrest
    have hy : y = items[i] := by have := congrArg Prod.fst hyx; simpa using this
    have hx : x = items2[i] := by have := congrArg Prod.snd hyx; simpa using this
    subst hy hx
    refine wpAny_bind (wpAny_mono (turn i h1 h2 s' hI) (fun r s2 q2 => ?_) fun _ _ x => x)
    obtain ⟨hr, q2⟩ := q2
    subst hr
    wp_walk
    exact ⟨rfl, i + 1, hrest, h1, q2⟩
  case fin =>
    rintro ⟨b1, b2⟩ s' ⟨hb', i, hz, hi, hI⟩
    simp only at hb'
    subst hb'
    have hge : items.size ≤ i := by
      rcases Nat.lt_or_ge i (items.toList.zip items2.toList).length with h' | h'
      · rw [List.drop_eq_getElem_cons h'] at hz; cases hz
      · exact hZ ▸ h'
    have hi' : i = items.size := by omega
    have hR : R (.ok (.ret (.bool false))) s' := fin s' (hi' ▸ hI)
    wp_walk
    simpa [Builtin.Tuple.tupleCompareSizes, hsz] using hR
  case h =>
    exact ⟨rfl, 0, rfl, Nat.zero_le _, h0⟩
end
section
variable {prog : Program} {w : World} {A : Around} {E : Value → Shared → Prop} {s : Shared}
theorem rne_tupG {l b : Addr} {items items2 : Array Value} {Q : Value → Shared → Prop} (hsz : items.size = items2.size) (hu : A.units < cLine) (I : Nat → Shared → Prop)
    (hl : s.heap.IsTuple l items) (hb : s.heap.IsTuple b items2)
    (turn : ∀ i (h1 : i < items.size) (h2 : i < items2.size) s, I i s → wpAny (model prog w) A.in1 (eqBool items[i] items2[i]) (fun r s' => r = true ∧ I (i + 1) s') E s)
    (fin : ∀ s, I items.size s → Q (.bool false) s) (h : I 0 s) : wpAny (model prog w) A (richCompare .NotEq (.ref l) (.ref b)) Q E s := by
  obtain ⟨⟨cls, dd, data, sl⟩, ho, hc, n, hd⟩ := id hl
  obtain ⟨⟨cls2, dd2, data2, sl2⟩, ho2, hc2, n2, hd2⟩ := id hb
  simp only at hc hd hc2 hd2
  subst hc hd hc2 hd2
  refine wpAny_richCompare_same_room (op := .NotEq) ⟨_, ho, rfl⟩ ⟨_, ho2, rfl⟩ F.slot_tuple_ne (call_here F.slot_tuple_ne ⟨_, ho, rfl⟩ F.entry_tuple_ne (F.args_tuple_ne_2 _ _) ?_) hu
  exact tuple_neG (R := wants (fun v s' => v ≠ .notImplemented ∧ Q v s') E) l b items items2 n n2 dd dd2 sl sl2 hsz I turn (fun s' q => ⟨(fun x => nomatch x), fin s' q⟩) ho ho2 h
end
end KXq

namespace KX
open PySem PySem.Spec PyProof.Rows L2
section
variable {X : Cx} {n : Nat} {D : Eqv}
theorem op_neTup (hD : Mon D) (h : EqG X n D) (hr : Room (n + 1) X.A) : OpR X (compareOp .NotEq) (rNeG (DTup X.K D)) := by
  intro pins s σ H x y v u Q I rx ry hq
  obtain ⟨⟨a, b, xs, ys, rfl, rfl, ha, hb, p⟩, q⟩ := hq
  cases rx
  cases ry
  obtain ⟨its, r, e, z⟩ := I.tuple ha
  obtain ⟨its2, r2, e2, z2⟩ := I.tuple hb
  have hsz : its.toArray.size = its2.toArray.size := by rw [List.size_toArray, List.size_toArray, ← r.length, ← r2.length]; exact p.1
  have sb : Sub X (n + 1) X.A := ⟨hr, rfl⟩
  refine PySem.W.cmp_ofNotEq (KXq.rne_tupG hsz hr.units0 (fun _ s' => LoopI X pins σ H s') e e2 (fun i h1 h2 s' q => turnG hD h sb p r r2 i h1 h2 s' q) (fun s' l => ?_) ⟨H, I, Ext.rfl'⟩)
  obtain ⟨H', I', ex⟩ := l
  exact ⟨.bl false, H', I', rfl, q H' ex⟩
end
end KX
end
section
set_option maxRecDepth 100000
set_option maxHeartbeats 2000000
namespace HT
open PySem PySem.Spec PyProof.Rows L2
section
variable {prog : Program} {w : World} {A : Around} {E : Value → Shared → Prop} {s : Shared}
theorem adjust_rev (n : Nat) : Builtin.Slice.sliceAdjust none none (-1) (n : Int) = ((n : Int) - 1, -1) := by
  unfold Builtin.Slice.sliceAdjust
  have h1 : (-1 : Int) < 0 := by omega
  simp only [h1, if_true]
theorem places_rev (n : Nat) : Builtin.Slice.slicePlaces ((n : Int) - 1) (-1) (-1) = n := by
  unfold Builtin.Slice.slicePlaces
  have h1 : ¬ (-1 : Int) > 0 := by omega
  simp only [h1, if_false]
  have h2 : -(-1 : Int) = 1 := rfl
  rw [h2]
  split
  · rw [Int.ediv_one]; omega
  · omega
theorem sliceApplied_rev {sl : Addr} {n : Nat} {vs : Value} {Q : Int × Int × Nat → Shared → Prop} (hs : s.heap.IsSliceOf sl .none .none vs) (ps : IsPart vs (some (-1)))
    (h : Q ((n : Int) - 1, -1, n) s) : wpAny (model prog w) A (Builtin.Slice.sliceApplied (.ref sl) (pure (n : Int))) Q E s := by
  obtain ⟨os, hos, hcs, hds⟩ := id hs
  unfold Builtin.Slice.sliceApplied Builtin.Slice.sliceFields
  refine wpAny_bind (wpAny_bind (wpAny_field hos hds (x := .none) rfl (wpAny_bind (wpAny_field hos hds (x := .none) rfl (wpAny_bind (wpAny_field hos hds (x := vs) rfl (wpAny_pure ?_)))))))
  refine wpAny_bind (slicePart_ ps ?_)
  show wpAny _ _ (if ((-1 : Int) == 0) = true then _ else _) _ _ s
  rw [if_neg (by decide)]
  refine wpAny_bind (slicePart_none (wpAny_bind (slicePart_none (wpAny_bind (wpAny_pure ?_)))))
  show wpAny _ _ (match Builtin.Slice.sliceAdjust none none (-1) (n : Int) with | (lo, hi) => pure (lo, (-1 : Int), Builtin.Slice.slicePlaces lo hi (-1))) _ _ s
  rw [adjust_rev n]
  show wpAny _ _ (pure ((n : Int) - 1, (-1 : Int), Builtin.Slice.slicePlaces ((n : Int) - 1) (-1) (-1))) _ _ s
  rw [places_rev]
  exact wpAny_pure h
theorem fm_congr {α β : Type} {f g : α → Option β} : ∀ {l : List α}, (∀ a ∈ l, f a = g a) → l.filterMap f = l.filterMap g
  | [], _ => rfl
  | a :: l, h => by
    rw [List.filterMap_cons, List.filterMap_cons, h a (by simp), fm_congr fun b hb => h b (List.mem_cons_of_mem _ hb)]
theorem pick_rev (xs : Array Value) : ((List.range xs.size).filterMap fun (k : Nat) => xs[((xs.size : Int) - 1 + (k : Int) * (-1)).toNat]?).toArray = xs.toList.reverse.toArray := by
  congr 1
  have key : (List.range xs.size).filterMap (fun (k : Nat) => xs[((xs.size : Int) - 1 + (k : Int) * (-1)).toNat]?) = (List.range xs.size).filterMap (fun k => some (xs.toList.reverse.getD k Value.none)) := by
    apply fm_congr
    intro k hk
    have hk := List.mem_range.1 hk
    have e : ((xs.size : Int) - 1 + (k : Int) * (-1)).toNat = xs.size - 1 - k := by omega
    rw [e]
    have h1 : xs.size - 1 - k < xs.size := by omega
    have h2 : k < xs.toList.reverse.length := by simp; omega
    simp [List.getD, h1, hk, List.getElem?_reverse, h2]
  rw [key]
  have e2 : (fun k => some (xs.toList.reverse.getD k Value.none)) = some ∘ (fun k => xs.toList.reverse.getD k Value.none) := rfl
  rw [e2, List.filterMap_eq_map]
  apply List.ext_getElem?
  intro i
  by_cases hi : i < xs.size
  · have h2 : i < xs.toList.reverse.length := by simpa using hi
    rw [List.getElem?_map, List.getElem?_range hi, List.getElem?_eq_getElem h2]
    simp [List.getD, hi]
  · have h2 : xs.toList.reverse.length ≤ i := by simp; omega
    rw [List.getElem?_eq_none_iff.2 h2, List.getElem?_eq_none_iff.2 (by simp; omega)]
theorem getItem_tuple_rev {t sl : Addr} {items : Array Value} {vs : Value} {Q : Value → Shared → Prop} (ht : IsTup s.heap t items) (hs : s.heap.IsSliceOf sl .none .none vs) (ps : IsPart vs (some (-1)))
    (h : Q (.ref s.heap.objs.size) { s with heap := s.heap.push { cls := .type "tuple", data := .seq items.toList.reverse.toArray } })
    (hsz : items.size ≤ sizeLine) : wpAny (model prog w) A (getItem (.ref t) (.ref sl)) Q E s := by
  have htake : sizeOk (.seq items.toList.reverse.toArray) := by
    show items.toList.reverse.toArray.size ≤ sizeLine
    simpa using hsz
  obtain ⟨os, hos, hcs, hds⟩ := id hs
  have hTs : s.TypeIs (.ref sl) "slice" := ⟨os, hos, hcs⟩
  unfold getItem
  try with_reducible refine wpAny_holding ?_
  first | refine wpAny_bind (wpAny_pure ?_) | skip
  refine wpAny_bind (wpAny_sequenceKey ht.typeIs (by decide) ?_)
  refine wpAny_bind (wpAny_callSpecial?_slot (name := Str.ofString "__getitem__") ht.typeIs PyProof.Rows.slot_tuple_getitem
    (wpAny_call_entry PyProof.Rows.slot_tuple_getitem ht.typeIs entry_tuple_getitem ?_ (args_tuple_getitem _ _)))
  show wpAny _ _ (Builtin.Tuple.tupleItemsOf (.ref t) >>= _) _ _ s
  refine wpAny_bind (tupleItemsOf_ ht ?_)
  refine wpAny_bind (wpAny_typeOf hTs ?_)
  rw [if_pos (by decide)]
  refine wpAny_bind (sliceApplied_rev hs ps ?_)
  have hno : ¬ ((((items.size : Int) - 1) == 0 && (-1 : Int) == 1 && items.size == items.size) = true) := by
    intro q
    rw [Bool.and_eq_true, Bool.and_eq_true] at q
    have q1 : (-1 : Int) = 1 := eq_of_beq q.1.2
    omega
  show wpAny _ _ (if (((items.size : Int) - 1) == 0 && (-1 : Int) == 1 && items.size == items.size) = true then _ else _) _ _ s
  rw [if_neg hno, pick_rev]
  first
    | exact wpAny_bind (m := Builtin.Tuple.tupleExact _) (wpAny_newObj_type (wpAny_pure ⟨_, rfl, wpAny_pure h⟩) htake)
    | exact wpAny_bind (m := Builtin.Tuple.tupleExact _) (wpAny_newObj_type (wpAny_bind (wpAny_pure (wpAny_pure ⟨_, rfl, wpAny_pure h⟩))) htake)
    | exact wpAny_bind (wpAny_bind (m := Builtin.Tuple.tupleExact _) (wpAny_newObj_type (wpAny_pure (wpAny_pure ⟨_, rfl, wpAny_pure h⟩)) htake))
    | exact wpAny_bind (wpAny_bind (m := Builtin.Tuple.tupleExact _) (wpAny_newObj_type (wpAny_pure ⟨_, rfl, wpAny_pure h⟩) htake))
end
end HT
namespace KX
open PySem PySem.Spec PyProof.Rows L2
section
variable {X : Cx}
/-- t[::-1], t a tuple -/
def tRevT (K : PySem.W.Frag) (te : TE) : TE := fun σ H Q => te σ H fun x H1 => ∃ a xs, x = .ref a ∧ SqT K H1 a xs ∧ ∀ p, H1 p = none → Q (.ref p) (upd H1 p (.tup xs.reverse))
theorem pe_revT {e : Expr} {te : TE} {k : Nat} {p1 p2 p3 pos : Pos} (he : PE X e te) : PE X (.Subscript e (.Slice none none (some (.UnaryOp .USub (.Constant (.int 1) k p1) p2)) p3) pos) (tRevT X.K te) := by
  refine ⟨fun pins s σ H Q I h => ?_⟩
  refine Subscript_ (thn (he.run pins s σ H _ I h) fun v s1 ⟨x, H1, I1, r1, q1⟩ => ?_)
  obtain ⟨a, xs, ex, hx, q⟩ := q1
  subst ex
  cases r1
  have hst : PO X (some (.UnaryOp .USub (.Constant (.int 1) k p1) p2)) (tPart (tUn (rU fun i => .int (-i)) (tC (.int 1)))) := po_some (pe_un un_neg pe_int)
  refine wpAny_Slice (thn (po_none.run pins s1 σ H1 (fun o H2 => o = none ∧ H2 = H1) I1 ⟨rfl, rfl⟩) fun vl s2 ⟨l, H2, I2, pl, el, e2⟩ => ?_)
  subst el e2
  refine thn (po_none.run pins s2 σ H2 (fun o H3 => o = none ∧ H3 = H2) I2 ⟨rfl, rfl⟩) fun vu s3 ⟨u, H3, I3, pu, eu, e3⟩ => ?_
  subst eu e3
  refine thn (hst.run pins s3 σ H3 (fun o H4 => o = some (-1) ∧ H4 = H3) I3 ⟨1, rfl, -1, rfl, rfl, rfl⟩) fun vs s4 ⟨o, H4, I4, ps, eo, e4⟩ => ?_
  subst eo e4
  cases pl
  cases pu
  have I5 : Inv X pins σ H4 { s4 with heap := s4.heap.push { cls := .type "slice", data := .fields #[.none, .none, vs] } } := I4.kept (t' := s4.toks) fun b ob q => Heap.get?_push_of_some _ q
  obtain ⟨its, r, ht, hz⟩ := I5.tuple hx
  have hlen := r.length
  show wpAny (model X.prog X.w) X.A (subscriptTail e (.Slice none none (some (.UnaryOp .USub (.Constant (.int 1) k p1) p2)) p3) (.ref a) (.ref s4.heap.objs.size)) (EP X pins σ Q) X.xe { s4 with heap := s4.heap.push { cls := .type "slice", data := .fields #[.none, .none, vs] } }
  refine tail_any (ops := [.ref a, .ref s4.heap.objs.size]) ht.typeIs (PyProof.Rows.slot_tuple_getitem.lookup) ?_ (by with_unfolding_all rfl)
  refine HT.getItem_tuple_rev ht (Heap.IsSliceOf.new _ .none .none vs) ps ?_ (by rw [List.size_toArray]; omega)
  refine ⟨.ref _, _, I5.laid (t' := s4.toks) (o := .tup xs.reverse) (fun b ob q => Heap.get?_push_of_some _ q) (Nat.le_refl _) ?_, rfl, q _ (I5.hok.fresh (Nat.le_refl _))⟩
  exact ⟨by rw [List.length_reverse]; exact hz, _, r.reverse, IsTup.new _ _⟩
end
end KX
end
section
set_option maxRecDepth 100000
set_option maxHeartbeats 4000000
namespace PySem
open Sem (wp)
open AutoSeq1 (wpAny_loadPart')
theorem kx_enumerate_newT (l : Addr) (items : Array Value) (n : Nat) (dct : Option Addr) (sl : Array (Option Value)) :
    Meets (Builtin.«enumerate.__new__» ⟨[.type "enumerate", .ref l], []⟩) (fun _ R s => s.heap.get? l = some { cls := .type "tuple", dict := dct, data := .seq items n, slots := sl } ∧
      R (.ok (.ret (.ref (s.heap.push { cls := .type "tuple_iterator", data := .fields #[.ref l, .int 0 0] }).objs.size)))
        { s with heap := (s.heap.push { cls := .type "tuple_iterator", data := .fields #[.ref l, .int 0 0] }).push { cls := .type "enumerate", data := .fields #[.none, .bool false, .ref s.heap.objs.size, rawInt 0, .none, .none] } }) :=
  .of_wp fun prog w A R s h => by
    obtain ⟨hp, g, d, tk, os⟩ := s; obtain ⟨hl, h⟩ := h
    have hsub := sub_enumerate
    have hL : Heap.IsTuple (Shared.heap ⟨hp, g, d, tk, os⟩) l items := ⟨_, hl, rfl, n, rfl⟩
    wp_walk using wpAny_loadPart' hl
    refine wpAny_stack_any fun st => wpAny_pure ?_
    split
    · rename_i c _ _ _ _ _
      cases (c == Value.type "enumerate")
      · wp_walk using wpAny_loadPart' hl, wpAny_pyIter_tuple hL
        exact ⟨_, rfl, h⟩
      · wp_walk using wpAny_loadPart' hl, wpAny_pyIter_tuple hL
        exact ⟨_, rfl, h⟩
    · wp_walk using wpAny_loadPart' hl, wpAny_pyIter_tuple hL
      exact ⟨_, rfl, h⟩
section
variable {prog : Program} {w : World} {A : Around} {E : Value → Shared → Prop} {s : Shared}
theorem kx_call_enumerate_tuple {l : Addr} {items : Array Value} {Q : Value → Shared → Prop} (hL : s.heap.IsTuple l items)
    (h : ∀ h', IsEnum h' (s.heap.objs.size + 1) s.heap.objs.size 0 .none → h'.IsTupleIter s.heap.objs.size l 0 → h'.objs.size = s.heap.objs.size + 2 →
      (∀ b o, s.heap.get? b = some o → h'.get? b = some o) → Q (.ref (s.heap.objs.size + 1)) { s with heap := h' }) :
    wpAny (model prog w) A (call (.type "enumerate") [.ref l]) Q E s := by
  obtain ⟨⟨c, dct, dt, sl⟩, hl, hc, n, hd⟩ := hL
  replace hc : c = .type "tuple" := hc
  replace hd : dt = .seq items n := hd
  subst hc hd
  refine callType_new F.called_enumerate (by decide) (F.typeCall_enumerate_1 _) (F.newCall_enumerate_1 _) (fun obj => F.args_object_init_2 obj _) F.entry_enumerate_new
    (kx_enumerate_newT l items n dct sl) ⟨hl, ?_⟩
  have hz : (s.heap.push { cls := .type "tuple_iterator", data := .fields #[.ref l, .int 0 0] }).objs.size = s.heap.objs.size + 1 := Heap.size_push ..
  show _ ∧ _
  rw [hz]
  have he : IsEnum ((s.heap.push { cls := .type "tuple_iterator", data := .fields #[.ref l, .int 0 0] }).push
      { cls := .type "enumerate", data := .fields #[.none, .bool false, .ref s.heap.objs.size, rawInt 0, .none, .none] }) (s.heap.objs.size + 1) s.heap.objs.size 0 .none := by
    have := Heap.get?_push_size (s.heap.push { cls := .type "tuple_iterator", data := .fields #[.ref l, .int 0 0] })
      (o := { cls := .type "enumerate", data := .fields #[.none, .bool false, .ref s.heap.objs.size, rawInt 0, .none, .none] }) rfl
    rw [hz] at this; exact this
  refine ⟨⟨_, he, rfl⟩, h _ he ⟨_, Heap.get?_push_of_some _ (Heap.get?_push_size _ rfl), rfl, rfl⟩ (by rw [Heap.size_push, hz]) fun b o x => Heap.get?_push_of_some _ (Heap.get?_push_of_some _ x)⟩
end
end PySem
namespace KX
open PySem PySem.Spec PyProof.Rows L2
/-- enumerate of the tuple at a -/
def IteT (K : PySem.W.Frag) (a : Addr) : It :=
  ⟨fun i H => ∃ (xs : List V) (x : V), SqT K H a xs ∧ xs[i]? = some x, fun i H v H' => ∃ T x, v = .ref T ∧ H T = none ∧ H' = upd H T (.tup [.int (i : Nat), x]) ∧ ∀ xs, SqT K H a xs → xs[i]? = some x, fun i H => ∃ xs : List V, SqT K H a xs ∧ xs.length = i⟩
theorem turn_enumT {P : Program} {w : World} {K : PySem.W.Frag} {elts : List Expr} {kk : Nat} {tpos : Pos} (a e it : Addr) :
    Turn P w K (.Tuple elts kk tpos) (IteT K a) [e, it] e (fun i h => (∃ old, IsEnum h e it ((i : Nat) : Int) old) ∧ h.IsTupleIter it a i ∧ e ≠ it) where
  mem := by simp
  obj := fun i h st b hb => by
    obtain ⟨⟨old, he⟩, ⟨o, ho, hc, hd⟩, _⟩ := st
    have e' : b = e ∨ b = it := by simpa using hb
    rcases e' with z | z
    · rw [z]; exact ⟨_, he, fun v q => nomatch q⟩
    · rw [z]; exact ⟨o, ho, fun v q => by rw [hd] at q; cases q⟩
  keep := fun i h h' st k => let ⟨⟨old, he⟩, hi, hne⟩ := st; ⟨⟨old, k e (by simp) _ he⟩, hi.at fun o q => k it (by simp) o q, hne⟩
  item := by
    intro X hP hw hK hc i pins s σ H E I hf st hg
    subst hP hw hK
    obtain ⟨⟨old, he⟩, hit, hne⟩ := st
    obtain ⟨xs, x, hq, hx⟩ := hg
    obtain ⟨its, rv, p, hz⟩ := I.tuple hq
    obtain ⟨u, hu, ru⟩ := rv.get hx
    have hel : e < s.heap.objs.size := Heap.lt_size he
    have hil : it < s.heap.objs.size := by obtain ⟨_, q, _⟩ := hit; exact Heap.lt_size q
    have hea : a ≠ e := fun z => by
      obtain ⟨o, q, c, _⟩ := p
      rw [z] at q
      rw [show s.heap.get? e = _ from he] at q
      cases q
      injection c with c
      exact absurd c (by decide)
    have hita : a ≠ it := fun z => by
      obtain ⟨o, q, c, _⟩ := p
      obtain ⟨o2, q2, c2, _⟩ := id hit
      rw [z, q2] at q
      cases q
      rw [c2] at c
      injection c with c
      exact absurd c (by decide)
    refine wpAny_pyNext_enum_itemC (Draws.tuple (prog := X.prog) (w := X.w) (A := X.A.in1) (I.ok.hd hc) it a hita its.toArray) he ⟨hit, p⟩ (by simpa using (List.getElem?_eq_some_iff.mp hu).1) hne (by simp [hne, Ne.symm hea]) fun y h' tk hy ho hst' hT hsz hk => ?_
    obtain ⟨hit', ht'⟩ := hst'
    have hyu : y = u := by
      have h1 : its.toArray[i]? = some y := hy
      rw [List.getElem?_toArray, hu] at h1
      exact (Option.some.inj h1).symm
    subst hyu
    refine ⟨_, rfl, wpAny_letOwnedTupleGo_enum (s := { s with heap := h', toks := tk + 1 }) ho fun h'' he' sb => ?_⟩
    have hT2 : h''.get? s.heap.objs.size = some { cls := .type "tuple", data := .seq #[.int i tk, y] } := (sb.2 _ (Nat.ne_of_gt hel)).trans hT
    have new : ObjOk X.prog X.w (upd H s.heap.objs.size (.tup [.int (i : Nat), x])) h'' s.heap.objs.size (.tup [.int (i : Nat), x]) :=
      ⟨by show 2 ≤ sizeLine; decide, [.int i tk, y], .cons ⟨_, rfl⟩ (.cons ru .nil), ⟨_, hT2, rfl, _, rfl⟩⟩
    have I1 : Inv X pins σ (upd H s.heap.objs.size (.tup [.int (i : Nat), x])) { s with heap := h'', toks := tk + 1 } :=
      I.turnedNew (ch := [e, it]) (fun b ob hb q => (sb.2 b (fun z => hb (by simp [z]))).trans (hk b ob (fun z => hb (by simp [z])) (fun z => hb (by simp [z])) q)) hf (Nat.le_refl _) new
    refine ⟨.ref s.heap.objs.size, _, I1, rfl, ⟨_, x, rfl, I.hok.fresh (Nat.le_refl _), rfl, fun ys hy => by rw [I.tuple_inj hy hq]; exact hx⟩, ⟨⟨y, ?_⟩, hit'.at fun o q => (sb.2 it (Ne.symm hne)).trans q, hne⟩, fun b hb => ?_⟩
    · have e1 : ((i + 1 : Nat) : Int) = (i : Int) + 1 := by omega
      rw [e1]; exact he'
    · have hb' : b < s.heap.objs.size := by
        have e' : b = e ∨ b = it := by simpa using hb
        rcases e' with z | z
        · rw [z]; exact hel
        · rw [z]; exact hil
      rw [upd_ne (Nat.ne_of_lt hb')]
      exact (hf b hb).1
  done := by
    intro X hP hw hK hc i pins s σ H E I hf st hg
    subst hP hw hK
    obtain ⟨⟨old, he⟩, hit, hne⟩ := st
    obtain ⟨xs, hq, hx⟩ := hg
    obtain ⟨its, rv, p, hz⟩ := I.tuple hq
    obtain ⟨f0, f1, f2, f3, f4, f5⟩ := hf it (by simp)
    have hl := rv.length
    have hita : a ≠ it := fun z => by
      obtain ⟨o, q, c, _⟩ := p
      obtain ⟨o2, q2, c2, _⟩ := id hit
      rw [z, q2] at q
      cases q
      rw [c2] at c
      injection c with c
      exact absurd c (by decide)
    have hge : its.toArray.size = i := by simp; omega
    subst hge
    exact wpAny_pyNext_enum_endD (Draws.tuple (prog := X.prog) (w := X.w) (A := X.A.in1) (I.ok.hd hc) it a hita its.toArray) he ⟨hit, p⟩ fun h' eb => ⟨rfl, I.turned (t' := s.toks) (fun b o hb q => eb b o hb q) f0 f1 f3 f4 f5⟩
  self := fun A i s Q E st h => let ⟨⟨_, he⟩, _⟩ := st; wpAny_pyIter_enum he h

def iEnumT (K : PySem.W.Frag) (ta : TA) : TI := fun σ H R => ta σ H fun vs H1 => ∃ a xs, vs = [.ref a] ∧ SqT K H1 a xs ∧ R (IteT K a) H1
theorem pi_enumT {X : Cx} {e : Expr} {ta : TA} {p pos tpos : Pos} {elts : List Expr} {kk : Nat} (hg : Gl X "enumerate") (hm : X.mg "enumerate" = none) (ha : PA X [e] ta) (hs : starEach [e] X.env = [(false, eval e X.env)] := by rfl) :
    PI X (.Tuple elts kk tpos) (.Call (.Name "enumerate" p) [e] [] pos) (iEnumT X.K ta) := by
  refine ⟨fun pins s σ H R I h => ?_⟩
  refine Call_ (ld_blt I hg hm boot_enumerate (PyProof.Rows.callWith_type1 (thn (ha.run pos pins s σ H _ I h) fun us s1 ⟨vs, H1, I1, r1, q1⟩ => ?_) hs rfl))
  obtain ⟨a, xs, ex, hq, q⟩ := q1
  subst ex
  cases r1 with
  | cons r rr =>
    cases rr
    cases r
    obtain ⟨its, rv, p', hz⟩ := I1.tuple hq
    refine kx_call_enumerate_tuple p' fun h' he hit hsz hk => wpAny_pyIter_enum he ?_
    have I2 : Inv X pins σ H1 { s1 with heap := h' } := I1.kept (t' := s1.toks) hk
    refine ⟨s1.heap.objs.size + 1, [s1.heap.objs.size + 1, s1.heap.objs.size], _, _, H1, rfl, I2, turn_enumT a (s1.heap.objs.size + 1) s1.heap.objs.size, ⟨⟨.none, he⟩, hit, Nat.succ_ne_self _⟩, fun b hb => ?_, q⟩
    have e' : b = s1.heap.objs.size + 1 ∨ b = s1.heap.objs.size := by simpa using hb
    have hle : s1.heap.objs.size ≤ b := by
      rcases e' with z | z
      · rw [z]; exact Nat.le_add_right _ _
      · rw [z]; exact Nat.le_refl _
    exact I1.fpOk hle (I1.hok.fresh hle)
theorem walk_enumT {K : PySem.W.Frag} {a : Addr} {xs : List V} : Walk (IteT K a) xs.length (fun H => SqT K H a xs) (YPair (fun i => some (.int (i : Nat))) (fun i => xs[i]?)) := by
  refine ⟨fun i _ hi q => ⟨xs, xs[i], q, by simp [hi]⟩, fun _ q => ⟨xs, q, rfl⟩, fun i H v H' _ q y => ?_⟩
  obtain ⟨T, x, h1, h2, h3, h4⟩ := y
  exact ⟨T, .int (i : Nat), x, h1, h2, h3, rfl, h4 xs q⟩
theorem walk_zipT {K : PySem.W.Frag} {a b : Addr} {xs ys : List V} (hl : xs.length = ys.length) : Walk (RZ.ItzT K a b) xs.length (fun H => SqT K H a xs ∧ SqT K H b ys) (YPair (fun i => xs[i]?) (fun i => ys[i]?)) := by
  refine ⟨fun i _ hi q => ?_, fun _ q => ⟨xs, ys, q.1, q.2, by omega⟩, fun i H v H' _ q y => ?_⟩
  · exact ⟨xs, ys, xs[i], ys[i], q.1, q.2, by simp [hi], by simp [hl ▸ hi]⟩
  · obtain ⟨T, x, z, h1, h2, h3, h4, h5⟩ := y
    exact ⟨T, x, z, h1, h2, h3, h4 xs q.1, h5 ys q.2⟩
/-! ### a dict of the written part with int keys, read -/
/-- the written dict at d has at k what is v -/
def KInt (K : PySem.W.Frag) (d : Addr) (k : Int) (v : V) : Prop := ∃ (es : Array DictEntry) (n : Nat) (u : Value), K.lookup d = some ⟨.type "dict", none, .dict es n, #[]⟩ ∧
  (∀ e ∈ es, ∃ k : Int, Value.isInt k e.key = true ∧ e.hash = hashInt k) ∧ findBy Value.isInt es k = some u ∧ RelV v u
def tKInt (K : PySem.W.Frag) (td ty : TE) : TE := fun σ H Q => td σ H fun x H1 => ty σ H1 fun y H2 => ∃ d k v, x = .ref d ∧ y = .int k ∧ KInt K d k v ∧ Q v H2
section
variable {X : Cx} {o i : Expr} {pos : Pos} {td ty : TE}
theorem pe_kint (ho : PE X o td) (hi : PE X i ty) (hs : NoSl i) : PE X (.Subscript o i pos) (tKInt X.K td ty) := by
  refine ⟨fun pins s σ H Q I h => ?_⟩
  refine subD_of PySem.F.slot_dict_getitem.lookup hs (thn (ho.run pins s σ H _ I h) fun u s1 ⟨x, H1, I1, rx, q1⟩ => thn (hi.run pins s1 σ H1 _ I1 q1) fun iv s2 ⟨y, H2, I2, ry, d, k, v, ex, ey, ⟨es, n, u', hl, hk, hf, rv⟩, q2⟩ => ?_)
  subst ex
  subst ey
  obtain rfl : u = Value.ref d := rx
  obtain ⟨t, rfl⟩ := ry
  have hg := I2.kIn d _ hl
  have hm : s2.heap.MapOf (PySem.intKind X.prog X.w) d (findBy Value.isInt es) := ⟨_, es, n, hg, ⟨rfl, rfl, rfl⟩, rfl, hk, fun _ => rfl⟩
  refine ⟨⟨_, hg, rfl⟩, ?_⟩
  exact wpAny_getItem_of (by simp [PySem.intKind, Value.isInt]) hm hf ⟨v, H2, I2.tok _, rv, q2⟩
end
end KX
end
section
set_option maxRecDepth 100000
set_option maxHeartbeats 2000000
/-! the head's facts: defs at any address, classes, properties, the two dicts -/
namespace KH
open PySem PySem.Spec PyProof.Rows L2 He
/-- a property's getter -/
def pA (K : PySem.W.Frag) (C m : Str) : Addr := ma K (ga K C) m
def gA (K : PySem.W.Frag) (C m : Str) : Addr := match PySem.W.recIn K (pA K C m) "property" with
  | some (.ref g :: _) => g
  | _ => 0
def fnA (K : PySem.W.Frag) (a : Addr) : FnW := match K.lookup a with
  | some ⟨_, _, .func fd, _⟩ => some (fd.name, fd.qualname, fd.params, fd.body, fd.scope, fd.globals, fd.closure, fd.builtins)
  | _ => none
/-- where a def stands -/
inductive Wh where
  | top (x : Str) | mth (C m : Str) | gtr (C m : Str)
def Wh.a (K : PySem.W.Frag) : Wh → Addr
  | .top x => ga K x
  | .mth C m => ma K (ga K C) m
  | .gtr C m => gA K C m
structure DefG where
  at_ : Wh
  name : Str
  qual : Str
  st : Stmt
  dfl : List V := []
def DefG.val (d : DefG) : FnW := some (d.name, d.qual, defArgs d.st, .stmts (defBody d.st), defScope d.st, mainGlobals, [], builtinsNs)
def kwN : Value → Bool
  | .none => true
  | _ => true
def DefG.ok (K : PySem.W.Frag) (d : DefG) : Bool := PySem.W.keepIn K (.ref (d.at_.a K)) && (match K.lookup (d.at_.a K) with
  | some ⟨_, _, .func fd, _⟩ => PySem.W.codeIn K fd.code d.qual && dflB K fd.defaults d.dfl
  | _ => false)
theorem DefG.funD {K : PySem.W.Frag} {d : DefG} (e : fnA K (d.at_.a K) = d.val) (c : d.ok K = true) : ∃ fd, FunD K d.name d.qual (defArgs d.st) (defBody d.st) (defScope d.st) d.dfl [] (d.at_.a K) fd := by
  obtain ⟨kp, c2⟩ := ba c
  unfold fnA at e
  cases q : K.lookup (d.at_.a K) with
  | none =>
    rw [q] at c2
    cases c2
  | some o =>
    obtain ⟨oc, od, dt, osl⟩ := o
    rw [q] at c2 e
    cases dt with
    | func fd =>
      obtain ⟨n1, n2, n3, n4, n5, n6, n7, n8, n9, n10, n11, n12, n13, n14, n15⟩ := fd
      have e2 : (some (n1, n2, n3, n4, n5, n6, n7, n15) : FnW) = some (d.name, d.qual, defArgs d.st, .stmts (defBody d.st), defScope d.st, mainGlobals, [], builtinsNs) := e
      simp only [Option.some.injEq, Prod.mk.injEq] at e2
      obtain ⟨h1, h2, h3, h4, h5, h6, h7, h8⟩ := e2
      subst h1 h2 h3 h4 h5 h6 h7 h8
      have c3 : (PySem.W.codeIn K n13 d.qual && dflB K n8 d.dfl) = true := c2
      obtain ⟨k1, k3⟩ := ba c3
      exact ⟨_, ⟨oc, od, n8, n9, n10, n11, n12, n13, n14, osl, rfl, q, k1, dflB_ok k3, .inl rfl⟩, kp⟩
    | _ => cases c2
abbrev AlG : Type := Bool × List FnW
def obsG (fa : List Fa) (fn : List DefG) (ex : PySem.W.Frag → Bool) (K : PySem.W.Frag) : AlG := ((fa.all fun f => f.ok K) && ((fn.all fun d => d.ok K) && ex K), fn.map fun d => fnA K (d.at_.a K))
def valG (fn : List DefG) : AlG := (true, fn.map DefG.val)
def SaysG (fa : List Fa) (fn : List DefG) (ex : PySem.W.Frag → Bool) (K : PySem.W.Frag) : Prop := obsG fa fn ex K = valG fn
/-- the objects at written places alone -/
def obsC (as : List Addr) (fa : List Fa) (fn : List DefG) (ex : PySem.W.Frag → Bool) (g : Addr → Option Obj) : AlG := obsG fa fn ex (frG g as)
def hookC (as : List Addr) (fa : List Fa) (fn : List DefG) (ex : PySem.W.Frag → Bool) : PySem.W.Hook where
  α := AlG
  obs := fun s => obsC as fa fn ex s.heap.get?
  val := fun _ => valG fn
  says := fun _ h => ∃ K : PySem.W.Frag, K.In h ∧ SaysG fa fn ex K
  of := fun _ _ e => ⟨_, frG_in, e⟩
  keeps := fun _ _ _ ⟨K, hK, c⟩ k => ⟨K, PySem.W.Frag.In.keeps hK k, c⟩
theorem obsC_eq {as : List Addr} {fa : List Fa} {fn : List DefG} {ex : PySem.W.Frag → Bool} {g : Addr → Option Obj} {s : Shared} (h : ∀ a, g a = s.heap.get? a) : obsC as fa fn ex g = (hookC as fa fn ex).obs s := by
  have e : g = s.heap.get? := funext h
  rw [e] <;> rfl
section
variable {fa : List Fa} {fn : List DefG} {ex : PySem.W.Frag → Bool} {K : PySem.W.Frag}
theorem SaysG.facts (c : SaysG fa fn ex K) {f : Fa} (h : f ∈ fa) : f.ok K = true := by
  have c1 := (ba (show ((fa.all fun f => f.ok K) && ((fn.all fun d => d.ok K) && ex K)) = true from congrArg (fun z : AlG => z.1) c)).1
  exact List.all_eq_true.mp c1 f h
theorem SaysG.more (c : SaysG fa fn ex K) : ex K = true :=
  (ba (ba (show ((fa.all fun f => f.ok K) && ((fn.all fun d => d.ok K) && ex K)) = true from congrArg (fun z : AlG => z.1) c)).2).2
theorem SaysG.def_ (c : SaysG fa fn ex K) (i : Nat) {d : DefG} (h : fn[i]? = some d := by rfl) : ∃ fd, FunD K d.name d.qual (defArgs d.st) (defBody d.st) (defScope d.st) d.dfl [] (d.at_.a K) fd := by
  have c2 := (ba (ba (show ((fa.all fun f => f.ok K) && ((fn.all fun d => d.ok K) && ex K)) = true from congrArg (fun z : AlG => z.1) c)).2).1
  have e : fn.map (fun d => fnA K (d.at_.a K)) = fn.map DefG.val := congrArg (fun z : AlG => z.2) c
  have e2 : (fn.map fun d => fnA K (d.at_.a K))[i]? = (fn.map DefG.val)[i]? := by rw [e]
  rw [List.getElem?_map, List.getElem?_map, h] at e2
  exact DefG.funD (Option.some.inj e2) (List.all_eq_true.mp c2 d (List.mem_of_getElem? h))
end
/-! ### more facts, as Bools -/
def insB (K : PySem.W.Frag) (C : Str) : Bool := eqO (PySem.W.findIn K (.ref (ga K C)) "__class__") (some (some (.builtin "object.__class__"))) &&
  (eqO (PySem.W.specialIn K (.builtin "object.__class__") "__get__") (some (some (.builtin "getset_descriptor.__get__"))) &&
  (decide (PySem.W.takesIn K (.builtin "object.__class__") = some true) && (decide (PySem.W.mroIn K (ga K C) (.type "object") = some true) &&
  (decide (PySem.W.kitOne K (.ref (ga K C)) (.ref (ga K C)) = some true) &&
  (eqO (PySem.W.findIn K (.ref (ga K C)) "__eq__") (some (some (.ref (ma K (ga K C) "__eq__")))) && (PySem.W.isFn K (.ref (ma K (ga K C) "__eq__")) &&
  (eqO (PySem.W.findIn K (.ref (ga K C)) "__ne__") (some (some (.builtin "object.__ne__"))) &&
  decide (PySem.W.subIn K (.ref (ga K C)) (.type "object") = some true))))))))
def mulB (K : PySem.W.Frag) (C : Str) : Bool := PySem.W.selfFirst K (ga K C) && (eqO (PySem.W.findIn K (.ref (ga K C)) "__mul__") (some (some (.ref (ma K (ga K C) "__mul__")))) && PySem.W.isFn K (.ref (ma K (ga K C) "__mul__")))
def prpB (K : PySem.W.Frag) (C m : Str) : Bool := eqO (PySem.W.findIn K (.ref (ga K C)) m) (some (some (.ref (pA K C m)))) && (eqO (PySem.W.specialIn K (.ref (pA K C m)) "__get__") (some (some (.builtin "property.__get__"))) &&
  (decide (PySem.W.takesIn K (.ref (pA K C m)) = some true) && (match PySem.W.recIn K (pA K C m) "property" with
    | some (.ref g :: _) => decide (g = gA K C m)
    | _ => false)))
/-- the i-th value of the written dict x: the tuple at it -/
def dvA (K : PySem.W.Frag) (x : Str) (k : Int) : Addr := match K.lookup (ga K x) with
  | some ⟨_, _, .dict es _, _⟩ => (match PySem.findBy Value.isInt es k with
    | some (.ref a) => a
    | _ => 0)
  | _ => 0
def tupAB (K : PySem.W.Frag) (a : Addr) (vs : List V) : Bool := match K.lookup a with
  | some ⟨.type c, _, .seq its _, _⟩ => decide (c = "tuple") && (decide (its.size ≤ sizeLine) && relAll vs its.toList)
  | _ => false
theorem tupAB_ok {K : PySem.W.Frag} {a : Addr} {vs : List V} (h : tupAB K a vs = true) (H : Hp) : SqT K H a vs := by
  unfold tupAB at h
  cases q : K.lookup a with
  | none =>
    rw [q] at h
    cases h
  | some o =>
    obtain ⟨oc, od, dt, osl⟩ := o
    rw [q] at h
    cases oc with
    | type c =>
      cases dt with
      | seq its n =>
        obtain ⟨h1, h2⟩ := ba (show (decide (c = "tuple") && (decide (its.size ≤ sizeLine) && relAll vs its.toList)) = true from h)
        obtain ⟨h3, h4⟩ := ba h2
        exact .inr ⟨_, its, n, q, congrArg Value.type (of_decide_eq_true h1), rfl, of_decide_eq_true h3, relAll_ok h4⟩
      | _ => cases h
    | _ => cases dt <;> cases h
def dicB (K : PySem.W.Frag) (x : Str) (kvs : List (Int × Int × Int)) : Bool := match K.lookup (ga K x) with
  | some ⟨.type c, none, .dict es _, sl⟩ => decide (c = "dict") && (sl.isEmpty && ((es.toList.all fun e => match e.key with
      | .int k _ => decide (e.hash = hashInt k)
      | _ => false) && kvs.all fun q => (match PySem.findBy Value.isInt es q.1 with
        | some (.ref a) => tupAB K a [.int q.2.1, .int q.2.2]
        | _ => false)))
  | _ => false
theorem dicB_ok {K : PySem.W.Frag} {x : Str} {kvs : List (Int × Int × Int)} (h : dicB K x kvs = true) {k a b : Int} (hm : (k, a, b) ∈ kvs) : ∃ p, KX.KInt K (ga K x) k (.ref p) ∧ ∀ H, SqT K H p [.int a, .int b] := by
  unfold dicB at h
  cases q : K.lookup (ga K x) with
  | none =>
    rw [q] at h
    cases h
  | some o =>
    obtain ⟨oc, od, dt, osl⟩ := o
    rw [q] at h
    cases oc with
    | type c =>
      cases od with
      | none =>
        cases dt with
        | dict es n =>
          obtain ⟨h1, h2⟩ := ba (show (decide (c = "dict") && (osl.isEmpty && ((es.toList.all fun e => match e.key with
            | .int k _ => decide (e.hash = hashInt k)
            | _ => false) && kvs.all fun q => (match PySem.findBy Value.isInt es q.1 with
              | some (.ref a) => tupAB K a [.int q.2.1, .int q.2.2]
              | _ => false)))) = true from h)
          obtain ⟨h2, h3⟩ := ba h2
          obtain ⟨h3, h4⟩ := ba h3
          have h5 := List.all_eq_true.mp h4 _ hm
          cases e : PySem.findBy Value.isInt es k with
          | none =>
            have h6 : (match PySem.findBy Value.isInt es k with
              | some (.ref a') => tupAB K a' [.int a, .int b]
              | _ => false) = true := h5
            rw [e] at h6
            cases h6
          | some u =>
            have h6 : (match PySem.findBy Value.isInt es k with
              | some (.ref a') => tupAB K a' [.int a, .int b]
              | _ => false) = true := h5
            rw [e] at h6
            cases u with
            | ref p =>
              refine ⟨p, ⟨es, n, .ref p, ?_, fun en hen => ?_, e, rfl⟩, fun H => tupAB_ok h6 H⟩
              · rw [q, of_decide_eq_true h1, Array.isEmpty_iff.mp h2]
              · have h7 := List.all_eq_true.mp h3 en (by simpa using hen)
                cases ek : en.key with
                | int k' t =>
                  rw [ek] at h7
                  exact ⟨k', by simp [Value.isInt], of_decide_eq_true h7⟩
                | _ =>
                  rw [ek] at h7
                  cases h7
            | _ => cases h6
        | _ => cases h
      | some d => cases dt <;> cases h
    | _ => cases od <;> cases dt <;> cases h
section
variable {K : PySem.W.Frag}
theorem ins_ok {C : Str} (hc : Cls K (ga K C)) (h : insB K C = true) : C8.InsC K (ga K C) ∧ PySem.W.findIn K (.ref (ga K C)) "__eq__" = some (some (.ref (ma K (ga K C) "__eq__"))) ∧ PySem.W.isFn K (.ref (ma K (ga K C) "__eq__")) = true ∧
    PySem.W.findIn K (.ref (ga K C)) "__ne__" = some (some (.builtin "object.__ne__")) ∧ PySem.W.subIn K (.ref (ga K C)) (.type "object") = some true := by
  unfold insB at h
  obtain ⟨h1, h⟩ := ba h
  obtain ⟨h2, h⟩ := ba h
  obtain ⟨h3, h⟩ := ba h
  obtain ⟨h4, h⟩ := ba h
  obtain ⟨h5, h⟩ := ba h
  obtain ⟨h6, h⟩ := ba h
  obtain ⟨h7, h⟩ := ba h
  obtain ⟨h8, h9⟩ := ba h
  exact ⟨⟨hc, eqO_ok h1, eqO_ok h2, of_decide_eq_true h3, of_decide_eq_true h4, of_decide_eq_true h5⟩, eqO_ok h6, h7, eqO_ok h8, of_decide_eq_true h9⟩
theorem mul_ok {C : Str} (h : mulB K C = true) : PySem.W.selfFirst K (ga K C) = true ∧ PySem.W.findIn K (.ref (ga K C)) "__mul__" = some (some (.ref (ma K (ga K C) "__mul__"))) ∧ PySem.W.isFn K (.ref (ma K (ga K C) "__mul__")) = true := by
  unfold mulB at h
  obtain ⟨h1, h⟩ := ba h
  obtain ⟨h2, h3⟩ := ba h
  exact ⟨h1, eqO_ok h2, h3⟩
theorem prp_ok {C m : Str} (h : prpB K C m = true) : PropOf K (ga K C) m (pA K C m) (gA K C m) := by
  unfold prpB at h
  obtain ⟨h1, h⟩ := ba h
  obtain ⟨h2, h⟩ := ba h
  obtain ⟨h3, h4⟩ := ba h
  refine ⟨eqO_ok h1, eqO_ok h2, of_decide_eq_true h3, ?_⟩
  cases q : PySem.W.recIn K (pA K C m) "property" with
  | none =>
    rw [q] at h4
    cases h4
  | some l =>
    rw [q] at h4
    cases l with
    | nil => cases h4
    | cons v r =>
      cases v with
      | ref g =>
        have e : g = gA K C m := of_decide_eq_true h4
        exact ⟨r, by rw [← e]⟩
      | _ => cases h4
end
end KH
end
section
set_option maxRecDepth 100000
namespace KJ
open PySem PySem.Spec PyProof.Rows L2 He KH
def top (i : Nat) : Stmt := PySem.Challenge.pw_wallwalks_k74_whole_heads_of_products.main.body.getD i (.Pass ⟨0, 0, 0, 0⟩)
def inC (s : Stmt) (i : Nat) : Stmt := match s with
  | .ClassDef _ _ _ b _ _ _ _ _ _ _ => b.getD i (.Pass ⟨0, 0, 0, 0⟩)
  | _ => .Pass ⟨0, 0, 0, 0⟩
abbrev s_is_whole : Stmt := top 17
abbrev s_pair_sign : Stmt := top 20
abbrev s_axis_of : Stmt := top 21
abbrev s_all_axes : Stmt := top 22
abbrev s_is_down : Stmt := top 23
abbrev s_level_at : Stmt := top 24
abbrev s_turned : Stmt := top 25
abbrev s_vector_less : Stmt := top 26
abbrev s_pressed_behind : Stmt := top 28
abbrev s_pressed_front : Stmt := top 29
abbrev s_images_of : Stmt := top 30
abbrev s_down_buttons : Stmt := top 31
abbrev s_word_by : Stmt := top 32
abbrev s_is_button : Stmt := top 45
abbrev s_is_right_row : Stmt := top 46
abbrev s_first_wrong_row : Stmt := top 47
abbrev s_weight_pairs : Stmt := top 48
abbrev s_piece_from : Stmt := top 49
abbrev s_pieces_of : Stmt := top 50
abbrev s_check_table : Stmt := top 52
abbrev s_wrong_in_word : Stmt := top 54
abbrev s_check_word : Stmt := top 55
abbrev s_check_same_table : Stmt := top 56
abbrev s_change_made : Stmt := top 59
abbrev s_check_change : Stmt := top 60
abbrev s_led_behind : Stmt := top 64
abbrev s_plain : Stmt := top 67
abbrev s_stretch : Stmt := top 69
abbrev s_tokens_for : Stmt := top 70
abbrev s_completions : Stmt := top 71
abbrev s_taken : Stmt := top 72
abbrev s_front_buttons : Stmt := top 73
abbrev s_first_word : Stmt := top 74
abbrev s_positive_made : Stmt := top 77
abbrev s_check_positive : Stmt := top 78
abbrev s_lifted : Stmt := top 79
abbrev s_head_of : Stmt := top 80
abbrev s_grains_of : Stmt := top 81
abbrev s_grains : Stmt := top 82
abbrev s__law_well : Stmt := top 84
abbrev s__law_dip : Stmt := top 85
abbrev s__law_pick : Stmt := top 86
abbrev s__law_any : Stmt := top 87
abbrev s__law_mixed : Stmt := top 88
abbrev s__law_chained : Stmt := top 89
abbrev s__law_drawn : Stmt := top 90
abbrev s__law_grid : Stmt := top 91
abbrev s__law_letters : Stmt := top 92
abbrev s__law_times : Stmt := top 93
abbrev s__law_press : Stmt := top 94
abbrev s__law_state : Stmt := top 95
abbrev s__law_is_low : Stmt := top 96
abbrev s__law_low : Stmt := top 97
abbrev s__law_fronts : Stmt := top 98
abbrev s__law_is_row : Stmt := top 99
abbrev s__law_put_together : Stmt := top 100
abbrev s__law_is_head_right : Stmt := top 101
abbrev s__law_right : Stmt := top 102
abbrev s_law : Stmt := top 103
abbrev s_Table_init : Stmt := inC (top 44) 0
abbrev s_Table_eq : Stmt := inC (top 44) 5
abbrev s_Change_init : Stmt := inC (top 58) 0
abbrev s_Change_word : Stmt := inC (top 58) 2
abbrev s_Change_backs : Stmt := inC (top 58) 6
abbrev s_Change_eq : Stmt := inC (top 58) 9
abbrev s_Positive_init : Stmt := inC (top 76) 0
abbrev s_Positive_word : Stmt := inC (top 76) 1
abbrev s_Positive_eq : Stmt := inC (top 76) 6
abbrev s_Positive_mul : Stmt := inC (top 76) 8
def d_is_whole : DefG := ⟨.top "is_whole", "is_whole", "is_whole", s_is_whole, []⟩
def d_pair_sign : DefG := ⟨.top "pair_sign", "pair_sign", "pair_sign", s_pair_sign, []⟩
def d_axis_of : DefG := ⟨.top "axis_of", "axis_of", "axis_of", s_axis_of, []⟩
def d_all_axes : DefG := ⟨.top "all_axes", "all_axes", "all_axes", s_all_axes, []⟩
def d_is_down : DefG := ⟨.top "is_down", "is_down", "is_down", s_is_down, []⟩
def d_level_at : DefG := ⟨.top "level_at", "level_at", "level_at", s_level_at, []⟩
def d_turned : DefG := ⟨.top "turned", "turned", "turned", s_turned, []⟩
def d_vector_less : DefG := ⟨.top "vector_less", "vector_less", "vector_less", s_vector_less, []⟩
def d_pressed_behind : DefG := ⟨.top "pressed_behind", "pressed_behind", "pressed_behind", s_pressed_behind, []⟩
def d_pressed_front : DefG := ⟨.top "pressed_front", "pressed_front", "pressed_front", s_pressed_front, []⟩
def d_images_of : DefG := ⟨.top "images_of", "images_of", "images_of", s_images_of, []⟩
def d_down_buttons : DefG := ⟨.top "down_buttons", "down_buttons", "down_buttons", s_down_buttons, []⟩
def d_word_by : DefG := ⟨.top "word_by", "word_by", "word_by", s_word_by, []⟩
def d_is_button : DefG := ⟨.top "is_button", "is_button", "is_button", s_is_button, []⟩
def d_is_right_row : DefG := ⟨.top "is_right_row", "is_right_row", "is_right_row", s_is_right_row, []⟩
def d_first_wrong_row : DefG := ⟨.top "first_wrong_row", "first_wrong_row", "first_wrong_row", s_first_wrong_row, []⟩
def d_weight_pairs : DefG := ⟨.top "weight_pairs", "weight_pairs", "weight_pairs", s_weight_pairs, []⟩
def d_piece_from : DefG := ⟨.top "piece_from", "piece_from", "piece_from", s_piece_from, []⟩
def d_pieces_of : DefG := ⟨.top "pieces_of", "pieces_of", "pieces_of", s_pieces_of, []⟩
def d_check_table : DefG := ⟨.top "check_table", "check_table", "check_table", s_check_table, []⟩
def d_wrong_in_word : DefG := ⟨.top "wrong_in_word", "wrong_in_word", "wrong_in_word", s_wrong_in_word, []⟩
def d_check_word : DefG := ⟨.top "check_word", "check_word", "check_word", s_check_word, []⟩
def d_check_same_table : DefG := ⟨.top "check_same_table", "check_same_table", "check_same_table", s_check_same_table, []⟩
def d_change_made : DefG := ⟨.top "change_made", "change_made", "change_made", s_change_made, []⟩
def d_check_change : DefG := ⟨.top "check_change", "check_change", "check_change", s_check_change, []⟩
def d_led_behind : DefG := ⟨.top "led_behind", "led_behind", "led_behind", s_led_behind, []⟩
def d_plain : DefG := ⟨.top "plain", "plain", "plain", s_plain, []⟩
def d_stretch : DefG := ⟨.top "stretch", "stretch", "stretch", s_stretch, []⟩
def d_tokens_for : DefG := ⟨.top "tokens_for", "tokens_for", "tokens_for", s_tokens_for, []⟩
def d_completions : DefG := ⟨.top "completions", "completions", "completions", s_completions, []⟩
def d_taken : DefG := ⟨.top "taken", "taken", "taken", s_taken, []⟩
def d_front_buttons : DefG := ⟨.top "front_buttons", "front_buttons", "front_buttons", s_front_buttons, []⟩
def d_first_word : DefG := ⟨.top "first_word", "first_word", "first_word", s_first_word, []⟩
def d_positive_made : DefG := ⟨.top "positive_made", "positive_made", "positive_made", s_positive_made, []⟩
def d_check_positive : DefG := ⟨.top "check_positive", "check_positive", "check_positive", s_check_positive, []⟩
def d_lifted : DefG := ⟨.top "lifted", "lifted", "lifted", s_lifted, []⟩
def d_head_of : DefG := ⟨.top "head_of", "head_of", "head_of", s_head_of, []⟩
def d_grains_of : DefG := ⟨.top "grains_of", "grains_of", "grains_of", s_grains_of, []⟩
def d_grains : DefG := ⟨.top "grains", "grains", "grains", s_grains, []⟩
def d__law_well : DefG := ⟨.top "_law_well", "_law_well", "_law_well", s__law_well, []⟩
def d__law_dip : DefG := ⟨.top "_law_dip", "_law_dip", "_law_dip", s__law_dip, []⟩
def d__law_pick : DefG := ⟨.top "_law_pick", "_law_pick", "_law_pick", s__law_pick, []⟩
def d__law_any : DefG := ⟨.top "_law_any", "_law_any", "_law_any", s__law_any, []⟩
def d__law_mixed : DefG := ⟨.top "_law_mixed", "_law_mixed", "_law_mixed", s__law_mixed, []⟩
def d__law_chained : DefG := ⟨.top "_law_chained", "_law_chained", "_law_chained", s__law_chained, []⟩
def d__law_drawn : DefG := ⟨.top "_law_drawn", "_law_drawn", "_law_drawn", s__law_drawn, []⟩
def d__law_grid : DefG := ⟨.top "_law_grid", "_law_grid", "_law_grid", s__law_grid, []⟩
def d__law_letters : DefG := ⟨.top "_law_letters", "_law_letters", "_law_letters", s__law_letters, []⟩
def d__law_times : DefG := ⟨.top "_law_times", "_law_times", "_law_times", s__law_times, []⟩
def d__law_press : DefG := ⟨.top "_law_press", "_law_press", "_law_press", s__law_press, []⟩
def d__law_state : DefG := ⟨.top "_law_state", "_law_state", "_law_state", s__law_state, []⟩
def d__law_is_low : DefG := ⟨.top "_law_is_low", "_law_is_low", "_law_is_low", s__law_is_low, []⟩
def d__law_low : DefG := ⟨.top "_law_low", "_law_low", "_law_low", s__law_low, []⟩
def d__law_fronts : DefG := ⟨.top "_law_fronts", "_law_fronts", "_law_fronts", s__law_fronts, []⟩
def d__law_is_row : DefG := ⟨.top "_law_is_row", "_law_is_row", "_law_is_row", s__law_is_row, []⟩
def d__law_put_together : DefG := ⟨.top "_law_put_together", "_law_put_together", "_law_put_together", s__law_put_together, []⟩
def d__law_is_head_right : DefG := ⟨.top "_law_is_head_right", "_law_is_head_right", "_law_is_head_right", s__law_is_head_right, []⟩
def d__law_right : DefG := ⟨.top "_law_right", "_law_right", "_law_right", s__law_right, []⟩
def d_law : DefG := ⟨.top "law", "law", "law", s_law, []⟩
def d_Table_init : DefG := ⟨.mth "Table" "__init__", "__init__", "Table.__init__", s_Table_init, []⟩
def d_Table_eq : DefG := ⟨.mth "Table" "__eq__", "__eq__", "Table.__eq__", s_Table_eq, []⟩
def d_Change_init : DefG := ⟨.mth "Change" "__init__", "__init__", "Change.__init__", s_Change_init, [.non]⟩
def d_Change_word : DefG := ⟨.gtr "Change" "word", "word", "Change.word", s_Change_word, []⟩
def d_Change_backs : DefG := ⟨.gtr "Change" "backs", "backs", "Change.backs", s_Change_backs, []⟩
def d_Change_eq : DefG := ⟨.mth "Change" "__eq__", "__eq__", "Change.__eq__", s_Change_eq, []⟩
def d_Positive_init : DefG := ⟨.mth "Positive" "__init__", "__init__", "Positive.__init__", s_Positive_init, [.bl false]⟩
def d_Positive_word : DefG := ⟨.gtr "Positive" "word", "word", "Positive.word", s_Positive_word, []⟩
def d_Positive_eq : DefG := ⟨.mth "Positive" "__eq__", "__eq__", "Positive.__eq__", s_Positive_eq, []⟩
def d_Positive_mul : DefG := ⟨.mth "Positive" "__mul__", "__mul__", "Positive.__mul__", s_Positive_mul, []⟩
def fn1 : List DefG := [d_is_whole, d_pair_sign, d_axis_of, d_all_axes, d_is_down, d_level_at, d_turned, d_vector_less, d_pressed_behind, d_pressed_front, d_images_of, d_down_buttons, d_word_by, d_is_button, d_is_right_row, d_first_wrong_row, d_weight_pairs, d_piece_from, d_pieces_of, d_check_table, d_wrong_in_word, d_check_word, d_check_same_table, d_change_made, d_check_change, d_led_behind, d_plain, d_stretch, d_tokens_for, d_completions, d_taken, d_front_buttons, d_first_word, d_positive_made, d_check_positive]
def fn2 : List DefG := [d_lifted, d_head_of, d_grains_of, d_grains, d__law_well, d__law_dip, d__law_pick, d__law_any, d__law_mixed, d__law_chained, d__law_drawn, d__law_grid, d__law_letters, d__law_times, d__law_press, d__law_state, d__law_is_low, d__law_low, d__law_fronts, d__law_is_row, d__law_put_together, d__law_is_head_right, d__law_right, d_law, d_Table_init, d_Table_eq, d_Change_init, d_Change_word, d_Change_backs, d_Change_eq, d_Positive_init, d_Positive_word, d_Positive_eq, d_Positive_mul]
def fn : List DefG := fn1 ++ fn2
def fa1 : List Fa := [.glo "is_whole", .glo "pair_sign", .glo "axis_of", .glo "all_axes", .glo "is_down", .glo "level_at", .glo "turned", .glo "vector_less", .glo "pressed_behind", .glo "pressed_front", .glo "images_of", .glo "down_buttons", .glo "word_by", .glo "is_button", .glo "is_right_row", .glo "first_wrong_row", .glo "weight_pairs", .glo "piece_from", .glo "pieces_of", .glo "check_table", .glo "wrong_in_word", .glo "check_word", .glo "check_same_table", .glo "change_made", .glo "check_change", .glo "led_behind", .glo "plain", .glo "stretch", .glo "tokens_for", .glo "completions", .glo "taken", .glo "front_buttons", .glo "first_word", .glo "positive_made", .glo "check_positive"]
def fa2 : List Fa := [.glo "lifted", .glo "head_of", .glo "grains_of", .glo "grains", .glo "_law_well", .glo "_law_dip", .glo "_law_pick", .glo "_law_any", .glo "_law_mixed", .glo "_law_chained", .glo "_law_drawn", .glo "_law_grid", .glo "_law_letters", .glo "_law_times", .glo "_law_press", .glo "_law_state", .glo "_law_is_low", .glo "_law_low", .glo "_law_fronts", .glo "_law_is_row", .glo "_law_put_together", .glo "_law_is_head_right", .glo "_law_right", .glo "law", .glo "NOUGHT", .glo "TIES", .glo "LOW", .glo "HIGH", .glo "Table", .glo "Change", .glo "Positive"]
def fa3 : List Fa := [.free "isinstance", .free "int", .free "bool", .free "tuple", .free "list", .free "range", .free "len", .free "enumerate", .free "zip", .free "sorted", .free "abs", .free "divmod", .free "max", .free "min", .free "all", .int "MOST_BUTTONS" 6, .int "MOST_WORD" 60]
def fa4 : List Fa := [.cls "Table", .mkr "Table", .cls "Change", .mkr "Change", .cls "Positive", .mkr "Positive", .noat "Table" "ties", .noat "Table" "size", .noat "Table" "pairs", .noat "Table" "pieces", .noat "Change" "table", .noat "Change" "_ahead", .noat "Change" "_back", .noat "Positive" "table", .noat "Positive" "_word"]
def fa : List Fa := fa1 ++ fa2 ++ fa3 ++ fa4
def lowL : List (Int × Int × Int) := [(0, -2, 0), (2, 0, 0), (3, -1, 0), (4, -1, 0), (5, 0, -1), (6, -1, 0)]
def highL : List (Int × Int × Int) := [(0, -2, 0), (2, 0, 0), (3, -1, 0), (4, -2, 0), (5, 0, -1), (6, -3, 0)]
def ex (K : PySem.W.Frag) : Bool := insB K "Table" && (insB K "Change" && (insB K "Positive" && (mulB K "Positive" && (prpB K "Change" "word" && (prpB K "Change" "backs" && (prpB K "Positive" "word" && (tupB K "NOUGHT" [.int 0, .int 0] && (tupB K "TIES" [.int 0, .int 2, .int 3, .int 4, .int 5, .int 6] && (dicB K "LOW" lowL && dicB K "HIGH" highL)))))))))
end KJ
end
section
set_option maxRecDepth 100000
set_option maxHeartbeats 0
namespace KJ
open PySem PySem.Spec PyProof.Rows L2 He KH
def ls1 : List Str := ["_wall", "__name__", "WrongValue", "InvalidNumber", "InvalidText", "InvalidButton", "NotATable", "NotAChange", "NotAPositive", "InvalidTies", "InvalidWord", "OtherTable", "MOST_BUTTONS", "MOST_WORD", "MOST_POWER", "NOUGHT", "is_whole", "is_between", "pair_product", "pair_sign"]
def ls2 : List Str := ["axis_of", "all_axes", "is_down", "level_at", "turned", "vector_less", "led_by", "pressed_behind", "pressed_front", "images_of", "down_buttons", "word_by", "DIGITS", "Golden", "goldens_of", "text_of", "whole_in", "golden_in", "TIES", "LOW"]
def ls3 : List Str := ["HIGH", "Table", "is_button", "is_right_row", "first_wrong_row", "weight_pairs", "piece_from", "pieces_of", "ties_in", "check_table", "wrong_in_word", "check_word", "check_same_table", "Change", "change_made", "check_change", "inverse_of", "product_of", "power_of", "led_behind"]
def ls4 : List Str := ["text_of_word", "word_in", "plain", "stretch", "tokens_for", "completions", "taken", "front_buttons", "first_word", "Positive", "positive_made", "check_positive", "lifted", "head_of", "grains_of", "grains", "_law_well", "_law_dip", "_law_pick", "_law_any"]
def ls5 : List Str := ["_law_mixed", "_law_chained", "_law_drawn", "_law_grid", "_law_letters", "_law_times", "_law_press", "_law_state", "_law_is_low", "_law_low", "_law_fronts", "_law_is_row", "_law_put_together", "_law_is_head_right", "_law_right"]
def ls : List Str := ls1 ++ ls2 ++ ls3 ++ ls4 ++ ls5
abbrev R : PySem.W.OpenRow := PySem.W.OpenLaw.row PySem.Challenge.rw_wallwalks_k74_whole_heads_of_products
/-- the places that are looked at (worked out once by a run of the top) -/
def asC : List Addr := [
  3, 6, 4, 21, 31, 51, 70, 89, 108, 127, 146, 165, 184, 196, 199, 206, 213, 220, 227, 232,
  237, 244, 251, 258, 263, 270, 275, 280, 287, 292, 299, 427, 436, 443, 448, 455, 456, 457, 464, 531,
  542, 547, 554, 559, 566, 573, 578, 585, 592, 599, 606, 737, 748, 755, 762, 767, 774, 781, 786, 791,
  798, 803, 808, 813, 820, 825, 832, 911, 922, 929, 936, 941, 948, 955, 962, 969, 976, 981, 988, 993,
  1000, 1005, 1012, 1019, 1026, 1033, 1040, 1045, 1052, 1057, 1064, 1071, 1076, 1081, 0, 20, 30, 50, 69, 88,
  107, 126, 145, 164, 183, 195, 205, 212, 219, 226, 231, 236, 243, 250, 257, 262, 269, 274, 279, 286,
  291, 298, 426, 435, 442, 447, 454, 458, 459, 460, 461, 462, 463, 465, 466, 467, 468, 469, 470, 530,
  541, 546, 553, 558, 565, 572, 577, 584, 591, 598, 605, 736, 747, 754, 761, 766, 773, 780, 785, 790,
  797, 802, 807, 812, 819, 824, 831, 910, 921, 928, 935, 940, 947, 954, 961, 968, 975, 980, 987, 992,
  999, 1004, 1011, 1018, 1025, 1032, 1039, 1044, 1051, 1056, 1063, 1070, 1075, 1080, 15, 16, 17, 18, 19, 29,
  32, 48, 49, 67, 68, 86, 87, 105, 106, 124, 125, 143, 144, 162, 163, 181, 182, 194, 200, 201,
  202, 203, 204, 207, 208, 209, 210, 211, 214, 215, 216, 217, 218, 221, 222, 223, 224, 225, 228, 229,
  230, 233, 234, 235, 238, 239, 240, 241, 242, 245, 246, 247, 248, 249, 252, 253, 254, 255, 256, 259,
  260, 261, 264, 265, 266, 267, 268, 271, 272, 273, 276, 277, 278, 281, 282, 283, 284, 285, 288, 289,
  290, 293, 294, 295, 296, 297, 314, 323, 332, 340, 347, 354, 361, 368, 375, 382, 389, 396, 403, 410,
  417, 424, 425, 428, 429, 432, 433, 434, 437, 438, 439, 440, 441, 444, 445, 446, 449, 450, 451, 452,
  453, 484, 493, 500, 508, 514, 521, 528, 529, 532, 533, 536, 537, 538, 539, 540, 543, 544, 545, 548,
  549, 550, 551, 552, 555, 556, 557, 560, 561, 562, 563, 564, 567, 568, 569, 570, 571, 574, 575, 576,
  579, 580, 581, 582, 583, 586, 587, 588, 589, 590, 593, 594, 595, 596, 597, 600, 601, 602, 603, 604,
  621, 630, 639, 647, 653, 661, 669, 677, 685, 692, 699, 706, 713, 720, 727, 734, 735, 738, 739, 742,
  743, 744, 745, 746, 749, 750, 751, 752, 753, 756, 757, 758, 759, 760, 763, 764, 765, 768, 769, 770,
  771, 772, 775, 776, 777, 778, 779, 782, 783, 784, 787, 788, 789, 792, 793, 794, 795, 796, 799, 800,
  801, 804, 805, 806, 809, 810, 811, 814, 815, 816, 817, 818, 821, 822, 823, 826, 827, 828, 829, 830,
  847, 855, 863, 871, 879, 887, 894, 901, 908, 909, 912, 913, 916, 917, 918, 919, 920, 923, 924, 925,
  926, 927, 930, 931, 932, 933, 934, 937, 938, 939, 942, 943, 944, 945, 946, 949, 950, 951, 952, 953,
  956, 957, 958, 959, 960, 963, 964, 965, 966, 967, 970, 971, 972, 973, 974, 977, 978, 979, 982, 983,
  984, 985, 986, 989, 990, 991, 994, 995, 996, 997, 998, 1001, 1002, 1003, 1006, 1007, 1008, 1009, 1010, 1013,
  1014, 1015, 1016, 1017, 1020, 1021, 1022, 1023, 1024, 1027, 1028, 1029, 1030, 1031, 1034, 1035, 1036, 1037, 1038, 1041,
  1042, 1043, 1046, 1047, 1048, 1049, 1050, 1053, 1054, 1055, 1058, 1059, 1060, 1061, 1062, 1065, 1066, 1067, 1068, 1069,
  1072, 1073, 1074, 1077, 1078, 1079, 47, 66, 85, 104, 123, 142, 161, 180, 313, 307, 321, 322, 331, 339,
  346, 353, 360, 367, 374, 381, 388, 395, 402, 409, 416, 423, 483, 491, 492, 499, 507, 513, 520, 527,
  620, 614, 628, 629, 638, 646, 652, 660, 668, 676, 684, 691, 698, 705, 712, 719, 726, 733, 846, 840,
  854, 862, 870, 878, 886, 893, 900, 907, 637, 667, 853]
abbrev hk : PySem.W.Hook := hookC asC fa fn ex
def ob (s : PySem.W.SharedT) : AlG := obsC asC fa fn ex (HandSHeadRun.getT s)
theorem ob_eq (s : PySem.W.SharedT) : ob s = hk.obs s.abs := obsC_eq (HandSHeadRun.getT_eq s)
abbrev qv : Program := PySem.W.view R.prog [103]
abbrev RunE (w : World) : Prop := HandSHeadRun.RunEq R qv hk ob 12000 ls w
noncomputable abbrev EndS (w : World) (os : OsState) : Option PySem.W.SharedT := HandSHeadRun.endF (HandSHeadRun.stepQ (HandSHeadRun.denQ HandSHeadRun.tabQ) R.prog w) 12000 R.prog w os
/-- the run's equation in two parts: each is a run of its own (memory) -/
abbrev RunA (w : World) : Prop := ∀ os : OsState, (EndS w os).map (fun s => (HandSHeadRun.looksF R.prog (PySem.W.boot_heap w.params) s.abs, HandSHeadRun.seenQ qv ls (importedModules R.prog.main.body) (fun s => PySem.W.xlAt qv [] s && PySem.W.recOk R.toRowW.records s) s.abs, (ob s).2)) = some (true, PySem.W.openGood qv ls, (hk.val w).2)
abbrev RunB (w : World) : Prop := ∀ os : OsState, (EndS w os).map (fun s => (ob s).1) = some (hk.val w).1
theorem run_join {α β γ δ ε : Type} {x : Option α} {f : α → β} {g : α → γ} {o : α → δ × ε} {a : β} {b : γ} {v : δ × ε} (hA : x.map (fun s => (f s, g s, (o s).2)) = some (a, b, v.2)) (hB : x.map (fun s => (o s).1) = some v.1) : x.map (fun s => (f s, g s, o s)) = some (a, b, v) := by
  cases x with
  | none => cases hA
  | some s =>
    simp only [Option.map_some, Option.some.injEq, Prod.mk.injEq] at hA hB ⊢
    exact ⟨hA.1, hA.2.1, Prod.ext hB hA.2.2⟩
theorem run_false_A (w : World) : RunA (w.withFollow "special-get-raises" false) := by
  intro os
  kernel_rfl
theorem run_false_B (w : World) : RunB (w.withFollow "special-get-raises" false) := by
  intro os
  kernel_rfl
theorem run_true_A (w : World) : RunA (w.withFollow "special-get-raises" true) := by
  intro os
  kernel_rfl
theorem run_true_B (w : World) : RunB (w.withFollow "special-get-raises" true) := by
  intro os
  kernel_rfl
theorem run_false (w : World) : RunE (w.withFollow "special-get-raises" false) := fun os => run_join (run_false_A w os) (run_false_B w os)
theorem run_true (w : World) : RunE (w.withFollow "special-get-raises" true) := fun os => run_join (run_true_A w os) (run_true_B w os)
theorem run (w : World) : RunE w := PySem.W.byRow2 "special-get-raises" run_false run_true w
end KJ
end
section
namespace KW
/-! ### golden numbers -/
structure G where
  a : Int
  b : Int
deriving DecidableEq, Repr

namespace G
theorem ext' {x y : G} (h1 : x.a = y.a) (h2 : x.b = y.b) : x = y := by
  cases x; cases y; simp_all

instance : OfNat G n := ⟨⟨n, 0⟩⟩
instance : NatCast G := ⟨fun n => ⟨n, 0⟩⟩
instance : IntCast G := ⟨fun n => ⟨n, 0⟩⟩
instance : Add G := ⟨fun x y => ⟨x.a + y.a, x.b + y.b⟩⟩
instance : Neg G := ⟨fun x => ⟨-x.a, -x.b⟩⟩
instance : Sub G := ⟨fun x y => ⟨x.a - y.a, x.b - y.b⟩⟩
instance : Mul G := ⟨fun x y => ⟨x.a * y.a + x.b * y.b, x.a * y.b + x.b * y.a + x.b * y.b⟩⟩
instance : SMul Nat G := ⟨fun n x => ⟨n * x.a, n * x.b⟩⟩
instance : SMul Int G := ⟨fun n x => ⟨n * x.a, n * x.b⟩⟩
def gold : G := ⟨0, 1⟩

@[simp] theorem zero_a : (0 : G).a = 0 := rfl
@[simp] theorem zero_b : (0 : G).b = 0 := rfl
@[simp] theorem one_a : (1 : G).a = 1 := rfl
@[simp] theorem one_b : (1 : G).b = 0 := rfl
@[simp] theorem add_a (x y : G) : (x + y).a = x.a + y.a := rfl
@[simp] theorem add_b (x y : G) : (x + y).b = x.b + y.b := rfl
@[simp] theorem neg_a (x : G) : (-x).a = -x.a := rfl
@[simp] theorem neg_b (x : G) : (-x).b = -x.b := rfl
@[simp] theorem sub_a (x y : G) : (x - y).a = x.a - y.a := rfl
@[simp] theorem sub_b (x y : G) : (x - y).b = x.b - y.b := rfl
@[simp] theorem mul_a (x y : G) : (x * y).a = x.a * y.a + x.b * y.b := rfl
@[simp] theorem mul_b (x y : G) : (x * y).b = x.a * y.b + x.b * y.a + x.b * y.b := rfl

def npow' (x : G) : Nat → G
  | 0 => 1
  | n + 1 => npow' x n * x
instance : HPow G Nat G := ⟨npow'⟩

instance : Lean.Grind.CommRing G where
  nsmul := ⟨fun n x => ⟨n * x.a, n * x.b⟩⟩
  zsmul := ⟨fun n x => ⟨n * x.a, n * x.b⟩⟩
  add_zero x := by apply ext' <;> simp
  add_comm x y := by apply ext' <;> simp [Int.add_comm]
  add_assoc x y z := by apply ext' <;> simp [Int.add_assoc]
  mul_assoc x y z := by apply ext' <;> simp <;> grind
  mul_one x := by apply ext' <;> simp
  one_mul x := by apply ext' <;> simp
  left_distrib x y z := by apply ext' <;> simp <;> grind
  right_distrib x y z := by apply ext' <;> simp <;> grind
  zero_mul x := by apply ext' <;> simp
  mul_zero x := by apply ext' <;> simp
  sub_eq_add_neg x y := by apply ext' <;> simp <;> omega
  neg_add_cancel x := by apply ext' <;> simp <;> omega
  mul_comm x y := by apply ext' <;> simp <;> grind
  pow_zero x := rfl
  pow_succ x n := rfl
  ofNat_succ n := by
    apply ext'
    · show ((n + 1 : Nat) : Int) = (n : Int) + 1
      omega
    · rfl
  ofNat_eq_natCast n := rfl
  nsmul_eq_natCast_mul n x := by
    apply ext'
    · show (n : Int) * x.a = (n : Int) * x.a + 0 * x.b
      omega
    · show (n : Int) * x.b = (n : Int) * x.b + 0 * x.a + 0 * x.b
      omega
  intCast_ofNat n := rfl
  intCast_neg n := by apply ext' <;> rfl
  zsmul_natCast_eq_nsmul n x := rfl
  neg_zsmul i x := by
    apply ext'
    · show (-i) * x.a = - (i * x.a)
      exact Int.neg_mul ..
    · show (-i) * x.b = - (i * x.b)
      exact Int.neg_mul ..

theorem mul_comm' (x y : G) : x * y = y * x := by grind
theorem gold_sq : gold * gold = gold + 1 := rfl

end G

/-! the cone of the numbers that are not below nought -/
def sh (x : G) : G := ⟨x.b, x.a + x.b⟩
theorem sh_eq (x : G) : sh x = G.gold * x := by
  apply G.ext' <;> simp [sh, G.gold]
def shn : Nat → G → G
  | 0, x => x
  | n + 1, x => shn n (sh x)
theorem shn_add (n : Nat) : ∀ x y, shn n (x + y) = shn n x + shn n y := by
  induction n with
  | zero => intro x y; rfl
  | succ n ih =>
    intro x y
    have : sh (x + y) = sh x + sh y := by rw [sh_eq, sh_eq, sh_eq]; grind
    show shn n (sh (x + y)) = _
    rw [this, ih]; rfl
theorem shn_mul (n : Nat) : ∀ x y, shn n (x * y) = shn n x * y := by
  induction n with
  | zero => intro x y; rfl
  | succ n ih =>
    intro x y
    have : sh (x * y) = sh x * y := by rw [sh_eq, sh_eq]; grind
    show shn n (sh (x * y)) = _
    rw [this, ih]; rfl
theorem shn_neg (n : Nat) : ∀ x, shn n (-x) = - shn n x := by
  induction n with
  | zero => intro x; rfl
  | succ n ih =>
    intro x
    have : sh (-x) = - sh x := by rw [sh_eq, sh_eq]; grind
    show shn n (sh (-x)) = _
    rw [this, ih]; rfl
theorem shn_shn (n m : Nat) : ∀ x, shn n (shn m x) = shn (m + n) x := by
  induction m with
  | zero => intro x; rw [Nat.zero_add]; rfl
  | succ m ih =>
    intro x
    show shn n (shn m (sh x)) = _
    rw [ih, show m + 1 + n = (m + n) + 1 by omega]; rfl

def NN (x : G) : Prop := ∃ n, 0 ≤ (shn n x).a ∧ 0 ≤ (shn n x).b
def cc (x : G) : Prop := 0 ≤ x.a ∧ 0 ≤ x.b
theorem cc_sh {x : G} (h : cc x) : cc (sh x) := by
  unfold cc sh at *; simp at *; omega
theorem cc_shn (n : Nat) : ∀ {x : G}, cc x → cc (shn n x) := by
  induction n with
  | zero => intro x h; exact h
  | succ n ih => intro x h; exact ih (cc_sh h)
theorem NN.of_cc {x : G} (h : cc x) : NN x := ⟨0, h⟩
theorem NN.sh {x : G} (h : NN x) : NN (sh x) := by
  obtain ⟨n, h⟩ := h
  refine ⟨n, ?_⟩
  have := cc_sh h
  have e : KW.sh (shn n x) = shn n (KW.sh x) := by
    have := shn_shn 1 n x
    have h2 := shn_shn n 1 x
    simp [shn] at this h2
    rw [this, h2, Nat.add_comm]
  rw [e] at this; exact this
theorem NN.add {x y : G} (hx : NN x) (hy : NN y) : NN (x + y) := by
  obtain ⟨n, hx⟩ := hx
  obtain ⟨m, hy⟩ := hy
  have h1 : cc (shn (n + m) x) := by rw [← shn_shn]; exact cc_shn m hx
  have h2 : cc (shn (n + m) y) := by rw [Nat.add_comm, ← shn_shn]; exact cc_shn n hy
  refine ⟨n + m, ?_⟩
  rw [shn_add]
  unfold cc at *
  simp; omega
theorem cc_mul {x y : G} (hx : cc x) (hy : cc y) : cc (x * y) := by
  unfold cc at *
  have h1 := Int.mul_nonneg hx.1 hy.1
  have h2 := Int.mul_nonneg hx.1 hy.2
  have h3 := Int.mul_nonneg hx.2 hy.1
  have h4 := Int.mul_nonneg hx.2 hy.2
  simp; omega
theorem NN.mul {x y : G} (hx : NN x) (hy : NN y) : NN (x * y) := by
  obtain ⟨n, hx⟩ := hx
  obtain ⟨m, hy⟩ := hy
  refine ⟨n + m, ?_⟩
  have e : shn (n + m) (x * y) = shn n x * shn m y := by
    rw [Nat.add_comm, ← shn_shn, G.mul_comm' x y, shn_mul, G.mul_comm' (shn m y) x, shn_mul]
  rw [e]; exact cc_mul hx hy
theorem sh_inj {x : G} (h : sh x = 0) : x = 0 := by
  have h1 := congrArg G.a h
  have h2 := congrArg G.b h
  apply G.ext' <;> simp [sh] at * <;> omega
theorem shn_inj (n : Nat) : ∀ {x : G}, shn n x = 0 → x = 0 := by
  induction n with
  | zero => intro x h; exact h
  | succ n ih => intro x h; exact sh_inj (ih h)
theorem NN.anti {x : G} (hx : NN x) (hy : NN (-x)) : x = 0 := by
  obtain ⟨n, hx⟩ := hx
  obtain ⟨m, hy⟩ := hy
  have h1 : cc (shn (n + m) x) := by rw [← shn_shn]; exact cc_shn m hx
  have h2 : cc (shn (n + m) (-x)) := by rw [Nat.add_comm, ← shn_shn]; exact cc_shn n hy
  rw [shn_neg] at h2
  apply shn_inj (n + m)
  unfold cc at *
  simp at h2
  apply G.ext' <;> simp <;> omega
theorem NN.total_aux (k : Nat) : ∀ x : G, x.a.natAbs + x.b.natAbs ≤ k → NN x ∨ NN (-x) := by
  induction k with
  | zero =>
    intro x h
    left; apply NN.of_cc; unfold cc; omega
  | succ k ih =>
    intro x h
    by_cases h1 : cc x
    · exact .inl (.of_cc h1)
    by_cases h2 : cc (-x)
    · exact .inr (.of_cc h2)
    have back : ∀ y : G, NN (KW.sh y) → NN y := fun y ⟨n, hn⟩ => ⟨n + 1, hn⟩
    have e : KW.sh (-x) = - KW.sh x := by rw [sh_eq, sh_eq]; grind
    by_cases h3 : cc (KW.sh x)
    · exact .inl (back _ (.of_cc h3))
    by_cases h4 : cc (- KW.sh x)
    · right; apply back; rw [e]; exact .of_cc h4
    have := ih (KW.sh x) (by
      unfold cc KW.sh at *
      simp at *
      omega)
    rcases this with h | h
    · exact .inl (back _ h)
    · right; apply back; rw [e]; exact h
theorem NN.total (x : G) : NN x ∨ NN (-x) := NN.total_aux _ x (Nat.le_refl _)
theorem NN.zero : NN 0 := .of_cc ⟨by decide, by decide⟩
theorem NN.one : NN 1 := .of_cc ⟨by decide, by decide⟩
theorem NN.ofNat (n : Nat) : NN (OfNat.ofNat n) := .of_cc ⟨by show (0:Int) ≤ n; omega, by show (0:Int) ≤ 0; omega⟩
theorem NN.gold : NN G.gold := .of_cc ⟨by decide, by decide⟩

/-- the test of the sign -/
def isLow (x : G) : Bool :=
  if (2 * x.a + x.b) * (2 * x.a + x.b) ≥ 5 * x.b * x.b then decide (2 * x.a + x.b < 0) else decide (x.b < 0)

theorem norm_zero_aux (k : Nat) : ∀ a b : Int, a.natAbs + b.natAbs ≤ k → a * a + a * b = b * b → a = 0 ∧ b = 0 := by
  induction k with
  | zero => intro a b h _; omega
  | succ k ih =>
    intro a b h e
    by_cases hz : a = 0 ∧ b = 0
    · exact hz
    rcases Int.emod_two_eq a with ha | ha <;> rcases Int.emod_two_eq b with hb | hb
    · obtain ⟨c, rfl⟩ : ∃ c, a = 2 * c := ⟨a / 2, by omega⟩
      obtain ⟨d, rfl⟩ : ∃ d, b = 2 * d := ⟨b / 2, by omega⟩
      have := ih c d (by omega) (by grind)
      omega
    · obtain ⟨c, rfl⟩ : ∃ c, a = 2 * c := ⟨a / 2, by omega⟩
      obtain ⟨d, rfl⟩ : ∃ d, b = 2 * d + 1 := ⟨b / 2, by omega⟩
      exfalso
      have e2 : 4 * (c * c) + 4 * (c * d) + 2 * c = 4 * (d * d) + 4 * d + 1 := by grind
      omega
    · obtain ⟨c, rfl⟩ : ∃ c, a = 2 * c + 1 := ⟨a / 2, by omega⟩
      obtain ⟨d, rfl⟩ : ∃ d, b = 2 * d := ⟨b / 2, by omega⟩
      exfalso
      have e2 : 4 * (c * c) + 4 * c + 1 + 4 * (c * d) + 2 * d = 4 * (d * d) := by grind
      omega
    · obtain ⟨c, rfl⟩ : ∃ c, a = 2 * c + 1 := ⟨a / 2, by omega⟩
      obtain ⟨d, rfl⟩ : ∃ d, b = 2 * d + 1 := ⟨b / 2, by omega⟩
      exfalso
      have e2 : 4 * (c * c) + 4 * c + 1 + (4 * (c * d) + 2 * c + 2 * d + 1) = 4 * (d * d) + 4 * d + 1 := by grind
      omega

theorem sq_nn (a : Int) : 0 ≤ a * a := by
  rcases Int.le_total 0 a with h | h
  · exact Int.mul_nonneg h h
  · have := Int.mul_nonneg (Int.neg_nonneg_of_nonpos h) (Int.neg_nonneg_of_nonpos h)
    grind

theorem low_cc {x : G} (h : cc x) : isLow x = false := by
  unfold cc at h; unfold isLow
  split <;> simp <;> omega
theorem low_step {x : G} (h : isLow (sh x) = false) : isLow x = false := by
  by_cases hz : x.a * x.a + x.a * x.b = x.b * x.b
  · have := norm_zero_aux _ x.a x.b (Nat.le_refl _) hz
    apply low_cc; unfold cc; omega
  have key : (x.b) * (x.b) + x.b * (x.a + x.b) - (x.a + x.b) * (x.a + x.b) = -(x.a * x.a + x.a * x.b - x.b * x.b) := by grind
  unfold isLow sh at *
  simp only [] at *
  obtain ⟨a, b⟩ := x
  simp only [] at *
  have e1 : (2 * a + b) * (2 * a + b) = 5 * b * b + 4 * (a * a + a * b - b * b) := by grind
  have e2 : (2 * b + (a + b)) * (2 * b + (a + b)) = 5 * (a + b) * (a + b) - 4 * (a * a + a * b - b * b) := by grind
  by_cases hp : a * a + a * b < b * b
  · have c1 : ¬ (2 * a + b) * (2 * a + b) ≥ 5 * b * b := by omega
    have c2 : (2 * b + (a + b)) * (2 * b + (a + b)) ≥ 5 * (a + b) * (a + b) := by omega
    rw [if_neg c1]; rw [if_pos c2] at h
    simp at *
    -- b < 0 impossible
    apply Int.not_lt.mp
    intro hb
    have ha : a > 0 := by omega
    have h3 : a ≥ 3 * (-b) := by omega
    have h4 : a + b ≥ 2 * (-b) := by omega
    have h5 : a * (a + b) ≥ (3 * (-b)) * (2 * (-b)) := Int.mul_le_mul h3 h4 (by omega) (by omega)
    have h6 : 0 < b * b := Int.mul_pos_of_neg_of_neg hb hb
    grind
  · have c1 : (2 * a + b) * (2 * a + b) ≥ 5 * b * b := by omega
    have c2 : ¬ (2 * b + (a + b)) * (2 * b + (a + b)) ≥ 5 * (a + b) * (a + b) := by omega
    rw [if_pos c1]; rw [if_neg c2] at h
    simp at *
    apply Int.not_lt.mp
    intro hb
    have ha : a < 0 := by omega
    have h5 : a * (a + b) ≤ 0 := Int.mul_nonpos_of_nonpos_of_nonneg (by omega) (by omega)
    have h6 : 0 ≤ b * b := sq_nn b
    grind
theorem NN.low {x : G} (h : NN x) : isLow x = false := by
  obtain ⟨n, h⟩ := h
  induction n generalizing x with
  | zero => exact low_cc h
  | succ n ih => exact low_step (ih h)
theorem low_neg {x : G} (h1 : isLow x = false) (h2 : isLow (-x) = false) : x = 0 := by
  unfold isLow at *
  obtain ⟨a, b⟩ := x
  simp only [G.neg_a, G.neg_b] at *
  have e0 : (2 * -a + -b) * (2 * -a + -b) = (2 * a + b) * (2 * a + b) := by grind
  have e1 : 5 * -b * -b = 5 * b * b := by grind
  rw [e0, e1] at h2
  split at h1
  · rename_i hc
    rw [if_pos hc] at h2
    simp at h1 h2
    have : 2 * a + b = 0 := by omega
    rw [this] at hc
    have hb : b = 0 := by
      by_cases hb : b = 0
      · exact hb
      · exfalso
        have : 0 < b * b := by
          rcases Int.lt_or_gt_of_ne hb with h | h
          · exact Int.mul_pos_of_neg_of_neg h h
          · exact Int.mul_pos h h
        grind
    apply G.ext' <;> simp <;> omega
  · rename_i hc
    rw [if_neg hc] at h2
    simp at h1 h2
    have : b = 0 := by omega
    subst this
    exfalso; apply hc
    have := sq_nn (2 * a + 0)
    omega
/-- x is below nought exactly if the test tells it -/
theorem low_iff (x : G) : isLow x = true ↔ (NN (-x) ∧ x ≠ 0) := by
  constructor
  · intro h
    rcases NN.total x with h1 | h1
    · rw [NN.low h1] at h; cases h
    · refine ⟨h1, fun e => ?_⟩
      subst e
      rw [NN.low NN.zero] at h; cases h
  · intro ⟨h1, h2⟩
    cases h : isLow x with
    | true => rfl
    | false => exact absurd (low_neg h (NN.low h1)) h2

def PP (x : G) : Prop := NN x ∧ x ≠ 0
def c1 (x : G) : Prop := 0 < x.a ∧ 0 < x.b
theorem PP.strict {x : G} (h : PP x) : ∃ n, c1 (shn n x) := by
  obtain ⟨⟨n, hn⟩, h0⟩ := h
  refine ⟨n + 2, ?_⟩
  rw [← shn_shn]
  have hz : shn n x ≠ 0 := fun e => h0 (shn_inj n e)
  have : ¬ ((shn n x).a = 0 ∧ (shn n x).b = 0) := fun e => hz (G.ext' e.1 e.2)
  show c1 (sh (sh (shn n x)))
  unfold c1 sh
  simp
  omega
theorem c1.sh {x : G} (h : c1 x) : c1 (sh x) := by
  unfold c1 KW.sh at *; simp at *; omega
theorem c1.shn (n : Nat) : ∀ {x : G}, c1 x → c1 (shn n x) := by
  induction n with
  | zero => intro x h; exact h
  | succ n ih => intro x h; exact ih (c1.sh h)
theorem PP.of_c1 {x : G} {n : Nat} (h : c1 (shn n x)) : PP x := by
  refine ⟨⟨n, by unfold c1 at h; omega⟩, fun e => ?_⟩
  subst e
  have : shn n 0 = 0 := by
    have := shn_mul n 0 0
    have e0 : (0 : G) * 0 = 0 := rfl
    rw [e0] at this
    rw [this]; exact Lean.Grind.Semiring.mul_zero _
  rw [this] at h
  unfold c1 at h; simp at h
theorem PP.mul {x y : G} (hx : PP x) (hy : PP y) : PP (x * y) := by
  obtain ⟨n, hx⟩ := hx.strict
  obtain ⟨m, hy⟩ := hy.strict
  apply PP.of_c1 (n := n + m)
  have e : KW.shn (n + m) (x * y) = KW.shn n x * KW.shn m y := by
    rw [Nat.add_comm, ← shn_shn, G.mul_comm' x y, shn_mul, G.mul_comm' (KW.shn m y) x, shn_mul]
  rw [e]
  unfold c1 at *
  have h1 := Int.mul_pos hx.1 hy.1
  have h2 := Int.mul_pos hx.1 hy.2
  have h3 := Int.mul_pos hx.2 hy.1
  have h4 := Int.mul_pos hx.2 hy.2
  simp; omega
theorem PP.nn {x : G} (h : PP x) : NN x := h.1
theorem PP.add_nn {x y : G} (hx : PP x) (hy : NN y) : PP (x + y) := by
  refine ⟨hx.1.add hy, fun e => hx.2 ?_⟩
  have : -x = y := by grind
  exact NN.anti hx.1 (this ▸ hy)
theorem PP.nn_add {x y : G} (hx : NN x) (hy : PP y) : PP (x + y) := by
  have : x + y = y + x := by grind
  rw [this]; exact hy.add_nn hx
theorem PP.one : PP 1 := ⟨NN.one, by decide⟩
theorem PP.not_neg {x : G} (h : PP x) : ¬ NN (-x) := fun e => h.2 (NN.anti h.1 e)
theorem low_pp (x : G) : isLow x = true ↔ PP (-x) := by
  rw [low_iff]
  constructor
  · intro ⟨h1, h2⟩
    exact ⟨h1, fun e => h2 (by grind)⟩
  · intro ⟨h1, h2⟩
    exact ⟨h1, fun e => h2 (by grind)⟩
end KW
end
section
namespace KW
/-! ### words, swaps, drops -/
abbrev Wd := List Nat
def alt (s t : Nat) : Nat → Wd
  | 0 => []
  | k + 1 => s :: alt t s k
@[simp] theorem alt_length (k : Nat) : ∀ s t, (alt s t k).length = k := by
  induction k with
  | zero => intro s t; rfl
  | succ k ih => intro s t; simp [alt, ih]
theorem alt_mem (k : Nat) : ∀ s t x, x ∈ alt s t k → x = s ∨ x = t := by
  induction k with
  | zero => intro s t x h; cases h
  | succ k ih =>
    intro s t x h
    simp only [alt, List.mem_cons] at h
    rcases h with h | h
    · exact .inl h
    · exact (ih t s x h).symm
/-- the last letter: of an alternating word of k + 1 letters -/
theorem alt_last (k : Nat) : ∀ s t, alt s t (k + 1) = alt s t k ++ [if k % 2 = 0 then s else t] := by
  induction k with
  | zero => intro s t; rfl
  | succ k ih =>
    intro s t
    show s :: alt t s (k + 1) = s :: alt t s k ++ _
    rw [ih]
    have : (if k % 2 = 0 then t else s) = (if (k + 1) % 2 = 0 then s else t) := by
      split <;> split <;> first | rfl | omega
    rw [this]; rfl
theorem alt_rev (k : Nat) : ∀ s t, (alt s t k).reverse = if k % 2 = 0 then alt t s k else alt s t k := by
  induction k with
  | zero => intro s t; rfl
  | succ k ih =>
    intro s t
    show (s :: alt t s k).reverse = _
    rw [List.reverse_cons, ih]
    split <;> rename_i h
    · rw [if_neg (by omega), alt_last, if_pos h]
    · rw [if_pos (by omega), alt_last, if_neg h]

/-- ties: what is asked of them -/
structure Ties (m : Nat → Nat → Nat) : Prop where
  symm : ∀ s t, m s t = m t s
  ok : ∀ s t, s ≠ t → m s t = 0 ∨ m s t = 2 ∨ m s t = 3 ∨ m s t = 4 ∨ m s t = 5 ∨ m s t = 6

section
variable (m : Nat → Nat → Nat)
/-- swaps alone -/
inductive Br : Wd → Wd → Prop
  | refl (w) : Br w w
  | symm {w x} : Br w x → Br x w
  | trans {w x y} : Br w x → Br x y → Br w y
  | swap (u v s t) : s ≠ t → m s t ≠ 0 → Br (u ++ alt s t (m s t) ++ v) (u ++ alt t s (m s t) ++ v)
/-- swaps, drops, adds -/
inductive Gp : Wd → Wd → Prop
  | refl (w) : Gp w w
  | symm {w x} : Gp w x → Gp x w
  | trans {w x y} : Gp w x → Gp x y → Gp w y
  | swap (u v s t) : s ≠ t → m s t ≠ 0 → Gp (u ++ alt s t (m s t) ++ v) (u ++ alt t s (m s t) ++ v)
  | drop (u v s) : Gp (u ++ [s, s] ++ v) (u ++ v)
end

variable {m : Nat → Nat → Nat}
theorem Br.gp {w x : Wd} (h : Br m w x) : Gp m w x := by
  induction h with
  | refl w => exact .refl w
  | symm _ ih => exact .symm ih
  | trans _ _ ih1 ih2 => exact .trans ih1 ih2
  | swap u v s t h1 h2 => exact .swap u v s t h1 h2
theorem Br.ctx (a b : Wd) {w x : Wd} (h : Br m w x) : Br m (a ++ w ++ b) (a ++ x ++ b) := by
  induction h with
  | refl w => exact .refl _
  | symm _ ih => exact .symm ih
  | trans _ _ ih1 ih2 => exact .trans ih1 ih2
  | swap u v s t h1 h2 =>
    have := Br.swap (m := m) (a ++ u) (v ++ b) s t h1 h2
    simp only [List.append_assoc] at this ⊢
    exact this
theorem Gp.ctx (a b : Wd) {w x : Wd} (h : Gp m w x) : Gp m (a ++ w ++ b) (a ++ x ++ b) := by
  induction h with
  | refl w => exact .refl _
  | symm _ ih => exact .symm ih
  | trans _ _ ih1 ih2 => exact .trans ih1 ih2
  | swap u v s t h1 h2 =>
    have := Gp.swap (m := m) (a ++ u) (v ++ b) s t h1 h2
    simp only [List.append_assoc] at this ⊢
    exact this
  | drop u v s =>
    have := Gp.drop (m := m) (a ++ u) (v ++ b) s
    simp only [List.append_assoc] at this ⊢
    exact this
theorem Br.app {w x y z : Wd} (h1 : Br m w x) (h2 : Br m y z) : Br m (w ++ y) (x ++ z) := by
  have a := Br.ctx [] y h1
  have b := Br.ctx x [] h2
  simp only [List.nil_append, List.append_nil] at a b
  exact a.trans b
theorem Gp.app {w x y z : Wd} (h1 : Gp m w x) (h2 : Gp m y z) : Gp m (w ++ y) (x ++ z) := by
  have a := Gp.ctx [] y h1
  have b := Gp.ctx x [] h2
  simp only [List.nil_append, List.append_nil] at a b
  exact a.trans b
theorem Br.cons (s : Nat) {w x : Wd} (h : Br m w x) : Br m (s :: w) (s :: x) := Br.app (.refl [s]) h
theorem Gp.cons (s : Nat) {w x : Wd} (h : Gp m w x) : Gp m (s :: w) (s :: x) := Gp.app (.refl [s]) h
theorem Br.len {w x : Wd} (h : Br m w x) : w.length = x.length := by
  induction h with
  | refl w => rfl
  | symm _ ih => exact ih.symm
  | trans _ _ ih1 ih2 => exact ih1.trans ih2
  | swap u v s t h1 h2 => simp
theorem Gp.parity {w x : Wd} (h : Gp m w x) : w.length % 2 = x.length % 2 := by
  induction h with
  | refl w => rfl
  | symm _ ih => exact ih.symm
  | trans _ _ ih1 ih2 => exact ih1.trans ih2
  | swap u v s t h1 h2 => simp
  | drop u v s => simp; omega
/-- the letters of a word stay (for words of one positive) -/
theorem Br.mem {w x : Wd} (h : Br m w x) (T : Ties m) (z : Nat) : z ∈ w ↔ z ∈ x := by
  induction h with
  | refl w => exact Iff.rfl
  | symm _ ih => exact ih.symm
  | trans _ _ ih1 ih2 => exact ih1.trans ih2
  | swap u v s t h1 h2 =>
    have key : ∀ k s t, 2 ≤ k → (z ∈ alt s t k ↔ z = s ∨ z = t) := by
      intro k s t hk
      constructor
      · exact alt_mem k s t z
      · intro h
        obtain ⟨j, rfl⟩ : ∃ j, k = j + 2 := ⟨k - 2, by omega⟩
        simp only [alt, List.mem_cons]
        rcases h with h | h <;> simp [h]
    have hk : 2 ≤ m s t := by
      rcases T.ok s t h1 with h | h | h | h | h | h <;> omega
    simp only [List.mem_append, key _ s t hk, key _ t s hk]
    constructor <;> (intro h; rcases h with (h | h | h) | h <;> simp [h])
theorem Br.rev {w x : Wd} (h : Br m w x) : Br m w.reverse x.reverse := by
  induction h with
  | refl w => exact .refl _
  | symm _ ih => exact .symm ih
  | trans _ _ ih1 ih2 => exact .trans ih1 ih2
  | swap u v s t h1 h2 =>
    simp only [List.reverse_append, alt_rev]
    have := Br.swap (m := m) v.reverse u.reverse s t h1 h2
    split
    · simp only [List.append_assoc] at this ⊢; exact this.symm
    · simp only [List.append_assoc] at this ⊢; exact this
theorem Gp.rev {w x : Wd} (h : Gp m w x) : Gp m w.reverse x.reverse := by
  induction h with
  | refl w => exact .refl _
  | symm _ ih => exact .symm ih
  | trans _ _ ih1 ih2 => exact .trans ih1 ih2
  | swap u v s t h1 h2 =>
    simp only [List.reverse_append, alt_rev]
    have := Gp.swap (m := m) v.reverse u.reverse s t h1 h2
    split
    · simp only [List.append_assoc] at this ⊢; exact this.symm
    · simp only [List.append_assoc] at this ⊢; exact this
  | drop u v s =>
    have := Gp.drop (m := m) v.reverse u.reverse s
    simp only [List.reverse_append, List.append_assoc] at this ⊢; exact this
theorem Gp.inv_right (w : Wd) : Gp m (w ++ w.reverse) [] := by
  induction w with
  | nil => exact .refl _
  | cons s w ih =>
    have h1 : Gp m (s :: w ++ (s :: w).reverse) ([s] ++ [] ++ [s]) := by
      have := Gp.ctx [s] [s] ih
      simp only [List.reverse_cons, List.append_assoc, List.cons_append, List.nil_append] at this ⊢
      exact this
    exact h1.trans (by simpa using Gp.drop (m := m) [] [] s)
theorem Gp.inv_left (w : Wd) : Gp m (w.reverse ++ w) [] := by
  have := Gp.inv_right (m := m) w.reverse
  rwa [List.reverse_reverse] at this

/-! ### the group of changes -/
variable (m) in
def gpS : Setoid Wd := ⟨Gp m, ⟨.refl, .symm, .trans⟩⟩
variable (m) in
def W : Type := Quotient (gpS m)
namespace W
def mk (m : Nat → Nat → Nat) (w : Wd) : W m := Quotient.mk (gpS m) w
theorem mk_eq {w x : Wd} : mk m w = mk m x ↔ Gp m w x := ⟨fun h => Quotient.exact h, fun h => Quotient.sound h⟩
theorem ind (x : W m) : ∃ w, mk m w = x := Quotient.inductionOn x fun w => ⟨w, rfl⟩
instance : Mul (W m) := ⟨Quotient.lift₂ (fun a b => mk m (a ++ b)) fun _ _ _ _ h1 h2 => mk_eq.2 (Gp.app h1 h2)⟩
instance : Inv (W m) := ⟨Quotient.lift (fun a => mk m a.reverse) fun _ _ h => mk_eq.2 (Gp.rev h)⟩
instance : OfNat (W m) 1 := ⟨mk m []⟩
def g (m : Nat → Nat → Nat) (s : Nat) : W m := mk m [s]
theorem mk_append (a b : Wd) : mk m (a ++ b) = mk m a * mk m b := rfl
theorem mk_cons (s : Nat) (b : Wd) : mk m (s :: b) = g m s * mk m b := rfl
theorem mk_nil : mk m [] = 1 := rfl
theorem mk_rev (a : Wd) : mk m a.reverse = (mk m a)⁻¹ := rfl
theorem assoc (x y z : W m) : x * y * z = x * (y * z) := by
  obtain ⟨a, rfl⟩ := ind x; obtain ⟨b, rfl⟩ := ind y; obtain ⟨c, rfl⟩ := ind z
  rw [← mk_append, ← mk_append, ← mk_append, ← mk_append, List.append_assoc]
@[simp] theorem one_mul (x : W m) : 1 * x = x := by
  obtain ⟨a, rfl⟩ := ind x; rfl
@[simp] theorem mul_one (x : W m) : x * 1 = x := by
  obtain ⟨a, rfl⟩ := ind x
  rw [← mk_nil, ← mk_append, List.append_nil]
@[simp] theorem inv_mul (x : W m) : x⁻¹ * x = 1 := by
  obtain ⟨a, rfl⟩ := ind x
  rw [← mk_rev, ← mk_append]; exact mk_eq.2 (Gp.inv_left a)
@[simp] theorem mul_inv (x : W m) : x * x⁻¹ = 1 := by
  obtain ⟨a, rfl⟩ := ind x
  rw [← mk_rev, ← mk_append]; exact mk_eq.2 (Gp.inv_right a)
@[simp] theorem inv_mul_c (x y : W m) : x⁻¹ * (x * y) = y := by rw [← assoc, inv_mul, one_mul]
@[simp] theorem mul_inv_c (x y : W m) : x * (x⁻¹ * y) = y := by rw [← assoc, mul_inv, one_mul]
theorem cancel {x y z : W m} (h : x * y = x * z) : y = z := by
  rw [← inv_mul_c x y, h, inv_mul_c]
theorem cancel_r {x y z : W m} (h : y * x = z * x) : y = z := by
  have := congrArg (· * x⁻¹) h
  simpa [assoc] using this
@[simp] theorem mul_inv_rev (x y : W m) : (x * y)⁻¹ = y⁻¹ * x⁻¹ := by
  apply cancel (x := x * y); rw [mul_inv, assoc, mul_inv_c, mul_inv]
@[simp] theorem inv_inv (x : W m) : x⁻¹⁻¹ = x := by
  apply cancel (x := x⁻¹); rw [mul_inv, inv_mul]
@[simp] theorem inv_one : (1 : W m)⁻¹ = 1 := by
  apply cancel (x := (1 : W m)); simp
@[simp] theorem g_g (s : Nat) : g m s * g m s = 1 := mk_eq.2 (by simpa using Gp.drop (m := m) [] [] s)
@[simp] theorem g_g_c (s : Nat) (x : W m) : g m s * (g m s * x) = x := by rw [← assoc, g_g, one_mul]
@[simp] theorem g_inv (s : Nat) : (g m s)⁻¹ = g m s := by
  apply cancel (x := g m s); rw [mul_inv, g_g]

/-! the length -/
theorem len_ex (x : W m) : ∃ n, (∃ w, mk m w = x ∧ w.length = n) ∧ ∀ w, mk m w = x → n ≤ w.length := by
  obtain ⟨w, hw⟩ := ind x
  have : ∀ k w, mk m w = x → w.length ≤ k → ∃ n, (∃ w, mk m w = x ∧ w.length = n) ∧ ∀ w, mk m w = x → n ≤ w.length := by
    intro k
    induction k with
    | zero =>
      intro w hw hl
      exact ⟨0, ⟨w, hw, by omega⟩, fun _ _ => by omega⟩
    | succ k ih =>
      intro w hw hl
      by_cases h : ∃ w', mk m w' = x ∧ w'.length ≤ k
      · obtain ⟨w', h1, h2⟩ := h
        exact ih w' h1 h2
      · refine ⟨w.length, ⟨w, hw, rfl⟩, fun w' hw' => ?_⟩
        apply Nat.le_of_not_lt
        intro hlt
        exact h ⟨w', hw', by omega⟩
  exact this _ w hw (Nat.le_refl _)
noncomputable def len (x : W m) : Nat := (len_ex x).choose
theorem len_red (x : W m) : ∃ w, mk m w = x ∧ w.length = len x := (len_ex x).choose_spec.1
theorem len_le {x : W m} {w : Wd} (h : mk m w = x) : len x ≤ w.length := (len_ex x).choose_spec.2 w h
theorem len_mk (w : Wd) : len (mk m w) ≤ w.length := len_le rfl
theorem len_mul (x y : W m) : len (x * y) ≤ len x + len y := by
  obtain ⟨a, rfl, ha⟩ := len_red x
  obtain ⟨b, rfl, hb⟩ := len_red y
  rw [← ha, ← hb, ← List.length_append]
  exact len_mk _
@[simp] theorem len_inv (x : W m) : len x⁻¹ = len x := by
  have : ∀ y : W m, len y⁻¹ ≤ len y := by
    intro y
    obtain ⟨a, rfl, ha⟩ := len_red y
    rw [← ha, ← mk_rev, ← List.length_reverse]
    exact len_mk _
  exact Nat.le_antisymm (this x) (by have := this x⁻¹; rwa [inv_inv] at this)
theorem len_parity (w : Wd) : len (mk m w) % 2 = w.length % 2 := by
  obtain ⟨a, h, ha⟩ := len_red (mk m w)
  rw [← ha]
  exact (mk_eq.1 h).parity
@[simp] theorem len_one : len (1 : W m) = 0 := Nat.le_zero.1 (len_mk [])
theorem len_zero {x : W m} (h : len x = 0) : x = 1 := by
  obtain ⟨a, rfl, ha⟩ := len_red x
  have : a = [] := List.length_eq_zero_iff.1 (by omega)
  rw [this]; rfl
theorem len_g_le (s : Nat) : len (g m s) ≤ 1 := len_mk [s]
@[simp] theorem len_g (s : Nat) : len (g m s) = 1 := by
  have := len_parity (m := m) [s]
  have h2 := len_g_le (m := m) s
  simp at this
  show len (mk m [s]) = 1
  have h3 : len (mk m [s]) ≤ 1 := h2
  omega
theorem len_mul_g (x : W m) (s : Nat) : len (x * g m s) = len x + 1 ∨ len (x * g m s) + 1 = len x := by
  have h1 := len_mul x (g m s)
  have h2 := len_mul (x * g m s) (g m s)
  rw [assoc, g_g, mul_one] at h2
  obtain ⟨a, rfl⟩ := ind x
  have p1 := len_parity (m := m) a
  have p2 := len_parity (m := m) (a ++ [s])
  rw [mk_append] at p2
  simp at p2 h1 h2
  have e : mk m [s] = g m s := rfl
  rw [e] at p2
  omega
theorem len_g_mul (x : W m) (s : Nat) : len (g m s * x) = len x + 1 ∨ len (g m s * x) + 1 = len x := by
  have := len_mul_g x⁻¹ s
  have e : x⁻¹ * g m s = (g m s * x)⁻¹ := by simp
  rw [e, len_inv, len_inv] at this
  exact this
theorem len_tri (x y : W m) : len x ≤ len (x * y) + len y := by
  have := len_mul (x * y) y⁻¹
  rwa [assoc, mul_inv, mul_one, len_inv] at this
theorem len_tri' (x y : W m) : len y ≤ len x + len (x * y) := by
  have := len_mul x⁻¹ (x * y)
  rwa [inv_mul_c, len_inv] at this
end W
end KW
end
section
namespace KW
/-! ### games of numbers -/
variable {m : Nat → Nat → Nat}
/-- weights that fit the ties -/
structure Cart (m : Nat → Nat → Nat) (A : Nat → Nat → G) : Prop where
  diag : ∀ s, A s s = 2
  apart : ∀ s t, s ≠ t → m s t = 2 → A s t = 0
  neg : ∀ s t, s ≠ t → NN (-(A s t))
  e3 : ∀ s t, s ≠ t → m s t = 3 → A s t * A t s = 1
  e4 : ∀ s t, s ≠ t → m s t = 4 → A s t * A t s = 2
  e5 : ∀ s t, s ≠ t → m s t = 5 → A s t * A t s = G.gold + 1
  e6 : ∀ s t, s ≠ t → m s t = 6 → A s t * A t s = 3
  e0 : ∀ s t, s ≠ t → m s t = 0 → A s t * A t s = 4

def press (A : Nat → Nat → G) (I : Nat → G) (b : Nat) : Nat → G := fun t => I t - A b t * I b
def play (A : Nat → Nat → G) (I : Nat → G) (w : Wd) : Nat → G := w.foldl (press A) I
theorem play_nil (A : Nat → Nat → G) (I : Nat → G) : play A I [] = I := rfl
theorem play_cons (A : Nat → Nat → G) (I : Nat → G) (s : Nat) (w : Wd) : play A I (s :: w) = play A (press A I s) w := rfl
theorem play_app (A : Nat → Nat → G) (I : Nat → G) (w x : Wd) : play A I (w ++ x) = play A (play A I w) x := by
  simp [play, List.foldl_append]
theorem play_snoc (A : Nat → Nat → G) (I : Nat → G) (w : Wd) (s : Nat) : play A I (w ++ [s]) = press A (play A I w) s := by
  simp [play, List.foldl_append]

theorem press_swap {A : Nat → Nat → G} (C : Cart m A) {s t : Nat} (hst : s ≠ t) (hm : Ties m) (h0 : m s t ≠ 0) (I : Nat → G) :
    play A I (alt s t (m s t)) = play A I (alt t s (m s t)) := by
  have ds := C.diag s
  have dt := C.diag t
  funext r
  rcases hm.ok s t hst with h | h | h | h | h | h
  · exact absurd h h0
  · have e1 := C.apart s t hst h
    have e2 := C.apart t s (Ne.symm hst) (by rw [hm.symm]; exact h)
    rw [h]
    simp only [alt, play, List.foldl, press, e1, e2]
    generalize A s r = p
    generalize A t r = q
    generalize I s = x
    generalize I t = y
    generalize I r = z
    grind
  · have e := C.e3 s t hst h
    rw [h]
    simp only [alt, play, List.foldl, press, ds, dt]
    generalize A s r = p
    generalize A t r = q
    generalize I s = x
    generalize I t = y
    generalize I r = z
    generalize A s t = a at *
    generalize A t s = b at *
    grind
  · have e := C.e4 s t hst h
    rw [h]
    simp only [alt, play, List.foldl, press, ds, dt]
    generalize A s r = p
    generalize A t r = q
    generalize I s = x
    generalize I t = y
    generalize I r = z
    generalize A s t = a at *
    generalize A t s = b at *
    grind
  · have e := C.e5 s t hst h
    have hg := G.gold_sq
    rw [h]
    simp only [alt, play, List.foldl, press, ds, dt]
    generalize A s r = p
    generalize A t r = q
    generalize I s = x
    generalize I t = y
    generalize I r = z
    generalize A s t = a at *
    generalize A t s = b at *
    generalize G.gold = g at *
    have l1 : ∀ x : G, x - 2 * x = -x := by intro x; grind
    simp only [l1]
    grind
  · have e := C.e6 s t hst h
    rw [h]
    simp only [alt, play, List.foldl, press, ds, dt]
    generalize A s r = p
    generalize A t r = q
    generalize I s = x
    generalize I t = y
    generalize I r = z
    generalize A s t = a at *
    generalize A t s = b at *
    have l1 : ∀ x : G, x - 2 * x = -x := by intro x; grind
    simp only [l1]
    grind

theorem play_gp {A : Nat → Nat → G} (C : Cart m A) (hm : Ties m) {w x : Wd} (h : Gp m w x) : ∀ I, play A I w = play A I x := by
  induction h with
  | refl w => intro I; rfl
  | symm _ ih => intro I; exact (ih I).symm
  | trans _ _ ih1 ih2 => intro I; exact (ih1 I).trans (ih2 I)
  | swap u v s t h1 h2 =>
    intro I
    simp only [play_app]
    rw [press_swap C h1 hm h2]
  | drop u v s =>
    intro I
    simp only [play_app]
    congr 1
    funext r
    simp only [play, List.foldl, press, C.diag]
    grind

/-- the alternating word of so many letters that ends with the first one -/
def ale (s t k : Nat) : Wd := (alt s t k).reverse
theorem ale_zero (s t : Nat) : ale s t 0 = [] := rfl
theorem ale_succ (s t k : Nat) : ale s t (k + 1) = ale t s k ++ [s] := by
  simp [ale, alt]
@[simp] theorem ale_length (s t k : Nat) : (ale s t k).length = k := by simp [ale]
theorem ale_gp {s t : Nat} (hst : s ≠ t) (h0 : m s t ≠ 0) : Gp m (ale s t (m s t)) (ale t s (m s t)) := by
  have := Gp.rev (Gp.swap (m := m) [] [] s t hst h0)
  simpa [ale] using this
theorem alt_add (j k : Nat) : ∀ s t, ∃ X, alt s t (k + j) = alt s t k ++ X ∧ X.length = j := by
  induction k with
  | zero => intro s t; exact ⟨alt s t j, by simp [alt], by simp⟩
  | succ k ih =>
    intro s t
    obtain ⟨X, h, h2⟩ := ih t s
    refine ⟨X, ?_, h2⟩
    rw [show k + 1 + j = (k + j) + 1 by omega]
    show s :: alt t s (k + j) = s :: alt t s k ++ X
    rw [h]; rfl
theorem ale_add (j k s t : Nat) : ∃ X, ale s t (k + j) = X ++ ale s t k ∧ X.length = j := by
  obtain ⟨X, h, h2⟩ := alt_add j k s t
  exact ⟨X.reverse, by simp [ale, h], by simp [h2]⟩
/-- an alternating word of more than the tie's buttons is not least -/
theorem ale_long {s t k : Nat} (hst : s ≠ t) (h0 : m s t ≠ 0) (hk : m s t < k) : W.len (W.mk m (ale s t k)) < k := by
  obtain ⟨j, rfl⟩ : ∃ j, k = (m s t + 1) + j := ⟨k - (m s t + 1), by omega⟩
  obtain ⟨X, h, h2⟩ := ale_add j (m s t + 1) s t
  obtain ⟨n, hn⟩ : ∃ n, m s t = n + 1 := ⟨m s t - 1, by omega⟩
  have e : Gp m (ale s t (m s t + 1)) (ale t s n) := by
    rw [ale_succ]
    have h1 := Gp.app (ale_gp hst h0).symm (.refl [s])
    refine h1.trans ?_
    rw [hn, ale_succ, List.append_assoc]
    have := Gp.drop (m := m) (ale t s n) [] s
    simpa using this
  rw [h, W.mk_append, W.mk_eq.2 e]
  have h3 := W.len_mul (W.mk m X) (W.mk m (ale t s n))
  have h4 := W.len_mk (m := m) X
  have h5 := W.len_mk (m := m) (ale t s n)
  simp at h5
  omega

/-! two buttons: what their turns make of numbers that are not below nought -/
/-- the kinds of numbers: not below nought, or above it -/
structure Kind (P : G → Prop) : Prop where
  nn : ∀ {x}, P x → NN x
  add : ∀ {x y}, P x → NN y → P (x + y)
  mul : ∀ {c x}, PP c → P x → P (c * x)
theorem Kind.ofNN : Kind NN := ⟨id, fun h1 h2 => h1.add h2, fun h1 h2 => h1.1.mul h2⟩
theorem Kind.ofPP : Kind PP := ⟨fun h => h.1, fun h1 h2 => h1.add_nn h2, fun h1 h2 => h1.mul h2⟩

section two
variable {A : Nat → Nat → G} {s t : Nat} (I : Nat → G)
/-- the number at s behind the turns that end with t -/
def va (A : Nat → Nat → G) (I : Nat → G) (s t k : Nat) : G := play A I (ale t s k) s
theorem va_zero : va A I s t 0 = I s := rfl
theorem va_one : va A I s t 1 = I s - A t s * I t := rfl
theorem va_step (C : Cart m A) (k : Nat) : va A I s t (k + 2) = -(A t s) * va A I t s (k + 1) - va A I s t k := by
  unfold va
  rw [ale_succ t s (k + 1), play_snoc]
  unfold press
  rw [ale_succ s t k, play_snoc]
  unfold press
  rw [C.diag s]
  grind
theorem va_inf (C : Cart m A) (hm : Ties m) (hst : s ≠ t) (h0 : m s t = 0) {P : G → Prop} (hP : Kind P) (hs : P (I s)) (ht : P (I t)) (k : Nat) :
    (P (va A I s t k) ∧ P (va A I s t (k + 1)) ∧ P (va A I t s k) ∧ P (va A I t s (k + 1))) ∧
    NN (-(A t s) * va A I t s (k + 1) - 2 * va A I s t k) ∧ NN (2 * va A I t s (k + 1) - -(A s t) * va A I s t k) ∧
    NN (-(A s t) * va A I s t (k + 1) - 2 * va A I t s k) ∧ NN (2 * va A I s t (k + 1) - -(A t s) * va A I t s k) := by
  have na := C.neg s t hst
  have nb := C.neg t s (Ne.symm hst)
  have e := C.e0 s t hst h0
  have ns := hP.nn hs
  have nt := hP.nn ht
  have two : NN 2 := NN.ofNat 2
  induction k with
  | zero =>
    simp only [va_zero, Nat.zero_add, va_one]
    generalize I s = x at *
    generalize I t = y at *
    generalize A s t = a at *
    generalize A t s = b at *
    have r1 : x - b * y = x + -b * y := by grind
    have r2 : y - a * x = y + -a * x := by grind
    refine ⟨⟨hs, ?_, ht, ?_⟩, ?_, ?_, ?_, ?_⟩
    · rw [r1]; exact hP.add hs (nb.mul nt)
    · rw [r2]; exact hP.add ht (na.mul ns)
    · have : -b * (y - a * x) - 2 * x = -b * y + 2 * x := by grind
      rw [this]; exact (nb.mul nt).add (two.mul ns)
    · have : 2 * (y - a * x) - -a * x = 2 * y + -a * x := by grind
      rw [this]; exact (two.mul nt).add (na.mul ns)
    · have : -a * (x - b * y) - 2 * y = -a * x + 2 * y := by grind
      rw [this]; exact (na.mul ns).add (two.mul nt)
    · have : 2 * (x - b * y) - -b * y = 2 * x + -b * y := by grind
      rw [this]; exact (two.mul ns).add (nb.mul nt)
  | succ k ih =>
    obtain ⟨⟨p1, p2, p3, p4⟩, i1, i2, i3, i4⟩ := ih
    have s1 := va_step (A := A) (s := s) (t := t) I C k
    have s2 := va_step (A := A) (s := t) (t := s) I C k
    refine ⟨⟨p2, ?_, p4, ?_⟩, ?_, ?_, ?_, ?_⟩
    · have : va A I s t (k + 1 + 1) = va A I s t k + (-(A t s) * va A I t s (k + 1) - 2 * va A I s t k) := by
        rw [s1]; grind
      rw [this]; exact hP.add p1 i1
    · have : va A I t s (k + 1 + 1) = va A I t s k + (-(A s t) * va A I s t (k + 1) - 2 * va A I t s k) := by
        rw [s2]; grind
      rw [this]; exact hP.add p3 i3
    · have : -(A t s) * va A I t s (k + 1 + 1) - 2 * va A I s t (k + 1) = 2 * va A I s t (k + 1) - -(A t s) * va A I t s k := by
        rw [s2]; grind
      rw [this]; exact i4
    · have : 2 * va A I t s (k + 1 + 1) - -(A s t) * va A I s t (k + 1) = -(A s t) * va A I s t (k + 1) - 2 * va A I t s k := by
        rw [s2]; grind
      rw [this]; exact i3
    · have : -(A s t) * va A I s t (k + 1 + 1) - 2 * va A I t s (k + 1) = 2 * va A I t s (k + 1) - -(A s t) * va A I s t k := by
        rw [s1]; grind
      rw [this]; exact i2
    · have : 2 * va A I s t (k + 1 + 1) - -(A t s) * va A I t s (k + 1) = -(A t s) * va A I t s (k + 1) - 2 * va A I s t k := by
        rw [s1]; grind
      rw [this]; exact i1
theorem va_ok (C : Cart m A) (hm : Ties m) (hst : s ≠ t) {P : G → Prop} (hP : Kind P) (hs : P (I s)) (ht : P (I t)) (k : Nat) (hk : m s t = 0 ∨ k < m s t) :
    P (va A I s t k) := by
  by_cases h0 : m s t = 0
  · exact (va_inf I C hm hst h0 hP hs ht k).1.1
  have hk : k < m s t := by omega
  have na := C.neg s t hst
  have nb := C.neg t s (Ne.symm hst)
  have ns := hP.nn hs
  have nt := hP.nn ht
  have two : NN 2 := NN.ofNat 2
  have pb : m s t ≠ 2 → PP (-(A t s)) := by
    intro h2
    refine ⟨nb, fun e => ?_⟩
    have e' : A t s = 0 := by grind
    rcases hm.ok s t hst with h | h | h | h | h | h
    · exact h0 h
    · exact h2 h
    · have := C.e3 s t hst h; rw [e'] at this; have : (0 : G) = 1 := by grind
      cases this
    · have := C.e4 s t hst h; rw [e'] at this; have : (0 : G) = 2 := by grind
      cases this
    · have := C.e5 s t hst h; rw [e'] at this; have : (0 : G) = G.gold + 1 := by grind
      cases this
    · have := C.e6 s t hst h; rw [e'] at this; have : (0 : G) = 3 := by grind
      cases this
  have w1 : va A I s t 1 = I s + -(A t s) * I t := by rw [va_one]; grind
  have w1' : va A I t s 1 = I t + -(A s t) * I s := by rw [va_one]; grind
  have w2 : va A I s t 2 = (A s t * A t s - 1) * I s + -(A t s) * I t := by
    rw [va_step I C 0, va_zero, w1']; grind
  have w2' : va A I t s 2 = (A s t * A t s - 1) * I t + -(A s t) * I s := by
    rw [va_step I C 0, va_zero, w1]; grind
  have w3 : va A I s t 3 = (A s t * A t s - 1) * I s + (A s t * A t s - 2) * (-(A t s) * I t) := by
    rw [va_step I C 1, w1, w2']; grind
  have w3' : va A I t s 3 = (A s t * A t s - 1) * I t + (A s t * A t s - 2) * (-(A s t) * I s) := by
    rw [va_step I C 1, w1', w2]; grind
  have w4 : va A I s t 4 = (A s t * A t s * (A s t * A t s) - 3 * (A s t * A t s) + 1) * I s + (A s t * A t s - 2) * (-(A t s) * I t) := by
    rw [va_step I C 2, w2, w3']; grind
  have w4' : va A I t s 4 = (A s t * A t s * (A s t * A t s) - 3 * (A s t * A t s) + 1) * I t + (A s t * A t s - 2) * (-(A s t) * I s) := by
    rw [va_step I C 2, w2', w3]; grind
  have w5 : va A I s t 5 = (A s t * A t s * (A s t * A t s) - 3 * (A s t * A t s) + 1) * I s + ((A s t * A t s - 1) * (A s t * A t s - 3)) * (-(A t s) * I t) := by
    rw [va_step I C 3, w3, w4']; grind
  have pbt : m s t ≠ 2 → P (-(A t s) * I t) := fun h => hP.mul (pb h) ht
  have nbt := nb.mul nt
  have ppg : PP G.gold := ⟨NN.gold, by decide⟩
  have ppg1 : PP (G.gold - 1) := ⟨⟨1, by decide⟩, by decide⟩
  have pp2 : PP 2 := ⟨two, by decide⟩
  have zadd : ∀ x y : G, 0 * x + y = y := by intro x y; grind
  have addz : ∀ x y : G, x + 0 * y = x := by intro x y; grind
  have one' : ∀ x : G, 1 * x = x := by intro x; grind
  rcases hm.ok s t hst with h | h | h | h | h | h
  · exact absurd h h0
  · have hh : k = 0 ∨ k = 1 := by omega
    rcases hh with rfl | rfl
    · exact hs
    · rw [w1]; exact hP.add hs nbt
  · have e := C.e3 s t hst h
    have hh : k = 0 ∨ k = 1 ∨ k = 2 := by omega
    rcases hh with rfl | rfl | rfl
    · exact hs
    · rw [w1]; exact hP.add hs nbt
    · rw [w2, e, show (1 : G) - 1 = 0 by rfl, zadd]; exact pbt (by omega)
  · have e := C.e4 s t hst h
    have hh : k = 0 ∨ k = 1 ∨ k = 2 ∨ k = 3 := by omega
    rcases hh with rfl | rfl | rfl | rfl
    · exact hs
    · rw [w1]; exact hP.add hs nbt
    · rw [w2, e, show (2 : G) - 1 = 1 by rfl, one']; exact hP.add hs nbt
    · rw [w3, e, show (2 : G) - 1 = 1 by rfl, show (2 : G) - 2 = 0 by rfl, one', addz]; exact hs
  · have e := C.e5 s t hst h
    have k1 : G.gold + 1 - 1 = G.gold := rfl
    have k2 : G.gold + 1 - 2 = G.gold - 1 := rfl
    have k3 : (G.gold + 1) * (G.gold + 1) - 3 * (G.gold + 1) + 1 = 0 := rfl
    have hh : k = 0 ∨ k = 1 ∨ k = 2 ∨ k = 3 ∨ k = 4 := by omega
    rcases hh with rfl | rfl | rfl | rfl | rfl
    · exact hs
    · rw [w1]; exact hP.add hs nbt
    · rw [w2, e, k1]; exact hP.add (hP.mul ppg hs) nbt
    · rw [w3, e, k1, k2]; exact hP.add (hP.mul ppg hs) (ppg1.1.mul nbt)
    · rw [w4, e, k3, k2, zadd]; exact hP.mul ppg1 (pbt (by omega))
  · have e := C.e6 s t hst h
    have k1 : (3 : G) - 1 = 2 := rfl
    have k2 : (3 : G) - 2 = 1 := rfl
    have k3 : (3 : G) * 3 - 3 * 3 + 1 = 1 := rfl
    have k4 : ((3 : G) - 1) * (3 - 3) = 0 := rfl
    have hh : k = 0 ∨ k = 1 ∨ k = 2 ∨ k = 3 ∨ k = 4 ∨ k = 5 := by omega
    rcases hh with rfl | rfl | rfl | rfl | rfl | rfl
    · exact hs
    · rw [w1]; exact hP.add hs nbt
    · rw [w2, e, k1]; exact hP.add (hP.mul pp2 hs) nbt
    · rw [w3, e, k1, k2, one']; exact hP.add (hP.mul pp2 hs) nbt
    · rw [w4, e, k3, k2, one', one']; exact hP.add hs nbt
    · rw [w5, e, k3, k4, one', addz]; exact hs
end two

/-! ### which buttons make a change longer -/
open W in
/-- a change, and the part of it that two buttons make at its end -/
theorem decomp (s t : Nat) : ∀ (n : Nat) (x : W m), len x ≤ n → ∃ (v : W m) (k p q : Nat), ((p = s ∧ q = t) ∨ (p = t ∧ q = s)) ∧
    x = v * mk m (ale p q k) ∧ len x = len v + k ∧ len (v * g m s) = len v + 1 ∧ len (v * g m t) = len v + 1 := by
  intro n
  induction n with
  | zero =>
    intro x hx
    have := len_zero (x := x) (by omega)
    subst this
    refine ⟨1, 0, s, t, .inl ⟨rfl, rfl⟩, ?_, ?_, ?_, ?_⟩
    · rw [ale_zero, mk_nil, mul_one]
    · simp
    · simp
    · simp
  | succ n ih =>
    intro x hx
    have key : ∀ r r', ((r = s ∧ r' = t) ∨ (r = t ∧ r' = s)) → len (x * g m r) + 1 = len x → ∃ (v : W m) (k p q : Nat), ((p = s ∧ q = t) ∨ (p = t ∧ q = s)) ∧
        x = v * mk m (ale p q k) ∧ len x = len v + k ∧ len (v * g m s) = len v + 1 ∧ len (v * g m t) = len v + 1 := by
      intro r r' hr hl
      obtain ⟨v, k, p, q, hpq, hx', hlen, h1, h2⟩ := ih (x * g m r) (by omega)
      have ex : x = x * g m r * g m r := by rw [assoc, g_g, mul_one]
      have add : ∀ (p q : Nat), x * g m r = v * mk m (ale p q k) → r = q → x = v * mk m (ale q p (k + 1)) := by
        intro p q h3 h4
        rw [ale_succ, mk_append]
        show x = v * (mk m (ale p q k) * g m q)
        rw [← assoc, ← h3, ← h4]; exact ex
      by_cases hq : r = q
      · refine ⟨v, k + 1, q, p, ?_, add p q hx' hq, by omega, h1, h2⟩
        rcases hpq with ⟨rfl, rfl⟩ | ⟨rfl, rfl⟩
        · exact .inr ⟨rfl, rfl⟩
        · exact .inl ⟨rfl, rfl⟩
      · cases k with
        | zero =>
          refine ⟨v, 1, r, r', hr, ?_, by omega, h1, h2⟩
          rw [ale_zero, mk_nil, mul_one] at hx'
          rw [ale_succ, ale_zero, List.nil_append]
          show x = v * g m r
          rw [← hx']; exact ex
        | succ k =>
          have hp : p = r := by
            rcases hpq with ⟨rfl, rfl⟩ | ⟨rfl, rfl⟩ <;> rcases hr with ⟨rfl, rfl⟩ | ⟨rfl, rfl⟩ <;> first | rfl | exact absurd rfl hq
          subst hp
          exfalso
          rw [ale_succ, mk_append] at hx'
          have hx2 : x * g m p = v * mk m (ale q p k) * g m p := by rw [assoc]; exact hx'
          have hx3 := cancel_r hx2
          have h4 := len_mul v (mk m (ale q p k))
          have h5 := len_mk (m := m) (ale q p k)
          rw [← hx3] at h4
          simp at h5
          omega
    rcases len_mul_g x s with h1 | h1
    · rcases len_mul_g x t with h2 | h2
      · refine ⟨x, 0, s, t, .inl ⟨rfl, rfl⟩, ?_, by omega, h1, h2⟩
        rw [ale_zero, mk_nil, mul_one]
      · exact key t s (.inr ⟨rfl, rfl⟩) h2
    · exact key s t (.inl ⟨rfl, rfl⟩) h1

section
variable {A : Nat → Nat → G} (C : Cart m A) (hm : Ties m)
include C hm
open W
theorem ale_le {s t k : Nat} (hst : s ≠ t) {x v : W m} (h1 : x = v * mk m (ale s t k)) (h2 : len x = len v + k) : m s t = 0 ∨ k ≤ m s t := by
  by_cases h0 : m s t = 0
  · exact .inl h0
  right
  apply Nat.le_of_not_lt
  intro h
  have h3 := ale_long hst h0 h
  have h4 := len_mul v (mk m (ale s t k))
  rw [← h1] at h4
  omega
theorem pos {P : G → Prop} (hP : Kind P) (f : Nat → G) (hf : ∀ t, P (f t)) : ∀ (n : Nat) (w : Wd) (s : Nat), len (mk m w) ≤ n →
    len (mk m w * g m s) = len (mk m w) + 1 → P (play A f w s) := by
  intro n
  induction n with
  | zero =>
    intro w s hn _
    have := len_zero (x := mk m w) (by omega)
    have e := play_gp C hm (mk_eq.1 (this.trans mk_nil.symm)) f
    rw [e]; exact hf s
  | succ n ih =>
    intro w s hn hs
    by_cases hz : len (mk m w) ≤ n
    · exact ih w s hz hs
    obtain ⟨w', e1, e2⟩ := len_red (mk m w)
    have e := play_gp C hm (mk_eq.1 e1) f
    rw [← e]
    obtain ⟨w2, t, rfl⟩ : ∃ w2 t, w' = w2 ++ [t] := by
      rcases List.eq_nil_or_concat w' with h | ⟨w2, t, h⟩
      · subst h; simp at e2; omega
      · exact ⟨w2, t, by simpa using h⟩
    have ht : len (mk m w * g m t) + 1 = len (mk m w) := by
      rcases len_mul_g (mk m w) t with h | h
      · exfalso
        rw [← e1, mk_append] at h
        have e3 : mk m w2 * mk m [t] * g m t = mk m w2 := by rw [assoc]; show _ * (g m t * g m t) = _; simp
        rw [e3] at h
        have := len_mk (m := m) w2
        rw [← mk_append, e1] at h
        simp at e2
        omega
      · exact h
    have hst : s ≠ t := fun e => by subst e; omega
    obtain ⟨v, k, p, q, hpq, hx, hl, hvs, hvt⟩ := decomp s t _ (mk m w) (Nat.le_refl _)
    have hk0 : k ≠ 0 := by
      rintro rfl
      rw [ale_zero, mk_nil, mul_one] at hx
      rw [hx] at ht
      omega
    obtain ⟨k, rfl⟩ : ∃ k', k = k' + 1 := ⟨k - 1, by omega⟩
    -- no word that ends with s
    have noS : ∀ q, mk m w ≠ v * mk m (ale s q (k + 1)) := by
      intro q hx
      rw [ale_succ, mk_append] at hx
      have e3 : mk m w * g m s = v * mk m (ale q s k) := by
        rw [hx, assoc, assoc]; show v * (_ * (g m s * g m s)) = _; simp
      have h4 := len_mul v (mk m (ale q s k))
      have h5 := len_mk (m := m) (ale q s k)
      rw [← e3] at h4
      simp at h5
      omega
    rcases hpq with ⟨rfl, rfl⟩ | ⟨rfl, rfl⟩
    · exact absurd hx (noS _)
    · have hk := ale_le C hm (Ne.symm hst) hx hl
      have hk2 : m q p = 0 ∨ k + 1 < m q p := by
        rw [hm.symm q p]
        rcases hk with h | h
        · exact .inl h
        · right
          rcases Nat.lt_or_eq_of_le h with h2 | h2
          · exact h2
          · exfalso
            apply noS p
            rw [hx, h2]
            congr 1
            apply mk_eq.2
            have := ale_gp (m := m) (Ne.symm hst) (by omega)
            exact this
      obtain ⟨v', rfl⟩ := ind v
      have i1 := ih v' q (by omega) hvs
      have i2 := ih v' p (by omega) hvt
      have e5 := play_gp C hm (mk_eq.1 (hx.trans (mk_append _ _).symm)) f
      rw [e, e5, play_app]
      exact va_ok (play A f v') C hm hst hP i1 i2 (k + 1) hk2
theorem desc_neg {P : G → Prop} (hP : Kind P) (f : Nat → G) (hf : ∀ t, P (f t)) (w : Wd) (s : Nat)
    (h : len (mk m w * g m s) + 1 = len (mk m w)) : P (-(play A f w s)) := by
  have h1 := pos C hm hP f hf _ (w ++ [s]) s (Nat.le_refl _) (by
    rw [mk_append]
    show len (mk m w * g m s * g m s) = len (mk m w * g m s) + 1
    rw [assoc, g_g, mul_one]; omega)
  rw [play_snoc] at h1
  unfold press at h1
  rw [C.diag] at h1
  have e : play A f w s - 2 * play A f w s = -(play A f w s) := by grind
  rwa [e] at h1
/-- a button makes a word's change shorter exactly if its number is below nought -/
theorem desc_iff (f : Nat → G) (hf : ∀ t, PP (f t)) (w : Wd) (s : Nat) :
    len (mk m w * g m s) + 1 = len (mk m w) ↔ isLow (play A f w s) = true := by
  rw [low_pp]
  constructor
  · exact desc_neg C hm .ofPP f hf w s
  · intro h
    rcases len_mul_g (mk m w) s with h1 | h1
    · exact absurd (pos C hm .ofPP f hf _ w s (Nat.le_refl _) h1).1 (by
        have := h.not_neg
        have e : - -(play A f w s) = play A f w s := by grind
        rwa [e] at this)
    · exact h1
/-- what is made longer by both buttons is made longer by each of their words -/
theorem coset {v : W m} {s t : Nat} (hst : s ≠ t) (h1 : len (v * g m s) = len v + 1) (h2 : len (v * g m t) = len v + 1) :
    ∀ (k p q : Nat), ((p = s ∧ q = t) ∨ (p = t ∧ q = s)) → (m s t = 0 ∨ k ≤ m s t) → len (v * mk m (ale p q k)) = len v + k := by
  intro k
  induction k with
  | zero => intro p q _ _; rw [ale_zero, mk_nil, mul_one]; rfl
  | succ k ih =>
    intro p q hpq hk
    have hi := ih q p (by rcases hpq with ⟨rfl, rfl⟩ | ⟨rfl, rfl⟩ <;> simp) (by omega)
    rw [ale_succ, mk_append]
    show len (v * (mk m (ale q p k) * g m p)) = _
    rw [← assoc]
    rcases len_mul_g (v * mk m (ale q p k)) p with h | h
    · omega
    · exfalso
      obtain ⟨v', rfl⟩ := ind v
      rw [← mk_append] at h
      have hneg := desc_neg C hm .ofPP (fun _ => 1) (fun _ => PP.one) _ p h
      have i1 := pos C hm .ofPP (fun _ => 1) (fun _ => PP.one) _ v' s (Nat.le_refl _) h1
      have i2 := pos C hm .ofPP (fun _ => 1) (fun _ => PP.one) _ v' t (Nat.le_refl _) h2
      rw [play_app] at hneg
      refine hneg.not_neg ?_
      have e : - -(play A (play A (fun _ => 1) v') (ale q p k) p) = va A (play A (fun _ => 1) v') p q k := by
        show - -(va A (play A (fun _ => 1) v') p q k) = _
        grind
      rw [e]
      rcases hpq with ⟨rfl, rfl⟩ | ⟨rfl, rfl⟩
      · exact (va_ok _ C hm hst .ofPP i1 i2 k (by omega)).1
      · exact (va_ok _ C hm (Ne.symm hst) .ofPP i2 i1 k (by rw [hm.symm]; omega)).1
/-- two back buttons -/
theorem both {x : W m} {s t : Nat} (hst : s ≠ t) (h1 : len (x * g m s) + 1 = len x) (h2 : len (x * g m t) + 1 = len x) :
    m s t ≠ 0 ∧ ∃ v, x = v * mk m (ale s t (m s t)) ∧ len x = len v + m s t := by
  obtain ⟨v, k, p, q, hpq, hx, hl, hvs, hvt⟩ := decomp s t _ x (Nat.le_refl _)
  have hk : m s t = 0 ∨ k ≤ m s t := by
    rcases hpq with ⟨rfl, rfl⟩ | ⟨rfl, rfl⟩
    · exact ale_le C hm hst hx hl
    · rw [hm.symm]; exact ale_le C hm (Ne.symm hst) hx hl
  have hkm : m s t ≠ 0 ∧ k = m s t := by
    apply Classical.byContradiction
    intro hc
    have hk' : m s t = 0 ∨ k + 1 ≤ m s t := by omega
    have c1 := coset C hm hst hvs hvt (k + 1) q p (by rcases hpq with ⟨rfl, rfl⟩ | ⟨rfl, rfl⟩ <;> simp) hk'
    rw [ale_succ, mk_append] at c1
    have c2 : len (x * g m q) = len v + (k + 1) := by rw [hx, assoc]; exact c1
    rcases hpq with ⟨rfl, rfl⟩ | ⟨rfl, rfl⟩ <;> omega
  refine ⟨hkm.1, v, ?_, by omega⟩
  obtain ⟨h0, rfl⟩ := hkm
  rcases hpq with ⟨rfl, rfl⟩ | ⟨rfl, rfl⟩
  · exact hx
  · rw [hx]
    congr 1
    apply mk_eq.2
    rw [hm.symm q p]
    exact ale_gp (Ne.symm hst) (by rw [hm.symm]; exact h0)
end
end KW
end
section
namespace KW
variable {m : Nat → Nat → Nat}
namespace W
/-! ### fronts of changes -/
def pre (x w : W m) : Prop := len w = len x + len (x⁻¹ * w)
theorem pre_refl (x : W m) : pre x x := by unfold pre; simp
theorem pre_one (x : W m) : pre 1 x := by unfold pre; simp
theorem pre_split {x y z : W m} (h1 : pre x y) (h2 : pre y z) : len (x⁻¹ * z) = len (x⁻¹ * y) + len (y⁻¹ * z) ∧ pre x z := by
  unfold pre at *
  have a := len_mul (x⁻¹ * y) (y⁻¹ * z)
  have b := len_mul x (x⁻¹ * z)
  rw [assoc, mul_inv_c] at a
  rw [mul_inv_c] at b
  omega
theorem pre_trans {x y z : W m} (h1 : pre x y) (h2 : pre y z) : pre x z := (pre_split h1 h2).2
theorem pre_len {x y : W m} (h : pre x y) : len x ≤ len y := by unfold pre at h; omega
theorem pre_eq {x y : W m} (h : pre x y) (h2 : len y ≤ len x) : x = y := by
  unfold pre at h
  have : x⁻¹ * y = 1 := len_zero (by omega)
  have e := mul_inv_c x y
  rw [this, mul_one] at e; exact e
theorem pre_anti {x y : W m} (h1 : pre x y) (h2 : pre y x) : x = y := pre_eq h1 (pre_len h2)
theorem pre_mul {x y : W m} (h : len (x * y) = len x + len y) : pre x (x * y) := by
  unfold pre; rw [inv_mul_c]; exact h
theorem pre_mul_iff {x y : W m} : pre x (x * y) ↔ len (x * y) = len x + len y := by
  unfold pre; rw [inv_mul_c]
/-- fronts stay fronts behind a common beginning -/
theorem pre_left {u x y : W m} (h : pre x y) (hu : len (u * y) = len u + len y) : pre (u * x) (u * y) ∧ len (u * x) = len u + len x := by
  unfold pre at *
  have a := len_mul u x
  have b := len_mul (u * x) (x⁻¹ * y)
  rw [assoc, mul_inv_c] at b
  have e : (u * x)⁻¹ * (u * y) = x⁻¹ * y := by rw [mul_inv_rev, assoc, inv_mul_c]
  rw [e]
  omega
theorem pre_back {u x y : W m} (h : pre (u * x) (u * y)) (hx : len (u * x) = len u + len x) (hy : len (u * y) = len u + len y) : pre x y := by
  unfold pre at *
  have e : (u * x)⁻¹ * (u * y) = x⁻¹ * y := by rw [mul_inv_rev, assoc, inv_mul_c]
  rw [e] at h
  omega
theorem step_ex {x y : W m} (h : pre x y) (hne : x ≠ y) : ∃ s, len (x * g m s) = len x + 1 ∧ pre (x * g m s) y := by
  obtain ⟨w, hw, hl⟩ := len_red (x⁻¹ * y)
  cases w with
  | nil =>
    exfalso
    have : x⁻¹ * y = 1 := hw.symm
    have e := mul_inv_c x y
    rw [this, mul_one] at e; exact hne e
  | cons s r =>
    have e1 : (x * g m s)⁻¹ * y = mk m r := by
      rw [mul_inv_rev, g_inv, assoc, ← hw, mk_cons, g_g_c]
    have h1 := len_mk (m := m) r
    have h2 := len_mul (x * g m s) ((x * g m s)⁻¹ * y)
    rw [mul_inv_c, e1] at h2
    have h3 := len_mul x (g m s)
    rw [len_g] at h3
    simp at hl
    refine ⟨s, ?_, ?_⟩
    · unfold pre at h; omega
    · unfold pre at *; rw [e1]; omega
theorem step_pre {x w : W m} {s : Nat} (h : pre x w) (h1 : len (x * g m s) = len x + 1) (h2 : len (g m s * (x⁻¹ * w)) + 1 = len (x⁻¹ * w)) :
    pre (x * g m s) w := by
  unfold pre at *
  rw [mul_inv_rev, g_inv, assoc]; omega
theorem step_desc {x w : W m} {s : Nat} (h : pre x w) (h1 : len (x * g m s) = len x + 1) (h2 : pre (x * g m s) w) :
    len (g m s * (x⁻¹ * w)) + 1 = len (x⁻¹ * w) := by
  unfold pre at *
  rw [mul_inv_rev, g_inv, assoc] at h2; omega
theorem mk_ale {s t : Nat} (hst : s ≠ t) (h0 : m s t ≠ 0) : mk m (ale s t (m s t)) = mk m (alt s t (m s t)) := by
  apply mk_eq.2
  unfold ale
  rw [alt_rev]
  split
  · have := Gp.swap (m := m) [] [] s t hst h0
    simpa using this.symm
  · exact .refl _
end W
open W
section
variable {A : Nat → Nat → G} (C : Cart m A) (hm : Ties m)
include C hm
theorem both_l {x : W m} {s t : Nat} (hst : s ≠ t) (h1 : len (g m s * x) + 1 = len x) (h2 : len (g m t * x) + 1 = len x) :
    m s t ≠ 0 ∧ ∃ v, x = mk m (alt s t (m s t)) * v ∧ len x = m s t + len v := by
  have e : ∀ s, len (x⁻¹ * g m s) = len (g m s * x) := by
    intro s
    have : x⁻¹ * g m s = (g m s * x)⁻¹ := by simp
    rw [this, len_inv]
  obtain ⟨h0, v, hv, hl⟩ := both C hm (x := x⁻¹) hst (by rw [e, len_inv]; exact h1) (by rw [e, len_inv]; exact h2)
  refine ⟨h0, v⁻¹, ?_, ?_⟩
  · have : x = (v * mk m (ale s t (m s t)))⁻¹ := by rw [← hv, inv_inv]
    rw [this, mul_inv_rev, ← mk_rev, ale, List.reverse_reverse]
  · rw [len_inv] at hl; rw [len_inv]; omega
theorem alt_red {s t : Nat} (hst : s ≠ t) {k : Nat} (hk : m s t = 0 ∨ k ≤ m s t) : len (mk m (alt s t k)) = k := by
  have := coset C hm (v := 1) hst (by simp) (by simp) k s t (.inl ⟨rfl, rfl⟩) hk
  rw [one_mul] at this
  have e : mk m (ale s t k) = (mk m (alt s t k))⁻¹ := mk_rev _
  rw [e, len_inv, len_one] at this
  omega

/-! ### the greatest front that may stand behind a change -/
def may (u w x : W m) : Prop := pre x w ∧ len (u * x) = len u + len x
omit C hm in
theorem may_down {u w x y : W m} (h : may u w y) (hx : pre x y) : may u w x :=
  ⟨pre_trans hx h.1, (pre_left hx h.2).2⟩
theorem great_aux (u w : W m) : ∀ (n : Nat) (x : W m), may u w x → len w - len x ≤ n →
    ∃ z, may u w z ∧ pre x z ∧ ∀ y, may u w y → pre x y → pre y z := by
  intro n
  induction n with
  | zero =>
    intro x hx hn
    refine ⟨x, hx, pre_refl x, fun y hy hxy => ?_⟩
    have := pre_len hy.1
    have := pre_eq hxy (by omega)
    subst this; exact pre_refl _
  | succ n ih =>
    intro x hx hn
    by_cases hs : ∃ s, len (x * g m s) = len x + 1 ∧ may u w (x * g m s)
    · obtain ⟨s, hs1, hs2⟩ := hs
      have hxs : pre x (x * g m s) := pre_mul (by rw [len_g]; exact hs1)
      have hl := pre_len hs2.1
      obtain ⟨z, hz, hsz, hzm⟩ := ih (x * g m s) hs2 (by omega)
      refine ⟨z, hz, pre_trans hxs hsz, fun y hy hxy => ?_⟩
      by_cases hne : x = y
      · subst hne; exact pre_trans hxs hsz
      obtain ⟨t, ht1, ht2⟩ := step_ex hxy hne
      have htm : may u w (x * g m t) := may_down hy ht2
      have hxt : pre x (x * g m t) := pre_mul (by rw [len_g]; exact ht1)
      by_cases hst : s = t
      · subst hst; exact hzm y hy ht2
      · -- both: the corner
        have d1 := step_desc hx.1 hs1 hs2.1
        have d2 := step_desc hx.1 ht1 htm.1
        obtain ⟨h0, v, hv, hlv⟩ := both_l C hm hst d1 d2
        have us : len (u * x * g m s) = len (u * x) + 1 := by
          have := hs2.2
          rw [← assoc] at this
          have := hx.2; omega
        have ut : len (u * x * g m t) = len (u * x) + 1 := by
          have := htm.2
          rw [← assoc] at this
          have := hx.2; omega
        have c1 := coset C hm hst us ut (m s t) s t (.inl ⟨rfl, rfl⟩) (.inr (Nat.le_refl _))
        have c2 := coset C hm hst hs1 ht1 (m s t) s t (.inl ⟨rfl, rfl⟩) (.inr (Nat.le_refl _))
        rw [mk_ale hst h0] at c1 c2
        have hd := alt_red C hm hst (k := m s t) (.inr (Nat.le_refl _))
        have hD : may u w (x * mk m (alt s t (m s t))) := by
          refine ⟨?_, ?_⟩
          · unfold pre
            rw [mul_inv_rev, assoc, hv, inv_mul_c, c2]
            have := hx.1
            unfold pre at this
            omega
          · rw [← assoc, c1, c2]
            have := hx.2; omega
        obtain ⟨k, hk⟩ : ∃ k, m s t = k + 1 := ⟨m s t - 1, by omega⟩
        have sub : ∀ a b, (a = s ∧ b = t) ∨ (a = t ∧ b = s) → len (x * g m a) = len x + 1 → pre (x * g m a) (x * mk m (alt s t (m s t))) := by
          intro a b hab hla
          have e : mk m (alt s t (m s t)) = g m a * mk m (alt b a k) := by
            rcases hab with ⟨rfl, rfl⟩ | ⟨rfl, rfl⟩
            · rw [hk]; rfl
            · have : mk m (alt b a (m b a)) = mk m (alt a b (m b a)) := by
                apply mk_eq.2
                simpa using Gp.swap (m := m) [] [] b a hst h0
              rw [this, hk]; rfl
          have hl2 := len_mk (m := m) (alt b a k)
          have hl3 := len_mul (x * g m a) (mk m (alt b a k))
          rw [assoc, ← e] at hl3
          simp at hl2
          have e2 : (x * g m a)⁻¹ * (x * mk m (alt s t (m s t))) = mk m (alt b a k) := by
            rw [mul_inv_rev, g_inv, assoc, inv_mul_c, e, g_g_c]
          unfold pre
          rw [e2]
          omega
        have q1 := sub s t (.inl ⟨rfl, rfl⟩) hs1
        have q2 := sub t s (.inr ⟨rfl, rfl⟩) ht1
        have hlt := pre_len htm.1
        obtain ⟨z', hz', htz', hzm'⟩ := ih (x * g m t) htm (by omega)
        have a1 := hzm' y hy ht2
        have a2 := hzm' _ hD q2
        have a3 := hzm z' hz' (pre_trans q1 a2)
        exact pre_trans a1 a3
    · refine ⟨x, hx, pre_refl x, fun y hy hxy => ?_⟩
      by_cases hne : x = y
      · subst hne; exact pre_refl _
      · obtain ⟨t, ht1, ht2⟩ := step_ex hxy hne
        exact absurd ⟨t, ht1, may_down hy ht2⟩ hs
theorem great (u w : W m) : ∃ z, may u w z ∧ ∀ y, may u w y → pre y z := by
  obtain ⟨z, h1, _, h3⟩ := great_aux C hm u w (len w) 1 ⟨pre_one w, by simp⟩ (by omega)
  exact ⟨z, h1, fun y hy => h3 y hy (pre_one y)⟩
end

open Classical in
/-- the greatest front of w that may stand behind u (1 if there were none) -/
noncomputable def mx (u w : W m) : W m := if h : ∃ z, may u w z ∧ ∀ y, may u w y → pre y z then h.choose else 1
section
variable {A : Nat → Nat → G} (C : Cart m A) (hm : Ties m)
include C hm
theorem mx_spec (u w : W m) : may u w (mx u w) ∧ ∀ y, may u w y → pre y (mx u w) := by
  have h := great C hm u w
  unfold mx
  rw [dif_pos h]
  exact h.choose_spec
theorem mx_pre (u w : W m) : pre (mx u w) w := (mx_spec C hm u w).1.1
theorem mx_len (u w : W m) : len (u * mx u w) = len u + len (mx u w) := (mx_spec C hm u w).1.2
theorem mx_max {u w y : W m} (h : pre y w) (h2 : len (u * y) = len u + len y) : pre y (mx u w) := (mx_spec C hm u w).2 y ⟨h, h2⟩
theorem mx_eq {u w z : W m} (h : pre z w) (h2 : len (u * z) = len u + len z) (h3 : ∀ y, pre y w → len (u * y) = len u + len y → pre y z) : mx u w = z :=
  pre_anti (h3 _ (mx_pre C hm u w) (mx_len C hm u w)) (mx_max C hm h h2)
theorem mx_all {u w : W m} (h : len (u * w) = len u + len w) : mx u w = w :=
  mx_eq C hm (pre_refl w) h fun _ hy _ => hy
theorem mx_one (w : W m) : mx 1 w = w := mx_all C hm (by simp)
end

/-! ### rows of changes, and how changes act on them -/
open Classical in
noncomputable def act : W m → List (W m) → List (W m)
  | u, [] => if u = 1 then [] else [u]
  | u, w :: N => (u * mx u w) :: act ((mx u w)⁻¹ * w) N
def Nrm : List (W m) → Prop
  | [] => True
  | [w] => w ≠ 1
  | w :: v :: N => w ≠ 1 ∧ mx w v = 1 ∧ Nrm (v :: N)
theorem Nrm.tail {w : W m} {N : List (W m)} (h : Nrm (w :: N)) : Nrm N := by
  cases N with
  | nil => trivial
  | cons v N => exact h.2.2
theorem Nrm.head {w : W m} {N : List (W m)} (h : Nrm (w :: N)) : w ≠ 1 := by
  cases N with
  | nil => exact h
  | cons v N => exact h.1
theorem act_nil_one : act (1 : W m) [] = [] := by unfold act; rw [if_pos rfl]
theorem act_nil_ne {u : W m} (h : u ≠ 1) : act u [] = [u] := by unfold act; rw [if_neg h]
theorem act_cons (u w : W m) (N : List (W m)) : act u (w :: N) = (u * mx u w) :: act ((mx u w)⁻¹ * w) N := by rw [act]
section
variable {A : Nat → Nat → G} (C : Cart m A) (hm : Ties m)
include C hm
theorem act_one (N : List (W m)) : act 1 N = N := by
  induction N with
  | nil => exact act_nil_one
  | cons w N ih => rw [act_cons, mx_one C hm, inv_mul, one_mul, ih]
theorem act_nrm : ∀ {N : List (W m)} {w : W m}, Nrm (w :: N) → act w N = w :: N := by
  intro N
  induction N with
  | nil => intro w h; exact act_nil_ne h
  | cons v N ih =>
    intro w h
    rw [act_cons, h.2.1, mul_one, inv_one, one_mul, ih h.2.2]
theorem act_act : ∀ (N : List (W m)) (u v : W m), len (u * v) = len u + len v → act u (act v N) = act (u * v) N := by
  intro N
  induction N with
  | nil =>
    intro u v h
    by_cases hv : v = 1
    · subst hv; rw [act_nil_one, mul_one]
    · have huv : u * v ≠ 1 := fun e => by
        rw [e, len_one] at h
        exact hv (len_zero (by omega))
      rw [act_nil_ne hv, act_nil_ne huv, act_cons, mx_all C hm h, inv_mul, act_nil_one]
  | cons w N ih =>
    intro u v h
    rw [act_cons v, act_cons, act_cons (u * v)]
    have p1 := mx_pre C hm v w
    have l1 := mx_len C hm v w
    have p2 := mx_pre C hm (u * v) w
    have l2 := mx_len C hm (u * v) w
    have vx : len (v * mx (u * v) w) = len v + len (mx (u * v) w) := by
      have a := len_mul v (mx (u * v) w)
      have b := len_mul u (v * mx (u * v) w)
      rw [← assoc] at b
      omega
    have q := mx_max C hm p2 vx
    -- z = v * x'
    have hz : mx u (v * mx v w) = v * mx (u * v) w := by
      apply mx_eq C hm
      · exact (pre_left q l1).1
      · rw [← assoc, l2, vx]; omega
      · intro y hy hly
        -- v is a front of the greatest one
        have hv1 : pre v (v * mx v w) := pre_mul l1
        have g1 := mx_max C hm (u := u) (w := v * mx v w) hv1 h
        have g2 := mx_max C hm (u := u) hy hly
        have gp := mx_pre C hm u (v * mx v w)
        have gl := mx_len C hm u (v * mx v w)
        refine pre_trans g2 ?_
        generalize mx u (v * mx v w) = z at *
        obtain ⟨z', rfl⟩ : ∃ z', z = v * z' := ⟨v⁻¹ * z, (mul_inv_c v z).symm⟩
        rw [pre_mul_iff] at g1
        have pz := pre_back gp g1 l1
        have : pre z' (mx (u * v) w) := by
          apply mx_max C hm (pre_trans pz p1)
          rw [assoc, gl, g1]; omega
        exact (pre_left this vx).1
    rw [hz]
    congr 1
    · rw [assoc]
    · have e1 : (v * mx (u * v) w)⁻¹ * (v * mx v w) = (mx (u * v) w)⁻¹ * mx v w := by rw [mul_inv_rev, assoc, inv_mul_c]
      rw [e1]
      have e2 : (mx (u * v) w)⁻¹ * mx v w * ((mx v w)⁻¹ * w) = (mx (u * v) w)⁻¹ * w := by rw [assoc, mul_inv_c]
      rw [ih, e2]
      rw [e2]
      exact (pre_split q p1).1
theorem nrm_act : ∀ (N : List (W m)) (u : W m), Nrm N → Nrm (act u N) := by
  intro N
  induction N with
  | nil =>
    intro u _
    by_cases hu : u = 1
    · subst hu; rw [act_nil_one]; trivial
    · rw [act_nil_ne hu]; exact hu
  | cons w N ih =>
    intro u hN
    rw [act_cons]
    have hw := hN.head
    have p1 := mx_pre C hm u w
    have l1 := mx_len C hm u w
    have hne : u * mx u w ≠ 1 := by
      intro e
      rw [e, len_one] at l1
      have hu : u = 1 := len_zero (by omega)
      have hx : mx u w = 1 := len_zero (by omega)
      rw [hu, mx_one C hm] at hx
      exact hw hx
    have hl := ih ((mx u w)⁻¹ * w) hN.tail
    have hwl : len (mx u w * ((mx u w)⁻¹ * w)) = len (mx u w) + len ((mx u w)⁻¹ * w) := by
      rw [mul_inv_c]; exact p1
    -- a front of what is left that may stand behind u x: none
    have key : ∀ z, pre z ((mx u w)⁻¹ * w) → len (u * mx u w * z) = len (u * mx u w) + len z → z = 1 := by
      intro z hz hlz
      have a := pre_left hz hwl
      rw [mul_inv_c] at a
      have b := mx_max C hm (u := u) a.1 (by rw [← assoc, hlz, l1, a.2]; omega)
      have := pre_len b
      exact len_zero (by omega)
    cases hact : act ((mx u w)⁻¹ * w) N with
    | nil => exact hne
    | cons h P =>
      rw [hact] at hl
      refine ⟨hne, ?_, hl⟩
      have zp := mx_pre C hm (u * mx u w) h
      have zl := mx_len C hm (u * mx u w) h
      generalize mx (u * mx u w) h = z at *
      cases N with
      | nil =>
        by_cases hy : (mx u w)⁻¹ * w = 1
        · rw [hy, act_nil_one] at hact; cases hact
        · rw [act_nil_ne hy] at hact
          have e : (mx u w)⁻¹ * w = h := (List.cons.inj hact).1
          rw [← e] at zp
          exact key z zp zl
      | cons v N =>
        rw [act_cons] at hact
        have e := (List.cons.inj hact).1
        have hwv : mx w v = 1 := hN.2.1
        generalize hx : mx u w = x at *
        generalize hy : x⁻¹ * w = y at *
        have xy : x * y = w := by rw [← hy, mul_inv_c]
        have q1 := mx_pre C hm y v
        have q2 := mx_len C hm y v
        generalize mx y v = x2 at *
        -- mx w x2 = 1
        have w2 : mx w x2 = 1 := by
          have a := mx_pre C hm w x2
          have b := mx_len C hm w x2
          have c := mx_max C hm (pre_trans a q1) b
          rw [hwv] at c
          have := pre_len c
          rw [len_one] at this
          exact len_zero (by omega)
        have aa := act_act C hm [x2] x y (by rw [xy, ← hwl, xy])
        rw [act_cons y, mx_all C hm q2, inv_mul, act_nil_one, xy, act_cons w, w2, mul_one, act_cons x] at aa
        have e2 := (List.cons.inj aa).1
        rw [e] at e2
        have e3 : mx x h = y := cancel (e2.trans xy.symm)
        have zx : len (x * z) = len x + len z := by
          have a := len_mul x z
          have b := len_mul u (x * z)
          rw [← assoc] at b
          omega
        have := mx_max C hm zp zx
        rw [e3] at this
        exact key z this zl
end
end KW
end
section
namespace KW
open W
variable {m : Nat → Nat → Nat}
/-! ### positives: words up to swaps -/
noncomputable def rw (x : W m) : Wd := (len_red x).choose
theorem rw_mk (x : W m) : mk m (rw x) = x := (len_red x).choose_spec.1
theorem rw_len (x : W m) : (rw x).length = len x := (len_red x).choose_spec.2
noncomputable def actw (w : Wd) (N : List (W m)) : List (W m) := w.foldr (fun s N => act (g m s) N) N
theorem actw_cons (s : Nat) (w : Wd) (N : List (W m)) : actw (s :: w) N = act (g m s) (actw w N) := rfl
theorem actw_app (w x : Wd) (N : List (W m)) : actw (w ++ x) N = actw w (actw x N) := by simp [actw, List.foldr_append]
noncomputable def nf (m : Nat → Nat → Nat) (w : Wd) : List (W m) := actw w []
noncomputable def lifts (N : List (W m)) : Wd := (N.map rw).flatten
theorem lifts_cons (x : W m) (N : List (W m)) : lifts (x :: N) = rw x ++ lifts N := rfl
theorem red_tail {s : Nat} {w : Wd} (h : len (mk m (s :: w)) = (s :: w).length) : len (mk m w) = w.length ∧ len (g m s * mk m w) = 1 + len (mk m w) := by
  have a := len_mul (g m s) (mk m w)
  have b := len_mk (m := m) w
  rw [mk_cons] at h
  simp at h a
  omega
theorem red_app {w x : Wd} (h : len (mk m (w ++ x)) = (w ++ x).length) : len (mk m w) = w.length ∧ len (mk m x) = x.length := by
  have a := len_mul (mk m w) (mk m x)
  have b := len_mk (m := m) w
  have c := len_mk (m := m) x
  rw [mk_append] at h
  simp at h
  omega
theorem alt_swap_mk {s t : Nat} (hst : s ≠ t) (h0 : m s t ≠ 0) : mk m (alt s t (m s t)) = mk m (alt t s (m s t)) := by
  apply mk_eq.2
  simpa using Gp.swap (m := m) [] [] s t hst h0
theorem ne_of_len {x : W m} (h : 0 < len x) : x ≠ 1 := fun e => by rw [e, len_one] at h; omega
section
variable {A : Nat → Nat → G} (C : Cart m A) (hm : Ties m)
include C hm
/-- two least words of one change are joined by swaps -/
theorem mats : ∀ (n : Nat) (w x : Wd), w.length ≤ n → len (mk m w) = w.length → len (mk m x) = x.length → mk m w = mk m x → Br m w x := by
  intro n
  induction n with
  | zero =>
    intro w x hn hw hx e
    have h1 : w = [] := List.length_eq_zero_iff.1 (by omega)
    have h2 : x = [] := List.length_eq_zero_iff.1 (by rw [← hx, ← e]; omega)
    subst h1; subst h2; exact .refl _
  | succ n ih =>
    intro w x hn hw hx e
    cases w with
    | nil =>
      have h2 : x = [] := List.length_eq_zero_iff.1 (by rw [← hx, ← e]; simpa using hw)
      subst h2; exact .refl _
    | cons s w =>
      cases x with
      | nil => rw [e, hx] at hw; simp at hw
      | cons t x =>
        have rw1 := red_tail hw
        have rx1 := red_tail hx
        simp at hn
        have lx : len (mk m x) = len (mk m w) := by
          rw [mk_cons, mk_cons] at e
          have := congrArg len e
          omega
        by_cases hst : s = t
        · subst hst
          exact .cons s (ih w x hn rw1.1 rx1.1 (cancel (x := g m s) e))
        · have d1 : len (g m s * mk m (s :: w)) + 1 = len (mk m (s :: w)) := by
            rw [mk_cons, g_g_c, rw1.2]; omega
          have d2 : len (g m t * mk m (s :: w)) + 1 = len (mk m (s :: w)) := by
            rw [e, mk_cons, g_g_c, rx1.2]; omega
          obtain ⟨h0, v, hv, hl⟩ := both_l C hm hst d1 d2
          obtain ⟨r, rfl, hr⟩ := len_red v
          obtain ⟨k, hk⟩ : ∃ k, m s t = k + 1 := ⟨m s t - 1, by omega⟩
          have hv2 : mk m (s :: w) = mk m (alt t s (m s t)) * mk m r := by rw [hv, alt_swap_mk hst h0]
          rw [hk] at hv hv2 hl
          have e1 : mk m w = mk m (alt t s k ++ r) := by
            apply cancel (x := g m s)
            rw [← mk_cons, hv]; rfl
          have e2 : mk m x = mk m (alt s t k ++ r) := by
            apply cancel (x := g m t)
            rw [← mk_cons, ← e, hv2]; rfl
          have l0 : len (mk m (s :: w)) = w.length + 1 := by rw [hw]; rfl
          have b1 := ih w (alt t s k ++ r) hn rw1.1 (by rw [← e1]; simp; omega) e1
          have b2 := ih x (alt s t k ++ r) (by omega) rx1.1 (by rw [← e2]; simp; omega) e2
          have sw := Br.swap (m := m) [] r s t hst h0
          rw [hk] at sw
          exact (Br.cons s b1).trans (sw.trans (Br.cons t b2).symm)
theorem mats' {w x : Wd} (hw : len (mk m w) = w.length) (hx : len (mk m x) = x.length) (e : mk m w = mk m x) : Br m w x :=
  mats C hm _ w x (Nat.le_refl _) hw hx e
theorem rw_app {x y : W m} (h : len (x * y) = len x + len y) : Br m (rw (x * y)) (rw x ++ rw y) := by
  apply mats' C hm
  · rw [rw_mk, rw_len]
  · rw [mk_append, rw_mk, rw_mk, List.length_append, rw_len, rw_len, h]
  · rw [mk_append, rw_mk, rw_mk, rw_mk]
theorem actw_red : ∀ (w : Wd) (N : List (W m)), len (mk m w) = w.length → actw w N = act (mk m w) N := by
  intro w
  induction w with
  | nil => intro N _; rw [mk_nil, act_one C hm]; rfl
  | cons s w ih =>
    intro N h
    have h1 := red_tail h
    rw [actw_cons, ih N h1.1, act_act C hm _ _ _ (by rw [h1.2, len_g]), ← mk_cons]
theorem actw_br {w x : Wd} (h : Br m w x) : ∀ N : List (W m), actw w N = actw x N := by
  induction h with
  | refl w => intro N; rfl
  | symm _ ih => intro N; exact (ih N).symm
  | trans _ _ ih1 ih2 => intro N; exact (ih1 N).trans (ih2 N)
  | swap u v s t h1 h2 =>
    intro N
    simp only [actw_app]
    have a := alt_red C hm h1 (k := m s t) (.inr (Nat.le_refl _))
    rw [actw_red C hm (alt s t (m s t)) _ (by rw [a]; simp), actw_red C hm (alt t s (m s t)) _ (by rw [← alt_swap_mk h1 h2, a]; simp), alt_swap_mk h1 h2]
theorem nf_br {w x : Wd} (h : Br m w x) : nf m w = nf m x := actw_br C hm h []
theorem lifts_act : ∀ (N : List (W m)) (u : W m), Br m (lifts (act u N)) (rw u ++ lifts N) := by
  intro N
  induction N with
  | nil =>
    intro u
    by_cases hu : u = 1
    · subst hu
      rw [act_nil_one]
      have : (rw (1 : W m)) = [] := List.length_eq_zero_iff.1 (by rw [rw_len, len_one])
      rw [this]; exact .refl _
    · rw [act_nil_ne hu]; exact .refl _
  | cons w N ih =>
    intro u
    rw [act_cons, lifts_cons, lifts_cons]
    have a := rw_app C hm (mx_len C hm u w)
    have p := mx_pre C hm u w
    have b := rw_app C hm (x := mx u w) (y := (mx u w)⁻¹ * w) (by rw [mul_inv_c]; exact p)
    rw [mul_inv_c] at b
    have c := ih ((mx u w)⁻¹ * w)
    refine (Br.app a c).trans ?_
    rw [List.append_assoc]
    refine Br.app (.refl _) ?_
    rw [← List.append_assoc]
    exact Br.app b.symm (.refl _)
theorem rw_g (s : Nat) : rw (g m s) = [s] := by
  have b : Br m (rw (g m s)) [s] := by
    apply mats' C hm
    · rw [rw_mk, rw_len]
    · show len (g m s) = 1
      simp
    · rw [rw_mk]; rfl
  have h1 := b.len
  have h2 := b.mem hm s
  cases h : rw (g m s) with
  | nil => rw [h] at h1; simp at h1
  | cons a r =>
    rw [h] at h1 h2
    have : r = [] := by simpa using h1
    subst this
    have : s = a := by simpa using h2
    rw [this]
theorem lifts_actw (w : Wd) (N : List (W m)) : Br m (lifts (actw w N)) (w ++ lifts N) := by
  induction w with
  | nil => exact .refl _
  | cons s w ih =>
    rw [actw_cons]
    have := lifts_act C hm (actw w N) (g m s)
    rw [rw_g C hm] at this
    exact this.trans (Br.cons s ih)
theorem nf_lifts (w : Wd) : Br m (lifts (nf m w)) w := by
  have := lifts_actw C hm w []
  have e : lifts ([] : List (W m)) = [] := rfl
  rw [e, List.append_nil] at this
  exact this
theorem br_iff (w x : Wd) : Br m w x ↔ nf m w = nf m x :=
  ⟨nf_br C hm, fun h => (nf_lifts C hm w).symm.trans (h ▸ nf_lifts C hm x)⟩
theorem nrm_actw (w : Wd) {N : List (W m)} (h : Nrm N) : Nrm (actw w N) := by
  induction w with
  | nil => exact h
  | cons s w ih => exact nrm_act C hm _ _ ih
theorem nrm_nf (w : Wd) : Nrm (nf m w) := nrm_actw C hm w trivial

/-! fronts of positives -/
noncomputable def un (s : Nat) : List (W m) → List (W m)
  | [] => []
  | h :: P => act (g m s * h) P
theorem un_act {N : List (W m)} (hN : Nrm N) (s : Nat) : un s (act (g m s) N) = N := by
  have hg : g m s ≠ 1 := ne_of_len (by simp)
  cases N with
  | nil =>
    rw [act_nil_ne hg]
    show act (g m s * g m s) [] = []
    rw [g_g, act_nil_one]
  | cons w N =>
    rw [act_cons]
    show act (g m s * (g m s * mx (g m s) w)) _ = _
    have p := mx_pre C hm (g m s) w
    rw [g_g_c, act_act C hm _ _ _ (by rw [mul_inv_c]; exact p), mul_inv_c, act_nrm C hm hN]
theorem br_cancel {s : Nat} {p q : Wd} (h : Br m (s :: p) (s :: q)) : Br m p q := by
  rw [br_iff C hm] at h ⊢
  have a := un_act C hm (nrm_nf C hm p) s
  have b := un_act C hm (nrm_nf C hm q) s
  have e : act (g m s) (nf m p) = act (g m s) (nf m q) := h
  rw [← a, ← b, e]
theorem br_cancel_app : ∀ (w : Wd) {p q : Wd}, Br m (w ++ p) (w ++ q) → Br m p q := by
  intro w
  induction w with
  | nil => intro p q h; exact h
  | cons s w ih => intro p q h; exact ih (br_cancel C hm h)
theorem front_head {s : Nat} {w z : Wd} (h : Br m w (s :: z)) : ∃ x P, nf m w = x :: P ∧ len (g m s * x) + 1 = len x := by
  have e : nf m w = act (g m s) (nf m z) := nf_br C hm h
  have hg : g m s ≠ 1 := ne_of_len (by simp)
  cases hz : nf m z with
  | nil =>
    rw [hz, act_nil_ne hg] at e
    exact ⟨_, _, e, by simp⟩
  | cons v N =>
    rw [hz, act_cons] at e
    refine ⟨_, _, e, ?_⟩
    rw [g_g_c, mx_len C hm, len_g]; omega
theorem head_front {s : Nat} {w : Wd} {x : W m} {P : List (W m)} (h : nf m w = x :: P) (h2 : len (g m s * x) + 1 = len x) :
    Br m w (s :: (rw (g m s * x) ++ lifts P)) := by
  refine (nf_lifts C hm w).symm.trans ?_
  rw [h, lifts_cons, ← List.cons_append]
  refine Br.app ?_ (.refl _)
  apply mats' C hm
  · rw [rw_mk, rw_len]
  · rw [mk_cons, rw_mk, g_g_c, List.length_cons, rw_len]; omega
  · rw [mk_cons, rw_mk, rw_mk, g_g_c]
/-- two front buttons -/
theorem br_lcm {s t : Nat} (hst : s ≠ t) {p q : Wd} (h : Br m (s :: p) (t :: q)) :
    m s t ≠ 0 ∧ ∃ z, Br m p (alt t s (m s t - 1) ++ z) ∧ Br m q (alt s t (m s t - 1) ++ z) := by
  obtain ⟨x, P, e, h1⟩ := front_head C hm (.refl (s :: p))
  obtain ⟨x', P', e', h2⟩ := front_head C hm h
  rw [e] at e'
  have hx := (List.cons.inj e').1
  subst hx
  obtain ⟨h0, v, hv, hl⟩ := both_l C hm hst h1 h2
  obtain ⟨k, hk⟩ : ∃ k, m s t = k + 1 := ⟨m s t - 1, by omega⟩
  have hr : len (mk m (alt s t (m s t)) * v) = len (mk m (alt s t (m s t))) + len v := by
    rw [← hv, hl, alt_red C hm hst (.inr (Nat.le_refl _))]
  have ha : ∀ a b, (a = s ∧ b = t) ∨ (a = t ∧ b = s) → Br m (rw x) (alt a b (m s t) ++ rw v) := by
    intro a b hab
    have hmk : mk m (alt a b (m s t)) = mk m (alt s t (m s t)) := by
      rcases hab with ⟨rfl, rfl⟩ | ⟨rfl, rfl⟩
      · rfl
      · exact (alt_swap_mk hst h0).symm
    apply mats' C hm
    · rw [rw_mk, rw_len]
    · rw [mk_append, hmk, rw_mk, hr, alt_red C hm hst (.inr (Nat.le_refl _)), List.length_append, alt_length, rw_len]
    · rw [mk_append, hmk, rw_mk, rw_mk, hv]
  have h3 : Br m (s :: p) (s :: (alt t s k ++ (rw v ++ lifts P))) := by
    refine (nf_lifts C hm (s :: p)).symm.trans ?_
    rw [e, lifts_cons]
    have := Br.app (ha s t (.inl ⟨rfl, rfl⟩)) (Br.refl (m := m) (lifts P))
    rw [hk, List.append_assoc] at this
    exact this
  have h4 : Br m (t :: q) (t :: (alt s t k ++ (rw v ++ lifts P))) := by
    refine h.symm.trans ?_
    refine (nf_lifts C hm (s :: p)).symm.trans ?_
    rw [e, lifts_cons]
    have := Br.app (ha t s (.inr ⟨rfl, rfl⟩)) (Br.refl (m := m) (lifts P))
    rw [hk, List.append_assoc] at this
    exact this
  refine ⟨h0, rw v ++ lifts P, ?_, ?_⟩
  · rw [hk]; exact br_cancel C hm h3
  · rw [hk]; exact br_cancel C hm h4

/-! heads -/
/-- where no front of the rest may stand behind what was found, this is the head -/
theorem nf_greedy {c r : Wd} (hc : len (mk m c) = c.length) (hne : c ≠ [])
    (h : ∀ s z, Br m r (s :: z) → ¬ len (mk m c * g m s) = len (mk m c) + 1) : nf m (c ++ r) = mk m c :: nf m r := by
  have e : nf m (c ++ r) = act (mk m c) (nf m r) := by
    unfold nf
    rw [actw_app, actw_red C hm c _ hc]
  have hn : mk m c ≠ 1 := ne_of_len (by rw [hc]; exact List.length_pos_iff.2 hne)
  have hN := nrm_nf C hm r
  rw [e]
  cases hr : nf m r with
  | nil => exact act_nil_ne hn
  | cons x P =>
    rw [hr] at hN
    have p := mx_pre C hm (mk m c) x
    have l := mx_len C hm (mk m c) x
    have hx : mx (mk m c) x = 1 := by
      apply Classical.byContradiction
      intro hne
      obtain ⟨s, hs1, hs2⟩ := step_ex (pre_one (mx (mk m c) x)) (Ne.symm hne)
      rw [one_mul] at hs2 hs1
      have d := step_desc (pre_one x) (s := s) (by simp) (by rw [one_mul]; exact pre_trans hs2 p)
      rw [inv_one, one_mul] at d
      have f := head_front C hm hr d
      refine h s _ f ?_
      have := (pre_left hs2 l).2
      rw [this, len_g]
    rw [act_cons, hx, mul_one, inv_one, one_mul, act_nrm C hm hN]
omit C hm in
/-- the head of a product hangs on the head of the second one alone -/
theorem head_actw : ∀ (w : Wd) (x : W m) (P Q : List (W m)), ∃ y P' Q', actw w (x :: P) = y :: P' ∧ actw w (x :: Q) = y :: Q' := by
  intro w x P Q
  induction w with
  | nil => exact ⟨x, P, Q, rfl, rfl⟩
  | cons s w ih =>
    obtain ⟨y, P', Q', h1, h2⟩ := ih
    rw [actw_cons, actw_cons, h1, h2, act_cons, act_cons]
    exact ⟨_, _, _, rfl, rfl⟩
theorem nf_red {c : Wd} (hc : len (mk m c) = c.length) (hne : c ≠ []) : nf m c = [mk m c] := by
  have := nf_greedy C hm (c := c) (r := []) hc hne (fun s z h => by
    have := h.len; simp at this)
  rw [List.append_nil] at this
  rw [this]; rfl
/-- a row of changes, each one's front buttons back buttons of the one ahead, is told again -/
theorem nf_row : ∀ (N : List (W m)), Nrm N → nf m (lifts N) = N := by
  intro N
  induction N with
  | nil => intro _; rfl
  | cons x N ih =>
    intro h
    have : nf m (rw x ++ lifts N) = actw (rw x) (nf m (lifts N)) := actw_app _ _ _
    rw [lifts_cons, this, ih h.tail, actw_red C hm _ _ (by rw [rw_mk, rw_len]), rw_mk, act_nrm C hm h]
/-- when a change may stand ahead of another one in a row -/
theorem mx_one_iff (u w : W m) : mx u w = 1 ↔ ∀ s, len (g m s * w) + 1 = len w → len (u * g m s) + 1 = len u := by
  constructor
  · intro h s hs
    rcases len_mul_g u s with h1 | h1
    · exfalso
      have p : pre (g m s) w := by unfold pre; rw [g_inv, len_g]; omega
      have := mx_max C hm p (by rw [h1, len_g])
      rw [h] at this
      have := pre_len this
      simp at this
    · exact h1
  · intro h
    apply Classical.byContradiction
    intro hne
    obtain ⟨s, hs1, hs2⟩ := step_ex (pre_one (mx u w)) (Ne.symm hne)
    rw [one_mul] at hs2
    have d := step_desc (pre_one w) (s := s) (by simp) (by rw [one_mul]; exact pre_trans hs2 (mx_pre C hm u w))
    rw [inv_one, one_mul] at d
    have a := h s d
    have b := (pre_left hs2 (mx_len C hm u w)).2
    rw [len_g] at b
    omega
end
end KW
end
section
namespace KW
open W
variable {m : Nat → Nat → Nat}
/-! ### reversing -/
inductive Tok where
  | p (s : Nat)
  | n (s : Nat)
deriving DecidableEq, Repr
def Tok.int : Tok → Int
  | .p s => s + 1
  | .n s => -1 - s
/-- what replaces first undone and then second, the top one ahead -/
def tokR (tie u s : Nat) : List Tok := (alt s u (tie - 1)).map Tok.p ++ ((alt u s (tie - 1)).map Tok.n).reverse
/-- the loop of completions: the laid ones (last one ahead), the undone ones (last one ahead), what is right (top ahead) -/
def cgo (m : Nat → Nat → Nat) (wl most : Nat) : Nat → Wd → Wd → List Tok → Option (Option (Wd × Wd))
  | 0, _, _, _ => none
  | _ + 1, P, N, [] => some (some (P.reverse, N))
  | f + 1, P, [], .p s :: R => if most < wl + (P.length + 1) then some none else cgo m wl most f (s :: P) [] R
  | f + 1, P, u :: N, .p s :: R =>
    if s = u then cgo m wl most f P N R
    else if m u s = 0 ∨ most + N.length + 1 < wl + P.length + m u s then some none
    else cgo m wl most f P N (tokR (m u s) u s ++ R)
  | f + 1, P, N, .n s :: R => if most < wl + P.length then some none else cgo m wl most f P (s :: N) R

/-! a way through vertices -/
variable (m) in
def Way (F : Wd → Prop) : Wd → List Tok → Wd → Prop
  | v, [], e => F v ∧ Br m v e
  | v, .p s :: R, e => F v ∧ Way F (v ++ [s]) R e
  | v, .n s :: R, e => F v ∧ ∃ u, Br m v (u ++ [s]) ∧ Way F u R e
/-- what is asked of the vertices -/
structure Shut (m : Nat → Nat → Nat) (F : Wd → Prop) : Prop where
  br : ∀ {v w}, Br m v w → F v → F w
  front : ∀ {v w}, F (v ++ w) → F v
section
variable {F : Wd → Prop} (hF : Shut m F)
include hF
theorem Way.at_ {v : Wd} {R : List Tok} {e : Wd} (h : Way m F v R e) : F v := by
  cases R with
  | nil => exact h.1
  | cons t R => cases t <;> exact h.1
theorem Way.br : ∀ {R : List Tok} {v w e : Wd}, Br m v w → Way m F v R e → Way m F w R e := by
  intro R
  induction R with
  | nil => intro v w e h hW; exact ⟨hF.br h hW.1, h.symm.trans hW.2⟩
  | cons t R ih =>
    intro v w e h hW
    cases t with
    | p s => exact ⟨hF.br h hW.1, ih (Br.app h (.refl [s])) hW.2⟩
    | n s =>
      obtain ⟨h1, u, h2, h3⟩ := hW
      exact ⟨hF.br h h1, u, h.symm.trans h2, h3⟩
theorem Way.up : ∀ {Y : Wd} {v : Wd} {R : List Tok} {e : Wd}, Way m F (v ++ Y) R e → Way m F v (Y.map Tok.p ++ R) e := by
  intro Y
  induction Y with
  | nil => intro v R e h; simpa using h
  | cons s Y ih =>
    intro v R e h
    refine ⟨hF.front (h.at_ hF), ?_⟩
    apply ih
    simpa using h
theorem Way.down : ∀ (n : Nat) {Y : Wd} {a : Wd} {R : List Tok} {e : Wd}, Y.length = n → F (a ++ Y) → Way m F a R e → Way m F (a ++ Y) ((Y.map Tok.n).reverse ++ R) e := by
  intro n
  induction n with
  | zero =>
    intro Y a R e hn h hW
    have : Y = [] := List.length_eq_zero_iff.1 hn
    subst this
    simpa using hW
  | succ n ih =>
    intro Y a R e hn h hW
    rcases List.eq_nil_or_concat Y with h0 | ⟨Y', s, h0⟩
    · subst h0; simp at hn
    · have h0 : Y = Y' ++ [s] := by simpa using h0
      subst h0
      simp at hn
      rw [← List.append_assoc] at h ⊢
      have := ih hn (hF.front h) hW
      simp only [List.map_append, List.map_cons, List.map_nil, List.reverse_append, List.reverse_cons, List.reverse_nil, List.nil_append, List.cons_append]
      exact ⟨h, _, .refl _, this⟩
theorem Way.flip {c : Wd} {u s : Nat} {R : List Tok} {e : Wd} (hus : u ≠ s) (h0 : m u s ≠ 0) (hc : F (c ++ alt u s (m u s)))
    (hW : Way m F (c ++ [s]) R e) : Way m F (c ++ [u]) (tokR (m u s) u s ++ R) e := by
  obtain ⟨k, hk⟩ : ∃ k, m u s = k + 1 := ⟨m u s - 1, by omega⟩
  have sw := Br.swap (m := m) c [] u s hus h0
  rw [hk] at sw hc ⊢
  simp only [List.append_nil] at sw
  unfold tokR
  rw [List.append_assoc]
  apply Way.up hF
  simp only [Nat.add_sub_cancel]
  have e1 : c ++ [u] ++ alt s u k = c ++ alt u s (k + 1) := by simp [alt]
  have e2 : c ++ [s] ++ alt u s k = c ++ alt s u (k + 1) := by simp [alt]
  rw [e1]
  refine Way.br hF sw.symm ?_
  rw [← e2]
  apply Way.down hF _ rfl _ hW
  rw [e2]
  exact hF.br sw hc
/-- within a way -/
theorem Way.mid {Z Z' : List Tok} : ∀ {X : List Tok} {v e : Wd}, (∀ v, Way m F v Z e → Way m F v Z' e) → Way m F v (X ++ Z) e → Way m F v (X ++ Z') e := by
  intro X
  induction X with
  | nil => intro v e h hW; exact h v hW
  | cons t X ih =>
    intro v e h hW
    cases t with
    | p s => exact ⟨hW.1, ih h hW.2⟩
    | n s =>
      obtain ⟨h1, u, h2, h3⟩ := hW
      exact ⟨h1, u, h2, ih h h3⟩
end
/-- the vertex to which the undone ones lead -/
theorem Way.vertex {F : Wd → Prop} : ∀ {N : Wd} {v : Wd} {R : List Tok} {e : Wd}, Way m F v (N.map Tok.n ++ R) e → ∃ c, Br m v (c ++ N.reverse) ∧ Way m F c R e := by
  intro N
  induction N with
  | nil => intro v R e h; exact ⟨v, by simpa using Br.refl v, h⟩
  | cons s N ih =>
    intro v R e h
    obtain ⟨h1, u, h2, h3⟩ := h
    obtain ⟨c, h4, h5⟩ := ih h3
    refine ⟨c, ?_, h5⟩
    have := h2.trans (Br.app h4 (.refl [s]))
    simpa using this

/-- the loop keeps the way; where corners are shut off it does not end with nothing -/
theorem cgo_way {F : Wd → Prop} (hF : Shut m F) (wl most : Nat) (w0 : Wd) (hw0 : w0.length = wl) (e : Wd)
    (hflip : ∀ c u s, u ≠ s → m u s ≠ 0 → F (c ++ [u]) → F (c ++ [s]) → F (c ++ alt u s (m u s))) :
    ∀ (f : Nat) (P N : Wd) (R : List Tok) (Q S : Wd), cgo m wl most f P N R = some (some (Q, S)) →
      Way m F (w0 ++ P.reverse) (N.reverse.map Tok.n ++ R) e → Way m F (w0 ++ Q) (S.reverse.map Tok.n) e := by
  intro f
  induction f with
  | zero => intro P N R Q S h; simp [cgo] at h
  | succ f ih =>
    intro P N R Q S h hW
    cases R with
    | nil =>
      simp [cgo] at h
      obtain ⟨rfl, rfl⟩ := h
      simpa using hW
    | cons t R =>
      cases t with
      | p s =>
        cases N with
        | nil =>
          simp only [cgo] at h
          split at h
          · simp at h
          · refine ih _ _ _ _ _ h ?_
            have h2 := hW.2
            simpa using h2
        | cons u N =>
          simp only [cgo] at h
          have key : ∀ Z', (∀ v, Way m F v (.n u :: .p s :: R) e → Way m F v Z' e) → Way m F (w0 ++ P.reverse) (N.reverse.map Tok.n ++ Z') e := by
            intro Z' hz
            have e1 : (u :: N).reverse.map Tok.n ++ .p s :: R = N.reverse.map Tok.n ++ (.n u :: .p s :: R) := by simp
            rw [e1] at hW
            exact Way.mid hF hz hW
          split at h
          · rename_i hsu
            subst hsu
            refine ih _ _ _ _ _ h (key R ?_)
            intro v hv
            obtain ⟨_, c, h2, h3⟩ := hv
            exact Way.br hF h2.symm h3.2
          · rename_i hsu
            split at h
            · simp at h
            · rename_i hc
              refine ih _ _ _ _ _ h (key _ ?_)
              intro v hv
              obtain ⟨h1, c, h2, h3⟩ := hv
              have hus : u ≠ s := fun e => hsu e.symm
              have h0 : m u s ≠ 0 := fun e => hc (.inl e)
              refine Way.br hF h2.symm (Way.flip hF hus h0 ?_ h3.2)
              exact hflip c u s hus h0 (hF.br h2 h1) (h3.2.at_ hF)
      | n s =>
        simp only [cgo] at h
        split at h
        · simp at h
        · refine ih _ _ _ _ _ h ?_
          have : (s :: N).reverse.map Tok.n ++ R = N.reverse.map Tok.n ++ (.n s :: R) := by simp
          rw [this]; exact hW
/-- where all vertices are fronts of one positive, the loop does not end with nothing -/
theorem cgo_not {A : Nat → Nat → G} (C : Cart m A) (hm : Ties m) (wl : Nat) (w0 T : Wd) (hw0 : w0.length = wl) (e : Wd) :
    ∀ (f : Nat) (P N : Wd) (R : List Tok), cgo m wl T.length f P N R = some none →
      ¬ Way m (fun v => ∃ p, Br m T (v ++ p)) (w0 ++ P.reverse) (N.reverse.map Tok.n ++ R) e := by
  have hF : Shut m (fun v => ∃ p, Br m T (v ++ p)) := by
    constructor
    · intro v w h ⟨p, hp⟩; exact ⟨p, hp.trans (Br.app h (.refl p))⟩
    · intro v w ⟨p, hp⟩; exact ⟨w ++ p, by rw [← List.append_assoc]; exact hp⟩
  have hlcm : ∀ c u s, u ≠ s → (∃ p, Br m T (c ++ [u] ++ p)) → (∃ p, Br m T (c ++ [s] ++ p)) → m u s ≠ 0 ∧ ∃ p, Br m T (c ++ alt u s (m u s) ++ p) := by
    intro c u s hus ⟨p, hp⟩ ⟨q, hq⟩
    have h := hp.symm.trans hq
    simp only [List.append_assoc] at h
    have h2 := br_cancel_app C hm c h
    obtain ⟨h0, z, h3, h4⟩ := br_lcm C hm hus h2
    refine ⟨h0, z, ?_⟩
    obtain ⟨k, hk⟩ : ∃ k, m u s = k + 1 := ⟨m u s - 1, by omega⟩
    rw [hk] at h3 ⊢
    have h5 := Br.app (Br.refl (m := m) c) (Br.cons u h3)
    rw [List.append_assoc] at hp
    refine hp.trans ?_
    simpa [alt] using h5
  intro f
  induction f with
  | zero => intro P N R h; simp [cgo] at h
  | succ f ih =>
    intro P N R h hW
    cases R with
    | nil => simp [cgo] at h
    | cons t R =>
      cases t with
      | p s =>
        cases N with
        | nil =>
          simp only [cgo] at h
          have h2 := hW.2
          split at h
          · rename_i hl
            obtain ⟨p, hp⟩ := h2.at_ hF
            have := hp.len
            simp at this
            omega
          · refine ih _ _ _ h ?_
            simpa using h2
        | cons u N =>
          simp only [cgo] at h
          have e1 : (u :: N).reverse.map Tok.n ++ .p s :: R = N.reverse.map Tok.n ++ (.n u :: .p s :: R) := by simp
          rw [e1] at hW
          have key : ∀ Z', (∀ v, Way m (fun v => ∃ p, Br m T (v ++ p)) v (.n u :: .p s :: R) e → Way m (fun v => ∃ p, Br m T (v ++ p)) v Z' e) →
              Way m (fun v => ∃ p, Br m T (v ++ p)) (w0 ++ P.reverse) (N.reverse.map Tok.n ++ Z') e := fun Z' hz => Way.mid hF hz hW
          split at h
          · rename_i hsu
            subst hsu
            refine ih _ _ _ h (key R ?_)
            intro v hv
            obtain ⟨_, c, h2, h3⟩ := hv
            exact Way.br hF h2.symm h3.2
          · rename_i hsu
            have hus : u ≠ s := fun e => hsu e.symm
            split at h
            · rename_i hc
              obtain ⟨c', h4, h5⟩ := Way.vertex hW
              obtain ⟨h1, c, h2, h3⟩ := h5
              obtain ⟨h0, p, hp⟩ := hlcm c u s hus (hF.br h2 h1) (h3.2.at_ hF)
              rcases hc with hc | hc
              · exact h0 hc
              · have l1 := h4.len
                have l2 := h2.len
                have l3 := hp.len
                simp at l1 l2 l3
                omega
            · rename_i hc
              refine ih _ _ _ h (key _ ?_)
              intro v hv
              obtain ⟨h1, c, h2, h3⟩ := hv
              have h0 : m u s ≠ 0 := fun e => hc (.inl e)
              refine Way.br hF h2.symm (Way.flip hF hus h0 ?_ h3.2)
              exact (hlcm c u s hus (hF.br h2 h1) (h3.2.at_ hF)).2
      | n s =>
        simp only [cgo] at h
        split at h
        · rename_i hl
          obtain ⟨p, hp⟩ := hW.at_ hF
          have := hp.len
          simp at this
          omega
        · refine ih _ _ _ h ?_
          have : (s :: N).reverse.map Tok.n ++ R = N.reverse.map Tok.n ++ (.n s :: R) := by simp
          rw [this]; exact hW

/-! the loop comes to an end -/
def wtR (most : Nat) : Int → List Tok → Nat
  | _, [] => 0
  | h, .p _ :: R => 2 * 4 ^ (most - (h + 1)).toNat + wtR most (h + 1) R
  | h, .n _ :: R => 2 * 4 ^ (most - (h - 1)).toNat + wtR most (h - 1) R
def wtN (most : Nat) : Int → Wd → Nat
  | _, [] => 0
  | h, _ :: N => 4 ^ (most - h).toNat + wtN most (h + 1) N
theorem wtR_app (most : Nat) (Y : List Tok) : ∀ (X : List Tok) (h : Int), ∃ h', wtR most h (X ++ Y) = wtR most h X + wtR most h' Y ∧
    h' = h + ((X.filter fun t => match t with | .p _ => true | .n _ => false).length : Int) - ((X.filter fun t => match t with | .p _ => false | .n _ => true).length : Int) := by
  intro X
  induction X with
  | nil => intro h; exact ⟨h, by simp [wtR], by simp⟩
  | cons t X ih =>
    intro h
    cases t with
    | p s =>
      obtain ⟨h', e1, e2⟩ := ih (h + 1)
      refine ⟨h', ?_, ?_⟩
      · simp only [List.cons_append, wtR, e1]; omega
      · simp [e2]; omega
    | n s =>
      obtain ⟨h', e1, e2⟩ := ih (h - 1)
      refine ⟨h', ?_, ?_⟩
      · simp only [List.cons_append, wtR, e1]; omega
      · simp [e2]; omega
theorem pow4 (n : Nat) : 0 < 4 ^ n := Nat.pow_pos (by omega)
/-- upward: 3 times the weights is less than twice the start -/
theorem wtR_up (most : Nat) : ∀ (Y : Wd) (h : Int), h + Y.length ≤ most → 3 * wtR most h (Y.map Tok.p) + 2 * 4 ^ (most - (h + Y.length)).toNat ≤ 2 * 4 ^ (most - h).toNat := by
  intro Y
  induction Y with
  | nil => intro h hh; simp [wtR]
  | cons s Y ih =>
    intro h hh
    simp at hh
    have := ih (h + 1) (by omega)
    simp only [List.map_cons, wtR, List.length_cons]
    have e : (most - h).toNat = (most - (h + 1)).toNat + 1 := by omega
    have e2 : ((most : Int) - (h + ((Y.length + 1 : Nat) : Int))).toNat = (most - (h + 1 + Y.length)).toNat := by congr 1; omega
    rw [e, e2, Nat.pow_succ]
    omega
theorem wtR_down (most : Nat) : ∀ (n : Nat) (Y : Wd) (h : Int), Y.length = n → h ≤ most →
    3 * wtR most h ((Y.map Tok.n).reverse) + 2 * 4 ^ (most - h).toNat * 4 ≤ 2 * 4 ^ (most - (h - n)).toNat * 4 := by
  intro n
  induction n with
  | zero =>
    intro Y h hn hh
    have : Y = [] := List.length_eq_zero_iff.1 hn
    subst this
    simp [wtR]
  | succ n ih =>
    intro Y h hn hh
    rcases List.eq_nil_or_concat Y with h0 | ⟨Y', s, h0⟩
    · subst h0; simp at hn
    · have h0 : Y = Y' ++ [s] := by simpa using h0
      subst h0
      simp at hn
      have := ih Y' (h - 1) hn (by omega)
      simp only [List.map_append, List.map_cons, List.map_nil, List.reverse_append, List.reverse_cons, List.reverse_nil, List.nil_append, List.cons_append, wtR]
      have e : (most - (h - 1)).toNat = (most - h).toNat + 1 := by omega
      have e2 : ((most : Int) - (h - ((n + 1 : Nat) : Int))).toNat = (most - (h - 1 - n)).toNat := by congr 1; omega
      rw [e2]
      rw [e, Nat.pow_succ] at this ⊢
      omega
theorem cgo_ends (hm : Ties m) (wl most : Nat) : ∀ (f : Nat) (P N : Wd) (R : List Tok), (∀ u ∈ N, True) →
    wtR most ((wl : Int) + P.length - N.length) R + wtN most ((wl : Int) + P.length - N.length) N < f → cgo m wl most f P N R ≠ none := by
  intro f
  induction f with
  | zero => intro P N R _ h; omega
  | succ f ih =>
    intro P N R _ h
    cases R with
    | nil => simp [cgo]
    | cons t R =>
      cases t with
      | p s =>
        cases N with
        | nil =>
          simp only [cgo]
          split
          · simp
          · apply ih _ _ _ (fun _ _ => trivial)
            simp only [wtR, wtN, List.length_nil, List.length_cons] at h ⊢
            have e : (wl : Int) + ((P.length + 1 : Nat) : Int) - ((0 : Nat) : Int) = (wl : Int) + P.length - ((0 : Nat) : Int) + 1 := by omega
            rw [e]
            have := pow4 ((most : Int) - (wl + P.length - ((0 : Nat) : Int) + 1)).toNat
            omega
        | cons u N =>
          simp only [cgo]
          simp only [wtR, wtN, List.length_cons] at h
          generalize hb : (wl : Int) + P.length - ((N.length + 1 : Nat) : Int) = b at h
          have e : (wl : Int) + P.length - N.length = b + 1 := by omega
          split
          · apply ih _ _ _ (fun _ _ => trivial)
            rw [e]
            have := pow4 ((most : Int) - (b + 1)).toNat
            have := pow4 ((most : Int) - b).toNat
            omega
          · split
            · simp
            · rename_i hsu hc
              have h0 : m u s ≠ 0 := fun e => hc (.inl e)
              have hl : b + m u s ≤ most := by
                have : ¬ most + N.length + 1 < wl + P.length + m u s := fun e => hc (.inr e)
                omega
              apply ih _ _ _ (fun _ _ => trivial)
              rw [e]
              unfold tokR
              obtain ⟨k, hk⟩ : ∃ k, m u s = k + 1 := ⟨m u s - 1, by omega⟩
              rw [hk]
              simp only [Nat.add_sub_cancel]
              rw [List.append_assoc]
              obtain ⟨h1, a1, a2⟩ := wtR_app most (((alt u s k).map Tok.n).reverse ++ R) ((alt s u k).map Tok.p) (b + 1)
              rw [a1]
              have a2' : h1 = b + 1 + k := by
                rw [a2]
                have f1 : ∀ Y : Wd, ((Y.map Tok.p).filter fun t => match t with | .p _ => true | .n _ => false).length = Y.length := by
                  intro Y; induction Y with
                  | nil => rfl
                  | cons s Y ih => simpa using ih
                have f2 : ∀ Y : Wd, ((Y.map Tok.p).filter fun t => match t with | .p _ => false | .n _ => true).length = 0 := by
                  intro Y; induction Y with
                  | nil => rfl
                  | cons s Y ih => simpa using ih
                rw [f1, f2, alt_length]; omega
              obtain ⟨h2, b1, b2⟩ := wtR_app most R (((alt u s k).map Tok.n).reverse) h1
              rw [b1]
              have b2' : h2 = b + 1 := by
                rw [b2]
                have f1 : ∀ Y : Wd, (((Y.map Tok.n).reverse).filter fun t => match t with | .p _ => true | .n _ => false).length = 0 := by
                  intro Y; rw [List.filter_reverse, List.length_reverse]; induction Y with
                  | nil => rfl
                  | cons s Y ih => simp
                have f2 : ∀ Y : Wd, (((Y.map Tok.n).reverse).filter fun t => match t with | .p _ => false | .n _ => true).length = Y.length := by
                  intro Y; rw [List.filter_reverse, List.length_reverse]; induction Y with
                  | nil => rfl
                  | cons s Y ih => simpa using ih
                rw [f1, f2, alt_length, a2']; omega
              rw [b2']
              have u1 := wtR_up most (alt s u k) (b + 1) (by rw [alt_length]; omega)
              have u2 := wtR_down most k (alt u s k) h1 (alt_length _ _ _) (by omega)
              rw [alt_length] at u1
              have e3 : ((most : Int) - (h1 - k)).toNat = (most - (b + 1)).toNat := by congr 1; omega
              rw [e3] at u2
              have e4 : ((most : Int) - b).toNat = (most - (b + 1)).toNat + 1 := by omega
              rw [e4, Nat.pow_succ] at h
              have := pow4 ((most : Int) - (b + 1)).toNat
              have := pow4 ((most : Int) - (b + 1 + k)).toNat
              have := pow4 ((most : Int) - h1).toNat
              omega
      | n s =>
        simp only [cgo]
        split
        · simp
        · apply ih _ _ _ (fun _ _ => trivial)
          simp only [wtR, wtN, List.length_cons] at h ⊢
          have e : (wl : Int) + P.length - ((N.length + 1 : Nat) : Int) = (wl : Int) + P.length - N.length - 1 := by omega
          have e2 : (wl : Int) + P.length - N.length - 1 + 1 = (wl : Int) + P.length - N.length := by omega
          rw [e, e2]
          have := pow4 ((most : Int) - (wl + P.length - N.length - 1)).toNat
          omega
end KW
end
section
namespace KW
open W
/-! ### the program's own functions, over plain words -/
/-- the weights of the package -/
def wA (m : Nat → Nat → Nat) (s t : Nat) : G :=
  if s = t then 2
  else if s < t then (match m s t with | 0 => -2 | 2 => 0 | 3 => -1 | 4 => -1 | 5 => -G.gold | _ => -1)
  else (match m s t with | 0 => -2 | 2 => 0 | 3 => -1 | 4 => -2 | 5 => -G.gold | _ => -3)
/-- the weights of the law's own game -/
def wC (m : Nat → Nat → Nat) (s t : Nat) : G :=
  if s = t then 2
  else if m s t = 5 ∧ t < s then -(G.gold + 1)
  else if m s t = 2 then 0
  else if s < t then (match m s t with | 0 => -4 | 4 => -2 | 6 => -3 | _ => -1)
  else -1
variable {m : Nat → Nat → Nat}
theorem wA_cart (hm : Ties m) : Cart m (wA m) := by
  have nn2 : NN (-(-2 : G)) := .of_cc ⟨by decide, by decide⟩
  have nn0 : NN (-(0 : G)) := .of_cc ⟨by decide, by decide⟩
  have nn1 : NN (-(-1 : G)) := .of_cc ⟨by decide, by decide⟩
  have nn3 : NN (-(-3 : G)) := .of_cc ⟨by decide, by decide⟩
  have nng : NN (-(-G.gold : G)) := .of_cc ⟨by decide, by decide⟩
  constructor
  · intro s; simp [wA]
  · intro s t hst h
    unfold wA; rw [if_neg hst, h]; split <;> rfl
  · intro s t hst
    unfold wA; rw [if_neg hst]
    rcases hm.ok s t hst with h | h | h | h | h | h <;> rw [h] <;> split <;> assumption
  all_goals
    intro s t hst h
    have h2 := hm.symm s t
    rw [h] at h2
    unfold wA
    rw [if_neg hst, if_neg (Ne.symm hst), h, ← h2]
    rcases Nat.lt_or_gt_of_ne hst with hl | hl
    · rw [if_pos hl, if_neg (by omega)]; rfl
    · rw [if_neg (by omega), if_pos hl]; rfl
theorem wC_cart (hm : Ties m) : Cart m (wC m) := by
  have nn2 : NN (-(-2 : G)) := .of_cc ⟨by decide, by decide⟩
  have nn0 : NN (-(0 : G)) := .of_cc ⟨by decide, by decide⟩
  have nn1 : NN (-(-1 : G)) := .of_cc ⟨by decide, by decide⟩
  have nn3 : NN (-(-3 : G)) := .of_cc ⟨by decide, by decide⟩
  have nn4 : NN (-(-4 : G)) := .of_cc ⟨by decide, by decide⟩
  have nng : NN (-(-(G.gold + 1) : G)) := .of_cc ⟨by decide, by decide⟩
  constructor
  · intro s; simp [wC]
  · intro s t hst h
    unfold wC; rw [if_neg hst, h, if_neg (by omega), if_pos rfl]
  · intro s t hst
    unfold wC; rw [if_neg hst]
    rcases hm.ok s t hst with h | h | h | h | h | h <;> rw [h] <;> (repeat' split) <;> assumption
  all_goals
    intro s t hst h
    have h2 := hm.symm s t
    rw [h] at h2
    unfold wC
    rw [if_neg hst, if_neg (Ne.symm hst), h, ← h2]
    rcases Nat.lt_or_gt_of_ne hst with hl | hl
    · have k1 : ¬ (t < s) := by omega
      simp only [k1, hl, and_false, and_true, if_false, if_true]
      rfl
    · have k1 : ¬ (s < t) := by omega
      simp only [k1, hl, and_false, and_true, if_false, if_true]
      rfl

def okw (n : Nat) (w : Wd) : Prop := ∀ s ∈ w, s < n
theorem okw.app {n : Nat} {w x : Wd} (h1 : okw n w) (h2 : okw n x) : okw n (w ++ x) := by
  intro s hs
  rcases List.mem_append.1 hs with h | h
  · exact h1 s h
  · exact h2 s h
theorem okw.rev {n : Nat} {w : Wd} (h1 : okw n w) : okw n w.reverse := fun s hs => h1 s (List.mem_reverse.1 hs)
theorem okw.of_br (hm : Ties m) {n : Nat} {w x : Wd} (h : Br m w x) (h1 : okw n w) : okw n x := fun s hs => h1 s ((h.mem hm s).2 hs)

def takFuel (x : Wd) (b : Nat) : Nat := wtR x.length 1 (.n b :: x.map Tok.p) + 1
def taken (m : Nat → Nat → Nat) (x : Wd) (b : Nat) : Option Wd :=
  match cgo m 1 x.length (takFuel x b) [] [] (.n b :: x.map Tok.p) with
  | some (some (y, [])) => some y
  | _ => none
def frontB (m : Nat → Nat → Nat) (n : Nat) (x : Wd) : List Nat := (List.range n).filter fun b => (taken m x b).isSome
def firstgo (m : Nat → Nat → Nat) (n : Nat) : Nat → Wd → Wd
  | 0, _ => []
  | k + 1, x => if x = [] then [] else
    let b := (frontB m n x).headD 0
    b :: firstgo m n k ((taken m x b).getD [])
def firstW (m : Nat → Nat → Nat) (n : Nat) (x : Wd) : Wd := firstgo m n x.length x
/-- the starting numbers of a coordinate -/
def dl (c : Nat) : Nat → G := fun t => if t = c then 1 else 0
def isDownV : List G → Bool
  | [] => false
  | x :: r => if x ≠ 0 then isLow x else isDownV r
def col (A : Nat → Nat → G) (n : Nat) (w : Wd) (t : Nat) : List G := (List.range n).map fun c => play A (dl c) w t
def imgs (A : Nat → Nat → G) (n : Nat) (w : Wd) : List (List G) := (List.range n).map fun t => col A n w t
def down (A : Nat → Nat → G) (n : Nat) (w : Wd) : List Nat := (List.range n).filter fun b => isDownV (col A n w b)
def wbgo (A : Nat → Nat → G) (n : Nat) : Nat → Wd → Wd
  | 0, _ => []
  | k + 1, u => match down A n u with
    | [] => []
    | b :: _ => b :: wbgo A n k (u ++ [b])
def wordBy (A : Nat → Nat → G) (n : Nat) (c : Wd) : Wd := wbgo A n (c.length + 1) c.reverse
def fresh (m : Nat → Nat → Nat) (A : Nat → Nat → G) (n : Nat) (c r : Wd) : List Nat := (frontB m n r).filter fun b => !(down A n c).contains b
def hgo (m : Nat → Nat → Nat) (A : Nat → Nat → G) (n : Nat) : Nat → Wd → Wd → Wd × Wd
  | 0, c, r => (c, r)
  | k + 1, c, r => match fresh m A n c r with
    | [] => (c, r)
    | b :: _ => hgo m A n k (c ++ [b]) ((taken m r b).getD [])
def headOf (m : Nat → Nat → Nat) (A : Nat → Nat → G) (n : Nat) (r : Wd) : Wd × Wd := hgo m A n (r.length + 1) [] r
def ggo (m : Nat → Nat → Nat) (A : Nat → Nat → G) (n : Nat) : Nat → Wd → List Wd
  | 0, _ => []
  | k + 1, r => if r = [] then [] else (headOf m A n r).1 :: ggo m A n k (headOf m A n r).2
def grains (m : Nat → Nat → Nat) (A : Nat → Nat → G) (n : Nat) (r : Wd) : List Wd := ggo m A n r.length r
def lowB (m : Nat → Nat → Nat) (n : Nat) (w : Wd) : List Nat := (List.range n).filter fun b => isLow (play (wC m) (fun _ => 1) w b)
def rowOk (m : Nat → Nat → Nat) (n : Nat) : List Nat → List Wd → Bool
  | _, [] => true
  | behind, w :: ws => if w = [] then false
    else if (lowB m n w.reverse).filter (fun b => !behind.contains b) ≠ [] then false
    else rowOk m n (lowB m n w) ws
def isRow (m : Nat → Nat → Nat) (n : Nat) (ws : List Wd) : Bool := rowOk m n (List.range n) ws
def put (m : Nat → Nat → Nat) (A : Nat → Nat → G) (n : Nat) (cs : List Wd) : Wd :=
  cs.foldl (fun P c => firstW m n (P ++ firstW m n (wordBy A n c))) (firstW m n [])

/-! ### what these functions tell -/
section
variable {A : Nat → Nat → G} (C : Cart m A) (hm : Ties m)
include C hm
theorem taken_run (x : Wd) (b : Nat) : cgo m 1 x.length (takFuel x b) [] [] (.n b :: x.map Tok.p) ≠ none := by
  apply cgo_ends hm _ _ _ _ _ _ (fun _ _ => trivial)
  unfold takFuel
  simp only [List.length_nil, wtN]
  have : ((1 : Nat) : Int) + ((0 : Nat) : Int) - ((0 : Nat) : Int) = 1 := by omega
  rw [this]; omega
theorem taken_some {x : Wd} {b : Nat} {y : Wd} (h : taken m x b = some y) : Br m x (b :: y) := by
  unfold taken at h
  split at h
  · rename_i z hz
    cases h
    have hF : Shut m (fun _ => True) := ⟨fun _ _ => trivial, fun _ => trivial⟩
    have hW : Way m (fun _ => True) ([b] ++ ([] : Wd).reverse) ((([] : Wd).reverse).map Tok.n ++ (.n b :: x.map Tok.p)) x := by
      refine ⟨trivial, [], by exact .refl _, ?_⟩
      have := Way.up (m := m) hF (Y := x) (v := []) (R := []) (e := x) ⟨trivial, by exact .refl _⟩
      simpa using this
    have := cgo_way hF 1 x.length [b] rfl x (fun _ _ _ _ _ _ _ => trivial) _ _ _ _ _ _ hz hW
    exact this.2.symm
  · cases h
theorem taken_of {x : Wd} {b : Nat} {z : Wd} (h : Br m x (b :: z)) : ∃ y, taken m x b = some y ∧ Br m z y := by
  have hF : Shut m (fun v => ∃ p, Br m x (v ++ p)) := by
    constructor
    · intro v w h ⟨p, hp⟩; exact ⟨p, hp.trans (Br.app h (.refl p))⟩
    · intro v w ⟨p, hp⟩; exact ⟨w ++ p, by rw [← List.append_assoc]; exact hp⟩
  have hW : Way m (fun v => ∃ p, Br m x (v ++ p)) ([b] ++ ([] : Wd).reverse) ((([] : Wd).reverse).map Tok.n ++ (.n b :: x.map Tok.p)) x := by
    refine ⟨⟨z, h⟩, [], by exact .refl _, ?_⟩
    have := Way.up (m := m) hF (Y := x) (v := []) (R := []) (e := x) ⟨⟨[], by simpa using Br.refl x⟩, by exact .refl _⟩
    simpa using this
  have hne := taken_run C hm x b
  have hnn := cgo_not C hm 1 [b] x rfl x (takFuel x b) [] [] (.n b :: x.map Tok.p)
  have hsome : ∃ y, taken m x b = some y := by
    unfold taken
    cases hc : cgo m 1 x.length (takFuel x b) [] [] (.n b :: x.map Tok.p) with
    | none => exact absurd hc hne
    | some r =>
      cases r with
      | none => exact absurd hW (hnn hc)
      | some r =>
        obtain ⟨y, S⟩ := r
        have := cgo_way hF 1 x.length [b] rfl x (fun c u s hus h0 ⟨p, hp⟩ ⟨q, hq⟩ => by
          have h := hp.symm.trans hq
          simp only [List.append_assoc] at h
          have h2 := br_cancel_app C hm c h
          obtain ⟨h0, z, h3, h4⟩ := br_lcm C hm hus h2
          refine ⟨z, ?_⟩
          obtain ⟨k, hk⟩ : ∃ k, m u s = k + 1 := ⟨m u s - 1, by omega⟩
          rw [hk] at h3 ⊢
          have h5 := Br.app (Br.refl (m := m) c) (Br.cons u h3)
          rw [List.append_assoc] at hp
          refine hp.trans ?_
          simpa [alt] using h5) _ _ _ _ _ _ hc hW
        have hv := Way.vertex (N := S.reverse) (R := []) (by rw [List.append_nil]; exact this)
        obtain ⟨c, h1, h2⟩ := hv
        have l1 := h1.len
        have l2 := h2.2.len
        obtain ⟨p, hp⟩ := this.at_ hF
        have l3 := hp.len
        simp at l1 l2 l3
        have : S = [] := List.length_eq_zero_iff.1 (by omega)
        subst this
        exact ⟨y, rfl⟩
  obtain ⟨y, hy⟩ := hsome
  exact ⟨y, hy, br_cancel C hm (h.symm.trans (taken_some C hm hy))⟩
theorem frontB_mem {n : Nat} {x : Wd} {b : Nat} : b ∈ frontB m n x ↔ b < n ∧ ∃ z, Br m x (b :: z) := by
  unfold frontB
  rw [List.mem_filter, List.mem_range]
  constructor
  · intro ⟨h1, h2⟩
    obtain ⟨y, hy⟩ := Option.isSome_iff_exists.1 h2
    exact ⟨h1, y, taken_some C hm hy⟩
  · intro ⟨h1, z, hz⟩
    obtain ⟨y, hy, _⟩ := taken_of C hm hz
    exact ⟨h1, by rw [hy]; rfl⟩
theorem frontB_br {n : Nat} {x y : Wd} (h : Br m x y) : frontB m n x = frontB m n y := by
  unfold frontB
  apply List.filter_congr
  intro b _
  have : ∀ x y : Wd, Br m x y → (taken m x b).isSome = true → (taken m y b).isSome = true := by
    intro x y h h1
    obtain ⟨z, hz⟩ := Option.isSome_iff_exists.1 h1
    obtain ⟨y', hy, _⟩ := taken_of C hm (h.symm.trans (taken_some C hm hz))
    rw [hy]; rfl
  cases h1 : (taken m x b).isSome <;> cases h2 : (taken m y b).isSome
  · rfl
  · have := this y x h.symm h2; rw [h1] at this; cases this
  · have := this x y h h1; rw [h2] at this; cases this
  · rfl
theorem frontB_ne {n : Nat} {x : Wd} (hx : x ≠ []) (ho : okw n x) : frontB m n x ≠ [] := by
  cases x with
  | nil => exact absurd rfl hx
  | cons s x =>
    intro e
    have : s ∈ frontB m n (s :: x) := (frontB_mem C hm).2 ⟨ho s (by simp), x, .refl _⟩
    rw [e] at this; cases this
theorem frontB_nil {n : Nat} : frontB m n [] = [] := by
  apply List.eq_nil_iff_forall_not_mem.2
  intro b hb
  obtain ⟨_, z, hz⟩ := (frontB_mem C hm).1 hb
  have := hz.len
  simp at this
theorem head_mem {n : Nat} {x : Wd} (hx : x ≠ []) (ho : okw n x) : (frontB m n x).headD 0 ∈ frontB m n x := by
  have := frontB_ne C hm hx ho
  cases h : frontB m n x with
  | nil => exact absurd h this
  | cons a l => simp
theorem taken_len {x : Wd} {b : Nat} {y : Wd} (h : taken m x b = some y) : x.length = y.length + 1 := by
  have := (taken_some C hm h).len
  simpa using this
/-- a front button is taken away -/
theorem take_ok {n : Nat} {x : Wd} {b : Nat} (hb : b ∈ frontB m n x) (ho : okw n x) :
    ∃ y, taken m x b = some y ∧ Br m x (b :: y) ∧ x.length = y.length + 1 ∧ okw n y := by
  obtain ⟨h1, z, hz⟩ := (frontB_mem C hm).1 hb
  obtain ⟨y, hy, _⟩ := taken_of C hm hz
  have hbr := taken_some C hm hy
  exact ⟨y, hy, hbr, taken_len C hm hy, fun s hs => okw.of_br hm hbr ho s (List.mem_cons_of_mem _ hs)⟩
theorem firstgo_ok {n : Nat} : ∀ (k : Nat) (x : Wd), x.length ≤ k → okw n x → Br m x (firstgo m n k x) := by
  intro k
  induction k with
  | zero =>
    intro x hk _
    have : x = [] := List.length_eq_zero_iff.1 (by omega)
    subst this; exact .refl _
  | succ k ih =>
    intro x hk ho
    unfold firstgo
    split
    · rename_i h; subst h; exact .refl _
    · rename_i h
      obtain ⟨y, hy, hbr, hl, ho2⟩ := take_ok C hm (head_mem C hm h ho) ho
      simp only [hy, Option.getD_some]
      exact hbr.trans (.cons _ (ih y (by omega) ho2))
theorem firstgo_eq {n : Nat} : ∀ (k : Nat) (x y : Wd), x.length ≤ k → okw n x → Br m x y → firstgo m n k x = firstgo m n k y := by
  intro k
  induction k with
  | zero => intro x y _ _ _; rfl
  | succ k ih =>
    intro x y hk ho h
    unfold firstgo
    have hl := h.len
    by_cases hx : x = []
    · subst hx
      have : y = [] := List.length_eq_zero_iff.1 (by simpa using hl.symm)
      subst this; rfl
    · have hy : y ≠ [] := fun e => by subst e; exact hx (List.length_eq_zero_iff.1 (by simpa using hl))
      rw [if_neg hx, if_neg hy]
      have hf := frontB_br C hm (n := n) h
      have hoy := okw.of_br hm h ho
      obtain ⟨x2, e1, b1, l1, o1⟩ := take_ok C hm (head_mem C hm hx ho) ho
      obtain ⟨y2, e2, b2, l2, o2⟩ := take_ok C hm (head_mem C hm hy hoy) hoy
      rw [← hf] at e2 b2
      simp only [← hf, e1, e2, Option.getD_some]
      rw [ih x2 y2 (by omega) o1 (br_cancel C hm (b1.symm.trans (h.trans b2)))]
theorem firstW_br {n : Nat} {x : Wd} (ho : okw n x) : Br m x (firstW m n x) := firstgo_ok C hm _ x (Nat.le_refl _) ho
theorem firstW_ok {n : Nat} {x : Wd} (ho : okw n x) : okw n (firstW m n x) := okw.of_br hm (firstW_br C hm ho) ho
theorem firstW_eq {n : Nat} {x y : Wd} (ho : okw n x) (h : Br m x y) : firstW m n x = firstW m n y := by
  unfold firstW
  rw [← h.len]
  exact firstgo_eq C hm _ x y (Nat.le_refl _) ho h
theorem firstW_len {n : Nat} {x : Wd} (ho : okw n x) : (firstW m n x).length = x.length := (firstW_br C hm ho).len.symm
theorem firstW_idem {n : Nat} {x : Wd} (ho : okw n x) : firstW m n (firstW m n x) = firstW m n x :=
  (firstW_eq C hm ho (firstW_br C hm ho)).symm

/-! images -/
omit hm C in
theorem press_lin {A : Nat → Nat → G} (n : Nat) (F : Nat → Nat → G) (h : Nat → G) (b : Nat) (k : Nat → G)
    (e : ∀ t, t < n → h t = ((List.range n).map fun c => k c * F c t).foldr (· + ·) 0) (hb : b < n) :
    ∀ t, t < n → press A h b t = ((List.range n).map fun c => k c * press A (F c) b t).foldr (· + ·) 0 := by
  intro t ht
  unfold press
  rw [e t ht, e b hb]
  generalize List.range n = l
  induction l with
  | nil => simp; grind
  | cons c l ih =>
    simp only [List.map_cons, List.foldr_cons]
    rw [← ih]
    grind
omit hm C in
theorem play_lin {A : Nat → Nat → G} (n : Nat) (k : Nat → G) : ∀ (w : Wd) (F : Nat → Nat → G) (h : Nat → G), okw n w →
    (∀ t, t < n → h t = ((List.range n).map fun c => k c * F c t).foldr (· + ·) 0) →
    ∀ t, t < n → play A h w t = ((List.range n).map fun c => k c * play A (F c) w t).foldr (· + ·) 0 := by
  intro w
  induction w with
  | nil => intro F h _ e t ht; exact e t ht
  | cons s w ih =>
    intro F h ho e t ht
    have := ih (fun c => press A (F c) s) (press A h s) (fun x hx => ho x (List.mem_cons_of_mem _ hx))
      (press_lin n F h s k e (ho s (by simp))) t ht
    exact this
omit hm C in
theorem sum_dl (n : Nat) (k : Nat → G) : ∀ t, t < n → k t = ((List.range n).map fun c => k c * dl c t).foldr (· + ·) 0 := by
  have gen : ∀ (l : List Nat) t, l.Nodup → (t ∈ l → (l.map fun c => k c * dl c t).foldr (· + ·) 0 = k t) ∧ (t ∉ l → (l.map fun c => k c * dl c t).foldr (· + ·) 0 = 0) := by
    intro l t
    induction l with
    | nil => intro _; exact ⟨fun h => by simp at h, fun _ => rfl⟩
    | cons c l ih =>
      intro hn
      have hn' := List.nodup_cons.1 hn
      have ih := ih hn'.2
      simp only [List.map_cons, List.foldr_cons]
      constructor
      · intro h
        by_cases hc : t = c
        · subst hc
          rw [ih.2 hn'.1]
          simp [dl]; grind
        · rw [ih.1 (by simpa [hc] using h)]
          simp [dl, hc]; grind
      · intro h
        have hc : t ≠ c := fun e => h (by simp [e])
        rw [ih.2 (fun e => h (List.mem_cons_of_mem _ e))]
        simp [dl, hc]; grind
  intro t ht
  exact ((gen (List.range n) t List.nodup_range).1 (List.mem_range.2 ht)).symm
omit hm C in
theorem play_sum {A : Nat → Nat → G} (n : Nat) (k : Nat → G) (w : Wd) (ho : okw n w) (t : Nat) (ht : t < n) :
    play A k w t = ((List.range n).map fun c => k c * play A (dl c) w t).foldr (· + ·) 0 :=
  play_lin n k w dl k ho (sum_dl n k) t ht
omit hm C in
theorem dl_nn (c t : Nat) : NN (dl c t) := by
  unfold dl; split
  · exact NN.one
  · exact NN.zero
omit hm C in
theorem isDownV_up : ∀ l : List G, (∀ x ∈ l, NN x) → isDownV l = false := by
  intro l
  induction l with
  | nil => intro _; rfl
  | cons x l ih =>
    intro h
    unfold isDownV
    split
    · exact (h x (by simp)).low
    · exact ih fun y hy => h y (List.mem_cons_of_mem _ hy)
omit hm C in
theorem isDownV_down : ∀ l : List G, (∀ x ∈ l, NN (-x)) → (∃ x ∈ l, x ≠ 0) → isDownV l = true := by
  intro l
  induction l with
  | nil => intro _ ⟨x, hx, _⟩; cases hx
  | cons x l ih =>
    intro h ⟨y, hy, hy0⟩
    unfold isDownV
    split
    · rename_i hx
      exact (low_iff x).2 ⟨h x (by simp), hx⟩
    · rename_i hx
      apply ih fun y hy => h y (List.mem_cons_of_mem _ hy)
      rcases List.mem_cons.1 hy with rfl | hy
      · exact absurd hy0 (by simpa using hx)
      · exact ⟨y, hy, hy0⟩
theorem isDown_iff {n : Nat} {w : Wd} (ho : okw n w) {b : Nat} (hb : b < n) :
    isDownV (col A n w b) = true ↔ len (mk m w * g m b) + 1 = len (mk m w) := by
  rcases len_mul_g (mk m w) b with h | h
  · have : isDownV (col A n w b) = false := by
      apply isDownV_up
      intro x hx
      obtain ⟨c, _, rfl⟩ := List.mem_map.1 hx
      exact pos C hm .ofNN (dl c) (dl_nn c) _ w b (Nat.le_refl _) h
    rw [this]
    constructor
    · intro h; cases h
    · intro h2; omega
  · have : isDownV (col A n w b) = true := by
      apply isDownV_down
      · intro x hx
        obtain ⟨c, _, rfl⟩ := List.mem_map.1 hx
        exact desc_neg C hm .ofNN (dl c) (dl_nn c) w b h
      · apply Classical.byContradiction
        intro hc
        have h1 := desc_neg C hm .ofPP (fun _ => 1) (fun _ => PP.one) w b h
        apply h1.2
        have hz : ∀ l : List Nat, (∀ c ∈ l, c ∈ List.range n) → (l.map fun c => (1 : G) * play A (dl c) w b).foldr (· + ·) 0 = 0 := by
          intro l
          induction l with
          | nil => intro _; rfl
          | cons c l ih =>
            intro hl
            simp only [List.map_cons, List.foldr_cons]
            rw [ih fun x hx => hl x (List.mem_cons_of_mem _ hx)]
            have : play A (dl c) w b = 0 := by
              apply Classical.byContradiction
              intro hne
              exact hc ⟨_, List.mem_map.2 ⟨c, hl c (by simp), rfl⟩, hne⟩
            rw [this]; rfl
        have e := play_sum (A := A) n (fun _ => 1) w ho b hb
        rw [hz _ fun c hc => hc] at e
        rw [e]; rfl
    rw [this]
    exact ⟨fun _ => h, fun _ => rfl⟩
theorem down_mem {n : Nat} {w : Wd} (ho : okw n w) {b : Nat} : b ∈ down A n w ↔ b < n ∧ len (mk m w * g m b) + 1 = len (mk m w) := by
  unfold down
  rw [List.mem_filter, List.mem_range]
  constructor
  · intro ⟨h1, h2⟩; exact ⟨h1, (isDown_iff C hm ho h1).1 h2⟩
  · intro ⟨h1, h2⟩; exact ⟨h1, (isDown_iff C hm ho h1).2 h2⟩
theorem imgs_eq {n : Nat} {w x : Wd} (h : mk m w = mk m x) : imgs A n w = imgs A n x := by
  unfold imgs col
  simp only [play_gp C hm (mk_eq.1 h)]
theorem down_eq {n : Nat} {w x : Wd} (h : mk m w = mk m x) : down A n w = down A n x := by
  unfold down col
  simp only [play_gp C hm (mk_eq.1 h)]
/-- a button that makes a change shorter is one of its letters -/
theorem desc_ok {n : Nat} {w : Wd} (ho : okw n w) {b : Nat} (h : len (mk m w * g m b) + 1 = len (mk m w)) : b < n := by
  have h1 := desc_neg C hm .ofNN (dl b) (dl_nn b) w b h
  apply Classical.byContradiction
  intro hb
  have key : ∀ (w : Wd) (I : Nat → G), okw n w → (∀ t, t ≠ b → I t = 0) → play A I w b = I b := by
    intro w
    induction w with
    | nil => intro I _ _; rfl
    | cons s w ih =>
      intro I ho hI
      rw [play_cons]
      have hs : s ≠ b := fun e => hb (e ▸ ho s (by simp))
      have hp : press A I s = I := by
        funext t
        unfold press
        rw [hI s hs]; grind
      rw [hp]
      exact ih I (fun x hx => ho x (List.mem_cons_of_mem _ hx)) hI
  have e := key w (dl b) ho (fun t ht => by simp [dl, ht])
  rw [e] at h1
  have : dl b b = 1 := by simp [dl]
  rw [this] at h1
  exact PP.one.not_neg h1
theorem ldesc_ok {n : Nat} {w : Wd} (ho : okw n w) {b : Nat} (h : len (g m b * mk m w) + 1 = len (mk m w)) : b < n := by
  apply desc_ok C hm ho.rev
  have e : mk m w.reverse * g m b = (g m b * mk m w)⁻¹ := by rw [mk_rev]; simp
  rw [e, len_inv, mk_rev, len_inv]; exact h
theorem wbgo_ok {n : Nat} : ∀ (k : Nat) (u : Wd), okw n u → len (mk m u) < k → mk m u * mk m (wbgo A n k u) = 1 ∧ (wbgo A n k u).length = len (mk m u) ∧ okw n (wbgo A n k u) := by
  intro k
  induction k with
  | zero => intro u _ h; omega
  | succ k ih =>
    intro u ho hk
    unfold wbgo
    cases hd : down A n u with
    | nil =>
      have : len (mk m u) = 0 := by
        apply Classical.byContradiction
        intro h0
        obtain ⟨w', e1, e2⟩ := len_red (mk m u)
        rcases List.eq_nil_or_concat w' with h | ⟨w2, t, h⟩
        · subst h; simp at e2; omega
        · have h : w' = w2 ++ [t] := by simpa using h
          subst h
          have e3 : mk m u * g m t = mk m w2 := by
            rw [← e1, mk_append, assoc]; show _ * (g m t * g m t) = _; simp
          have h4 := len_mk (m := m) w2
          have h5 : len (mk m u * g m t) + 1 = len (mk m u) := by
            rcases len_mul_g (mk m u) t with h | h
            · rw [e3] at h; simp at e2; omega
            · exact h
          have := (down_mem C hm ho).2 ⟨desc_ok C hm ho h5, h5⟩
          rw [hd] at this; cases this
      have h1 := len_zero this
      refine ⟨?_, by simp [this], fun s hs => by cases hs⟩
      rw [h1, mk_nil, mul_one]
    | cons b l =>
      have hb := (down_mem C hm ho).1 (hd ▸ List.mem_cons_self : b ∈ down A n u)
      have ho2 : okw n (u ++ [b]) := ho.app (fun s hs => by rw [List.mem_singleton.1 hs]; exact hb.1)
      have hmk : mk m (u ++ [b]) = mk m u * g m b := mk_append _ _
      have := ih (u ++ [b]) ho2 (by rw [hmk]; omega)
      rw [hmk] at this
      refine ⟨?_, ?_, ?_⟩
      · show mk m u * (g m b * mk m _) = 1
        rw [← assoc]; exact this.1
      · simp only [List.length_cons, this.2.1]; omega
      · intro s hs
        rcases List.mem_cons.1 hs with rfl | hs
        · exact hb.1
        · exact this.2.2 s hs
theorem wordBy_ok {n : Nat} {c : Wd} (ho : okw n c) : mk m (wordBy A n c) = mk m c ∧ (wordBy A n c).length = len (mk m c) ∧ okw n (wordBy A n c) := by
  have hl : len (mk m c.reverse) = len (mk m c) := by rw [mk_rev, len_inv]
  have := wbgo_ok C hm (n := n) (c.length + 1) c.reverse ho.rev (by rw [hl]; have := len_mk (m := m) c; omega)
  refine ⟨?_, by rw [← hl]; exact this.2.1, this.2.2⟩
  have h1 := this.1
  rw [mk_rev] at h1
  apply cancel (x := (mk m c)⁻¹)
  rw [inv_mul]; exact h1
theorem wbgo_eq {n : Nat} : ∀ (k : Nat) (u v : Wd), mk m u = mk m v → wbgo A n k u = wbgo A n k v := by
  intro k
  induction k with
  | zero => intro u v _; rfl
  | succ k ih =>
    intro u v h
    unfold wbgo
    rw [down_eq C hm h]
    cases down A n v with
    | nil => rfl
    | cons b l =>
      show b :: _ = b :: _
      rw [ih (u ++ [b]) (v ++ [b]) (by rw [mk_append, mk_append, h])]

/-! heads and grains -/
theorem fresh_mem {n : Nat} {c r : Wd} (hc : okw n c) {b : Nat} : b ∈ fresh m A n c r ↔ b < n ∧ (∃ z, Br m r (b :: z)) ∧ len (mk m c * g m b) = len (mk m c) + 1 := by
  unfold fresh
  rw [List.mem_filter, frontB_mem C hm]
  have : (!(down A n c).contains b) = true ↔ b ∉ down A n c := by simp
  rw [this, down_mem C hm hc]
  constructor
  · intro ⟨⟨h1, h2⟩, h3⟩
    refine ⟨h1, h2, ?_⟩
    rcases len_mul_g (mk m c) b with h | h
    · exact h
    · exact absurd ⟨h1, h⟩ h3
  · intro ⟨h1, h2, h3⟩
    exact ⟨⟨h1, h2⟩, fun h => by omega⟩
theorem hgo_ok {n : Nat} : ∀ (k : Nat) (c r : Wd), r.length < k → okw n c → okw n r → len (mk m c) = c.length →
    Br m (c ++ r) ((hgo m A n k c r).1 ++ (hgo m A n k c r).2) ∧ okw n (hgo m A n k c r).1 ∧ okw n (hgo m A n k c r).2 ∧
    len (mk m (hgo m A n k c r).1) = (hgo m A n k c r).1.length ∧ fresh m A n (hgo m A n k c r).1 (hgo m A n k c r).2 = [] ∧
    c.length ≤ (hgo m A n k c r).1.length ∧ (fresh m A n c r ≠ [] → c.length < (hgo m A n k c r).1.length) := by
  intro k
  induction k with
  | zero => intro c r h; omega
  | succ k ih =>
    intro c r hk hc hr hl
    unfold hgo
    cases hf : fresh m A n c r with
    | nil => exact ⟨.refl _, hc, hr, hl, hf, Nat.le_refl _, fun h => absurd rfl h⟩
    | cons b l =>
      have hb : b ∈ fresh m A n c r := hf ▸ List.mem_cons_self
      obtain ⟨h1, ⟨z, h2⟩, h3⟩ := (fresh_mem C hm hc).1 hb
      obtain ⟨y, hy, hbr, hyl, hyo⟩ := take_ok C hm ((frontB_mem C hm).2 ⟨h1, z, h2⟩) hr
      simp only [hy, Option.getD_some]
      have ho2 : okw n (c ++ [b]) := hc.app (fun s hs => by rw [List.mem_singleton.1 hs]; exact h1)
      have hl2 : len (mk m (c ++ [b])) = (c ++ [b]).length := by
        rw [mk_append]; show len (mk m c * g m b) = _; simp; omega
      have := ih (c ++ [b]) y (by omega) ho2 hyo hl2
      obtain ⟨i1, i2, i3, i4, i5, i6, i7⟩ := this
      refine ⟨?_, i2, i3, i4, i5, ?_, fun _ => ?_⟩
      · refine Br.trans ?_ i1
        have := Br.app (Br.refl (m := m) c) hbr
        simpa using this
      · simp at i6; omega
      · simp at i6; omega
theorem headOf_ok {n : Nat} {r : Wd} (hr : okw n r) (hne : r ≠ []) :
    Br m r ((headOf m A n r).1 ++ (headOf m A n r).2) ∧ okw n (headOf m A n r).1 ∧ okw n (headOf m A n r).2 ∧
    len (mk m (headOf m A n r).1) = (headOf m A n r).1.length ∧ (headOf m A n r).1 ≠ [] ∧
    nf m r = mk m (headOf m A n r).1 :: nf m (headOf m A n r).2 := by
  have := hgo_ok C hm (n := n) (r.length + 1) [] r (by omega) (fun s hs => by cases hs) hr (by rw [mk_nil, len_one]; rfl)
  unfold headOf
  generalize hgo m A n (r.length + 1) [] r = q at *
  obtain ⟨i1, i2, i3, i4, i5, i6, i7⟩ := this
  rw [List.nil_append] at i1
  have hne2 : q.1 ≠ [] := by
    have : fresh m A n [] r ≠ [] := by
      cases r with
      | nil => exact absurd rfl hne
      | cons s r =>
        intro e
        have : s ∈ fresh m A n [] (s :: r) := (fresh_mem C hm (fun s hs => by cases hs)).2 ⟨hr s (by simp), ⟨r, .refl _⟩, by simp [mk_nil]⟩
        rw [e] at this; cases this
    have := i7 this
    intro e; rw [e] at this; simp at this
  refine ⟨i1, i2, i3, i4, hne2, ?_⟩
  rw [nf_br C hm i1]
  apply nf_greedy C hm i4 hne2
  intro s z hz h
  have hs : s < n := okw.of_br hm hz i3 s (by simp)
  have : s ∈ fresh m A n q.1 q.2 := (fresh_mem C hm i2).2 ⟨hs, ⟨z, hz⟩, h⟩
  rw [i5] at this; cases this
/-- what is said of grains -/
def Gr (m : Nat → Nat → Nat) (n : Nat) (cs : List Wd) : Prop := ∀ c ∈ cs, okw n c ∧ len (mk m c) = c.length ∧ c ≠ []
theorem ggo_ok {n : Nat} : ∀ (k : Nat) (r : Wd), r.length ≤ k → okw n r → (ggo m A n k r).map (mk m) = nf m r ∧ Gr m n (ggo m A n k r) ∧ (ggo m A n k r).flatten.length = r.length := by
  intro k
  induction k with
  | zero =>
    intro r hk _
    have : r = [] := List.length_eq_zero_iff.1 (by omega)
    subst this
    exact ⟨rfl, (fun c hc => by cases hc), rfl⟩
  | succ k ih =>
    intro r hk hr
    unfold ggo
    split
    · rename_i h; subst h; exact ⟨rfl, (fun c hc => by cases hc), rfl⟩
    · rename_i hne
      obtain ⟨h1, h2, h3, h4, h5, h6⟩ := headOf_ok C hm hr hne
      have l1 := h1.len
      have l2 := List.length_pos_iff.2 h5
      rw [List.length_append] at l1
      have := ih (headOf m A n r).2 (by omega) h3
      refine ⟨?_, ?_, ?_⟩
      · rw [List.map_cons, this.1, h6]
      · intro c hc
        rcases List.mem_cons.1 hc with rfl | hc
        · exact ⟨h2, h4, h5⟩
        · exact this.2.1 c hc
      · rw [List.flatten_cons, List.length_append, this.2.2]; omega
theorem grains_nf {n : Nat} {r : Wd} (hr : okw n r) : (grains m A n r).map (mk m) = nf m r := (ggo_ok C hm _ r (Nat.le_refl _) hr).1
theorem grains_gr {n : Nat} {r : Wd} (hr : okw n r) : Gr m n (grains m A n r) := (ggo_ok C hm _ r (Nat.le_refl _) hr).2.1
theorem grains_len {n : Nat} {r : Wd} (hr : okw n r) : (grains m A n r).flatten.length = r.length := (ggo_ok C hm _ r (Nat.le_refl _) hr).2.2
end
end KW
end
section
namespace KW
open W
variable {m : Nat → Nat → Nat}
/-! ### the law over plain words -/
theorem rdesc_rev {w : Wd} {b : Nat} : len (mk m w.reverse * g m b) + 1 = len (mk m w.reverse) ↔ len (g m b * mk m w) + 1 = len (mk m w) := by
  have e : mk m w.reverse * g m b = (g m b * mk m w)⁻¹ := by rw [mk_rev]; simp
  rw [e, len_inv, mk_rev, len_inv]
theorem lowB_mem (hm : Ties m) {n : Nat} {w : Wd} {b : Nat} : b ∈ lowB m n w ↔ b < n ∧ len (mk m w * g m b) + 1 = len (mk m w) := by
  unfold lowB
  rw [List.mem_filter, List.mem_range, desc_iff (wC_cart hm) hm (fun _ => 1) (fun _ => PP.one)]
theorem mk_ne {c : Wd} (h1 : len (mk m c) = c.length) (h2 : c ≠ []) : mk m c ≠ 1 :=
  ne_of_len (by rw [h1]; exact List.length_pos_iff.2 h2)
theorem mk_ne_iff {c : Wd} (h1 : len (mk m c) = c.length) : mk m c ≠ 1 ↔ c ≠ [] :=
  ⟨fun h e => h (by subst e; rfl), mk_ne h1⟩
/-- words that are least -/
def Lw (m : Nat → Nat → Nat) (n : Nat) (cs : List Wd) : Prop := ∀ c ∈ cs, okw n c ∧ len (mk m c) = c.length
theorem rowOk_iff (hm : Ties m) {n : Nat} : ∀ (ws : List Wd) (w : Wd), Lw m n ws → okw n w → len (mk m w) = w.length → w ≠ [] →
    (rowOk m n (lowB m n w) ws = true ↔ Nrm (mk m w :: ws.map (mk m))) := by
  have C := wA_cart hm
  intro ws
  induction ws with
  | nil =>
    intro w _ _ h1 h2
    exact ⟨fun _ => mk_ne h1 h2, fun _ => rfl⟩
  | cons v ws ih =>
    intro w hL ho h1 h2
    have hv := hL v (by simp)
    have hL' : Lw m n ws := fun c hc => hL c (List.mem_cons_of_mem _ hc)
    unfold rowOk
    by_cases hv0 : v = []
    · rw [if_pos hv0]
      constructor
      · intro h; cases h
      · intro h
        exact absurd (by rw [hv0]; rfl) h.tail.head
    · rw [if_neg hv0]
      have key : (lowB m n v.reverse).filter (fun b => !(lowB m n w).contains b) = [] ↔ mx (mk m w) (mk m v) = 1 := by
        rw [mx_one_iff C hm, List.filter_eq_nil_iff]
        constructor
        · intro h s hs
          have hsn := ldesc_ok C hm hv.1 hs
          have := h s ((lowB_mem hm).2 ⟨hsn, rdesc_rev.2 hs⟩)
          have : s ∈ lowB m n w := by simpa using this
          exact ((lowB_mem hm).1 this).2
        · intro h s hs
          have hs := (lowB_mem hm).1 hs
          have := (lowB_mem hm (w := w)).2 ⟨hs.1, h s (rdesc_rev.1 hs.2)⟩
          simp [this]
      by_cases hk : (lowB m n v.reverse).filter (fun b => !(lowB m n w).contains b) = []
      · rw [if_neg (by simp only [hk, ne_eq, not_true_eq_false, not_false_eq_true]), ih v hL' hv.1 hv.2 hv0]
        exact ⟨fun h => ⟨mk_ne h1 h2, key.1 hk, h⟩, fun h => h.2.2⟩
      · rw [if_pos hk]
        constructor
        · intro h; cases h
        · intro h; exact absurd (key.2 h.2.1) hk
theorem isRow_iff (hm : Ties m) {n : Nat} (ws : List Wd) (hL : Lw m n ws) : isRow m n ws = true ↔ Nrm (ws.map (mk m)) := by
  unfold isRow
  cases ws with
  | nil => exact ⟨fun _ => trivial, fun _ => rfl⟩
  | cons w ws =>
    have hw := hL w (by simp)
    have hL' : Lw m n ws := fun c hc => hL c (List.mem_cons_of_mem _ hc)
    unfold rowOk
    by_cases hw0 : w = []
    · rw [if_pos hw0]
      constructor
      · intro h; cases h
      · intro h; exact absurd (by rw [hw0]; rfl) h.head
    · rw [if_neg hw0]
      have hk : (lowB m n w.reverse).filter (fun b => !(List.range n).contains b) = [] := by
        rw [List.filter_eq_nil_iff]
        intro s hs
        have := ((lowB_mem hm).1 hs).1
        simp [this]
      rw [if_neg (by simp only [hk, ne_eq, not_true_eq_false, not_false_eq_true]), rowOk_iff hm ws w hL' hw.1 hw.2 hw0]
      exact Iff.rfl
section
variable (hm : Ties m)
include hm
theorem map_wordBy {n : Nat} {cs : List Wd} (h : ∀ c ∈ cs, okw n c) : (cs.map (wordBy (wA m) n)).map (mk m) = cs.map (mk m) := by
  rw [List.map_map]
  apply List.map_congr_left
  intro c hc
  exact (wordBy_ok (wA_cart hm) hm (h c hc)).1
theorem lw_wordBy {n : Nat} {cs : List Wd} (h : ∀ c ∈ cs, okw n c) : Lw m n (cs.map (wordBy (wA m) n)) := by
  intro c hc
  obtain ⟨d, hd, rfl⟩ := List.mem_map.1 hc
  have := wordBy_ok (wA_cart hm) hm (h d hd)
  exact ⟨this.2.2, by rw [this.1, this.2.1]⟩
theorem nrm_grains {n : Nat} {r : Wd} (hr : okw n r) : Nrm ((grains m (wA m) n r).map (mk m)) := by
  rw [grains_nf (wA_cart hm) hm hr]; exact nrm_nf (wA_cart hm) hm r
theorem map_imgs {n : Nat} {cs ds : List Wd} (h : cs.map (mk m) = ds.map (mk m)) : cs.map (imgs (wA m) n) = ds.map (imgs (wA m) n) := by
  induction cs generalizing ds with
  | nil =>
    cases ds with
    | nil => rfl
    | cons d ds => simp at h
  | cons c cs ih =>
    cases ds with
    | nil => simp at h
    | cons d ds =>
      simp only [List.map_cons, List.cons.injEq] at h ⊢
      exact ⟨imgs_eq (wA_cart hm) hm h.1, ih h.2⟩
/-- the lifts of a word's change -/
theorem lift_br {n : Nat} {c : Wd} (ho : okw n c) : Br m (firstW m n (wordBy (wA m) n c)) (rw (mk m c)) := by
  have w := wordBy_ok (wA_cart hm) hm ho
  refine (firstW_br (wA_cart hm) hm w.2.2).symm.trans ?_
  apply mats' (wA_cart hm) hm
  · rw [w.1, w.2.1]
  · rw [rw_mk, rw_len]
  · rw [w.1, rw_mk]
theorem put_go {n : Nat} : ∀ (cs : List Wd) (P : Wd), (∀ c ∈ cs, okw n c) → okw n P →
    okw n (cs.foldl (fun P c => firstW m n (P ++ firstW m n (wordBy (wA m) n c))) P) ∧
    Br m (cs.foldl (fun P c => firstW m n (P ++ firstW m n (wordBy (wA m) n c))) P) (P ++ lifts (cs.map (mk m))) := by
  have C := wA_cart hm
  intro cs
  induction cs with
  | nil => intro P _ h; exact ⟨h, by simpa [lifts] using Br.refl P⟩
  | cons c cs ih =>
    intro P h hP
    have hc := h c (by simp)
    have w := wordBy_ok C hm hc
    have o1 : okw n (P ++ firstW m n (wordBy (wA m) n c)) := hP.app (firstW_ok C hm w.2.2)
    have := ih (firstW m n (P ++ firstW m n (wordBy (wA m) n c))) (fun c hc => h c (List.mem_cons_of_mem _ hc)) (firstW_ok C hm o1)
    refine ⟨this.1, this.2.trans ?_⟩
    rw [List.map_cons, lifts_cons, ← List.append_assoc]
    refine Br.app ?_ (.refl _)
    exact (firstW_br C hm o1).symm.trans (Br.app (.refl _) (lift_br hm hc))
theorem firstW_nil {n : Nat} : firstW m n [] = [] := rfl
theorem put_br {n : Nat} (cs : List Wd) (h : ∀ c ∈ cs, okw n c) : okw n (put m (wA m) n cs) ∧ Br m (put m (wA m) n cs) (lifts (cs.map (mk m))) := by
  have := put_go hm (n := n) cs (firstW m n []) h (fun s hs => by cases hs)
  exact this
theorem put_first {n : Nat} (cs : List Wd) (h : ∀ c ∈ cs, okw n c) : firstW m n (put m (wA m) n cs) = put m (wA m) n cs := by
  have C := wA_cart hm
  rcases List.eq_nil_or_concat cs with h0 | ⟨ds, c, h0⟩
  · subst h0; rfl
  · have h0 : cs = ds ++ [c] := by simpa using h0
    subst h0
    unfold put
    rw [List.foldl_append]
    have hds : ∀ c ∈ ds, okw n c := fun d hd => h d (by simp [hd])
    have := (put_go hm (n := n) ds (firstW m n []) hds (fun s hs => by cases hs)).1
    simp only [List.foldl_cons, List.foldl_nil]
    apply firstW_idem C hm
    exact this.app (firstW_ok C hm (wordBy_ok C hm (h c (by simp))).2.2)
/-- K1 -/
theorem law_row {n : Nat} {r : Wd} (hr : okw n r) : isRow m n ((grains m (wA m) n r).map (wordBy (wA m) n)) = true := by
  have C := wA_cart hm
  have hg : ∀ c ∈ grains m (wA m) n r, okw n c := fun c hc => (grains_gr C hm hr c hc).1
  rw [isRow_iff hm _ (lw_wordBy hm hg), map_wordBy hm hg]
  exact nrm_grains hm hr
/-- K2 -/
theorem law_put {n : Nat} {r : Wd} (hr : okw n r) : put m (wA m) n (grains m (wA m) n (firstW m n r)) = firstW m n r := by
  have C := wA_cart hm
  have hr' := firstW_ok C hm hr
  have hg : ∀ c ∈ grains m (wA m) n (firstW m n r), okw n c := fun c hc => (grains_gr C hm hr' c hc).1
  have h := put_br hm _ hg
  rw [← put_first hm _ hg]
  refine Eq.trans ?_ (firstW_idem C hm hr)
  apply firstW_eq C hm h.1
  refine h.2.trans ?_
  rw [grains_nf C hm hr']
  exact nf_lifts C hm _
/-- K3 -/
theorem law_head_nil {n : Nat} {x y : Wd} (hx : okw n x) (hy : okw n y) (h : grains m (wA m) n (firstW m n y) = []) :
    firstW m n (firstW m n x ++ firstW m n y) = firstW m n x := by
  have C := wA_cart hm
  have l := grains_len C hm (firstW_ok C hm hy)
  rw [h] at l
  have : firstW m n y = [] := List.length_eq_zero_iff.1 (by simpa using l.symm)
  rw [this, List.append_nil, firstW_idem C hm hx]
theorem law_head {n : Nat} {x y : Wd} (hx : okw n x) (hy : okw n y) {h : Wd} {P : List Wd} (hg : grains m (wA m) n (firstW m n y) = h :: P) :
    ∃ a Q b R, grains m (wA m) n (firstW m n (firstW m n x ++ firstW m n y)) = a :: Q ∧
      grains m (wA m) n (firstW m n (firstW m n x ++ firstW m n (wordBy (wA m) n h))) = b :: R ∧ imgs (wA m) n a = imgs (wA m) n b := by
  have C := wA_cart hm
  have ox := firstW_ok C hm hx
  have oy := firstW_ok C hm hy
  have gh := grains_gr C hm oy h (by rw [hg]; simp)
  have wh := wordBy_ok C hm gh.1
  have ol := firstW_ok C hm wh.2.2
  have oxy := ox.app oy
  have oxl := ox.app ol
  have e1 := grains_nf C hm (firstW_ok C hm oxy)
  have e2 := grains_nf C hm (firstW_ok C hm oxl)
  have e3 := grains_nf C hm oy
  rw [hg, List.map_cons] at e3
  rw [← nf_br C hm (firstW_br C hm oxy)] at e1
  rw [← nf_br C hm (firstW_br C hm oxl)] at e2
  have f1 : nf m (firstW m n x ++ firstW m n y) = actw (firstW m n x) (nf m (firstW m n y)) := actw_app _ _ _
  have f2 : nf m (firstW m n x ++ firstW m n (wordBy (wA m) n h)) = actw (firstW m n x) (nf m (firstW m n (wordBy (wA m) n h))) := actw_app _ _ _
  have f3 : nf m (firstW m n (wordBy (wA m) n h)) = [mk m h] := by
    rw [← nf_br C hm (firstW_br C hm wh.2.2)]
    have : wordBy (wA m) n h ≠ [] := by
      intro e
      have := wh.2.1
      rw [e, gh.2.1] at this
      exact gh.2.2 (List.length_eq_zero_iff.1 this.symm)
    rw [nf_red C hm (by rw [wh.1, wh.2.1]) this, wh.1]
  obtain ⟨z, P', Q', g1, g2⟩ := head_actw (firstW m n x) (mk m h) (P.map (mk m)) []
  rw [f1, ← e3, g1] at e1
  rw [f2, f3, g2] at e2
  cases hA : grains m (wA m) n (firstW m n (firstW m n x ++ firstW m n y)) with
  | nil => rw [hA] at e1; simp at e1
  | cons a Q =>
    cases hB : grains m (wA m) n (firstW m n (firstW m n x ++ firstW m n (wordBy (wA m) n h))) with
    | nil => rw [hB] at e2; simp at e2
    | cons b R =>
      rw [hA] at e1
      rw [hB] at e2
      simp only [List.map_cons, List.cons.injEq] at e1 e2
      exact ⟨a, Q, b, R, rfl, rfl, imgs_eq C hm (e1.1.trans e2.1.symm)⟩
/-- K4 -/
theorem law_lift {n : Nat} {e : Wd} (he : okw n e) :
    (grains m (wA m) n (firstW m n (wordBy (wA m) n e))).map (imgs (wA m) n) = (if wordBy (wA m) n e ≠ [] then [e] else []).map (imgs (wA m) n) := by
  have C := wA_cart hm
  have w := wordBy_ok C hm he
  apply map_imgs hm
  rw [grains_nf C hm (firstW_ok C hm w.2.2), ← nf_br C hm (firstW_br C hm w.2.2)]
  split
  · rename_i h
    rw [nf_red C hm (by rw [w.1, w.2.1]) h, w.1]; rfl
  · rename_i h
    have : wordBy (wA m) n e = [] := by simpa using h
    rw [this]; rfl
/-- K5 -/
theorem law_on {n : Nat} {r e : Wd} (hr : okw n r) (he : okw n e)
    (hrow : isRow m n ((grains m (wA m) n (firstW m n r)).map (wordBy (wA m) n) ++ [wordBy (wA m) n e]) = true) :
    (grains m (wA m) n (firstW m n (firstW m n r ++ firstW m n (wordBy (wA m) n e)))).map (imgs (wA m) n) =
      (grains m (wA m) n (firstW m n r) ++ [e]).map (imgs (wA m) n) := by
  have C := wA_cart hm
  have or := firstW_ok C hm hr
  have w := wordBy_ok C hm he
  have hg : ∀ c ∈ grains m (wA m) n (firstW m n r), okw n c := fun c hc => (grains_gr C hm or c hc).1
  have hall : ∀ c ∈ grains m (wA m) n (firstW m n r) ++ [e], okw n c := by
    intro c hc
    rcases List.mem_append.1 hc with h | h
    · exact hg c h
    · rw [List.mem_singleton.1 h]; exact he
  have hcat : (grains m (wA m) n (firstW m n r)).map (wordBy (wA m) n) ++ [wordBy (wA m) n e] = (grains m (wA m) n (firstW m n r) ++ [e]).map (wordBy (wA m) n) := by
    rw [List.map_append]; rfl
  rw [hcat, isRow_iff hm _ (lw_wordBy hm hall), map_wordBy hm hall] at hrow
  apply map_imgs hm
  have oo := or.app (firstW_ok C hm w.2.2)
  rw [grains_nf C hm (firstW_ok C hm oo), ← nf_br C hm (firstW_br C hm oo)]
  have hb : Br m (firstW m n r ++ firstW m n (wordBy (wA m) n e)) (lifts ((grains m (wA m) n (firstW m n r) ++ [e]).map (mk m))) := by
    rw [List.map_append, grains_nf C hm or]
    have : lifts (nf m (firstW m n r) ++ List.map (mk m) [e]) = lifts (nf m (firstW m n r)) ++ rw (mk m e) := by
      unfold lifts; simp
    rw [this]
    exact Br.app (nf_lifts C hm _).symm (lift_br hm he)
  rw [nf_br C hm hb, nf_row C hm _ hrow]
theorem law_tail {n : Nat} {r : Wd} (hr : okw n r) :
    (grains m (wA m) n (put m (wA m) n (grains m (wA m) n r).tail)).map (imgs (wA m) n) = ((grains m (wA m) n r).tail).map (imgs (wA m) n) := by
  have C := wA_cart hm
  have hg : ∀ c ∈ (grains m (wA m) n r).tail, okw n c := fun c hc => (grains_gr C hm hr c (List.mem_of_mem_tail hc)).1
  have h := put_br hm _ hg
  apply map_imgs hm
  rw [grains_nf C hm h.1, nf_br C hm h.2, nf_row C hm]
  have := nrm_grains hm hr
  cases hl : grains m (wA m) n r with
  | nil => trivial
  | cons c cs =>
    rw [hl] at this
    exact this.tail
end
end KW
end
section
namespace KW
open W
variable {m : Nat → Nat → Nat}
/-! ### bounds of the pictures -/
theorem wA_cases (s t : Nat) : wA m s t = 2 ∨ wA m s t = -2 ∨ wA m s t = 0 ∨ wA m s t = -1 ∨ wA m s t = -3 ∨ wA m s t = -G.gold := by
  unfold wA
  split
  · exact .inl rfl
  · split
    · split <;> simp
    · split <;> simp
def bd (k : Nat) (x : G) : Prop := -(4 ^ k : Int) ≤ x.a ∧ x.a ≤ (4 ^ k : Int) ∧ -(4 ^ k : Int) ≤ x.b ∧ x.b ≤ (4 ^ k : Int)
theorem bd_press {k : Nat} {x y : G} (s t : Nat) (hx : bd k x) (hy : bd k y) : bd (k + 1) (x - wA m s t * y) := by
  have e : (4 ^ (k + 1) : Int) = 4 * 4 ^ k := by rw [Int.pow_succ]; omega
  unfold bd at *
  rw [e]
  generalize (4 ^ k : Int) = q at *
  obtain ⟨h1, h2, h3, h4⟩ := hx
  obtain ⟨h5, h6, h7, h8⟩ := hy
  rcases wA_cases (m := m) s t with h | h | h | h | h | h <;> rw [h]
  · show _ ≤ x.a - (2 * y.a + 0 * y.b) ∧ x.a - (2 * y.a + 0 * y.b) ≤ _ ∧ _ ≤ x.b - (2 * y.b + 0 * y.a + 0 * y.b) ∧ x.b - (2 * y.b + 0 * y.a + 0 * y.b) ≤ _
    omega
  · show _ ≤ x.a - (-2 * y.a + -0 * y.b) ∧ x.a - (-2 * y.a + -0 * y.b) ≤ _ ∧ _ ≤ x.b - (-2 * y.b + -0 * y.a + -0 * y.b) ∧ x.b - (-2 * y.b + -0 * y.a + -0 * y.b) ≤ _
    omega
  · show _ ≤ x.a - (0 * y.a + 0 * y.b) ∧ x.a - (0 * y.a + 0 * y.b) ≤ _ ∧ _ ≤ x.b - (0 * y.b + 0 * y.a + 0 * y.b) ∧ x.b - (0 * y.b + 0 * y.a + 0 * y.b) ≤ _
    omega
  · show _ ≤ x.a - (-1 * y.a + -0 * y.b) ∧ x.a - (-1 * y.a + -0 * y.b) ≤ _ ∧ _ ≤ x.b - (-1 * y.b + -0 * y.a + -0 * y.b) ∧ x.b - (-1 * y.b + -0 * y.a + -0 * y.b) ≤ _
    omega
  · show _ ≤ x.a - (-3 * y.a + -0 * y.b) ∧ x.a - (-3 * y.a + -0 * y.b) ≤ _ ∧ _ ≤ x.b - (-3 * y.b + -0 * y.a + -0 * y.b) ∧ x.b - (-3 * y.b + -0 * y.a + -0 * y.b) ≤ _
    omega
  · show _ ≤ x.a - (-0 * y.a + -1 * y.b) ∧ x.a - (-0 * y.a + -1 * y.b) ≤ _ ∧ _ ≤ x.b - (-0 * y.b + -1 * y.a + -1 * y.b) ∧ x.b - (-0 * y.b + -1 * y.a + -1 * y.b) ≤ _
    omega
theorem bd_play : ∀ (w : Wd) (k : Nat) (I : Nat → G), (∀ t, bd k (I t)) → ∀ t, bd (k + w.length) (play (wA m) I w t)
  | [], k, I, h, t => h t
  | b :: w, k, I, h, t => by
    have := bd_play w (k + 1) (press (wA m) I b) (fun t => bd_press b t (h t) (h b)) t
    rw [List.length_cons, show k + (w.length + 1) = k + 1 + w.length by omega]
    exact this
theorem bd_dl (c t : Nat) : bd 0 (dl c t) := by
  unfold dl
  split
  · exact ⟨by decide, by decide, by decide, by decide⟩
  · exact ⟨by decide, by decide, by decide, by decide⟩
theorem pow4_le {j k : Nat} (h : j ≤ k) : (4 ^ j : Int) ≤ 4 ^ k := by
  obtain ⟨d, rfl⟩ := Nat.exists_eq_add_of_le h
  rw [Int.pow_add]
  have h1 : (0 : Int) < 4 ^ j := Int.pow_pos (by decide)
  have h2 : (1 : Int) ≤ 4 ^ d := by
    have : (0 : Int) < 4 ^ d := Int.pow_pos (by decide)
    omega
  calc (4 ^ j : Int) = 4 ^ j * 1 := by omega
    _ ≤ 4 ^ j * 4 ^ d := Int.mul_le_mul_of_nonneg_left h2 (by omega)
theorem bd_mono {j k : Nat} {x : G} (h : j ≤ k) (hx : bd j x) : bd k x := by
  have := pow4_le h
  unfold bd at *
  omega
/-- the pictures of a change of length at most k -/
theorem imgs_bd (hm : Ties m) {n k : Nat} {u : Wd} (ho : okw n u) (hk : len (mk m u) ≤ k) {t c : Nat} (ht : t < n) (hc : c < n) : bd k (play (wA m) (dl c) u t) := by
  obtain ⟨e1, e2, e3⟩ := wordBy_ok (wA_cart hm) hm (n := n) ho
  have h1 := imgs_eq (A := wA m) (wA_cart hm) hm (n := n) e1
  have h2 : play (wA m) (dl c) (wordBy (wA m) n u) t = play (wA m) (dl c) u t := by
    have a := congrArg (fun l => (l[t]?.bind (·[c]?))) h1
    simp only [imgs, col, List.getElem?_map, List.getElem?_range ht, List.getElem?_range hc, Option.map_some, Option.bind_some] at a
    exact Option.some.inj a
  rw [← h2]
  refine bd_mono (j := 0 + (wordBy (wA m) n u).length) (by omega) (bd_play _ 0 _ (bd_dl c) t)
/-! ### a press in front -/
def lvl (A : Nat → Nat → G) (b : Nat) (x : Nat → G) : Nat → G
  | 0 => 0
  | k + 1 => lvl A b x k + A b k * x k
theorem foldr_add (f : Nat → G) (z : G) : ∀ l : List Nat, (l.map f).foldr (· + ·) z = (l.map f).foldr (· + ·) 0 + z
  | [] => by simp; grind
  | a :: l => by
    simp only [List.map_cons, List.foldr_cons]
    rw [foldr_add f z l]
    grind
theorem lvl_sum (A : Nat → Nat → G) (b : Nat) (x : Nat → G) : ∀ n, lvl A b x n = ((List.range n).map fun s => A b s * x s).foldr (· + ·) 0
  | 0 => rfl
  | n + 1 => by
    rw [List.range_succ, List.map_append, List.foldr_append]
    simp only [List.map_cons, List.map_nil, List.foldr_cons, List.foldr_nil]
    rw [foldr_add, ← lvl_sum A b x n]
    show lvl A b x n + A b n * x n = lvl A b x n + (A b n * x n + 0)
    grind
theorem play_front {A : Nat → Nat → G} {n : Nat} {w : Wd} (ho : okw n w) {b c t : Nat} (hb : b < n) (ht : t < n) :
    play A (dl c) (b :: w) t = if c = b then play A (dl b) w t - lvl A b (fun s => play A (dl s) w t) n else play A (dl c) w t := by
  show play A (press A (dl c) b) w t = _
  by_cases h : c = b
  · subst h
    rw [if_pos rfl, play_sum n (press A (dl c) c) w ho t ht, play_sum n (dl c) w ho t ht, lvl_sum]
    generalize List.range n = l
    induction l with
    | nil => simp; grind
    | cons s l ih =>
      simp only [List.map_cons, List.foldr_cons]
      rw [ih]
      have e : press A (dl c) c s = dl c s - A c s := by
        unfold press
        have : dl c c = 1 := by unfold dl; rw [if_pos rfl]
        rw [this]
        grind
      rw [e]
      grind
  · rw [if_neg h]
    have e : press A (dl c) b = dl c := by
      funext s
      unfold press
      have : dl c b = 0 := by unfold dl; rw [if_neg fun z => h z.symm]
      rw [this]
      grind
    rw [e]
theorem down_len (hm : Ties m) {n : Nat} {u : Wd} (ho : okw n u) {b : Nat} (h : b ∈ down (wA m) n u) : b < n ∧ len (mk m (u ++ [b])) + 1 = len (mk m u) := by
  have := (down_mem (wA_cart hm) hm ho).1 h
  exact ⟨this.1, by rw [mk_append]; exact this.2⟩
end KW
end
section
namespace KW
variable {L : Nat}
/-! ### how long the stack of the reversing grows: blocks within blocks, their ends at ever lower heights -/
inductive Ne (L : Nat) : Int → List Tok → Prop
  | base (e : Int) (X : Wd) (h : X.length ≤ L) : Ne L e (X.map Tok.p)
  | run (e : Int) (A B : Wd) (rest : List Tok) (h1 : B.length ≤ 5) (h2 : A.length < B.length) (h3 : 0 ≤ e + A.length - B.length) (h4 : Ne L (e + A.length - B.length) rest) : Ne L e (A.map Tok.p ++ (B.map Tok.n ++ rest))
theorem Ne.len {e : Int} {R : List Tok} (h : Ne L e R) (h0 : 0 ≤ e) : R.length ≤ L + 10 * e.toNat := by
  induction h with
  | base e X h => simp; omega
  | run e A B rest h1 h2 h3 h4 ih =>
    have := ih h3
    simp only [List.length_append, List.length_map]
    omega
def Iv (L : Nat) (h : Int) (R : List Tok) : Prop := (0 ≤ h ∧ ∃ X : Wd, X.length ≤ L ∧ R = X.map Tok.p) ∨
  ∃ (A B : Wd) (rest : List Tok), B.length ≤ 5 ∧ A.length ≤ B.length ∧ 0 ≤ h + A.length - B.length ∧ R = A.map Tok.p ++ (B.map Tok.n ++ rest) ∧ Ne L (h + A.length - B.length) rest
theorem Iv.nn {h : Int} {R : List Tok} (i : Iv L h R) : 0 ≤ h := by
  rcases i with ⟨h0, _⟩ | ⟨A, B, rest, h1, h2, h3, _⟩
  · exact h0
  · omega
theorem Iv.len {h : Int} {R : List Tok} {M : Nat} (i : Iv L h R) (hm : h ≤ M) : R.length ≤ L + 10 * M + 10 := by
  rcases i with ⟨h0, X, hX, rfl⟩ | ⟨A, B, rest, h1, h2, h3, rfl, h4⟩
  · simp; omega
  · have := h4.len h3
    simp only [List.length_append, List.length_map]
    omega
theorem ne_p {h : Int} {s : Nat} {R : List Tok} (i : Ne L h (.p s :: R)) (h0 : 0 ≤ h) : Iv L (h + 1) R ∧ Ne L (h + 1) R := by
  generalize hq : Tok.p s :: R = q at i
  cases i with
  | base e X hX =>
    cases X with
    | nil => cases hq
    | cons x X =>
      simp only [List.map_cons, List.cons.injEq] at hq
      obtain ⟨_, rfl⟩ := hq
      simp at hX
      exact ⟨.inl ⟨by omega, X, by omega, rfl⟩, .base _ X (by omega)⟩
  | run e A B rest h1 h2 h3 h4 =>
    cases A with
    | nil =>
      cases B with
      | nil => simp at h2
      | cons b B => simp at hq
    | cons a A =>
      simp only [List.map_cons, List.cons_append, List.cons.injEq] at hq
      obtain ⟨_, rfl⟩ := hq
      simp only [List.length_cons] at h2 h3 h4
      have e1 : h + ((A.length + 1 : Nat) : Int) - B.length = h + 1 + A.length - B.length := by omega
      rw [e1] at h3 h4
      exact ⟨.inr ⟨A, B, rest, h1, by omega, h3, rfl, h4⟩, .run _ A B rest h1 (by omega) h3 h4⟩
theorem Iv.p {h : Int} {s : Nat} {R : List Tok} (i : Iv L h (.p s :: R)) : Iv L (h + 1) R ∧ Ne L (h + 1) R := by
  rcases i with ⟨h0, X, hX, e⟩ | ⟨A, B, rest, h1, h2, h3, e, h4⟩
  · exact ne_p (L := L) (h := h) (s := s) (R := R) (by rw [e]; exact .base h X hX) h0
  · cases A with
    | nil =>
      cases B with
      | nil =>
        simp only [List.map_nil, List.nil_append] at e
        subst e
        simp only [List.length_nil] at h3 h4
        have e1 : h + ((0 : Nat) : Int) - ((0 : Nat) : Int) = h := by omega
        rw [e1] at h3 h4
        exact ne_p h4 h3
      | cons b B => simp at e
    | cons a A =>
      simp only [List.map_cons, List.cons_append, List.cons.injEq] at e
      obtain ⟨_, rfl⟩ := e
      simp only [List.length_cons] at h2 h3 h4
      have e1 : h + ((A.length + 1 : Nat) : Int) - B.length = h + 1 + A.length - B.length := by omega
      rw [e1] at h3 h4
      exact ⟨.inr ⟨A, B, rest, h1, by omega, h3, rfl, h4⟩, .run _ A B rest h1 (by omega) h3 h4⟩
theorem Iv.n {h : Int} {s : Nat} {R : List Tok} (i : Iv L h (.n s :: R)) : Iv L (h - 1) R := by
  rcases i with ⟨h0, X, hX, e⟩ | ⟨A, B, rest, h1, h2, h3, e, h4⟩
  · cases X with
    | nil => cases e
    | cons x X => simp at e
  · cases A with
    | nil =>
      cases B with
      | nil =>
        simp only [List.map_nil, List.nil_append] at e
        simp only [List.length_nil] at h3 h4
        have e1 : h + ((0 : Nat) : Int) - ((0 : Nat) : Int) = h := by omega
        rw [e1] at h3 h4
        generalize hq : rest = q at h4
        rw [hq] at e
        cases h4 with
        | base e' X hX =>
          cases X with
          | nil => cases e
          | cons x X => simp at e
        | run e' A B rest' h1 h2 h3' h4' =>
          cases A with
          | nil =>
            cases B with
            | nil => simp at h2
            | cons b B =>
              simp only [List.map_nil, List.nil_append, List.map_cons, List.cons_append, List.cons.injEq] at e
              obtain ⟨_, rfl⟩ := e
              simp only [List.length_cons, List.length_nil] at h1 h3' h4'
              have e2 : h + ((0 : Nat) : Int) - ((B.length + 1 : Nat) : Int) = h - 1 + (([] : Wd).length : Int) - B.length := by simp; omega
              rw [e2] at h3' h4'
              exact .inr ⟨[], B, rest', by omega, by simp, h3', rfl, h4'⟩
          | cons a A => simp at e
      | cons b B =>
        simp only [List.map_nil, List.nil_append, List.map_cons, List.cons_append, List.cons.injEq] at e
        obtain ⟨_, rfl⟩ := e
        simp only [List.length_cons, List.length_nil] at h1 h3 h4
        have e2 : h + ((0 : Nat) : Int) - ((B.length + 1 : Nat) : Int) = h - 1 + (([] : Wd).length : Int) - B.length := by simp; omega
        rw [e2] at h3 h4
        exact .inr ⟨[], B, rest, by omega, by simp, h3, rfl, h4⟩
    | cons a A => simp at e
theorem Iv.flip {h : Int} {k u s : Nat} {R : List Tok} (i : Ne L (h + 1) R) (hk : k ≤ 6) (h0 : 0 ≤ h) : Iv L (h + 1) (tokR k u s ++ R) := by
  have e : h + 1 + ((alt s u (k - 1)).length : Int) - ((alt u s (k - 1)).reverse.length : Int) = h + 1 := by
    rw [List.length_reverse, alt_length, alt_length]
    omega
  refine .inr ⟨alt s u (k - 1), (alt u s (k - 1)).reverse, R, by rw [List.length_reverse, alt_length]; omega, by rw [List.length_reverse, alt_length, alt_length]; omega, by rw [e]; omega, ?_, by rw [e]; exact i⟩
  unfold tokR
  rw [List.append_assoc, List.map_reverse]
/-- at the start -/
theorem Iv.start {b : Nat} {x : Wd} : Iv x.length 1 (.n b :: x.map Tok.p) := .inr ⟨[], [b], x.map Tok.p, by simp, by simp, by simp, rfl, by simpa using Ne.base _ x (Nat.le_refl _)⟩
theorem Iv.mono {L' : Nat} {h : Int} {R : List Tok} (i : Iv L h R) (hl : L ≤ L') : Iv L' h R := by
  have hn : ∀ {e : Int} {R : List Tok}, Ne L e R → Ne L' e R := fun {e R} z => by
    induction z with
    | base e X h => exact .base e X (by omega)
    | run e A B rest h1 h2 h3 h4 ih => exact .run e A B rest h1 h2 h3 ih
  rcases i with ⟨h0, X, hX, e⟩ | ⟨A, B, rest, h1, h2, h3, e, h4⟩
  · exact .inl ⟨h0, X, by omega, e⟩
  · exact .inr ⟨A, B, rest, h1, h2, h3, e, hn h4⟩
end KW
end
section
namespace KW
variable {m : Nat → Nat → Nat}
theorem wC_cases (s t : Nat) : wC m s t = 2 ∨ wC m s t = -(G.gold + 1) ∨ wC m s t = 0 ∨ wC m s t = -4 ∨ wC m s t = -2 ∨ wC m s t = -3 ∨ wC m s t = -1 := by
  unfold wC
  repeat' split
  all_goals simp
def bd5 (k : Nat) (x : G) : Prop := -(5 ^ k : Int) ≤ x.a ∧ x.a ≤ (5 ^ k : Int) ∧ -(5 ^ k : Int) ≤ x.b ∧ x.b ≤ (5 ^ k : Int)
theorem bd5_press {k : Nat} {x y : G} (s t : Nat) (hx : bd5 k x) (hy : bd5 k y) : bd5 (k + 1) (x - wC m s t * y) := by
  have e : (5 ^ (k + 1) : Int) = 5 * 5 ^ k := by rw [Int.pow_succ]; omega
  unfold bd5 at *
  rw [e]
  generalize (5 ^ k : Int) = q at *
  obtain ⟨h1, h2, h3, h4⟩ := hx
  obtain ⟨h5, h6, h7, h8⟩ := hy
  rcases wC_cases (m := m) s t with h | h | h | h | h | h | h <;> rw [h]
  · show _ ≤ x.a - (2 * y.a + 0 * y.b) ∧ x.a - (2 * y.a + 0 * y.b) ≤ _ ∧ _ ≤ x.b - (2 * y.b + 0 * y.a + 0 * y.b) ∧ x.b - (2 * y.b + 0 * y.a + 0 * y.b) ≤ _
    omega
  · show _ ≤ x.a - (-(0 + 1) * y.a + -(1 + 0) * y.b) ∧ x.a - (-(0 + 1) * y.a + -(1 + 0) * y.b) ≤ _ ∧ _ ≤ x.b - (-(0 + 1) * y.b + -(1 + 0) * y.a + -(1 + 0) * y.b) ∧ x.b - (-(0 + 1) * y.b + -(1 + 0) * y.a + -(1 + 0) * y.b) ≤ _
    omega
  · show _ ≤ x.a - (0 * y.a + 0 * y.b) ∧ x.a - (0 * y.a + 0 * y.b) ≤ _ ∧ _ ≤ x.b - (0 * y.b + 0 * y.a + 0 * y.b) ∧ x.b - (0 * y.b + 0 * y.a + 0 * y.b) ≤ _
    omega
  · show _ ≤ x.a - (-4 * y.a + -0 * y.b) ∧ x.a - (-4 * y.a + -0 * y.b) ≤ _ ∧ _ ≤ x.b - (-4 * y.b + -0 * y.a + -0 * y.b) ∧ x.b - (-4 * y.b + -0 * y.a + -0 * y.b) ≤ _
    omega
  · show _ ≤ x.a - (-2 * y.a + -0 * y.b) ∧ x.a - (-2 * y.a + -0 * y.b) ≤ _ ∧ _ ≤ x.b - (-2 * y.b + -0 * y.a + -0 * y.b) ∧ x.b - (-2 * y.b + -0 * y.a + -0 * y.b) ≤ _
    omega
  · show _ ≤ x.a - (-3 * y.a + -0 * y.b) ∧ x.a - (-3 * y.a + -0 * y.b) ≤ _ ∧ _ ≤ x.b - (-3 * y.b + -0 * y.a + -0 * y.b) ∧ x.b - (-3 * y.b + -0 * y.a + -0 * y.b) ≤ _
    omega
  · show _ ≤ x.a - (-1 * y.a + -0 * y.b) ∧ x.a - (-1 * y.a + -0 * y.b) ≤ _ ∧ _ ≤ x.b - (-1 * y.b + -0 * y.a + -0 * y.b) ∧ x.b - (-1 * y.b + -0 * y.a + -0 * y.b) ≤ _
    omega
theorem bd5_play : ∀ (w : Wd) (k : Nat) (I : Nat → G), (∀ t, bd5 k (I t)) → ∀ t, bd5 (k + w.length) (play (wC m) I w t)
  | [], k, I, h, t => h t
  | b :: w, k, I, h, t => by
    have := bd5_play w (k + 1) (press (wC m) I b) (fun t => bd5_press b t (h t) (h b)) t
    rw [List.length_cons, show k + (w.length + 1) = k + 1 + w.length by omega]
    exact this
theorem pow5_le {j k : Nat} (h : j ≤ k) : (5 ^ j : Int) ≤ 5 ^ k := by
  obtain ⟨d, rfl⟩ := Nat.exists_eq_add_of_le h
  rw [Int.pow_add]
  have h1 : (0 : Int) < 5 ^ j := Int.pow_pos (by decide)
  have h2 : (1 : Int) ≤ 5 ^ d := by
    have : (0 : Int) < 5 ^ d := Int.pow_pos (by decide)
    omega
  calc (5 ^ j : Int) = 5 ^ j * 1 := by omega
    _ ≤ 5 ^ j * 5 ^ d := Int.mul_le_mul_of_nonneg_left h2 (by omega)
theorem game_bd {u : Wd} (h : u.length ≤ 24) (t : Nat) : -(2 ^ 58 : Int) ≤ (play (wC m) (fun _ => 1) u t).a ∧ (play (wC m) (fun _ => 1) u t).a ≤ 2 ^ 58 ∧ -(2 ^ 58 : Int) ≤ (play (wC m) (fun _ => 1) u t).b ∧ (play (wC m) (fun _ => 1) u t).b ≤ 2 ^ 58 := by
  have h1 := bd5_play (m := m) u 0 (fun _ => 1) (fun _ => ⟨by decide, by decide, by decide, by decide⟩) t
  have h2 := pow5_le (show 0 + u.length ≤ 24 by omega)
  have h3 : (5 ^ 24 : Int) ≤ 2 ^ 58 := by decide
  unfold bd5 at h1
  omega
end KW
end
section
set_option maxRecDepth 100000
set_option maxHeartbeats 2000000
/-! slots described by what they hold: the heap is out of sight -/
namespace KG
open PySem PySem.Spec PyProof.Rows L2

def mark (fs : List (Str × V)) : Bool := (fs.lookup ("pieces" : Str)).isSome || ((fs.lookup ("_back" : Str)).isSome || (fs.lookup ("_word" : Str)).isSome)
/-- what never changes any more -/
def Imm : HO → Prop
  | .tup _ => True
  | .frz _ _ => True
  | .ins _ _ fs => mark fs = true
  | _ => False
def Kp (H H' : Hp) : Prop := ∀ a o, H a = some o → Imm o → H' a = some o
theorem Kp.refl {H : Hp} : Kp H H := fun _ _ h _ => h
theorem Kp.trans {H H1 H2 : Hp} (a : Kp H H1) (b : Kp H1 H2) : Kp H H2 := fun x o h i => b x o (a x o h i) i
structure Rp where
  p : V → Hp → Prop
  mono : ∀ {v : V} {H H' : Hp}, Kp H H' → p v H → p v H'
def well (a : Addr) (H : Hp) : Prop := ∃ x y z : Int, H a = some (.lst [.int x, .int y, .int z])
structure Rel (w : Option Addr) (H H' : Hp) : Prop where
  k : ∀ a o, H a = some o → some a ≠ w ∨ Imm o → H' a = some o
  wl : ∀ a, w = some a → well a H → well a H'
section
variable {w : Option Addr} {H H1 H2 : Hp}
theorem Rel.kp (r : Rel w H H1) : Kp H H1 := fun a o h i => r.k a o h (.inr i)
theorem Rel.refl : Rel w H H := ⟨fun _ _ h _ => h, fun _ _ h => h⟩
theorem Rel.trans (a : Rel w H H1) (b : Rel w H1 H2) : Rel w H H2 := ⟨fun x o h c => b.k x o (a.k x o h c) c, fun x e h => b.wl x e (a.wl x e h)⟩
theorem Rel.ext (e : ∀ a o, H a = some o → H1 a = some o) : Rel w H H1 := ⟨fun a o h _ => e a o h, fun a _ ⟨x, y, z, h⟩ => ⟨x, y, z, e a _ h⟩⟩
theorem Rel.toExt (r : Rel none H H1) : ∀ a o, H a = some o → H1 a = some o := fun a o h => r.k a o h (.inl (fun z => nomatch z))
theorem Rel.ofNone (r : Rel none H H1) : Rel w H H1 := .ext r.toExt
theorem Rel.free (r : Rel w H H1) (hw : ∀ a, w = some a → well a H) {a : Addr} (n : H1 a = none) : H a = none := by
  cases e : H a with
  | none => rfl
  | some o =>
    by_cases c : w = some a
    · obtain ⟨x, y, z, q⟩ := r.wl a c (hw a c)
      rw [n] at q
      cases q
    · have q := r.k a o e (.inl fun z => c z.symm)
      rw [n] at q
      cases q
/-- a new object -/
theorem Rel.new {p : Addr} {o : HO} (n : H p = none) : Rel w H (upd H p o) := .ext fun a u e => by
  rw [upd_ne (ne_of_none e n)]
  exact e
/-- an object that was not there at H -/
theorem Rel.mut {p : Addr} {o : HO} (r : Rel w H H1) (n : H p = none) (hw : ∀ a, w = some a → well a H) : Rel w H (upd H1 p o) := by
  refine ⟨fun a u e c => ?_, fun a e q => ?_⟩
  · rw [upd_ne (ne_of_none e n)]
    exact r.k a u e c
  · obtain ⟨x, y, z, h⟩ := r.wl a e q
    obtain ⟨x', y', z', h'⟩ := q
    exact ⟨x, y, z, by rw [upd_ne (ne_of_none h' n)]; exact h⟩
theorem kp_mut {p : Addr} {o : HO} {u : HO} (e : H p = some u) (n : ¬ Imm u) : Kp H (upd H p o) := fun a v h i => by
  by_cases z : a = p
  · subst z
    rw [e] at h
    cases h
    exact absurd i n
  · rw [upd_ne z]
    exact h
end
/-- a thing of lists (at the addresses fp) that may change -/
structure Mu where
  p : List Addr → V → Hp → Prop
  stab : ∀ {fp : List Addr} {v : V} {H H' : Hp}, p fp v H → (∀ a ∈ fp, H' a = H a) → Kp H H' → p fp v H'
  there : ∀ {fp : List Addr} {v : V} {H : Hp}, p fp v H → ∀ a ∈ fp, H a ≠ none
structure Bs where
  H0 : Hp
  w : Option Addr
  wl : ∀ a, w = some a → well a H0
/-- what a slot holds: nothing that is known; a value that stays; lists read only; lists of one's own; lists seen just now; the well -/
inductive En where
  | no | rp (R : Rp) | rm (M : Mu) | mu (M : Mu) | al (M : Mu) | wl
def En.sat (B : Bs) (fp : List Addr) (v : V) (H : Hp) : En → Prop
  | .no => True
  | .rp R => R.p v H
  | .rm M => ∃ q, M.p q v B.H0 ∧ ∀ a ∈ q, some a ≠ B.w
  | .mu M => M.p fp v H ∧ ∀ a ∈ fp, B.H0 a = none
  | .al _ => True
  | .wl => ∃ a, B.w = some a ∧ v = .ref a
def En.tr : En → Bool
  | .no => false
  | .al _ => false
  | _ => true
structure Sn (B : Bs) (E : List En) (σ : L2.St) (H : Hp) : Prop where
  rel : Rel B.w B.H0 H
  at_ : ∃ fp : Nat → List Addr, (∀ (i : Nat) (o : En), E[i]? = some o → o.tr = true → ∃ v, σ[i]? = some (some v) ∧ o.sat B (fp i) v H) ∧
    ∀ (i j : Nat) (M N : Mu), i ≠ j → E[i]? = some (.mu M) → E[j]? = some (.mu N) → ∀ a ∈ fp i, a ∉ fp j
  len : σ.length = E.length
def En.out (B : Bs) (H : Hp) (v : V) (H2 : Hp) : En → Prop
  | .no => True
  | .rp R => R.p v H2
  | .rm M => ∃ q, M.p q v B.H0 ∧ ∀ a ∈ q, some a ≠ B.w
  | .mu M => ∃ fp, M.p fp v H2 ∧ ∀ a ∈ fp, H a = none
  | .al M => ∃ fp, M.p fp v H2 ∧ ∀ a ∈ fp, some a ≠ B.w
  | .wl => ∃ a, B.w = some a ∧ v = .ref a
section
variable {B : Bs} {E : List En} {σ : L2.St} {H H1 H2 : Hp} {o : En} {v : V}
theorem Bs.wl1 (r : Rel B.w B.H0 H) : ∀ a, B.w = some a → well a H := fun a e => r.wl a e (B.wl a e)
theorem Bs.new_ne (r : Rel B.w B.H0 H) {a : Addr} (n : H a = none) : some a ≠ B.w := fun e => by
  obtain ⟨x, y, z, h⟩ := Bs.wl1 r a e.symm
  rw [n] at h
  cases h
theorem Rel.same {w : Option Addr} (r : Rel w H H1) {a : Addr} (h : H a ≠ none) (n : some a ≠ w) : H1 a = H a := by
  cases e : H a with
  | none => exact absurd e h
  | some o => exact r.k a o e (.inl n)
theorem Mu.mono {M : Mu} {fp : List Addr} {w : Option Addr} (h : M.p fp v H) (r : Rel w H H1) (n : ∀ a ∈ fp, some a ≠ w) : M.p fp v H1 :=
  M.stab h (fun a ha => r.same (M.there h a ha) (n a ha)) r.kp
theorem Sn.mono (s : Sn B E σ H) (r : Rel B.w H H1) : Sn B E σ H1 := by
  obtain ⟨fp, h1, h2⟩ := s.at_
  refine ⟨s.rel.trans r, ⟨fp, fun i o e t => ?_, h2⟩, s.len⟩
  obtain ⟨v, hv, hs⟩ := h1 i o e t
  refine ⟨v, hv, ?_⟩
  cases o with
  | no => trivial
  | rp R => exact R.mono r.kp hs
  | rm M => exact hs
  | mu M => exact ⟨Mu.mono hs.1 r fun a ha => Bs.new_ne (H := B.H0) Rel.refl (hs.2 a ha), hs.2⟩
  | al M => trivial
  | wl => exact hs
theorem En.out_mono (h : o.out B H v H1) (r0 : Rel B.w B.H0 H) (r : Rel B.w H1 H2) : o.out B H v H2 := by
  cases o with
  | no => trivial
  | rp R => exact R.mono r.kp h
  | rm M => exact h
  | mu M =>
    obtain ⟨fp, h1, h2⟩ := h
    exact ⟨fp, Mu.mono h1 r fun a ha => Bs.new_ne r0 (h2 a ha), h2⟩
  | al M =>
    obtain ⟨fp, h1, h2⟩ := h
    exact ⟨fp, Mu.mono h1 r h2, h2⟩
  | wl => exact h
theorem En.out_back (h : o.out B H1 v H2) (r0 : Rel B.w B.H0 H) (r : Rel B.w H H1) : o.out B H v H2 := by
  cases o with
  | mu M =>
    obtain ⟨fp, h1, h2⟩ := h
    exact ⟨fp, h1, fun a ha => r.free (Bs.wl1 r0) (h2 a ha)⟩
  | _ => exact h
/-- a slot's value replaced -/
theorem Sn.set {i : Nat} (s : Sn B E σ H) (r : Rel B.w H H1) (h : o.out B H v H1) (hi : i < E.length) : Sn B (E.set i o) (σ.set i (some v)) H1 := by
  have s1 := s.mono r
  obtain ⟨fp, h1, h2⟩ := id s.at_
  obtain ⟨fq, hq, hdis⟩ : ∃ fq : List Addr, (o.tr = true → o.sat B fq v H1) ∧ ∀ M, o = .mu M → (∀ a ∈ fq, H a = none) := by
    cases o with
    | mu M =>
      obtain ⟨fq, q1, q2⟩ := h
      exact ⟨fq, fun _ => ⟨q1, fun a ha => s.rel.free B.wl (q2 a ha)⟩, fun _ _ => q2⟩
    | no => exact ⟨[], fun z => (nomatch z), fun _ z => (nomatch z)⟩
    | rp R => exact ⟨[], fun _ => h, fun _ z => (nomatch z)⟩
    | rm M => exact ⟨[], fun _ => h, fun _ z => (nomatch z)⟩
    | al M => exact ⟨[], fun z => (nomatch z), fun _ z => (nomatch z)⟩
    | wl => exact ⟨[], fun _ => h, fun _ z => (nomatch z)⟩
  have hsi : i < σ.length := by rw [s.len]; exact hi
  refine ⟨s1.rel, ⟨fun j => if j = i then fq else fp j, fun j q e t => ?_, fun j k M N hjk ej ek a ha hk => ?_⟩, by simp [s.len]⟩
  · by_cases z : j = i
    · subst z
      rw [List.getElem?_set_self hi] at e
      cases e
      exact ⟨v, List.getElem?_set_self hsi, by
        show En.sat B (if j = j then fq else fp j) v H1 o
        rw [if_pos rfl]
        exact hq t⟩
    · rw [List.getElem?_set_ne (Ne.symm z)] at e ⊢
      obtain ⟨u, hu, hs⟩ := h1 j q e t
      refine ⟨u, hu, ?_⟩
      show En.sat B (if j = i then fq else fp j) u H1 q
      rw [if_neg z]
      cases q with
      | no => trivial
      | rp R => exact R.mono r.kp hs
      | rm M => exact hs
      | mu M => exact ⟨Mu.mono hs.1 r fun a ha => Bs.new_ne (H := B.H0) Rel.refl (hs.2 a ha), hs.2⟩
      | al M => trivial
      | wl => exact hs
  · have old : ∀ (m : Nat) (L : Mu), m ≠ i → (E.set i o)[m]? = some (.mu L) → ∀ b ∈ fp m, H b ≠ none := fun m L z em b hb => by
      rw [List.getElem?_set_ne (Ne.symm z)] at em
      obtain ⟨u, hu, hs⟩ := h1 m _ em rfl
      exact L.there hs.1 b hb
    change a ∈ (if j = i then fq else fp j) at ha
    change a ∈ (if k = i then fq else fp k) at hk
    by_cases zj : j = i
    · have zk : k ≠ i := fun z => hjk (zj.trans z.symm)
      rw [if_pos zj] at ha
      rw [if_neg zk] at hk
      subst zj
      rw [List.getElem?_set_self hi] at ej
      cases ej
      exact old k N zk ek a hk (hdis M rfl a ha)
    · rw [if_neg zj] at ha
      by_cases zk : k = i
      · rw [if_pos zk] at hk
        subst zk
        rw [List.getElem?_set_self hi] at ek
        cases ek
        exact old j M zj ej a ha (hdis N rfl a hk)
      · rw [if_neg zk] at hk
        rw [List.getElem?_set_ne (Ne.symm zj)] at ej
        rw [List.getElem?_set_ne (Ne.symm zk)] at ek
        exact h2 j k M N hjk ej ek a ha hk
/-- less is known -/
theorem Sn.weak {E' : List En} {σ' : L2.St} (s : Sn B E σ H) (hl : σ'.length = E'.length) (h : ∀ (i : Nat) (o : En), E'[i]? = some o → o.tr = true → E[i]? = some o ∧ σ'[i]? = σ[i]?) : Sn B E' σ' H := by
  obtain ⟨fp, h1, h2⟩ := s.at_
  refine ⟨s.rel, ⟨fp, fun i o e t => ?_, fun i j M N hij ei ej => h2 i j M N hij (h i _ ei rfl).1 (h j _ ej rfl).1⟩, hl⟩
  obtain ⟨e1, e2⟩ := h i o e t
  rw [e2]
  exact h1 i o e1 t
theorem Sn.get {i : Nat} (s : Sn B E σ H) (h : E[i]? = some o) (t : o.tr = true) : ∃ v fp, σ[i]? = some (some v) ∧ o.sat B fp v H := by
  obtain ⟨fp, h1, _⟩ := s.at_
  obtain ⟨v, h3, h4⟩ := h1 i o h t
  exact ⟨v, fp i, h3, h4⟩
end

/-! ### judgements -/
def tS (B : Bs) (E : List En) (o : En) : TE := fun σ H Q => Sn B E σ H ∧ ∀ v H2, Rel B.w H H2 → o.out B H v H2 → Q v H2
def tT (B : Bs) (E : List En) (b : Bool) : TT := fun σ H Q => Sn B E σ H ∧ ∀ H2, Rel B.w H H2 → Q b H2
def outs (B : Bs) (H H2 : Hp) : List V → List En → Prop
  | [], [] => True
  | v :: vs, o :: os => o.out B H v H2 ∧ outs B H H2 vs os
  | _, _ => False
def tA (B : Bs) (E : List En) (os : List En) : TA := fun σ H Q => Sn B E σ H ∧ ∀ vs H2, Rel B.w H H2 → outs B H H2 vs os → Q vs H2
def tB' (B : Bs) (E : List En) (N : List En → Prop) (R : En → Prop) : TS := fun D σ H => Sn B E σ H ∧ (∀ E' σ' H', N E' → Kp H H' → Sn B E' σ' H' → D.nx σ' H') ∧
  ∀ o v H', R o → Rel B.w B.H0 H' → o.out B B.H0 v H' → D.rt v H'
/-- a value that came out of an iterator -/
def En.val (B : Bs) (v : V) (H : Hp) : En → Prop
  | .rp R => R.p v H
  | .rm M => ∃ q, M.p q v B.H0 ∧ ∀ a ∈ q, some a ≠ B.w
  | .al M => ∃ q, M.p q v H ∧ ∀ a ∈ q, some a ≠ B.w
  | _ => False
def tG (B : Bs) (E : List En) (o : En) (E' : List En) (is : List Nat) : TG := fun v σ H Q => Sn B E σ H ∧ o.val B v H ∧ ∀ σ', Sn B E' σ' H → (∀ i, i ∉ is → σ'[i]? = σ[i]?) → σ'.length = σ.length → Q σ' H
def tI (B : Bs) (E : List En) (ys : List En) : TI := fun σ H R => Sn B E σ H ∧ ∀ (J : It) (H1 : Hp) (G : Hp → Prop), Rel B.w H H1 → G H1 → (∀ H2 H3, G H2 → Kp H2 H3 → Rel B.w B.H0 H3 → G H3) →
  Walk J ys.length G (fun i Ha v Hb => Rel none Ha Hb ∧ ∃ y, ys[i]? = some y ∧ y.val B v Hb) → R J H1
abbrev GE (X : Cx) (B : Bs) (E : List En) (e : Expr) (o : En) : Prop := PE X e (tS B E o)
abbrev GT (X : Cx) (B : Bs) (E : List En) (e : Expr) (b : Bool) : Prop := PT X e (tT B E b)
abbrev GW (X : Cx) (B : Bs) (E : List En) (e : Expr) (b : Bool) : Prop := PW X e (tT B E b)
abbrev GA (X : Cx) (B : Bs) (E : List En) (es : List Expr) (os : List En) : Prop := PA X es (tA B E os)
abbrev GB (X : Cx) (B : Bs) (E : List En) (ss : List Stmt) (N : List En → Prop) (R : En → Prop) : Prop := PSs X ss (tB' B E N R)
abbrev GS (X : Cx) (B : Bs) (E : List En) (s : Stmt) (N : List En → Prop) (R : En → Prop) : Prop := PS X s (tB' B E N R)
abbrev GG (X : Cx) (B : Bs) (E : List En) (tg : Expr) (o : En) (E' : List En) (is : List Nat) : Prop := PG X tg (tG B E o E' is)
/-- .. where no list is changed while it goes (a comprehension) -/
def tIc (B : Bs) (E : List En) (ys : List En) : TI := fun σ H R => Sn B E σ H ∧ ∀ (J : It) (H1 : Hp) (G : Hp → Prop), Rel B.w H H1 → (∀ H3, Rel B.w H1 H3 → G H3) →
  Walk J ys.length G (fun i Ha v Hb => Rel none Ha Hb ∧ ∃ y, ys[i]? = some y ∧ y.val B v Hb) → R J H1
abbrev GIc (X : Cx) (B : Bs) (E : List En) (tg iter : Expr) (ys : List En) : Prop := PI X tg iter (tIc B E ys)
abbrev GI (X : Cx) (B : Bs) (E : List En) (tg iter : Expr) (ys : List En) : Prop := PI X tg iter (tI B E ys)
section
variable {X : Cx}
theorem peI {e : Expr} {t t' : TE} (h : PE X e t) (k : ∀ σ H Q, t' σ H Q → t σ H Q) : PE X e t' := ⟨fun pins s σ H Q I q => h.run pins s σ H Q I (k σ H Q q)⟩
theorem ptI {e : Expr} {t t' : TT} (h : PT X e t) (k : ∀ σ H Q, t' σ H Q → t σ H Q) : PT X e t' := ⟨fun pins s σ H Q I q => h.run pins s σ H Q I (k σ H Q q)⟩
theorem pwI {e : Expr} {t t' : TT} (h : PW X e t) (k : ∀ σ H Q, t' σ H Q → t σ H Q) : PW X e t' := ⟨fun wh pins s σ H Q I q => h.run wh pins s σ H Q I (k σ H Q q)⟩
theorem paI {es : List Expr} {t t' : TA} (h : PA X es t) (k : ∀ σ H Q, t' σ H Q → t σ H Q) : PA X es t' := ⟨fun pos pins s σ H Q I q => h.run pos pins s σ H Q I (k σ H Q q)⟩
theorem psI {s : Stmt} {t t' : TS} (h : PS X s t) (k : ∀ D σ H, t' D σ H → t D σ H) : PS X s t' := ⟨fun pins s σ H D I q => h.run pins s σ H D I (k D σ H q)⟩
theorem pssI {s : List Stmt} {t t' : TS} (h : PSs X s t) (k : ∀ D σ H, t' D σ H → t D σ H) : PSs X s t' := ⟨fun pins s σ H D I q => h.run pins s σ H D I (k D σ H q)⟩
theorem pgI {e : Expr} {t t' : TG} (h : PG X e t) (k : ∀ v σ H Q, t' v σ H Q → t v σ H Q) : PG X e t' := ⟨fun pins s σ H v u Q I r q => h.run pins s σ H v u Q I r (k v σ H Q q)⟩
theorem piI {tg e : Expr} {t t' : TI} (h : PI X tg e t) (k : ∀ σ H R, t' σ H R → t σ H R) : PI X tg e t' := ⟨fun pins s σ H R I q => h.run pins s σ H R I (k σ H R q)⟩
/-- one of many readings -/
theorem peF {α : Type} {e : Expr} {Φ : α → Prop} {t : α → TE} (h : ∀ i, Φ i → PE X e (t i)) : PE X e (fun σ H Q => ∃ i, Φ i ∧ t i σ H Q) := ⟨fun pins s σ H Q I ⟨i, hi, q⟩ => (h i hi).run pins s σ H Q I q⟩
theorem ptF {α : Type} {e : Expr} {Φ : α → Prop} {t : α → TT} (h : ∀ i, Φ i → PT X e (t i)) : PT X e (fun σ H Q => ∃ i, Φ i ∧ t i σ H Q) := ⟨fun pins s σ H Q I ⟨i, hi, q⟩ => (h i hi).run pins s σ H Q I q⟩
theorem pssF {α : Type} {s : List Stmt} {Φ : α → Prop} {t : α → TS} (h : ∀ i, Φ i → PSs X s (t i)) : PSs X s (fun D σ H => ∃ i, Φ i ∧ t i D σ H) := ⟨fun pins s σ H D I ⟨i, hi, q⟩ => (h i hi).run pins s σ H D I q⟩
theorem pgF {α : Type} {e : Expr} {Φ : α → Prop} {t : α → TG} (h : ∀ i, Φ i → PG X e (t i)) : PG X e (fun v σ H Q => ∃ i, Φ i ∧ t i v σ H Q) := ⟨fun pins s σ H v u Q I r ⟨i, hi, q⟩ => (h i hi).run pins s σ H v u Q I r q⟩
end

/-! ### values -/
def VL (v : V) : Rp := ⟨fun x _ => x = v, fun _ h => h⟩
abbrev TI (i : Int) : Rp := VL (.int i)
abbrev TBl (b : Bool) : Rp := VL (.bl b)
abbrev TN : Rp := VL .non
abbrev Alls (Rs : List Rp) (xs : List V) (H : Hp) : Prop := Paired (fun (R : Rp) x => R.p x H) Rs xs
theorem Alls.mono {Rs : List Rp} {xs : List V} {H H' : Hp} (k : Kp H H') (h : Alls Rs xs H) : Alls Rs xs H' := Paired.mapP h fun R x q => R.mono k q
theorem rd_mono {H H' : Hp} {a : Addr} {xs : List V} (k : Kp H H') (h : Rd H a (.tup xs)) : Rd H' a (.tup xs) := by
  rcases h with h | ⟨o, h⟩
  · exact .inl (k a _ h trivial)
  · exact .inr ⟨o, k a _ h trivial⟩
theorem sqt_mono {K : PySem.W.Frag} {H H' : Hp} {a : Addr} {xs : List V} (k : Kp H H') (h : SqT K H a xs) : SqT K H' a xs := by
  rcases h with h | h
  · exact .inl (rd_mono k h)
  · exact .inr h
def TUP (K : PySem.W.Frag) (Rs : List Rp) : Rp := ⟨fun v H => ∃ a xs, v = .ref a ∧ SqT K H a xs ∧ Alls Rs xs H, fun k ⟨a, xs, e, h1, h2⟩ => ⟨a, xs, e, sqt_mono k h1, h2.mono k⟩⟩
/-- a list of such items -/
def LS (Rs : List Rp) : Mu := ⟨fun fp v H => ∃ a xs, fp = [a] ∧ v = .ref a ∧ H a = some (.lst xs) ∧ Alls Rs xs H,
  fun ⟨a, xs, e1, e2, h1, h2⟩ k kp => ⟨a, xs, e1, e2, by rw [k a (by rw [e1]; exact List.mem_cons_self)]; exact h1, h2.mono kp⟩,
  fun ⟨a, xs, e1, e2, h1, h2⟩ b hb => by
    rw [e1] at hb
    rw [List.mem_singleton.mp hb, h1]
    exact fun z => nomatch z⟩
abbrev RowsAt (H : Hp) (rows : List (List Int)) (bs : List Addr) : Prop := Paired (fun (r : List Int) b => H b = some (.lst (r.map V.int))) rows bs
theorem RowsAt.stab {H H' : Hp} : ∀ {rows : List (List Int)} {bs : List Addr}, RowsAt H rows bs → (∀ b ∈ bs, H' b = H b) → RowsAt H' rows bs
  | _, _, .nil, _ => .nil
  | _, _, .cons q t, k => .cons (by rw [k _ List.mem_cons_self]; exact q) (RowsAt.stab t fun b hb => k b (List.mem_cons_of_mem _ hb))
theorem RowsAt.there {H : Hp} : ∀ {rows : List (List Int)} {bs : List Addr}, RowsAt H rows bs → ∀ b ∈ bs, ∃ r, H b = some (.lst r)
  | _, _, .nil, b, hb => by cases hb
  | _, _, .cons q t, b, hb => by
    rcases List.mem_cons.mp hb with rfl | hb
    · exact ⟨_, q⟩
    · exact RowsAt.there t b hb
/-- a list of lists of ints -/
def ROWS (rows : List (List Int)) : Mu := ⟨fun fp v H => ∃ a bs, fp = a :: bs ∧ v = .ref a ∧ H a = some (.lst (bs.map V.ref)) ∧ RowsAt H rows bs ∧ (a :: bs).Nodup,
  fun ⟨a, bs, e1, e2, h1, h2, nd⟩ k kp => ⟨a, bs, e1, e2, by rw [k a (by rw [e1]; exact List.mem_cons_self)]; exact h1, h2.stab fun b hb => k b (by rw [e1]; exact List.mem_cons_of_mem _ hb), nd⟩,
  fun ⟨a, bs, e1, e2, h1, h2, nd⟩ b hb => by
    rw [e1] at hb
    rcases List.mem_cons.mp hb with rfl | hb
    · rw [h1]
      exact fun z => nomatch z
    · obtain ⟨r, q⟩ := h2.there b hb
      rw [q]
      exact fun z => nomatch z⟩
end KG
end
section
set_option maxRecDepth 100000
set_option maxHeartbeats 2000000
/-! rules for expressions -/
namespace KG
open PySem PySem.Spec PyProof.Rows L2
section
variable {X : Cx} {B : Bs} {E : List En} {a b c e : Expr} {es rest : List Expr} {pos : Pos} {o o1 o2 o3 : En} {i j : Int} {os : List En}
theorem peP {P : Prop} {t : TE} (h : P → PE X e t) : PE X e (fun σ H Q => P ∧ t σ H Q) := ⟨fun pins s σ H Q I ⟨hp, q⟩ => (h hp).run pins s σ H Q I q⟩
theorem ptP {P : Prop} {t : TT} (h : P → PT X e t) : PT X e (fun σ H Q => P ∧ t σ H Q) := ⟨fun pins s σ H Q I ⟨hp, q⟩ => (h hp).run pins s σ H Q I q⟩
theorem pwP {P : Prop} {t : TT} (h : P → PW X e t) : PW X e (fun σ H Q => P ∧ t σ H Q) := ⟨fun wh pins s σ H Q I ⟨hp, q⟩ => (h hp).run wh pins s σ H Q I q⟩
theorem pssP {ss : List Stmt} {P : Prop} {t : TS} (h : P → PSs X ss t) : PSs X ss (fun D σ H => P ∧ t D σ H) := ⟨fun pins s σ H D I ⟨hp, q⟩ => (h hp).run pins s σ H D I q⟩
/-- what a name gives -/
def En.vo : En → En
  | .rp R => .rp R
  | .rm M => .al M
  | .mu M => .al M
  | .wl => .wl
  | _ => .no
theorem En.vo_out {σ : L2.St} {H : Hp} {v : V} {fp : List Addr} (s : Sn B E σ H) (h : o.sat B fp v H) : o.vo.out B H v H := by
  cases o with
  | no => trivial
  | rp R => exact h
  | rm M =>
    obtain ⟨q, h1, h2⟩ := h
    exact ⟨q, Mu.mono h1 s.rel h2, h2⟩
  | mu M => exact ⟨fp, h.1, fun a ha => Bs.new_ne (H := B.H0) Rel.refl (h.2 a ha)⟩
  | al M => trivial
  | wl => exact h
/-- a name, by its slot -/
theorem gv (k : Nat) {x : Str} (he : E[k]? = some o := by rfl) (ht : o.tr = true := by rfl) (hN : X.N[k]? = some x := by rfl) (hv : Vis X.env.scope x := by first | exact Or.inl rfl | exact Or.inr (Or.inl rfl) | exact Or.inr (Or.inr rfl)) (hd : (x == ("__debug__" : Str)) = false := by decide)
    (hcd : (x == ("__classdict__" : Str)) = false := by decide) : GE X B E (.Name x pos) o.vo := peI (pe_var hN hv hd hcd) fun σ H Q ⟨s, q⟩ => by
  obtain ⟨v, fp, h1, h2⟩ := s.get he ht
  exact ⟨v, h1, q v H Rel.refl (En.vo_out s h2)⟩
theorem gint {k : Nat} : GE X B E (.Constant (.int i) k pos) (.rp (TI i)) := peI pe_int fun σ H Q ⟨s, q⟩ => q _ H Rel.refl rfl
theorem gbl {k : Nat} {d : Bool} : GE X B E (.Constant (.bool d) k pos) (.rp (TBl d)) := peI pe_bl fun σ H Q ⟨s, q⟩ => q _ H Rel.refl rfl
theorem gnon {k : Nat} : GE X B E (.Constant .none k pos) (.rp TN) := peI pe_non fun σ H Q ⟨s, q⟩ => q _ H Rel.refl rfl
/-- a name of the module -/
theorem gglob {x : Str} {v : V} {u : Value} {R : Rp} (hm : X.mg x = some u) (r : RelV v u) (hR : ∀ H, R.p v H) (hg : Gl X x := by rfl) (hd : (x == ("__debug__" : Str)) = false := by decide) : GE X B E (.Name x pos) (.rp R) :=
  peI (pe_glob hg hm r hd) fun σ H Q ⟨s, q⟩ => q _ H Rel.refl (hR H)
/-- more or less is said of the value -/
theorem gimp (h : GE X B E e o) (k : ∀ H v H2, Rel B.w B.H0 H → Rel B.w H H2 → o.out B H v H2 → o1.out B H v H2) : GE X B E e o1 := peI h fun σ H Q ⟨s, q⟩ => ⟨s, fun v H2 r ov => q v H2 r (k H v H2 s.rel r ov)⟩
theorem grp {R R1 : Rp} (h : GE X B E e (.rp R)) (k : ∀ v H, R.p v H → R1.p v H) : GE X B E e (.rp R1) := gimp h fun H v H2 _ _ ov => k v H2 ov
theorem geq (h : GE X B E e o) (k : o = o1) : GE X B E e o1 := k ▸ h
theorem gno (h : GE X B E e o) : GE X B E e .no := gimp h fun _ _ _ _ _ _ => trivial
theorem gal {M : Mu} (h : GE X B E e (.mu M)) : GE X B E e (.al M) := gimp h fun H v H2 r0 _ ⟨fp, h1, h2⟩ => ⟨fp, h1, fun a ha => Bs.new_ne r0 (h2 a ha)⟩

/-! ### operators -/
theorem two {r : R2} (h : ∀ (H : Hp) (x y : V) (H2 : Hp) (Q : VK), Rel B.w B.H0 H → Rel B.w H H2 → o1.out B H x H2 → o2.out B H y H2 → (∀ v H3, Rel B.w H2 H3 → o.out B H2 v H3 → Q v H3) → r x y H2 Q) :
    ∀ σ H Q, tS B E o σ H Q → tOp r (tS B E o1) (tS B E o2) σ H Q := fun σ H Q ⟨s, q⟩ =>
  ⟨s, fun x H1 r1 ox => ⟨s.mono r1, fun y H2 r2 oy => h H x y H2 Q s.rel (r1.trans r2) (En.out_mono ox s.rel r2) (En.out_back oy s.rel r1) fun v H3 r3 ov => q v H3 ((r1.trans r2).trans r3) (En.out_back ov s.rel (r1.trans r2))⟩⟩
theorem one {r : V → Hp → VK → Prop} (h : ∀ (H : Hp) (x : V) (H2 : Hp) (Q : VK), Rel B.w B.H0 H → Rel B.w H H2 → o1.out B H x H2 → (∀ v H3, Rel B.w H2 H3 → o.out B H2 v H3 → Q v H3) → r x H2 Q) :
    ∀ σ H Q, tS B E o σ H Q → tS B E o1 σ H (fun x H1 => r x H1 Q) := fun σ H Q ⟨s, q⟩ =>
  ⟨s, fun x H1 r1 ox => h H x H1 Q s.rel r1 ox fun v H3 r3 ov => q v H3 (r1.trans r3) (En.out_back ov s.rel r1)⟩
theorem gop0 {op : Operator} {g : Int → Int → V} (ho : OpR X (binaryOp op) (rI0 g)) (ha : GE X B E a (.rp (TI i))) (hb : GE X B E b (.rp (TI j))) : GE X B E (.BinOp a op b pos) (.rp (VL (g i j))) :=
  peI (pe_op ho ha hb) (two fun H x y H2 Q _ _ ox oy q => ⟨i, j, ox, oy, q _ H2 Rel.refl rfl⟩)
theorem gopC {op : Operator} {C : Int → Int → Prop} {g : Int → Int → V} (ho : OpR X (binaryOp op) (rI C g)) (ha : GE X B E a (.rp (TI i))) (hb : GE X B E b (.rp (TI j))) (hc : C i j) : GE X B E (.BinOp a op b pos) (.rp (VL (g i j))) :=
  peI (pe_op ho ha hb) (two fun H x y H2 Q _ _ ox oy q => ⟨i, j, ox, oy, hc, q _ H2 Rel.refl rfl⟩)
theorem gadd (ha : GE X B E a (.rp (TI i))) (hb : GE X B E b (.rp (TI j))) : GE X B E (.BinOp a .Add b pos) (.rp (TI (i + j))) := gop0 op_add ha hb
theorem gsub (ha : GE X B E a (.rp (TI i))) (hb : GE X B E b (.rp (TI j))) : GE X B E (.BinOp a .Sub b pos) (.rp (TI (i - j))) := gop0 op_sub ha hb
theorem gmul (ha : GE X B E a (.rp (TI i))) (hb : GE X B E b (.rp (TI j))) (hc : CMul i j) : GE X B E (.BinOp a .Mult b pos) (.rp (TI (i * j))) := gopC op_mul ha hb hc
theorem gmod (ha : GE X B E a (.rp (TI i))) (hb : GE X B E b (.rp (TI j))) (hc : 0 < j) : GE X B E (.BinOp a .Mod b pos) (.rp (TI (i % j))) := gopC op_mod ha hb hc
theorem gfdiv (ha : GE X B E a (.rp (TI i))) (hb : GE X B E b (.rp (TI j))) (hc : CDiv i j) : GE X B E (.BinOp a .FloorDiv b pos) (.rp (TI (i / j))) := gopC op_fdiv ha hb hc
theorem gpow (ha : GE X B E a (.rp (TI i))) (hb : GE X B E b (.rp (TI j))) (hc : CPow i j) : GE X B E (.BinOp a .Pow b pos) (.rp (TI (i ^ j.toNat))) := gopC op_pow ha hb hc
theorem gneg (ha : GE X B E a (.rp (TI i))) : GE X B E (.UnaryOp .USub a pos) (.rp (TI (-i))) := peI (pe_un un_neg ha) (one fun H x H2 Q _ _ ox q => ⟨i, ox, q _ H2 Rel.refl rfl⟩)

/-! ### comparisons -/
structure CM (X : Cx) (B : Bs) (E : List En) (op : CmpOp) (a b : Expr) (d : Bool) : Prop where
  ex : ∃ (r : R2) (ta tb : TE), OpR X (compareOp op) r ∧ PE X a ta ∧ PE X b tb ∧ ∀ σ H Q, tS B E (.rp (TBl d)) σ H Q → tOp r ta tb σ H Q
variable {op : CmpOp} {d d1 d2 : Bool}
theorem gcm (h : CM X B E op a b d) (hm : behindInMarks op b = false := by first | exact nomark _ | rfl) : GE X B E (.Compare a [op] [b] pos) (.rp (TBl d)) := by
  obtain ⟨r, ta, tb, ho, ha, hb, hi⟩ := h.ex
  exact peI (pe_cmpR ho ha hb hm) hi
theorem gct (h : CM X B E op a b d) (hm : behindInMarks op b = false := by first | exact nomark _ | rfl) : GT X B E (.Compare a [op] [b] pos) d := by
  obtain ⟨r, ta, tb, ho, ha, hb, hi⟩ := h.ex
  exact ptI (pt_cmpR ho ha hb hm) fun σ H Q ⟨s, q⟩ => hi σ H _ ⟨s, fun v H2 r ov => ⟨d, ov, q H2 r⟩⟩
theorem CM.to (h : CM X B E op a b d) (e : d = d1) : CM X B E op a b d1 := e ▸ h
theorem cm0 {p : Int → Int → Bool} (ho : OpR X (compareOp op) (rI0 fun i j => .bl (p i j))) (ha : GE X B E a (.rp (TI i))) (hb : GE X B E b (.rp (TI j))) : CM X B E op a b (p i j) :=
  ⟨_, _, _, ho, ha, hb, two fun H x y H2 Q _ _ ox oy q => ⟨i, j, ox, oy, q _ H2 Rel.refl rfl⟩⟩
theorem clt (ha : GE X B E a (.rp (TI i))) (hb : GE X B E b (.rp (TI j))) : CM X B E .Lt a b (decide (i < j)) := cm0 op_lt ha hb
theorem cle (ha : GE X B E a (.rp (TI i))) (hb : GE X B E b (.rp (TI j))) : CM X B E .LtE a b (decide (i ≤ j)) := cm0 op_le ha hb
theorem cgt (ha : GE X B E a (.rp (TI i))) (hb : GE X B E b (.rp (TI j))) : CM X B E .Gt a b (decide (j < i)) := cm0 op_gt ha hb
theorem cge (ha : GE X B E a (.rp (TI i))) (hb : GE X B E b (.rp (TI j))) : CM X B E .GtE a b (decide (j ≤ i)) := cm0 op_ge ha hb
theorem dI {i j : Int} : decide (V.int i = V.int j) = decide (i = j) := by
  by_cases h : i = j
  · subst h
    rw [decide_eq_true rfl, decide_eq_true rfl]
  · rw [decide_eq_false h, decide_eq_false fun z => h (V.int.inj z)]
theorem ceq (ha : GE X B E a (.rp (TI i))) (hb : GE X B E b (.rp (TI j))) : CM X B E .Eq a b (decide (i = j)) :=
  ⟨_, _, _, op_eq, ha, hb, two fun H x y H2 Q _ _ ox oy q => by
    have ex : x = .int i := ox
    have ey : y = .int j := oy
    subst ex ey
    exact ⟨rfl, by rw [dI]; exact q _ H2 Rel.refl rfl⟩⟩
theorem cne (ha : GE X B E a (.rp (TI i))) (hb : GE X B E b (.rp (TI j))) : CM X B E .NotEq a b (!decide (i = j)) :=
  ⟨_, _, _, op_ne, ha, hb, two fun H x y H2 Q _ _ ox oy q => by
    have ex : x = .int i := ox
    have ey : y = .int j := oy
    subst ex ey
    exact ⟨rfl, by rw [dI]; exact q _ H2 Rel.refl rfl⟩⟩
/-- data -/
def DtO (K : PySem.W.Frag) (o : En) (y : PyData) : Prop := ∀ (B : Bs) (H : Hp) (v : V) (H2 : Hp), o.out B H v H2 → Dp K H2 v y
theorem ceqD {y z : PyData} (hu : X.A.units + 64 < cLine) (ha : GE X B E a o1) (hb : GE X B E b o2) (h1 : DtO X.K o1 y) (h2 : DtO X.K o2 z) (s1 : SeqAt.shaped y = true) (s2 : SeqAt.shaped z = true) : CM X B E .Eq a b (PyData.eqv y z) :=
  ⟨_, _, _, op_eqD hu, ha, hb, two fun H x w H2 Q _ _ ox oy q => ⟨y, z, h1 B H x H2 ox, h2 B H w H2 oy, s1, s2, q _ H2 Rel.refl rfl⟩⟩
theorem cneD {y z : PyData} (hu : X.A.units + 64 < cLine) (ha : GE X B E a o1) (hb : GE X B E b o2) (h1 : DtO X.K o1 y) (h2 : DtO X.K o2 z) (s1 : SeqAt.shaped y = true) (s2 : SeqAt.shaped z = true) : CM X B E .NotEq a b (!PyData.eqv y z) :=
  ⟨_, _, _, op_neD hu, ha, hb, two fun H x w H2 Q _ _ ox oy q => ⟨y, z, h1 B H x H2 ox, h2 B H w H2 oy, s1, s2, q _ H2 Rel.refl rfl⟩⟩
/-- a list or tuple of ints -/
def SqI (K : PySem.W.Frag) (o : En) (ns : List Int) : Prop := ∀ (B : Bs) (H : Hp) (v : V) (H2 : Hp), o.out B H v H2 → ∃ p, v = .ref p ∧ (SqL K H2 p (ns.map V.int) ∨ SqT K H2 p (ns.map V.int))
theorem inV_int {n : Int} {ns : List Int} : inV (.int n) (ns.map V.int) = decide (n ∈ ns) := by
  induction ns with
  | nil => rfl
  | cons m ns ih =>
    have e1 : inV (.int n) ((m :: ns).map V.int) = (eqV (.int m) (.int n) || inV (.int n) (ns.map V.int)) := rfl
    have e2 : eqV (.int m) (.int n) = (m == n) := rfl
    have e3 : (m == n) = decide (n = m) := by
      rw [Bool.eq_iff_iff, beq_iff_eq, decide_eq_true_iff]
      exact eq_comm
    rw [e1, ih, e2, e3, ← Bool.decide_or]
    exact decide_eq_decide.mpr List.mem_cons.symm
theorem flat_int (ns : List Int) : (ns.map V.int).all flatV = true := by
  rw [List.all_map]
  exact List.all_eq_true.mpr fun _ _ => rfl
theorem cin {ns : List Int} (ha : GE X B E a (.rp (TI i))) (hb : GE X B E b o) (h : SqI X.K o ns) : CM X B E .In a b (decide (i ∈ ns)) :=
  ⟨_, _, _, op_in_seq, ha, hb, two fun H x y H2 Q _ _ ox oy q => by
    obtain ⟨p, e, hp⟩ := h B H y H2 oy
    have ex : x = .int i := ox
    subst ex
    exact ⟨p, _, e, hp, rfl, flat_int ns, by rw [inV_int]; exact q _ H2 Rel.refl rfl⟩⟩
theorem cnin {ns : List Int} (ha : GE X B E a (.rp (TI i))) (hb : GE X B E b o) (h : SqI X.K o ns) : CM X B E .NotIn a b (!decide (i ∈ ns)) :=
  ⟨_, _, _, op_notIn_seq, ha, hb, two fun H x y H2 Q _ _ ox oy q => by
    obtain ⟨p, e, hp⟩ := h B H y H2 oy
    have ex : x = .int i := ox
    subst ex
    exact ⟨p, _, e, hp, rfl, flat_int ns, by rw [inV_int]; exact q _ H2 Rel.refl rfl⟩⟩
/-- is None, is not None -/
theorem cisN {R : Rp} {k : Nat} {p : Pos} (ha : GE X B E a (.rp R)) (h : ∀ v H, R.p v H → decide (v = .non) = d) : CM X B E .Is a (.Constant .none k p) d :=
  ⟨_, _, _, op_isN, ha, gnon (B := B) (E := E), two fun H x y H2 Q _ _ ox oy q => ⟨oy, by rw [h x H2 ox]; exact q _ H2 Rel.refl rfl⟩⟩
theorem cnotN {R : Rp} {k : Nat} {p : Pos} (ha : GE X B E a (.rp R)) (h : ∀ v H, R.p v H → decide (v = .non) = d) : CM X B E .IsNot a (.Constant .none k p) (!d) :=
  ⟨_, _, _, op_notN, ha, gnon (B := B) (E := E), two fun H x y H2 Q _ _ ox oy q => ⟨oy, by rw [h x H2 ox]; exact q _ H2 Rel.refl rfl⟩⟩

/-! ### tests -/
theorem gval (h : GE X B E e (.rp (TBl d))) (he : ∀ whole, isTrue e X.env whole = (do let v ← whole; standAt e.pos; holding [v] (truthy v)) := by intro _; rfl) : GT X B E e d :=
  ptI (pt_val h he) fun σ H Q ⟨s, q⟩ => ⟨s, fun v H2 r ov => ⟨d, ov, q H2 r⟩⟩
theorem gnot (h : GT X B E a d) : GT X B E (.UnaryOp .Not a pos) (!d) := ptI (pt_not h) fun σ H Q ⟨s, q⟩ => ⟨s, fun H2 r => q H2 r⟩
theorem gw1 (h : GT X B E a d) : GW X B E (.BoolOp .And [a] pos) d := pw_and1 h
theorem gwo1 (h : GT X B E a d) : GW X B E (.BoolOp .Or [a] pos) d := pw_or1 h
theorem gwand (h : GT X B E a d1) (h2 : d1 = true → GW X B E (.BoolOp .And (b :: rest) pos) d2) : GW X B E (.BoolOp .And (a :: b :: rest) pos) (d1 && d2) :=
  pwI (pw_and h (pwP h2)) fun σ H Q ⟨s, q⟩ => ⟨s, fun H2 r => by
    cases d1 with
    | true => exact ⟨rfl, s.mono r, fun H3 r3 => q H3 (r.trans r3)⟩
    | false => exact q H2 r⟩
theorem gwor (h : GT X B E a d1) (h2 : d1 = false → GW X B E (.BoolOp .Or (b :: rest) pos) d2) : GW X B E (.BoolOp .Or (a :: b :: rest) pos) (d1 || d2) :=
  pwI (pw_or h (pwP h2)) fun σ H Q ⟨s, q⟩ => ⟨s, fun H2 r => by
    cases d1 with
    | true => exact q H2 r
    | false => exact ⟨rfl, s.mono r, fun H3 r3 => q H3 (r.trans r3)⟩⟩
theorem gtw (h : GW X B E e d) : GT X B E e d := h.pt
theorem GT.to (h : GT X B E e d) (k : d = d1) : GT X B E e d1 := k ▸ h
/-- values of and, or, not -/
theorem gone {p : BoolOp} (h : GE X B E a o) : GE X B E (.BoolOp p [a] pos) o := pe_one h
theorem gand (h : GE X B E a (.rp (TBl d1))) (h2 : d1 = true → GE X B E (.BoolOp .And (b :: rest) pos) (.rp (TBl d2))) : GE X B E (.BoolOp .And (a :: b :: rest) pos) (.rp (TBl (d1 && d2))) :=
  peI (pe_and h (peP h2)) fun σ H Q ⟨s, q⟩ => ⟨s, fun v H2 r ov => ⟨d1, ov, by
    cases d1 with
    | true => exact ⟨rfl, s.mono r, fun u H3 r3 ou => q u H3 (r.trans r3) ou⟩
    | false => exact q _ H2 r rfl⟩⟩
theorem gnotV (h : GE X B E a (.rp (TBl d))) : GE X B E (.UnaryOp .Not a pos) (.rp (TBl (!d))) := peI (pe_not h) fun σ H Q ⟨s, q⟩ => ⟨s, fun v H2 r ov => ⟨d, ov, q _ H2 r rfl⟩⟩
theorem gif (h : GT X B E c d) (h1 : d = true → GE X B E a o) (h2 : d = false → GE X B E b o) : GE X B E (.IfExp c a b pos) o :=
  peI (pe_ifExp h (peP h1) (peP h2)) fun σ H Q ⟨s, q⟩ => ⟨s, fun H2 r => by
    cases d with
    | true => exact ⟨rfl, s.mono r, fun v H3 r3 ov => q v H3 (r.trans r3) (En.out_back ov s.rel r)⟩
    | false => exact ⟨rfl, s.mono r, fun v H3 r3 ov => q v H3 (r.trans r3) (En.out_back ov s.rel r)⟩⟩
/-- lo op x op' hi, of ints -/
theorem gch {op' : CmpOp} {p p' : Int → Int → Bool} {k : Int} (ho : OpR X (compareOp op) (rI0 fun i j => .bl (p i j))) (ho' : OpR X (compareOp op') (rI0 fun i j => .bl (p' i j))) (ha : GE X B E a (.rp (TI i))) (hb : GE X B E b (.rp (TI j))) (hc : GE X B E c (.rp (TI k)))
    (hm : lastMarks [op, op'] [b, c] = false := by with_unfolding_all rfl) : GE X B E (.Compare a [op, op'] [b, c] pos) (.rp (TBl (p i j && p' j k))) :=
  peI (pe_chain ho ho' ha hb hc hm) fun σ H Q ⟨s, q⟩ => ⟨s, fun x H1 r1 ox => ⟨s.mono r1, fun y H2 r2 oy => ⟨i, j, ox, oy, p i j, rfl, by
    cases h : p i j with
    | true => exact ⟨(s.mono r1).mono r2, fun z H3 r3 oz => ⟨j, k, oy, oz, by
        have := q (.bl (p i j && p' j k)) H3 ((r1.trans r2).trans r3) rfl
        rw [h] at this
        exact this⟩⟩
    | false =>
      have := q (.bl (p i j && p' j k)) H2 (r1.trans r2) rfl
      rw [h] at this
      exact this⟩⟩⟩
theorem gcht {op' : CmpOp} {p p' : Int → Int → Bool} {k : Int} (ho : OpR X (compareOp op) (rI0 fun i j => .bl (p i j))) (ho' : OpR X (compareOp op') (rI0 fun i j => .bl (p' i j))) (ha : GE X B E a (.rp (TI i))) (hb : GE X B E b (.rp (TI j))) (hc : GE X B E c (.rp (TI k)))
    (hm : lastMarks [op, op'] [b, c] = false := by with_unfolding_all rfl) : GT X B E (.Compare a [op, op'] [b, c] pos) (p i j && p' j k) :=
  ptI (pt_chain ho ho' ha hb hc hm) fun σ H Q ⟨s, q⟩ => ⟨s, fun x H1 r1 ox => ⟨s.mono r1, fun y H2 r2 oy => ⟨i, j, ox, oy, p i j, rfl, by
    cases h : p i j with
    | true => exact ⟨(s.mono r1).mono r2, fun z H3 r3 oz => ⟨j, k, oy, oz, _, rfl, by
        have := q H3 ((r1.trans r2).trans r3)
        rw [h] at this
        exact this⟩⟩
    | false =>
      have := q H2 (r1.trans r2)
      rw [h] at this
      exact ⟨_, rfl, this⟩⟩⟩⟩

/-! ### argument lists, displays -/
theorem outs_mono {H H1 H2 : Hp} (r0 : Rel B.w B.H0 H) (r : Rel B.w H1 H2) : ∀ {vs : List V} {os : List En}, outs B H H1 vs os → outs B H H2 vs os
  | [], [], _ => trivial
  | [], _ :: _, h => h.elim
  | _ :: _, [], h => h.elim
  | _ :: _, _ :: _, h => ⟨En.out_mono h.1 r0 r, outs_mono r0 r h.2⟩
theorem outs_back {H H1 H2 : Hp} (r0 : Rel B.w B.H0 H) (r : Rel B.w H H1) : ∀ {vs : List V} {os : List En}, outs B H1 H2 vs os → outs B H H2 vs os
  | [], [], _ => trivial
  | [], _ :: _, h => h.elim
  | _ :: _, [], h => h.elim
  | _ :: _, _ :: _, h => ⟨En.out_back h.1 r0 r, outs_back r0 r h.2⟩
theorem anil : GA X B E [] [] := paI pa_nil fun σ H Q ⟨s, q⟩ => q [] H Rel.refl trivial
theorem acons (ha : GE X B E e o) (hr : GA X B E es os) (hs : starEach (e :: es) X.env = (false, eval e X.env) :: starEach es X.env := by rfl) : GA X B E (e :: es) (o :: os) :=
  paI (pa_cons ha hr hs) fun σ H Q ⟨s, q⟩ => ⟨s, fun v H1 r1 ov => ⟨s.mono r1, fun vs H2 r2 ovs => q (v :: vs) H2 (r1.trans r2) ⟨En.out_mono ov s.rel r2, outs_back s.rel r1 ovs⟩⟩⟩
/-- all of them values that stay -/
def rps : List En → Option (List Rp)
  | [] => some []
  | .rp R :: os => (rps os).map (R :: ·)
  | _ => none
theorem rps_ok {H H2 : Hp} : ∀ {os : List En} {vs : List V} {Rs : List Rp}, rps os = some Rs → outs B H H2 vs os → Alls Rs vs H2
  | [], [], Rs, h, _ => by
    cases h
    exact .nil
  | [], _ :: _, _, _, q => q.elim
  | _ :: _, [], _, _, q => q.elim
  | .rp R :: os, v :: vs, Rs, h, q => by
    have h1 : (rps os).map (R :: ·) = some Rs := h
    cases e : rps os with
    | none =>
      rw [e] at h1
      cases h1
    | some Rs' =>
      rw [e] at h1
      cases h1
      exact .cons q.1 (rps_ok e q.2)
theorem gtup {Rs : List Rp} {k : Nat} (h : GA X B E es os) (hr : rps os = some Rs := by rfl) (hl : Rs.length ≤ 1000 := by exact Nat.le_of_ble_eq_true rfl) : GE X B E (.Tuple es k pos) (.rp (TUP X.K Rs)) :=
  peI (pe_tup h) fun σ H Q ⟨s, q⟩ => ⟨s, fun vs H1 r1 ov => by
    have al := rps_ok hr ov
    refine ⟨by rw [← al.length]; exact Nat.le_of_lt (small1000 hl), fun p np => q _ _ (r1.trans (Rel.new np)) ⟨p, vs, rfl, .of upd_same, al.mono (Rel.new (w := none) np).kp⟩⟩⟩
theorem glst {Rs : List Rp} (h : GA X B E es os) (hr : rps os = some Rs := by rfl) (hl : Rs.length ≤ 1000 := by exact Nat.le_of_ble_eq_true rfl) : GE X B E (.List es pos) (.mu (LS Rs)) :=
  peI (pe_lst h) fun σ H Q ⟨s, q⟩ => ⟨s, fun vs H1 r1 ov => by
    have al := rps_ok hr ov
    refine ⟨by rw [← al.length]; exact Nat.le_of_lt (small1000 hl), fun p np => q _ _ (r1.trans (Rel.new np)) ⟨[p], ⟨p, vs, rfl, rfl, upd_same, al.mono (Rel.new (w := none) np).kp⟩, fun a ha => ?_⟩⟩
    rw [List.mem_singleton.mp ha]
    exact r1.free (Bs.wl1 s.rel) np⟩
end
end KG
end
section
set_option maxRecDepth 100000
set_option maxHeartbeats 2000000
/-! subscripts, calls, loops, statements -/
namespace KG
open PySem PySem.Spec PyProof.Rows L2
/-! ### lists of descriptions -/
section
variable {α β : Type} {F : α → β → Prop}
theorem prd_get {l : List α} {m : List β} (h : Paired F l m) : ∀ {i : Nat} {x : α}, l[i]? = some x → ∃ y, m[i]? = some y ∧ F x y := by
  induction h with
  | nil => intro i x e; simp at e
  | cons q t ih =>
    intro i x e
    cases i with
    | zero =>
      simp at e
      subst e
      exact ⟨_, by simp, q⟩
    | succ i => simpa using ih (i := i) (x := x) (by simpa using e)
theorem prd_atI {l : List α} {m : List β} (h : Paired F l m) {i : Int} {x : α} (e : atI l i = some x) : ∃ y, atI m i = some y ∧ F x y := by
  unfold atI at e ⊢
  rw [← Paired.length h]
  cases q : ixN l.length i with
  | none =>
    rw [q] at e
    cases e
  | some j =>
    rw [q] at e
    exact prd_get h (show l[j]? = some x from e)
theorem prd_drop {l : List α} {m : List β} (h : Paired F l m) : ∀ n : Nat, Paired F (l.drop n) (m.drop n) := by
  induction h with
  | nil => intro n; rw [List.drop_nil, List.drop_nil]; exact .nil
  | cons q t ih =>
    intro n
    cases n with
    | zero => exact .cons q t
    | succ n => exact ih n
theorem prd_take {l : List α} {m : List β} (h : Paired F l m) : ∀ n : Nat, Paired F (l.take n) (m.take n) := by
  induction h with
  | nil => intro n; rw [List.take_nil, List.take_nil]; exact .nil
  | cons q t ih =>
    intro n
    cases n with
    | zero => exact .nil
    | succ n => exact .cons q (ih n)
theorem prd_app {l l' : List α} {m m' : List β} (h : Paired F l m) (h' : Paired F l' m') : Paired F (l ++ l') (m ++ m') := by
  induction h with
  | nil => exact h'
  | cons q t ih => exact .cons q ih
theorem prd_rev {l : List α} {m : List β} (h : Paired F l m) : Paired F l.reverse m.reverse := by
  induction h with
  | nil => exact .nil
  | cons q t ih =>
    rw [List.reverse_cons, List.reverse_cons]
    exact prd_app ih (.cons q .nil)
theorem prd_map {γ : Type} {f : γ → α} : ∀ {l : List γ} {m : List β}, Paired (fun c b => F (f c) b) l m → Paired F (l.map f) m
  | _, _, .nil => .nil
  | _, _, .cons q t => .cons q (prd_map t)
theorem prd_unmap {γ : Type} {f : γ → α} : ∀ {l : List γ} {m : List β}, Paired F (l.map f) m → Paired (fun c b => F (f c) b) l m
  | [], _, .nil => .nil
  | _ :: _, _, .cons q t => .cons q (prd_unmap t)
end
theorem alls_ints {ns : List Int} {xs : List V} {H : Hp} (h : Alls (ns.map TI) xs H) : xs = ns.map V.int := by
  induction ns generalizing xs with
  | nil => cases h; rfl
  | cons n ns ih =>
    cases h with
    | cons q t => rw [List.map_cons, ih t, show _ = V.int n from q]
theorem ints_alls {H : Hp} : ∀ ns : List Int, Alls (ns.map TI) (ns.map V.int) H
  | [] => .nil
  | n :: ns => .cons rfl (ints_alls ns)
theorem atI_map {α β : Type} (f : α → β) (l : List α) (i : Int) : atI (l.map f) i = (atI l i).map f := by
  unfold atI
  rw [List.length_map]
  cases ixN l.length i with
  | none => rfl
  | some j => exact List.getElem?_map
/-- the items of a slice -/
def cutR {α : Type} (xs : List α) (lo hi : Option Int) : List α := (xs.drop (HT.sIx xs.length 0 lo)).take (HT.sIx xs.length xs.length hi - HT.sIx xs.length 0 lo)
theorem prd_cut {α : Type} {F : α → V → Prop} {l : List α} {m : List V} (h : Paired F l m) (lo hi : Option Int) : Paired F (cutR l lo hi) (cutV m lo hi) := by
  unfold cutR cutV
  rw [Paired.length h]
  exact prd_take (prd_drop h _) _
theorem cut_all {α : Type} {l : List α} {lo hi : Option Int} (h : HT.sIx l.length 0 lo = 0 ∧ HT.sIx l.length l.length hi = l.length) : cutR l lo hi = l := by
  unfold cutR
  rw [h.1, h.2, List.drop_zero, Nat.sub_zero, List.take_length]
theorem cut_take {α : Type} (l : List α) (k : Nat) : cutR l none (some (k : Int)) = l.take k := by
  have e : HT.sIx l.length l.length (some (k : Int)) = min k l.length := by
    unfold HT.sIx
    simp only
    split
    · omega
    · omega
  unfold cutR
  rw [e, show HT.sIx l.length 0 none = 0 from rfl, List.drop_zero, Nat.sub_zero]
  rw [← List.take_eq_take_min]
theorem cut_drop {α : Type} (l : List α) (k : Nat) : cutR l (some (k : Int)) none = l.drop k := by
  have e : HT.sIx l.length 0 (some (k : Int)) = min k l.length := by
    unfold HT.sIx
    simp only
    split
    · omega
    · omega
  unfold cutR
  rw [e, show HT.sIx l.length l.length none = l.length from rfl]
  rw [List.take_of_length_le (by rw [List.length_drop]; omega)]
  by_cases h : k ≤ l.length
  · rw [Nat.min_eq_left h]
  · rw [Nat.min_eq_right (by omega), List.drop_length, List.drop_of_length_le (by omega)]

section
variable {X : Cx} {B : Bs} {E : List En} {a b c e : Expr} {es : List Expr} {ss rest : List Stmt} {pos : Pos} {o o1 o2 o3 : En} {i j : Int} {os : List En} {R R1 : Rp} {Rs Rs1 Rs2 : List Rp}
/-! ### subscripts -/
theorem gixT (ha : GE X B E a (.rp (TUP X.K Rs))) (hb : GE X B E b (.rp (TI i))) (h : atI Rs i = some R) (hs : PlainIx b := by intro _ _; rfl) : GE X B E (.Subscript a b pos) (.rp R) :=
  peI (pe_ix ix_tup ha hb hs) (two fun H x y H2 Q _ _ ⟨p, xs, ep, h1, h2⟩ oy q => by
    obtain ⟨v, hv, hR⟩ := prd_atI h2 h
    exact ⟨p, xs, i, v, ep, oy, h1, hv, q v H2 Rel.refl hR⟩)
theorem gixL (ha : GE X B E a (.al (LS Rs))) (hb : GE X B E b (.rp (TI i))) (h : atI Rs i = some R) (hs : PlainIx b := by intro _ _; rfl) : GE X B E (.Subscript a b pos) (.rp R) :=
  peI (pe_ix ix_list ha hb hs) (two fun H x y H2 Q _ _ ⟨fp, ⟨p, xs, e1, ep, h1, h2⟩, hw⟩ oy q => by
    obtain ⟨v, hv, hR⟩ := prd_atI h2 h
    exact ⟨p, xs, i, v, ep, oy, .of h1, hv, q v H2 Rel.refl hR⟩)
theorem RowsAt.atI {H : Hp} {rows : List (List Int)} {bs : List Addr} (h : RowsAt H rows bs) {i : Int} {r : List Int} (e : L2.atI rows i = some r) : ∃ b, L2.atI (bs.map V.ref) i = some (.ref b) ∧ b ∈ bs ∧ H b = some (.lst (r.map V.int)) := by
  obtain ⟨b, hb, q⟩ := prd_atI h e
  refine ⟨b, by rw [atI_map, hb] <;> rfl, ?_, q⟩
  obtain ⟨j, _, hj, _⟩ := atI_get hb
  exact List.mem_of_getElem? hj
/-- rows[i]: a row as it stands -/
theorem gixR {rows : List (List Int)} {r : List Int} (ha : GE X B E a (.al (ROWS rows))) (hb : GE X B E b (.rp (TI i))) (h : atI rows i = some r) (hs : PlainIx b := by intro _ _; rfl) : GE X B E (.Subscript a b pos) (.al (LS (r.map TI))) :=
  peI (pe_ix ix_list ha hb hs) (two fun H x y H2 Q _ _ ⟨fp, ⟨p, bs, e1, ep, h1, h2, nd⟩, hw⟩ oy q => by
    obtain ⟨b', hb', hm, hq⟩ := RowsAt.atI h2 h
    exact ⟨p, _, i, .ref b', ep, oy, .of h1, hb', q _ H2 Rel.refl ⟨[b'], ⟨b', _, rfl, rfl, hq, ints_alls r⟩, fun a ha => by
      rw [List.mem_singleton.mp ha]
      exact hw b' (by rw [e1]; exact List.mem_cons_of_mem _ hm)⟩⟩)
/-- a written dict of ints, read -/
theorem gkint {d : Addr} {v : V} (ha : GE X B E a (.rp (VL (.ref d)))) (hb : GE X B E b (.rp (TI i))) (h : KX.KInt X.K d i v) (hR : ∀ H, R.p v H) (hs : NoSl b := by intro _ _; rfl) : GE X B E (.Subscript a b pos) (.rp R) :=
  peI (KX.pe_kint ha hb hs) fun σ H Q ⟨s, q⟩ => ⟨s, fun x H1 r1 ox => ⟨s.mono r1, fun y H2 r2 oy => ⟨d, i, v, ox, oy, h, q v H2 (r1.trans r2) (hR H2)⟩⟩⟩
/-! ### slices -/
def tO (B : Bs) (E : List En) (k : Option Int) : TO := fun σ H Q => Sn B E σ H ∧ ∀ H2, Rel B.w H H2 → Q k H2
theorem poI {e : Option Expr} {t t' : TO} (h : PO X e t) (k : ∀ σ H Q, t' σ H Q → t σ H Q) : PO X e t' := ⟨fun pins s σ H Q I q => h.run pins s σ H Q I (k σ H Q q)⟩
theorem on : PO X none (tO B E none) := poI po_none fun σ H Q ⟨s, q⟩ => q H Rel.refl
theorem oi (h : GE X B E e (.rp (TI i))) : PO X (some e) (tO B E (some i)) := poI (po_some h) fun σ H Q ⟨s, q⟩ => ⟨s, fun x H1 r ox => ⟨i, ox, q H1 r⟩⟩
theorem slI {r : V → Option Int → Option Int → Hp → VK → Prop} {lo hi : Option Int} (h : ∀ (H : Hp) (x : V) (H2 : Hp) (Q : VK), Rel B.w B.H0 H → Rel B.w H H2 → o1.out B H x H2 → (∀ v H3, Rel B.w H2 H3 → o.out B H2 v H3 → Q v H3) → r x lo hi H2 Q) :
    ∀ σ H Q, tS B E o σ H Q → tSl r (tS B E o1) (tO B E lo) (tO B E hi) σ H Q := fun σ H Q ⟨s, q⟩ =>
  ⟨s, fun x H1 r1 ox => ⟨s.mono r1, fun H2 r2 => ⟨(s.mono r1).mono r2, fun H3 r3 => h H x H3 Q s.rel ((r1.trans r2).trans r3) (En.out_mono ox s.rel (r2.trans r3)) fun v H4 r4 ov => q v H4 (((r1.trans r2).trans r3).trans r4) (En.out_back ov s.rel ((r1.trans r2).trans r3))⟩⟩⟩
theorem gslT {lo hi : Option Expr} {l u : Option Int} {p2 : Pos} (ha : GE X B E a (.rp (TUP X.K Rs))) (hl : PO X lo (tO B E l)) (hu : PO X hi (tO B E u)) (h : cutR Rs l u = Rs1) : GE X B E (.Subscript a (.Slice lo hi none p2) pos) (.rp (TUP X.K Rs1)) :=
  peI (pe_slice sl_tupA ha hl hu) (slI fun H x H2 Q _ _ ⟨p, xs, ep, h1, h2⟩ q => by
    subst h
    refine ⟨p, xs, ep, h1, fun hw => q _ H2 Rel.refl ⟨p, xs, rfl, h1, ?_⟩, fun _ t ht => q _ _ (Rel.new ht) ⟨t, _, rfl, .of upd_same, Alls.mono (Rel.new (w := none) ht).kp (prd_cut h2 l u)⟩⟩
    rw [← Paired.length h2] at hw
    rw [cut_all hw]
    exact h2)
theorem gslL {lo hi : Option Expr} {l u : Option Int} {p2 : Pos} (ha : GE X B E a (.al (LS Rs))) (hl : PO X lo (tO B E l)) (hu : PO X hi (tO B E u)) (h : cutR Rs l u = Rs1) : GE X B E (.Subscript a (.Slice lo hi none p2) pos) (.mu (LS Rs1)) :=
  peI (pe_slice sl_list ha hl hu) (slI fun H x H2 Q r0 r1 ⟨fp, ⟨p, xs, e1, ep, h1, h2⟩, hw⟩ q => by
    subst h
    exact ⟨p, xs, ep, .of h1, fun t ht => q _ _ (Rel.new ht) ⟨[t], ⟨t, _, rfl, rfl, upd_same, Alls.mono (Rel.new (w := none) ht).kp (prd_cut h2 l u)⟩, fun b hb => by rw [List.mem_singleton.mp hb]; exact ht⟩⟩)
theorem grevT {k : Nat} {p1 p2 p3 : Pos} (ha : GE X B E a (.rp (TUP X.K Rs))) : GE X B E (.Subscript a (.Slice none none (some (.UnaryOp .USub (.Constant (.int 1) k p1) p2)) p3) pos) (.rp (TUP X.K Rs.reverse)) :=
  peI (KX.pe_revT ha) (one fun H x H2 Q _ _ ⟨p, xs, ep, h1, h2⟩ q => ⟨p, xs, ep, h1, fun t ht => q _ _ (Rel.new ht) ⟨t, _, rfl, .of upd_same, Alls.mono (Rel.new (w := none) ht).kp (prd_rev h2)⟩⟩)
theorem grevL {k : Nat} {p1 p2 p3 : Pos} (ha : GE X B E a (.al (LS Rs))) : GE X B E (.Subscript a (.Slice none none (some (.UnaryOp .USub (.Constant (.int 1) k p1) p2)) p3) pos) (.mu (LS Rs.reverse)) :=
  peI (pe_revL ha) (one fun H x H2 Q _ _ ⟨fp, ⟨p, xs, e1, ep, h1, h2⟩, hw⟩ q => ⟨p, xs, ep, .of h1, fun t ht => q _ _ (Rel.new ht) ⟨[t], ⟨t, _, rfl, rfl, upd_same, Alls.mono (Rel.new (w := none) ht).kp (prd_rev h2)⟩, fun b hb => by rw [List.mem_singleton.mp hb]; exact ht⟩⟩)
/-! ### put together -/
theorem gcatT (ha : GE X B E a (.rp (TUP X.K Rs1))) (hb : GE X B E b (.rp (TUP X.K Rs2))) (hz : Rs1.length + Rs2.length ≤ 1000) : GE X B E (.BinOp a .Add b pos) (.rp (TUP X.K (Rs1 ++ Rs2))) :=
  peI (pe_op op_catA ha hb) (two fun H x y H2 Q _ _ ⟨p, xs, ep, h1, h2⟩ ⟨p', ys, ep', h1', h2'⟩ q => by
    have l1 := Paired.length h2
    have l2 := Paired.length h2'
    refine ⟨p, p', xs, ys, ep, ep', h1, h1', by have : (1000 : Nat) ≤ sizeLine := by decide
                                                omega, fun z => ?_, fun _ z => ?_, fun _ _ t ht => q _ _ (Rel.new ht) ⟨t, _, rfl, .of upd_same, Alls.mono (Rel.new (w := none) ht).kp (prd_app h2 h2')⟩⟩
    · subst z
      cases h2
      exact q _ H2 Rel.refl ⟨p', ys, rfl, h1', h2'⟩
    · subst z
      cases h2'
      rw [List.append_nil] at q
      exact q _ H2 Rel.refl ⟨p, xs, rfl, h1, h2⟩)
theorem gcatL (ha : GE X B E a (.al (LS Rs1))) (hb : GE X B E b (.al (LS Rs2))) (hz : Rs1.length + Rs2.length ≤ 1000) : GE X B E (.BinOp a .Add b pos) (.mu (LS (Rs1 ++ Rs2))) :=
  peI (pe_op op_cat ha hb) (two fun H x y H2 Q _ _ ⟨fp, ⟨p, xs, e1, ep, h1, h2⟩, hw⟩ ⟨fp', ⟨p', ys, e1', ep', h1', h2'⟩, hw'⟩ q => by
    have l1 := Paired.length h2
    have l2 := Paired.length h2'
    exact ⟨p, p', xs, ys, ep, ep', h1, h1', by have : (1000 : Nat) ≤ sizeLine := by decide
                                               omega, fun t ht => q _ _ (Rel.new ht) ⟨[t], ⟨t, _, rfl, rfl, upd_same, Alls.mono (Rel.new (w := none) ht).kp (prd_app h2 h2')⟩, fun b hb => by rw [List.mem_singleton.mp hb]; exact ht⟩⟩)
/-- [x] * n -/
theorem grep {n : Nat} (ha : GE X B E a (.al (LS [R]))) (hb : GE X B E b (.rp (TI (n : Int)))) (hz : n ≤ 1000) : GE X B E (.BinOp a .Mult b pos) (.mu (LS (List.replicate n R))) :=
  peI (pe_op op_rep ha hb) (two fun H x y H2 Q _ _ ⟨fp, ⟨p, xs, e1, ep, h1, h2⟩, hw⟩ oy q => by
    cases h2 with
    | cons q1 t1 =>
      cases t1
      rename_i z
      have hn : ((n : Int)).toNat = n := by omega
      have hall : ∀ H', Kp H2 H' → ∀ m : Nat, Alls (List.replicate m R) (List.replicate m [z]).flatten H' := fun H' k m => by
        induction m with
        | zero => exact .nil
        | succ m ih =>
          rw [List.replicate_succ, List.replicate_succ, List.flatten_cons]
          exact .cons (R.mono k q1) ih
      refine ⟨p, n, [z], ep, oy, h1, by omega, by omega, by rw [hn]; simp only [List.length_singleton]; have : (1000 : Nat) ≤ sizeLine := by decide
                                                            omega, fun t ht => q _ _ (Rel.new ht) ⟨[t], ⟨t, _, rfl, rfl, upd_same, ?_⟩, fun b hb => by rw [List.mem_singleton.mp hb]; exact ht⟩⟩
      rw [hn]
      exact hall _ (Rel.new (w := none) ht).kp n)

/-! ### built-ins called -/
theorem callI {r : List V → Hp → VK → Prop} (h : ∀ (H : Hp) (vs : List V) (H2 : Hp) (Q : VK), Rel B.w B.H0 H → Rel B.w H H2 → outs B H H2 vs os → (∀ v H3, Rel B.w H2 H3 → o.out B H2 v H3 → Q v H3) → r vs H2 Q) :
    ∀ σ H Q, tS B E o σ H Q → tCB r (tA B E os) σ H Q := fun σ H Q ⟨s, q⟩ => ⟨s, fun vs H1 r1 ov => h H vs H1 Q s.rel r1 ov fun v H3 r3 o3 => q v H3 (r1.trans r3) (En.out_back o3 s.rel r1)⟩
theorem outs1 {H H2 : Hp} {vs : List V} (h : outs B H H2 vs [o]) : ∃ v, vs = [v] ∧ o.out B H v H2 := by
  cases vs with
  | nil => exact h.elim
  | cons v vs =>
    cases vs with
    | nil => exact ⟨v, rfl, h.1⟩
    | cons w vs => exact h.2.elim
theorem outs2 {H H2 : Hp} {vs : List V} (h : outs B H H2 vs [o, o1]) : ∃ v w, vs = [v, w] ∧ o.out B H v H2 ∧ o1.out B H w H2 := by
  cases vs with
  | nil => exact h.elim
  | cons v vs =>
    obtain ⟨w, e, q⟩ := outs1 h.2
    exact ⟨v, w, by rw [e], h.1, q⟩
def SzO (K : PySem.W.Frag) (o : En) (n : Nat) : Prop := ∀ (B : Bs) (H : Hp) (v : V) (H2 : Hp), o.out B H v H2 → ∃ p ys, v = .ref p ∧ (SqL K H2 p ys ∨ SqT K H2 p ys) ∧ ys.length = n
theorem szT {K : PySem.W.Frag} : SzO K (.rp (TUP K Rs)) Rs.length := fun B H v H2 ⟨p, xs, e, h1, h2⟩ => ⟨p, xs, e, .inr h1, (Paired.length h2).symm⟩
theorem szL {K : PySem.W.Frag} : SzO K (.al (LS Rs)) Rs.length := fun B H v H2 ⟨fp, ⟨p, xs, e1, e, h1, h2⟩, _⟩ => ⟨p, xs, e, .inl (.of h1), (Paired.length h2).symm⟩
theorem szR {K : PySem.W.Frag} {rows : List (List Int)} : SzO K (.al (ROWS rows)) rows.length := fun B H v H2 ⟨fp, ⟨p, bs, e1, e, h1, h2, _⟩, _⟩ => ⟨p, _, e, .inl (.of h1), by rw [List.length_map, Paired.length h2]⟩
variable {p : Pos}
theorem glen {n : Nat} (hm : X.mg "len" = none) (ha : GE X B E e o) (h : SzO X.K o n) (hg : Gl X "len" := by rfl) (hs : starEach [e] X.env = (false, eval e X.env) :: starEach [] X.env := by rfl) : GE X B E (.Call (.Name "len" p) [e] [] pos) (.rp (TI n)) :=
  peI (pe_callB call_len_seq hg hm boot_len (acons ha anil hs) (by decide) (by decide) hs rfl) (callI fun H vs H2 Q _ _ ov q => by
    obtain ⟨v, rfl, hv⟩ := outs1 ov
    obtain ⟨p, ys, rfl, hy, hl⟩ := h B H v H2 hv
    exact ⟨p, ys, rfl, hy, by rw [hl]; exact q _ H2 Rel.refl rfl⟩)
theorem gtupOf (hm : X.mg "tuple" = none) (ha : GE X B E e (.al (LS Rs))) (hg : Gl X "tuple" := by rfl) (hs : starEach [e] X.env = (false, eval e X.env) :: starEach [] X.env := by rfl) : GE X B E (.Call (.Name "tuple" p) [e] [] pos) (.rp (TUP X.K Rs)) :=
  peI (pe_callTy call_tuple_of hg hm boot_tuple (acons ha anil hs) (by decide) (by decide) hs rfl) (callI fun H vs H2 Q _ _ ov q => by
    obtain ⟨v, rfl, fp, ⟨p, xs, e1, rfl, h1, h2⟩, hw⟩ := outs1 ov
    exact ⟨p, xs, rfl, .inl ⟨.of h1, fun t ht => q _ _ (Rel.new ht) ⟨t, xs, rfl, .of upd_same, Alls.mono (Rel.new (w := none) ht).kp h2⟩⟩⟩)
theorem gint1 (hm : X.mg "int" = none) (ha : GE X B E e (.rp (TI i))) (hg : Gl X "int" := by rfl) (hs : starEach [e] X.env = (false, eval e X.env) :: starEach [] X.env := by rfl) : GE X B E (.Call (.Name "int" p) [e] [] pos) (.rp (TI i)) :=
  peI (pe_callTy call_int1 hg hm boot_int (acons ha anil hs) (by decide) (by decide) hs rfl) (callI fun H vs H2 Q _ _ ov q => by
    obtain ⟨v, rfl, hv⟩ := outs1 ov
    exact .inl ⟨i, by rw [show v = .int i from hv], q _ H2 Rel.refl rfl⟩)
end
end KG
end
section
set_option maxRecDepth 100000
set_option maxHeartbeats 2000000
/-! calls of one's own defs, loops, comprehensions, statements -/
namespace KG
open PySem PySem.Spec PyProof.Rows L2
/-! ### promises -/
/-- what a parameter's slot holds, from what is handed over -/
def En.ent : En → En
  | .rp R => .rp R
  | .al M => .rm M
  | .wl => .wl
  | _ => .no
def En.ret : En → Bool
  | .rp _ => true
  | .mu _ => true
  | _ => false
/-- Fm: the well's place, what is handed over, what comes back -/
def PM (Fm : Option Addr → List En → En → Prop) : Sp := fun vs H Q _ => ∃ (B : Bs) (ins : List En) (o : En), B.H0 = H ∧ Fm B.w ins o ∧ outs B H H vs ins ∧ ∀ v H', Rel B.w H H' → o.out B H v H' → Q v H'
theorem outs_len {B : Bs} {H H2 : Hp} : ∀ {vs : List V} {os : List En}, outs B H H2 vs os → vs.length = os.length
  | [], [], _ => rfl
  | [], _ :: _, h => h.elim
  | _ :: _, [], h => h.elim
  | _ :: _, _ :: _, h => congrArg Nat.succ (outs_len h.2)
theorem outs_get {B : Bs} {H H2 : Hp} : ∀ {vs : List V} {os : List En}, outs B H H2 vs os → ∀ {i : Nat} {o : En}, os[i]? = some o → ∃ v, vs[i]? = some v ∧ o.out B H v H2
  | [], [], _, _, _, e => by simp at e
  | [], _ :: _, h, _, _, _ => h.elim
  | _ :: _, [], h, _, _, _ => h.elim
  | v :: _, o :: _, h, 0, o', e => by
    simp at e
    subst e
    exact ⟨v, by simp, h.1⟩
  | _ :: _, _ :: _, h, i + 1, o', e => by
    simpa using outs_get h.2 (i := i) (o := o') (by simpa using e)
theorem sn_start {B : Bs} {N : List Str} {vs : List V} {ins : List En} (h : outs B B.H0 B.H0 vs ins) (hl : ins.length ≤ N.length) : Sn B (ins.map En.ent ++ List.replicate (N.length - ins.length) .no) (L2.start N vs) B.H0 := by
  have hvl := outs_len h
  refine ⟨Rel.refl, ⟨fun _ => [], fun i o e t => ?_, fun i j M N' _ ei _ => ?_⟩, ?_⟩
  · by_cases hi : i < ins.length
    · rw [List.getElem?_append_left (by simpa using hi), List.getElem?_map] at e
      cases q : ins[i]? with
      | none =>
        rw [q] at e
        cases e
      | some u =>
        rw [q] at e
        have e2 : u.ent = o := Option.some.inj e
        obtain ⟨v, hv, ho⟩ := outs_get h q
        refine ⟨v, ?_, ?_⟩
        · unfold L2.start
          rw [List.getElem?_append_left (by rw [List.length_map, hvl]; exact hi), List.getElem?_map, hv] <;> rfl
        · subst e2
          cases u with
          | rp R => exact ho
          | al M => exact ho
          | wl => exact ho
          | no => cases t
          | rm M => cases t
          | mu M => cases t
    · rw [List.getElem?_append_right (by simpa using hi), List.getElem?_replicate] at e
      split at e
      · cases e
        cases t
      · cases e
  · by_cases hi : i < ins.length
    · rw [List.getElem?_append_left (by simpa using hi), List.getElem?_map] at ei
      cases q : ins[i]? with
      | none =>
        rw [q] at ei
        cases ei
      | some u =>
        rw [q] at ei
        have e2 : u.ent = .mu M := Option.some.inj ei
        cases u <;> cases e2
    · rw [List.getElem?_append_right (by simpa using hi), List.getElem?_replicate] at ei
      split at ei <;> cases ei
  · unfold L2.start
    simp only [List.length_append, List.length_map, List.length_replicate]
    omega
section
variable {P : Program} {w : World} {K : PySem.W.Frag} {mg : Str → Option Value} {base : Heap}
/-- a def keeps its promise, by its body -/
theorem pm_ok {st : Stmt} {x qual : Str} {N ps : List Str} {k : Nat} {dvs : List V} {f : Addr} {fd : FuncData} {Fm : Option Addr → List En → En → Prop} (F : FunD K x qual (defArgs st) (defBody st) (defScope st) dvs [] f fd) (S : FnScope N ps (defScope st))
    (hl : ∀ w ins o, Fm w ins o → ins.length = ps.length)
    (hb : ∀ (cdv : Value) (A : Around) (outer : List Env) (s : Shared) (Ex : XK) (B : Bs) (ins : List En) (o : En), Fm B.w ins o → Room k (A.deeper (envOfC qual (defScope st) s.heap.objs.size f cdv)) →
      ∃ E0, ins.map En.ent ++ List.replicate (N.length - ins.length) .no = E0 ∧ GB (cxOf CX0 P w K mg base N qual (defScope st) f cdv A outer s B.H0 Ex).nox B E0 (defBody st) (fun _ => o = .rp TN) (fun o' => o' = o)) : FnOk P w K mg base CX0 (k + 1) f fd ps (PM Fm) := by
  refine FunD.ok F S (fun vs H Q E ⟨B, ins, o, e, hF, ho, _⟩ => ?_) fun cdv A outer s H vs Q E hr ⟨B, ins, o, e, hF, ho, hq⟩ => ?_
  · rw [outs_len ho, hl _ _ _ hF]
  · subst e
    have hN : ins.length ≤ N.length := by
      rw [hl _ _ _ hF]
      have := congrArg List.length S.pre
      rw [List.length_take] at this
      omega
    obtain ⟨E0, he0, hbody⟩ := hb cdv A outer s E B ins o hF hr
    refine ⟨_, hbody.nox, by rw [← he0]; exact sn_start ho hN, fun E' σ' H' ho' _ sn => ?_, fun o' v H' e r ov => ?_⟩
    · subst ho'
      exact hq _ _ sn.rel rfl
    · subst e
      exact hq v H' r ov
/-- .. and may be called -/
theorem cal_of {x : Str} {f : Addr} {fd : FuncData} {ps : List Str} {k : Nat} {sp : Sp} {qual : Str} {params : Arguments} {body : List Stmt} {scope : Scope} (F : FunD K x qual params body scope [] [] f fd) (ok : FnOk P w K mg base CX0 k f fd ps sp) (hm : mg x = some (.ref f))
    (h : ∀ (kV doc pm : Value) (an : Option Addr) (cdv ct : Value) (us : List Value), us.length = ps.length → bindArgs (PySem.W.fnOf x qual params body scope .none kV doc pm an cdv ct) ⟨us, []⟩ = pure (ps.zip us)) : C8.Cal P w K mg base k x sp [] :=
  ⟨f, fd, ps, [], ok, hm, F.kp, F.bindsN h, .nil⟩
end
section
variable {X : Cx} {B : Bs} {E E1 E2 : List En} {a b c e tg iter : Expr} {es : List Expr} {ss rest body : List Stmt} {pos p : Pos} {o o1 o2 o3 : En} {i j : Int} {os : List En} {R R1 R2 : Rp} {Rs Ss : List Rp}
def En.arg : En → Bool
  | .rp _ => true
  | .al _ => true
  | _ => false
theorem outs_none {H H1 : Hp} : ∀ {vs : List V} {os : List En}, outs B H H1 vs os → os.all En.arg = true → outs ⟨H1, none, fun _ z => nomatch z⟩ H1 H1 vs os
  | [], [], _, _ => trivial
  | [], _ :: _, h, _ => h.elim
  | _ :: _, [], h, _ => h.elim
  | v :: vs, o :: os, h, t => by
    have t2 : (o.arg && os.all En.arg) = true := t
    obtain ⟨t3, t4⟩ := Bool.and_eq_true_iff.mp t2
    refine ⟨?_, outs_none h.2 t4⟩
    cases o with
    | rp R => exact h.1
    | al M =>
      obtain ⟨fp, h1, h2⟩ := h.1
      exact ⟨fp, h1, fun a _ z => nomatch z⟩
    | _ => cases t3
theorem ret_back {H H1 H2 : Hp} {v : V} {B' : Bs} (s0 : Rel B.w B.H0 H) (r1 : Rel B.w H H1) (ho : o.ret = true) (h : o.out B' H1 v H2) : o.out B H v H2 := by
  cases o with
  | rp R => exact h
  | mu M =>
    obtain ⟨fp, h1, h2⟩ := h
    exact ⟨fp, h1, fun a ha => r1.free (Bs.wl1 s0) (h2 a ha)⟩
  | _ => cases ho
/-- a call of a def that sees no well -/
theorem gcl {x : Str} {k j : Nat} {Fm : Option Addr → List En → En → Prop} (c : C8.Cal X.prog X.w X.K X.mg X.base k x (PM Fm) []) (hr : Room j X.A) (ha : GA X B E (e :: es) os) (hF : Fm none os o) (hk : k ≤ j := by decide) (hos : os.all En.arg = true := by rfl) (ho : o.ret = true := by rfl) (hg : Gl X x := by rfl)
    (hdb : (x == ("__debug__" : Str)) = false := by decide) (he : starEach (e :: es) X.env = (false, eval e X.env) :: starEach es X.env := by rfl) (hpl : (backTo pos (starEach es X.env)).any (·.1) = false := by rfl) : GE X B E (.Call (.Name x p) (e :: es) [] pos) o :=
  peI (C8.pe_c c hr hk hg ha hdb he hpl) fun σ H Q ⟨s, q⟩ => ⟨s, fun vs H1 r1 ov =>
    ⟨⟨H1, none, fun _ z => nomatch z⟩, os, o, rfl, hF, by rw [List.append_nil]; exact outs_none ov hos, fun v H' r ov' => q v H' (r1.trans r.ofNone) (ret_back s.rel r1 ho ov')⟩⟩
/-- .. that sees the well -/
def En.argw : En → Bool
  | .rp _ => true
  | .al _ => true
  | .wl => true
  | _ => false
theorem outs_w {H H1 : Hp} (w : ∀ a, B.w = some a → well a H1) : ∀ {vs : List V} {os : List En}, outs B H H1 vs os → os.all En.argw = true → outs ⟨H1, B.w, w⟩ H1 H1 vs os
  | [], [], _, _ => trivial
  | [], _ :: _, h, _ => h.elim
  | _ :: _, [], h, _ => h.elim
  | v :: vs, o :: os, h, t => by
    have t2 : (o.argw && os.all En.argw) = true := t
    obtain ⟨t3, t4⟩ := Bool.and_eq_true_iff.mp t2
    refine ⟨?_, outs_w w h.2 t4⟩
    cases o with
    | rp R => exact h.1
    | al M => exact h.1
    | wl => exact h.1
    | _ => cases t3
theorem gclw {x : Str} {k j : Nat} {Fm : Option Addr → List En → En → Prop} (c : C8.Cal X.prog X.w X.K X.mg X.base k x (PM Fm) []) (hr : Room j X.A) (ha : GA X B E (e :: es) os) (hF : Fm B.w os o) (hk : k ≤ j := by decide) (hos : os.all En.argw = true := by rfl) (ho : o.ret = true := by rfl) (hg : Gl X x := by rfl)
    (hdb : (x == ("__debug__" : Str)) = false := by decide) (he : starEach (e :: es) X.env = (false, eval e X.env) :: starEach es X.env := by rfl) (hpl : (backTo pos (starEach es X.env)).any (·.1) = false := by rfl) : GE X B E (.Call (.Name x p) (e :: es) [] pos) o :=
  peI (C8.pe_c c hr hk hg ha hdb he hpl) fun σ H Q ⟨s, q⟩ => ⟨s, fun vs H1 r1 ov =>
    ⟨⟨H1, B.w, Bs.wl1 (s.rel.trans r1)⟩, os, o, rfl, hF, by rw [List.append_nil]; exact outs_w _ ov hos, fun v H' r ov' => q v H' (r1.trans r) (ret_back s.rel r1 ho ov')⟩⟩

/-! ### iterators -/
theorem walk_cast {J : It} {n m : Nat} {G : Hp → Prop} {Y : Nat → Hp → V → Hp → Prop} (h : Walk J n G Y) (e : n = m) : Walk J m G Y := e ▸ h
theorem gi_tup (h : GE X B E e (.rp (TUP X.K Rs))) : GI X B E tg e (Rs.map En.rp) :=
  piI (pi_tup h) fun σ H R ⟨s, q⟩ => ⟨s, fun v H1 r ⟨a, xs, ev, h1, h2⟩ => ⟨a, ev, ⟨xs, h1⟩, q (Itt X.K a) H1 (fun H => SqT X.K H a xs ∧ Alls Rs xs H) r ⟨h1, h2⟩ (fun H2 H3 g k _ => ⟨sqt_mono k g.1, g.2.mono k⟩)
    (walk_cast (walk_tup.mono (fun H g => g.1) fun i Ha x Hb hi g y => by
      obtain ⟨e1, e2⟩ := y
      subst e1
      refine ⟨Rel.refl, ?_⟩
      have hl := Paired.length g.2
      have hi' : i < Rs.length := by omega
      obtain ⟨x', hx, hR⟩ := prd_get g.2 (List.getElem?_eq_getElem hi')
      rw [e2] at hx
      cases hx
      exact ⟨.rp Rs[i], by rw [List.getElem?_map, List.getElem?_eq_getElem hi'] <;> rfl, hR⟩) (by rw [List.length_map, Paired.length h2]))⟩⟩
theorem gi_range {n : Nat} (hm : X.mg "range" = none) (ha : GE X B E a (.rp (TI n))) (hn : n ≤ 1000) (hg : Gl X "range" := by rfl) (hs : starEach [a] X.env = (false, eval a X.env) :: starEach [] X.env := by rfl) :
    GI X B E tg (.Call (.Name "range" p) [a] [] pos) ((List.range n).map fun (k : Nat) => En.rp (TI k)) :=
  piI (pi_range1 hg hm (acons ha anil hs) hs) fun σ H R ⟨s, q⟩ => ⟨s, fun vs H1 r ov => by
    obtain ⟨v, rfl, hv⟩ := outs1 ov
    refine ⟨n, by rw [show v = .int n from hv], by omega, by omega, ?_⟩
    have e : ((n : Int)).toNat = n := by omega
    rw [e]
    refine q (Itr 0 n) H1 (fun _ => True) r trivial (fun _ _ _ _ _ => trivial) (walk_cast (walk_range.mono (fun _ _ => trivial) fun i Ha x Hb hi _ y => ?_) (by simp))
    obtain ⟨e1, e2⟩ := y
    subst e1 e2
    exact ⟨Rel.refl, En.rp (TI i), by rw [List.getElem?_map, List.getElem?_range hi] <;> rfl, by show V.int (0 + (i : Int)) = V.int i; rw [Int.zero_add]⟩⟩
def enumE (K : PySem.W.Frag) (Rs : List Rp) : List En := Rs.zipIdx.map fun q => .rp (TUP K [TI (q.2 : Nat), q.1])
theorem enumE_len {K : PySem.W.Frag} : (enumE K Rs).length = Rs.length := by simp [enumE]
theorem enumE_get {K : PySem.W.Frag} {i : Nat} (h : Rs[i]? = some R) : (enumE K Rs)[i]? = some (.rp (TUP K [TI (i : Nat), R])) := by
  simp [enumE, h]
theorem pair_val {K : PySem.W.Frag} {T : Addr} {x y : V} {H : Hp} (n : H T = none) {R R1 : Rp} (h1 : R.p x H) (h2 : R1.p y H) : (TUP K [R, R1]).p (.ref T) (upd H T (.tup [x, y])) :=
  ⟨T, [x, y], rfl, .of upd_same, .cons (R.mono (Rel.new (w := none) n).kp h1) (.cons (R1.mono (Rel.new (w := none) n).kp h2) .nil)⟩
theorem gi_enumT {elts : List Expr} {kk : Nat} {tpos : Pos} (hm : X.mg "enumerate" = none) (h : GE X B E e (.rp (TUP X.K Rs))) (hg : Gl X "enumerate" := by rfl) (hs : starEach [e] X.env = (false, eval e X.env) :: starEach [] X.env := by rfl) :
    GI X B E (.Tuple elts kk tpos) (.Call (.Name "enumerate" p) [e] [] pos) (enumE X.K Rs) :=
  piI (KX.pi_enumT hg hm (acons h anil hs) hs) fun σ H R ⟨s, q⟩ => ⟨s, fun vs H1 r ov => by
    obtain ⟨v, rfl, a, xs, rfl, h1, h2⟩ := outs1 ov
    refine ⟨a, xs, rfl, h1, q (KX.IteT X.K a) H1 (fun H => SqT X.K H a xs ∧ Alls Rs xs H) r ⟨h1, h2⟩ (fun H2 H3 g k _ => ⟨sqt_mono k g.1, g.2.mono k⟩) (walk_cast (KX.walk_enumT.mono (fun H g => g.1) fun i Ha x Hb hi g y => ?_) (by rw [enumE_len, Paired.length h2]))⟩
    obtain ⟨T, x1, x2, e1, n, e2, e3, e4⟩ := y
    cases e3
    subst e1 e2
    have hl := Paired.length g.2
    have hi' : i < Rs.length := by omega
    obtain ⟨x', hx, hR⟩ := prd_get g.2 (List.getElem?_eq_getElem hi')
    have e5 : xs[i]? = some x2 := e4
    rw [e5] at hx
    cases hx
    exact ⟨Rel.new n, _, enumE_get (List.getElem?_eq_getElem hi'), pair_val n rfl hR⟩⟩
def zipE (K : PySem.W.Frag) (Rs Ss : List Rp) : List En := (Rs.zip Ss).map fun q => .rp (TUP K [q.1, q.2])
theorem gi_zip {elts : List Expr} {kk : Nat} {tpos : Pos} (hm : X.mg "zip" = none) (h : GE X B E e (.rp (TUP X.K Rs))) (h' : GE X B E c (.rp (TUP X.K Ss))) (hl : Rs.length = Ss.length) (hg : Gl X "zip" := by rfl) (hs : starEach [e, c] X.env = (false, eval e X.env) :: starEach [c] X.env := by rfl)
    (hs2 : starEach [c] X.env = (false, eval c X.env) :: starEach [] X.env := by rfl) (hp : (backTo pos (starEach [c] X.env)).any (·.1) = false := by rfl) : GI X B E (.Tuple elts kk tpos) (.Call (.Name "zip" p) [e, c] [] pos) (zipE X.K Rs Ss) :=
  piI (RZ.pi_zipA hg hm (acons h (acons h' anil hs2) hs) hs hp) fun σ H R ⟨s, q⟩ => ⟨s, fun vs H1 r ov => by
    obtain ⟨v, w, rfl, ⟨a, xs, rfl, h1, h2⟩, ⟨b, ys, rfl, h3, h4⟩⟩ := outs2 ov
    have l1 := Paired.length h2
    have l2 := Paired.length h4
    refine ⟨a, b, xs, ys, rfl, .inr ⟨h1, h3, q (RZ.ItzT X.K a b) H1 (fun H => (SqT X.K H a xs ∧ SqT X.K H b ys) ∧ Alls Rs xs H ∧ Alls Ss ys H) r ⟨⟨h1, h3⟩, h2, h4⟩ (fun H2 H3 g k _ => ⟨⟨sqt_mono k g.1.1, sqt_mono k g.1.2⟩, g.2.1.mono k, g.2.2.mono k⟩)
      (walk_cast ((KX.walk_zipT (by omega)).mono (fun H g => g.1) fun i Ha x Hb hi g y => ?_) (by simp [zipE]; omega))⟩⟩
    obtain ⟨T, x1, x2, e1, n, e2, e3, e4⟩ := y
    subst e1 e2
    have hi1 : i < Rs.length := by omega
    have hi2 : i < Ss.length := by omega
    obtain ⟨x', hx, hR⟩ := prd_get g.2.1 (List.getElem?_eq_getElem hi1)
    obtain ⟨y', hy, hS⟩ := prd_get g.2.2 (List.getElem?_eq_getElem hi2)
    have e5 : xs[i]? = some x1 := e3
    have e6 : ys[i]? = some x2 := e4
    rw [e5] at hx
    rw [e6] at hy
    cases hx
    cases hy
    refine ⟨Rel.new n, .rp (TUP X.K [Rs[i], Ss[i]]), ?_, pair_val n hR hS⟩
    have hz : (Rs.zip Ss)[i]? = some (Rs[i], Ss[i]) := List.getElem?_zip_eq_some.mpr ⟨List.getElem?_eq_getElem hi1, List.getElem?_eq_getElem hi2⟩
    unfold zipE
    rw [List.getElem?_map, hz] <;> rfl⟩
/-- .. in a comprehension -/
theorem gic {ys : List En} (h : GI X B E tg iter ys) : GIc X B E tg iter ys := piI h fun σ H R ⟨s, q⟩ => ⟨s, fun J H1 G r g st w => q J H1 (fun H3 => G H3 ∧ Kp H1 H3 ∧ True) r (fun H3 r3 => ⟨st H1 H3 g r3.kp ((s.rel.trans r).trans r3), r3.kp, trivial⟩) (w.mono (fun H g => g.1) fun _ _ _ _ _ _ y => y)⟩
theorem gic_list (h : GE X B E e (.al (LS Rs))) : GIc X B E tg e (Rs.map En.rp) :=
  piI (pi_list h) fun σ H R ⟨s, q⟩ => ⟨s, fun v H1 r ⟨fp, ⟨a, xs, e1, ev, h1, h2⟩, hw⟩ => ⟨a, ev, ⟨xs, .of h1⟩, q (Itl X.K a) H1 (fun H => SqL X.K H a xs ∧ Alls Rs xs H) r
    (fun H3 r3 => ⟨.of (r3.k a _ h1 (.inl (hw a (by rw [e1]; exact List.mem_cons_self)))), h2.mono r3.kp⟩)
    (walk_cast (walk_list.mono (fun H g => g.1) fun i Ha x Hb hi g y => by
      obtain ⟨e1, e2⟩ := y
      subst e1
      refine ⟨Rel.refl, ?_⟩
      have hl := Paired.length g.2
      have hi' : i < Rs.length := by omega
      obtain ⟨x', hx, hR⟩ := prd_get g.2 (List.getElem?_eq_getElem hi')
      rw [e2] at hx
      cases hx
      exact ⟨.rp Rs[i], by rw [List.getElem?_map, List.getElem?_eq_getElem hi'] <;> rfl, hR⟩) (by rw [List.length_map, Paired.length h2]))⟩⟩
end
end KG
end
section
set_option maxRecDepth 100000
set_option maxHeartbeats 2000000
/-! targets, comprehensions, statements -/
namespace KG
open PySem PySem.Spec PyProof.Rows L2
section
variable {X : Cx} {B : Bs} {E E1 E2 : List En} {a b c e tg iter elt : Expr} {es ifs : List Expr} {ss rest body : List Stmt} {pos p : Pos} {o o1 o2 o3 : En} {i j : Int} {os : List En} {R R1 R2 : Rp} {Rs Ss : List Rp}
theorem val_out {v : V} {H : Hp} (h : o.val B v H) : o.out B H v H := by
  cases o with
  | rp R => exact h
  | rm M => exact h
  | al M => exact h
  | _ => exact h.elim
/-- a slot replaced, a block's own slots forgotten: worked out by instances -/
class SetE (E : List En) (k : Nat) (o : En) (E' : outParam (List En)) : Prop where
  e : E.set k o = E'
  l : k < E.length
instance setE0 {a o : En} {l : List En} : SetE (a :: l) 0 o (o :: l) := ⟨rfl, Nat.zero_lt_succ _⟩
instance setE1 {a o : En} {l l' : List En} {k : Nat} [h : SetE l k o l'] : SetE (a :: l) (k + 1) o (a :: l') := ⟨by rw [List.set_cons_succ, h.e], Nat.succ_lt_succ h.l⟩
/-! ### targets -/
theorem tgn (k : Nat) {x : Str} (nd : X.N.Nodup) (hi : X.N[k]? = some x := by rfl) (hx : Loc X.env.scope x := by first | exact Or.inl rfl | exact Or.inr rfl) (hf : X.fn x = true ∨ X.env.scope.names.lookup x = some .local := by first | exact .inl rfl | exact .inr rfl) [hE : SetE E k o E1] :
    GG X B E (.Name x pos) o E1 [k] :=
  pgI (pg_name nd hi hx hf) fun v σ H Q ⟨s, hv, q⟩ => q _ (by rw [← hE.e]; exact s.set Rel.refl (val_out hv) hE.l) (fun i hi => List.getElem?_set_ne fun z => hi (by rw [z]; exact List.mem_cons_self)) (by simp)
theorem tg2 {t1 t2 : Expr} {k : Nat} {is1 is2 : List Nat} (hc : X.calm = true) (h1 : GG X B E t1 (.rp R1) E1 is1) (h2 : GG X B E1 t2 (.rp R2) E2 is2) (hs : (assignEach [t1, t2] X.env).map (·.2) = assign t1 X.env :: (assignEach [t2] X.env).map (·.2) := by rfl)
    (hs2 : (assignEach [t2] X.env).map (·.2) = assign t2 X.env :: (assignEach [] X.env).map (·.2) := by rfl) (hn : (assignEach [t1, t2] X.env).length = 2 := by rfl) (hst : (assignEach [t1, t2] X.env).findIdx? (·.1) = none := by rfl) :
    GG X B E (.Tuple [t1, t2] k pos) (.rp (TUP X.K [R1, R2])) E2 (is1 ++ is2) :=
  pgI (pg_tup hc (pgs_cons h1 (pgs_cons h2 pgs_nil hs2) hs) hn hst) fun v σ H Q ⟨s, ⟨a, xs, ev, hx, al⟩, q⟩ => by
    cases al with
    | cons q1 t1 =>
      cases t1 with
      | cons q2 t2 =>
        cases t2
        exact ⟨a, _, ev, hx, rfl, _, _, rfl, s, q1, fun σ1 s1 g1 l1 => ⟨_, _, rfl, s1, q2, fun σ2 s2 g2 l2 => ⟨rfl, q σ2 s2 (fun i hi => by
          rw [List.mem_append, not_or] at hi
          rw [g2 i hi.2, g1 i hi.1]) (l2.trans l1)⟩⟩⟩
/-! ### comprehensions -/
def wipeE (E : List En) : List Nat → List En
  | [] => E
  | v :: vs => (wipeE E vs).set v .no
theorem wipeE_length : ∀ vs : List Nat, (wipeE E vs).length = E.length
  | [] => rfl
  | v :: vs => by
    unfold wipeE
    rw [List.length_set, wipeE_length vs]
theorem wipeE_get {i : Nat} : ∀ {vs : List Nat}, (wipeE E vs)[i]? = some o → o.tr = true → E[i]? = some o ∧ i ∉ vs
  | [], h, _ => ⟨h, by simp⟩
  | v :: vs, h, t => by
    unfold wipeE at h
    by_cases hi : v = i
    · subst hi
      by_cases hv : v < (wipeE E vs).length
      · rw [List.getElem?_set_self hv] at h
        cases h
        cases t
      · rw [List.getElem?_eq_none (by simpa using hv)] at h
        cases h
    · rw [List.getElem?_set_ne hi] at h
      obtain ⟨h1, h2⟩ := wipeE_get h t
      exact ⟨h1, by simp only [List.mem_cons, not_or]; exact ⟨fun e => hi e.symm, h2⟩⟩
theorem sn_wipe {σ : L2.St} {H : Hp} (s : Sn B E σ H) (vs : List Nat) : Sn B (wipeE E vs) (wipe σ vs) H :=
  s.weak (by rw [wipe_length, wipeE_length, s.len]) fun i o e t => by
    obtain ⟨h1, h2⟩ := wipeE_get e t
    exact ⟨h1, wipe_out h2⟩
theorem wipe_in {σ : L2.St} {i : Nat} : ∀ {vs : List Nat}, i ∈ vs → i < σ.length → (wipe σ vs)[i]? = some none
  | [], h, _ => by cases h
  | v :: vs, h, hl => by
    unfold wipe
    by_cases hv : v = i
    · subst hv
      rw [List.getElem?_set_self (by rw [wipe_length]; exact hl)]
    · rw [List.getElem?_set_ne hv]
      rcases List.mem_cons.mp h with z | z
      · exact absurd z.symm hv
      · exact wipe_in z hl
theorem wipe_eq {σ σ2 : L2.St} {vs : List Nat} (hl : σ2.length = σ.length) (h : ∀ i, i ∉ vs → σ2[i]? = σ[i]?) : wipe σ2 vs = wipe σ vs := by
  apply List.ext_getElem?
  intro i
  by_cases hi : i ∈ vs
  · by_cases hz : i < σ.length
    · rw [wipe_in hi hz, wipe_in hi (by rw [hl]; exact hz)]
    · rw [List.getElem?_eq_none (by rw [wipe_length]; omega), List.getElem?_eq_none (by rw [wipe_length]; omega)]
  · rw [wipe_out hi, wipe_out hi, h i hi]
class WipeE (E : List En) (own : List (Str × Nat)) (Ew : outParam (List En)) : Prop where
  e : wipeE E (own.map (·.2)) = Ew
instance wipeE0 : WipeE E [] E := ⟨rfl⟩
instance wipeE1 {x : Str} {k : Nat} {l : List (Str × Nat)} {E1 E2 : List En} [h : WipeE E l E1] [h2 : SetE E1 k .no E2] : WipeE E ((x, k) :: l) E2 := ⟨by
  show (wipeE E (l.map (·.2))).set k .no = E2
  rw [h.e, h2.e]⟩
/-- the tests of a comprehension -/
theorem pts0 : PTs X [] (tT B E true) := ⟨fun pins s σ H Q I ⟨_, q⟩ => pts_nil.run pins s σ H Q I (q H Rel.refl)⟩
theorem pts1 {d : Bool} (h : GT X B E c d) : PTs X [c] (tT B E d) := pts_one h
theorem ptsF {α : Type} {Φ : α → Prop} {t : α → TT} (h : ∀ i, Φ i → PTs X ifs (t i)) : PTs X ifs (fun σ H Q => ∃ i, Φ i ∧ t i σ H Q) := ⟨fun pins s σ H Q I ⟨i, hi, q⟩ => (h i hi).run pins s σ H Q I q⟩
/-- the reading of a comprehension, from what its turns make -/
theorem lcI {α : Type} {Ew : List En} {items : List α} {y : α → En} {T : α → List En} {is : α → List Nat} {bb : α → Bool} {r : α → Rp} (vs : List Nat) (hE : wipeE E vs = Ew) (his : ∀ x ∈ items, ∀ k ∈ is x, k ∈ vs) (hz : items.length ≤ 1000) :
    ∀ σ H Q, tS B E (.mu (LS ((items.filter bb).map r))) σ H Q → tLc (tIc B E (items.map y)) (fun v σ H Q => ∃ x, x ∈ items ∧ tG B Ew (y x) (T x) (is x) v σ H Q) (fun σ H Q => ∃ x, x ∈ items ∧ tT B (T x) (bb x) σ H Q) (fun σ H Q => ∃ x, (x ∈ items ∧ bb x = true) ∧ tS B (T x) (.rp (r x)) σ H Q) vs σ H Q := by
  intro σ H Q ⟨s, q⟩
  refine ⟨s, fun J H1 G r1 st wk D hD => ?_⟩
  have sw := sn_wipe (s.mono r1) vs
  rw [hE] at sw
  have r0 := s.rel.trans r1
  have w1 := Bs.wl1 r0
  have hlen : (items.map y).length = items.length := List.length_map ..
  have sz : ∀ {acc : List V} {k : Nat} {H' : Hp}, k < items.length → Alls (((items.take k).filter bb).map r) acc H' → acc.length < sizeLine := fun {acc k H'} hk h => by
    have h1 := Paired.length h
    rw [List.length_map] at h1
    have h2 := List.length_filter_le bb (items.take k)
    rw [List.length_take] at h2
    have : (1000 : Nat) < sizeLine := by decide
    omega
  refine lc_it (g := fun v σ H Q => ∃ x, x ∈ items ∧ tG B Ew (y x) (T x) (is x) v σ H Q) (tt := fun σ H Q => ∃ x, x ∈ items ∧ tT B (T x) (bb x) σ H Q) (te := fun σ H Q => ∃ x, (x ∈ items ∧ bb x = true) ∧ tS B (T x) (.rp (r x)) σ H Q) (vs := vs) (σ := σ) (Qd := fun H => Q (.ref D) H) wk (fun k H' => Rel B.w H1 H' ∧ ∃ acc, H' D = some (.lst acc) ∧ Alls (((items.take k).filter bb).map r) acc H') ⟨Rel.new hD, [], upd_same, by rw [List.take_zero]; exact .nil⟩ (fun k H' _ h => st H' h.1) (fun k v H2 H3 hk h hyy => ?_) fun H' h => ?_
  · obtain ⟨r2, acc, hacc, hall⟩ := h
    obtain ⟨rn, yv, hy, hv⟩ := hyy
    rw [hlen] at hk
    have hx := List.getElem?_eq_getElem hk
    have hmem : items[k] ∈ items := List.getElem_mem hk
    rw [List.getElem?_map, hx] at hy
    have ey : y items[k] = yv := Option.some.inj hy
    subst ey
    have r3 : Rel B.w H1 H3 := r2.trans rn.ofNone
    have hacc3 : H3 D = some (.lst acc) := rn.toExt D _ hacc
    have hall3 := hall.mono rn.kp
    have hDw : some D ≠ B.w := Bs.new_ne r0 hD
    refine ⟨items[k], hmem, sw.mono r3, hv, fun σ2 s2 ag l2 => ⟨?_, items[k], hmem, s2, fun H4 r4 => ?_⟩⟩
    · refine (wipe_eq (l2.trans (wipe_length σ _)) fun i hi => ?_)
      rw [ag i fun z => hi (his _ hmem i z), wipe_out hi]
    · have hacc4 : H4 D = some (.lst acc) := r4.k D _ hacc3 (.inl hDw)
      have hall4 := hall3.mono r4.kp
      have take1 : (items.take (k + 1)).filter bb = (items.take k).filter bb ++ (if bb items[k] = true then [items[k]] else []) := by
        rw [List.take_succ, hx, List.filter_append]
        congr 1
        by_cases z : bb items[k] = true
        · simp [z]
        · simp [z]
      by_cases z : bb items[k] = true
      · dsimp only
        rw [if_pos z]
        refine ⟨items[k], ⟨hmem, z⟩, s2.mono r4, fun u H5 r5 hu => ?_⟩
        have hacc5 : H5 D = some (.lst acc) := r5.k D _ hacc4 (.inl hDw)
        have hall5 := hall4.mono r5.kp
        have kk : Kp H5 (upd H5 D (.lst (acc ++ [u]))) := kp_mut hacc5 fun z => z
        refine ⟨acc, hacc5, sz hk hall5, ((r3.trans r4).trans r5).mut hD w1, _, upd_same, ?_⟩
        rw [take1, if_pos z, List.map_append]
        exact prd_app (hall5.mono kk) (.cons ((r items[k]).mono kk hu) .nil)
      · dsimp only
        rw [if_neg z]
        refine ⟨r3.trans r4, acc, hacc4, ?_⟩
        rw [take1, if_neg z, List.append_nil]
        exact hall4
  · obtain ⟨r2, acc, hacc, hall⟩ := h
    rw [hlen, List.take_length] at hall
    exact q (.ref D) H' (r1.trans r2) ⟨[D], ⟨D, acc, rfl, rfl, hacc, hall⟩, fun a ha => by
      rw [List.mem_singleton.mp ha]
      exact r1.free (Bs.wl1 s.rel) hD⟩

theorem glc {α : Type} {Ew : List En} {items : List α} {y : α → En} {T : α → List En} {is : α → List Nat} {bb : α → Bool} {r : α → Rp} {scope : Scope} (own : List (Str × Nat)) [hW : WipeE E own Ew] (hc : X.calm = true) (hN : X.N.Nodup) (hi : GIc X B E tg iter (items.map y)) (ok : BlkOk X.N X.env.scope scope own)
    (hg : ∀ x ∈ items, ∀ (s : Shared) (H : Hp) (C : Addr) (cl : List (Str × Addr)) (fp : List Addr), GG (X.blk s H scope (compEnvC scope cl C X.env) fp) B Ew tg (y x) (T x) (is x)) (his : ∀ x ∈ items, ∀ k ∈ is x, k ∈ own.map (·.2))
    (ht : ∀ x ∈ items, ∀ (s : Shared) (H : Hp) (C : Addr) (cl : List (Str × Addr)) (fp : List Addr), PTs (X.blk s H scope (compEnvC scope cl C X.env) fp) ifs (tT B (T x) (bb x)))
    (he : ∀ x ∈ items, bb x = true → ∀ (s : Shared) (H : Hp) (C : Addr) (cl : List (Str × Addr)) (fp : List Addr), GE (X.blk s H scope (compEnvC scope cl C X.env) fp) B (T x) elt (.rp (r x))) (hz : items.length ≤ 1000)
    (hs : ∀ x, foldedSetIterable iter X.env x = pure x := by intro _; rfl) : GE X B E (.ListComp elt [⟨tg, iter, ifs, 0⟩] scope pos) (.mu (LS ((items.filter bb).map r))) :=
  peI (pe_lc hc hN hi ok (fun s H C cl fp => pgF (Φ := fun x => x ∈ items) fun x hx => hg x hx s H C cl fp) (fun s H C cl fp => ptsF (Φ := fun x => x ∈ items) fun x hx => ht x hx s H C cl fp)
    (fun s H C cl fp => peF (Φ := fun x => x ∈ items ∧ bb x = true) fun x hx => he x hx.1 hx.2 s H C cl fp) hs) (lcI (own.map (·.2)) hW.e his hz)
theorem bsetLc {α : Type} {Ew : List En} {items : List α} {y : α → En} {T : α → List En} {is : α → List Nat} {bb : α → Bool} {r : α → Rp} {scope : Scope} (k : Nat) {nm : Str} {py spos : Pos} {N : List En → Prop} {Rt : En → Prop} (own : List (Str × Nat)) [hW : WipeE E own Ew] [hE : SetE E k (.mu (LS ((items.filter bb).map r))) E1] (h : GB X B E1 rest N Rt) (hc : X.calm = true) (hN : X.N.Nodup) (hi : GIc X B E tg iter (items.map y)) (ok : BlkOk X.N X.env.scope scope own)
    (hg : ∀ x ∈ items, ∀ (s : Shared) (H : Hp) (C : Addr) (cl : List (Str × Addr)) (fp : List Addr), GG (X.blk s H scope (compEnvC scope cl C X.env) fp) B Ew tg (y x) (T x) (is x)) (his : ∀ x ∈ items, ∀ k ∈ is x, k ∈ own.map (·.2))
    (ht : ∀ x ∈ items, ∀ (s : Shared) (H : Hp) (C : Addr) (cl : List (Str × Addr)) (fp : List Addr), PTs (X.blk s H scope (compEnvC scope cl C X.env) fp) ifs (tT B (T x) (bb x)))
    (he : ∀ x ∈ items, bb x = true → ∀ (s : Shared) (H : Hp) (C : Addr) (cl : List (Str × Addr)) (fp : List Addr), GE (X.blk s H scope (compEnvC scope cl C X.env) fp) B (T x) elt (.rp (r x))) (hz : items.length ≤ 1000)
    (hyl : X.env.scope.names.lookup nm = some .local := by rfl) (hy : X.N[k]? = some nm := by rfl) (hk : X.env.scope.kind = .function := by rfl) (hln : (py.line == pos.line) = true := by rfl) (hnn : (scope.names.any fun (n, k) => n == nm && (k == .local || k == .cell)) = false := by decide +kernel)
    (hs : ∀ x, foldedSetIterable iter X.env x = pure x := by intro _; rfl) : GB X B E (.Assign [.Name nm py] (.ListComp elt [⟨tg, iter, ifs, 0⟩] scope pos) spos :: rest) N Rt :=
  pssI (pss_cons (ps_setLc (i := k) hc hN hy hyl (sw_true hk hyl hln hnn) hi ok (fun s H C cl fp => pgF (Φ := fun x => x ∈ items) fun x hx => hg x hx s H C cl fp) (fun s H C cl fp => ptsF (Φ := fun x => x ∈ items) fun x hx => ht x hx s H C cl fp)
    (fun s H C cl fp => peF (Φ := fun x => x ∈ items ∧ bb x = true) fun x hx => he x hx.1 hx.2 s H C cl fp) hs) h) fun D σ H hh => by
    obtain ⟨s, q1, q2⟩ := hh
    have go := lcI (B := B) (Ew := Ew) (items := items) (y := y) (T := T) (is := is) (bb := bb) (r := r) (own.map Prod.snd) hW.e his hz σ H (fun x H1 => gName k x σ H1 fun σ2 H2 => tB' B E1 N Rt D σ2 H2)
    refine go ⟨s, fun v H1 r' ov => ?_⟩
    have s1 := s.set (o := .mu (LS ((items.filter bb).map r))) r' ov hE.l
    rw [hE.e] at s1
    exact ⟨s1, fun E' σ' H' hN kp s' => q1 E' σ' H' hN (r'.kp.trans kp) s', q2⟩
/-! ### statements -/
variable {N N1 : List En → Prop} {Rt : En → Prop} {D : Ends}
theorem bnil (h : N E) : GB X B E [] N Rt := pssI pss_nil fun D σ H ⟨s, q, _⟩ => q E σ H h Kp.refl s
theorem bcons {st : Stmt} (h : GS X B E st N1 Rt) (k : ∀ E', N1 E' → GB X B E' rest N Rt) : GB X B E (st :: rest) N Rt :=
  pssI (pss_cons h (pssF (Φ := N1) k)) fun D σ H ⟨s, q1, q2⟩ => ⟨s, fun E' σ' H' hN kp s' => ⟨E', hN, s', fun E2 σ2 H2 hN2 kp2 s2 => q1 E2 σ2 H2 hN2 (kp.trans kp2) s2, q2⟩, q2⟩
theorem bone {st : Stmt} (h : GS X B E st N Rt) : GB X B E [st] N Rt := pss_one h
theorem bimp (h : GB X B E ss N1 Rt) (k : ∀ E', N1 E' → N E') : GB X B E ss N Rt := pssI h fun D σ H ⟨s, q1, q2⟩ => ⟨s, fun E' σ' H' hN kp s' => q1 E' σ' H' (k E' hN) kp s', q2⟩
/-- name = e -/
theorem bset (k : Nat) {x : Str} {pos' : Pos} (nd : X.N.Nodup) (he : GE X B E e o) [hE : SetE E k o E1] (h : GB X B E1 rest N Rt) (hi : X.N[k]? = some x := by rfl) (hx : Loc X.env.scope x := by first | exact Or.inl rfl | exact Or.inr rfl)
    (hs : swapsWith e (some (.Name x pos')) pos.line X.env = pure false := by rfl) (hf : X.fn x = true ∨ X.env.scope.names.lookup x = some .local := by first | exact .inl rfl | exact .inr rfl) : GB X B E (.Assign [.Name x pos'] e pos :: rest) N Rt :=
  pssI (pss_cons (ps_set nd hi hx he hs hf) h) fun D σ H ⟨s, q1, q2⟩ => ⟨s, fun v H1 r ov => ⟨by rw [← hE.e]; exact s.set r ov hE.l, fun E' σ' H' hN kp s' => q1 E' σ' H' hN (r.kp.trans kp) s', q2⟩⟩
/-- a, b = e -/
theorem basg {is : List Nat} (he : GE X B E e (.rp R)) (hg : GG X B E tg (.rp R) E1 is) (h : GB X B E1 rest N Rt) (hs : swapsWithSole [tg] e pos.line X.env = pure false := by rfl) (hw : swappedStores [tg] e X.env = pure none := by rfl)
    (h1 : (assignEach [tg] X.env).map (·.2) = [assign tg X.env] := by rfl) : GB X B E (.Assign [tg] e pos :: rest) N Rt :=
  pssI (pss_cons (ps_asg he hg hs hw h1) h) fun D σ H ⟨s, q1, q2⟩ => ⟨s, fun v H1 r ov => ⟨s.mono r, ov, fun σ' s' _ _ => ⟨s', fun E' σ2 H' hN kp s2 => q1 E' σ2 H' hN (r.kp.trans kp) s2, q2⟩⟩⟩
/-- a, b = x, y -/
theorem bpar (k l : Nat) {x y : Str} {px py pt : Pos} {kt k2 pt2} (nd : X.N.Nodup) (hc : X.calm = true) (ha : GE X B E a o1) (hb : GE X B E b o2) [hE : SetE E k o1 E1] [hE2 : SetE E1 l o2 E2] (h : GB X B E2 rest N Rt) (hi : X.N[k]? = some x := by rfl) (hj : X.N[l]? = some y := by rfl) (hij : k ≠ l := by decide)
    (hx : X.env.scope.names.lookup x = some .local := by rfl) (hy : X.env.scope.names.lookup y = some .local := by rfl) (st : starEach [a, b] X.env = (false, eval a X.env) :: starEach [b] X.env := by rfl) (st2 : starEach [b] X.env = (false, eval b X.env) :: starEach [] X.env := by rfl)
    (hw : swappedStores [.Tuple [.Name x px, .Name y py] kt pt] (.Tuple [a, b] k2 pt2) X.env = pure (some [x, y]) := by rfl) (hs : swapsWithSole [.Tuple [.Name x px, .Name y py] kt pt] (.Tuple [a, b] k2 pt2) pos.line X.env = pure false := by rfl) :
    GB X B E (.Assign [.Tuple [.Name x px, .Name y py] kt pt] (.Tuple [a, b] k2 pt2) pos :: rest) N Rt :=
  pssI (pss_cons (ps_par hc nd hi hj hij hx hy (pa_cons ha (pa_cons hb pa_nil st2) st) hw hs) h) fun D σ H ⟨s, q1, q2⟩ => ⟨s, fun v H1 r1 ov => ⟨s.mono r1, fun u H2 r2 ou => ⟨v, u, rfl, by
    have s1 := s.set r1 ov hE.l
    rw [hE.e] at s1
    have ou' : o2.out B H1 u H2 := ou
    rw [← hE2.e]
    exact s1.set r2 ou' hE2.l, fun E' σ' H' hN kp s' => q1 E' σ' H' hN ((r1.trans r2).kp.trans kp) s', q2⟩⟩⟩
theorem bret (he : GE X B E e o) (h : Rt o) : GB X B E [.Return (some e) pos] N Rt :=
  pssI (pss_one (ps_ret he)) fun D σ H ⟨s, _, q2⟩ => ⟨s, fun v H1 r ov => q2 o v H1 h (s.rel.trans r) (En.out_back ov Rel.refl s.rel)⟩
/-- return a list of one's own -/
theorem bretM (k : Nat) {x : Str} {M : Mu} (h : Rt (.mu M)) (he : E[k]? = some (.mu M) := by rfl) (hN : X.N[k]? = some x := by rfl) (hv : Vis X.env.scope x := by first | exact Or.inl rfl | exact Or.inr (Or.inl rfl) | exact Or.inr (Or.inr rfl)) (hd : (x == ("__debug__" : Str)) = false := by decide)
    (hcd : (x == ("__classdict__" : Str)) = false := by decide) : GB X B E [.Return (some (.Name x p)) pos] N Rt :=
  pssI (pss_one (ps_ret (pe_var hN hv hd hcd))) fun D σ H ⟨s, _, q2⟩ => by
    obtain ⟨v, fp, h1, h2, h3⟩ := s.get he rfl
    exact ⟨v, h1, q2 _ v H h s.rel ⟨fp, h2, h3⟩⟩
/-- an if; what follows it -/
theorem bifs {d : Bool} {s1 s2 : List Stmt} (hc : GT X B E c d) (h1 : d = true → GB X B E s1 N1 Rt) (h2 : d = false → GB X B E s2 N1 Rt) (k : ∀ E', N1 E' → GB X B E' rest N Rt) : GB X B E (.If c s1 s2 pos :: rest) N Rt :=
  bcons (psI (ps_if hc (pssP h1) (pssP h2)) fun D σ H ⟨s, q1, q2⟩ => ⟨s, fun H2 r => by
    cases d with
    | true => exact ⟨rfl, s.mono r, fun E' σ' H' hN kp s' => q1 E' σ' H' hN (r.kp.trans kp) s', q2⟩
    | false => exact ⟨rfl, s.mono r, fun E' σ' H' hN kp s' => q1 E' σ' H' hN (r.kp.trans kp) s', q2⟩⟩) k
/-- an if whose suite leaves -/
theorem bifR {d : Bool} {s1 : List Stmt} (hc : GT X B E c d) (h1 : d = true → GB X B E s1 (fun _ => False) Rt) (h2 : d = false → GB X B E rest N Rt) : GB X B E (.If c s1 [] pos :: rest) N Rt :=
  bifs (N1 := fun E' => d = false ∧ E' = E) hc (fun z => bimp (h1 z) fun _ q => q.elim) (fun z => bnil ⟨z, rfl⟩) fun E' ⟨z, e⟩ => by
    subst e
    exact h2 z
/-- code that is not reached -/
theorem bno : False → GB X B E ss N Rt := fun h => h.elim
/-- an expression's value dropped -/
theorem bexpr (he : GE X B E e o) (h : GB X B E rest N Rt) (hs : swapsWith e none pos.line X.env = pure false := by rfl) : GB X B E (.Expr e pos :: rest) N Rt :=
  pssI (pss_cons (ps_expr he hs) h) fun D σ H ⟨s, q1, q2⟩ => ⟨s, fun v H1 r ov => ⟨s.mono r, fun E' σ' H' hN kp s' => q1 E' σ' H' hN (r.kp.trans kp) s', q2⟩⟩
/-! ### loops -/
theorem bfor {ys : List En} (is : List Nat) (Pv : Nat → List En → Prop) (hc : X.calm = true) (hp : PassesOwn (model X.prog X.w) X.A X.env X.xe) (hi : GI X B E tg iter ys) (h0 : Pv 0 E)
    (hb : ∀ k y E', ys[k]? = some y → Pv k E' → ∃ E2, GG X B E' tg y E2 is ∧ GB X B E2 body (Pv (k + 1)) Rt) (h : ∀ E', Pv ys.length E' → GB X B E' rest N Rt) (hs : ∀ x, foldedSetIterable iter X.env x = pure x := by intro _; rfl) : GB X B E (.For tg iter body [] pos :: rest) N Rt := by
  let Φ : Nat × En × List En × List En → Prop := fun q => (ys[q.1]? = some q.2.1 ∧ Pv q.1 q.2.2.1) ∧ GG X B q.2.2.1 tg q.2.1 q.2.2.2 is ∧ GB X B q.2.2.2 body (Pv (q.1 + 1)) Rt
  refine bcons (N1 := Pv ys.length) (psI (ps_for hp hc hi (pgF (Φ := Φ) (t := fun q => tG B q.2.2.1 q.2.1 q.2.2.2 is) fun q hq => hq.2.1)
    (pssF (Φ := Φ) (t := fun q => tB' B q.2.2.2 (Pv (q.1 + 1)) Rt) fun q hq => hq.2.2) hs) fun D σ H ⟨s, q1, q2⟩ => ⟨s, fun J H1 G r1 g1 st wk => ?_⟩) h
  refine for_it (g := fun v σ H Q => ∃ q, Φ q ∧ tG B q.2.2.1 q.2.1 q.2.2.2 is v σ H Q) (tb := fun D σ H => ∃ q, Φ q ∧ tB' B q.2.2.2 (Pv (q.1 + 1)) Rt D σ H) (D := D) wk
    (fun k σ' H' => Kp H1 H' ∧ ∃ E', Pv k E' ∧ Sn B E' σ' H') ⟨Kp.refl, E, h0, s.mono r1⟩ (fun k σ' H' _ ⟨kp, E', _, s'⟩ => st H1 H' g1 kp s'.rel) (fun k v σ' H2 H3 hk hh hy' => ?_) fun σ' H' ⟨kp, E', hv, s'⟩ => q1 E' σ' H' hv (r1.kp.trans kp) s'
  obtain ⟨kp, E', hv, s'⟩ := hh
  obtain ⟨rn, y, hy, hval⟩ := hy'
  obtain ⟨E2, g1', g2'⟩ := hb k y E' hy hv
  refine ⟨⟨k, y, E', E2⟩, ⟨⟨hy, hv⟩, g1', g2'⟩, s'.mono rn.ofNone, hval, fun σ2 s2 _ _ => ⟨⟨k, y, E', E2⟩, ⟨⟨hy, hv⟩, g1', g2'⟩, s2, fun E3 σ3 H4 hN kp4 s4 => ⟨(kp.trans rn.kp).trans kp4, E3, hN, s4⟩, q2⟩⟩
theorem bwhile (Pv : Nat → List En → Prop) (m0 : Nat) (hp : PassesOwn (model X.prog X.w) X.A X.env X.xe) (h0 : Pv m0 E)
    (hw : ∀ m E', Pv m E' → ∃ d, GT X B E' c d ∧ (d = true → GB X B E' body (fun E2 => ∃ m', m' < m ∧ Pv m' E2) Rt) ∧ (d = false → GB X B E' rest N Rt)) : GB X B E (.While c body [] pos :: rest) N Rt := by
  let Φ : Nat × List En × Bool → Prop := fun q => Pv q.1 q.2.1 ∧ GT X B q.2.1 c q.2.2 ∧ (q.2.2 = true → GB X B q.2.1 body (fun E2 => ∃ m', m' < q.1 ∧ Pv m' E2) Rt) ∧ (q.2.2 = false → GB X B q.2.1 rest N Rt)
  refine bcons (N1 := fun E' => ∃ m, Φ (m, E', false)) (psI (ps_while hp (ptF (Φ := Φ) (t := fun q => tT B q.2.1 q.2.2) fun q hq => hq.2.1)
    (pssF (α := Nat × List En × Bool) (Φ := fun q => Φ q ∧ q.2.2 = true) (t := fun q => tB' B q.2.1 (fun E2 => ∃ m', m' < q.1 ∧ Pv m' E2) Rt) fun q hq => hq.1.2.2.1 hq.2)) fun D σ H ⟨s, q1, q2⟩ => ?_) fun E' ⟨m, hq⟩ => hq.2.2.2 rfl
  refine ⟨fun m σ' H' => Kp H H' ∧ ∃ E', Pv m E' ∧ Sn B E' σ' H', ⟨m0, Kp.refl, E, h0, s⟩, fun m σ' H' ⟨kp, E', hv, s'⟩ => ?_⟩
  obtain ⟨d, g1, g2, g3⟩ := hw m E' hv
  refine ⟨(m, E', d), ⟨hv, g1, g2, g3⟩, s', fun H2 r => ?_⟩
  cases d with
  | true =>
    refine (iteT ⟨fun σ2 H3 => ∃ m', m' < m ∧ Kp H H3 ∧ ∃ E2, Pv m' E2 ∧ Sn B E2 σ2 H3, fun σ2 H3 ⟨m', hm, q⟩ => ⟨m', hm, q⟩, (m, E', true), ⟨⟨hv, g1, g2, g3⟩, rfl⟩, s'.mono r, fun E2 σ2 H3 ⟨m', hm, hp'⟩ kp2 s2 => ⟨m', hm, (kp.trans r.kp).trans kp2, E2, hp', s2⟩, q2⟩)
  | false => exact iteF (q1 E' σ' H2 ⟨m, hv, g1, g2, g3⟩ (kp.trans r.kp) (s'.mono r))
end
end KG
end
section
set_option maxRecDepth 100000
set_option maxHeartbeats 2000000
/-! names by slots; the module's facts; plain data -/
namespace KG
open PySem PySem.Spec PyProof.Rows L2
section
variable {X : Cx} {B : Bs} {E : List En} {pos : Pos} {R : Rp} {M : Mu} {x : Str}
theorem gr (k : Nat) (he : E[k]? = some (.rp R)) (hN : X.N[k]? = some x := by rfl) (hv : Vis X.env.scope x := by first | exact Or.inl rfl | exact Or.inr (Or.inl rfl) | exact Or.inr (Or.inr rfl)) (hd : (x == ("__debug__" : Str)) = false := by decide)
    (hcd : (x == ("__classdict__" : Str)) = false := by decide) : GE X B E (.Name x pos) (.rp R) := gv (o := .rp R) k he rfl hN hv hd hcd
theorem gM (k : Nat) (he : E[k]? = some (.mu M)) (hN : X.N[k]? = some x := by rfl) (hv : Vis X.env.scope x := by first | exact Or.inl rfl | exact Or.inr (Or.inl rfl) | exact Or.inr (Or.inr rfl)) (hd : (x == ("__debug__" : Str)) = false := by decide)
    (hcd : (x == ("__classdict__" : Str)) = false := by decide) : GE X B E (.Name x pos) (.al M) := gv (o := .mu M) k he rfl hN hv hd hcd
theorem gm (k : Nat) (he : E[k]? = some (.rm M)) (hN : X.N[k]? = some x := by rfl) (hv : Vis X.env.scope x := by first | exact Or.inl rfl | exact Or.inr (Or.inl rfl) | exact Or.inr (Or.inr rfl)) (hd : (x == ("__debug__" : Str)) = false := by decide)
    (hcd : (x == ("__classdict__" : Str)) = false := by decide) : GE X B E (.Name x pos) (.al M) := gv (o := .rm M) k he rfl hN hv hd hcd
theorem gwl (k : Nat) (he : E[k]? = some .wl) (hN : X.N[k]? = some x := by rfl) (hv : Vis X.env.scope x := by first | exact Or.inl rfl | exact Or.inr (Or.inl rfl) | exact Or.inr (Or.inr rfl)) (hd : (x == ("__debug__" : Str)) = false := by decide)
    (hcd : (x == ("__classdict__" : Str)) = false := by decide) : GE X B E (.Name x pos) .wl := gv (o := .wl) k he rfl hN hv hd hcd
end
/-- what the module's names stand for -/
structure Tx (K : PySem.W.Frag) (mg : Str → Option Value) : Prop where
  isinstance : mg "isinstance" = none
  int : mg "int" = none
  bool : mg "bool" = none
  tuple : mg "tuple" = none
  list : mg "list" = none
  range : mg "range" = none
  len : mg "len" = none
  enumerate : mg "enumerate" = none
  zip : mg "zip" = none
  sorted : mg "sorted" = none
  abs : mg "abs" = none
  divmod : mg "divmod" = none
  max : mg "max" = none
  min : mg "min" = none
  all : mg "all" = none
  mostB : ∃ t, mg "MOST_BUTTONS" = some (.int 6 t)
  mostW : ∃ t, mg "MOST_WORD" = some (.int 60 t)
  nought : mg "NOUGHT" = some (.ref (He.ga K "NOUGHT"))
  noughtT : ∀ H, SqT K H (He.ga K "NOUGHT") [.int 0, .int 0]
  ties : mg "TIES" = some (.ref (He.ga K "TIES"))
  tiesT : ∀ H, SqT K H (He.ga K "TIES") [.int 0, .int 2, .int 3, .int 4, .int 5, .int 6]
  low : mg "LOW" = some (.ref (He.ga K "LOW"))
  lowT : ∀ k a b : Int, (k, a, b) ∈ KJ.lowL → ∃ p, KX.KInt K (He.ga K "LOW") k (.ref p) ∧ ∀ H, SqT K H p [.int a, .int b]
  high : mg "HIGH" = some (.ref (He.ga K "HIGH"))
  highT : ∀ k a b : Int, (k, a, b) ∈ KJ.highL → ∃ p, KX.KInt K (He.ga K "HIGH") k (.ref p) ∧ ∀ H, SqT K H p [.int a, .int b]
/-! ### plain data -/
open KW (G Wd)
def dP (K : PySem.W.Frag) (x : G) : Rp := TUP K [TI x.a, TI x.b]
def dV (K : PySem.W.Frag) (v : List G) : Rp := TUP K (v.map (dP K))
def dM (K : PySem.W.Frag) (v : List (List G)) : Rp := TUP K (v.map (dV K))
def dW (K : PySem.W.Frag) (w : List Nat) : Rp := TUP K (w.map fun (n : Nat) => TI n)
def dWI (K : PySem.W.Frag) (w : List Int) : Rp := TUP K (w.map TI)
/-- small numbers -/
def bG (x : G) : Prop := -(2 ^ 58) ≤ x.a ∧ x.a ≤ 2 ^ 58 ∧ -(2 ^ 58) ≤ x.b ∧ x.b ≤ 2 ^ 58
/-- tuples of pairs as data -/
def pI (i : Int) : PyData := .int i
def pP (x : G) : PyData := .tuple [.int x.a, .int x.b]
theorem dp_TI {K : PySem.W.Frag} {i : Int} {v : V} {H : Hp} (h : (TI i).p v H) : Dp K H v (.int i) := by
  rw [show v = .int i from h]
  exact .int i
theorem dp_TUP {K : PySem.W.Frag} {Rs : List Rp} {ds : List PyData} (h : Paired (fun (R : Rp) d => ∀ v H, R.p v H → Dp K H v d) Rs ds) {v : V} {H : Hp} (hv : (TUP K Rs).p v H) : Dp K H v (.tuple ds) := by
  obtain ⟨a, xs, rfl, h1, h2⟩ := hv
  refine .tup h1 ?_
  clear h1
  induction h2 generalizing ds with
  | nil => cases h; exact .nil
  | cons q t ih =>
    cases h with
    | cons q' t' => exact .cons (q' _ _ q) (ih t')
theorem dp_dP {K : PySem.W.Frag} {x : G} : ∀ v H, (dP K x).p v H → Dp K H v (pP x) := fun v H h => dp_TUP (.cons (fun _ _ h => dp_TI h) (.cons (fun _ _ h => dp_TI h) .nil)) h
theorem dp_mapT {α : Type} {K : PySem.W.Frag} {f : α → Rp} {g : α → PyData} (h : ∀ a v H, (f a).p v H → Dp K H v (g a)) (l : List α) : ∀ v H, (TUP K (l.map f)).p v H → Dp K H v (.tuple (l.map g)) := fun v H hv => dp_TUP (by
  clear hv
  induction l with
  | nil => exact .nil
  | cons a l ih => exact .cons (h a) ih) hv
def pV (v : List G) : PyData := .tuple (v.map pP)
def pM (v : List (List G)) : PyData := .tuple (v.map pV)
def pW (w : List Nat) : PyData := .tuple (w.map fun (n : Nat) => .int n)
def pR (rows : List (List Int)) : PyData := .tuple (rows.map fun r => .tuple (r.map PyData.int))
def dR (K : PySem.W.Frag) (rows : List (List Int)) : Rp := TUP K (rows.map (dWI K))
theorem dp_dV {K : PySem.W.Frag} (v : List G) : ∀ u H, (dV K v).p u H → Dp K H u (pV v) := dp_mapT (fun a => dp_dP) v
theorem dp_dM {K : PySem.W.Frag} (v : List (List G)) : ∀ u H, (dM K v).p u H → Dp K H u (pM v) := dp_mapT (fun a => dp_dV a) v
theorem dp_dW {K : PySem.W.Frag} (w : List Nat) : ∀ u H, (dW K w).p u H → Dp K H u (pW w) := dp_mapT (fun a _ _ h => dp_TI h) w
theorem dp_dWI {K : PySem.W.Frag} (w : List Int) : ∀ u H, (dWI K w).p u H → Dp K H u (.tuple (w.map PyData.int)) := dp_mapT (fun a _ _ h => dp_TI h) w
theorem dp_dR {K : PySem.W.Frag} (w : List (List Int)) : ∀ u H, (dR K w).p u H → Dp K H u (pR w) := dp_mapT (fun a => dp_dWI a) w
end KG
namespace KG
open PySem PySem.Spec PyProof.Rows L2
section
variable {X : Cx} {B : Bs} {E : List En} {tg iter elt : Expr} {pos p : Pos}
/-- tuple([.. for .. in ..]), no ifs -/
theorem gtc {α : Type} {Ew : List En} {items : List α} {y : α → En} {T : α → List En} {is : α → List Nat} {scope : Scope} {pos2 : Pos} (own : List (Str × Nat)) [hW : WipeE E own Ew] (r : α → Rp) (hc : X.calm = true) (hm : X.mg "tuple" = none) (hN : X.N.Nodup) (hi : GIc X B E tg iter (items.map y)) (ok : BlkOk X.N X.env.scope scope own)
    (hg : ∀ x ∈ items, ∀ (s : Shared) (H : Hp) (C : Addr) (cl : List (Str × Addr)) (fp : List Addr), GG (X.blk s H scope (compEnvC scope cl C X.env) fp) B Ew tg (y x) (T x) (is x)) (his : ∀ x ∈ items, ∀ k ∈ is x, k ∈ own.map (·.2))
    (he : ∀ x ∈ items, ∀ (s : Shared) (H : Hp) (C : Addr) (cl : List (Str × Addr)) (fp : List Addr), GE (X.blk s H scope (compEnvC scope cl C X.env) fp) B (T x) elt (.rp (r x))) (hz : items.length ≤ 1000)
    (hs : ∀ x, foldedSetIterable iter X.env x = pure x := by intro _; rfl) (hg2 : Gl X "tuple" := by rfl) (hs2 : starEach [.ListComp elt [⟨tg, iter, [], 0⟩] scope pos2] X.env = (false, eval (.ListComp elt [⟨tg, iter, [], 0⟩] scope pos2) X.env) :: starEach [] X.env := by rfl) :
    GE X B E (.Call (.Name "tuple" p) [.ListComp elt [⟨tg, iter, [], 0⟩] scope pos2] [] pos) (.rp (TUP X.K (items.map r))) := by
  have h := glc (pos := pos2) own hc hN hi ok hg his (bb := fun _ => true) (ifs := []) (fun _ _ _ _ _ _ _ => pts0) (fun x hx _ => he x hx) hz hs
  rw [show items.filter (fun _ => true) = items by simp] at h
  exact gtupOf hm (gal h) hg2 hs2
/-- .. with one if -/
theorem gtcI {α : Type} {Ew : List En} {items : List α} {y : α → En} {T : α → List En} {is : α → List Nat} {scope : Scope} {pos2 : Pos} {cond : Expr} (own : List (Str × Nat)) [hW : WipeE E own Ew] (r : α → Rp) (bb : α → Bool) (hc : X.calm = true) (hm : X.mg "tuple" = none) (hN : X.N.Nodup) (hi : GIc X B E tg iter (items.map y)) (ok : BlkOk X.N X.env.scope scope own)
    (hg : ∀ x ∈ items, ∀ (s : Shared) (H : Hp) (C : Addr) (cl : List (Str × Addr)) (fp : List Addr), GG (X.blk s H scope (compEnvC scope cl C X.env) fp) B Ew tg (y x) (T x) (is x)) (his : ∀ x ∈ items, ∀ k ∈ is x, k ∈ own.map (·.2))
    (ht : ∀ x ∈ items, ∀ (s : Shared) (H : Hp) (C : Addr) (cl : List (Str × Addr)) (fp : List Addr), GT (X.blk s H scope (compEnvC scope cl C X.env) fp) B (T x) cond (bb x))
    (he : ∀ x ∈ items, ∀ (s : Shared) (H : Hp) (C : Addr) (cl : List (Str × Addr)) (fp : List Addr), GE (X.blk s H scope (compEnvC scope cl C X.env) fp) B (T x) elt (.rp (r x))) (hz : items.length ≤ 1000)
    (hs : ∀ x, foldedSetIterable iter X.env x = pure x := by intro _; rfl) (hg2 : Gl X "tuple" := by rfl) (hs2 : starEach [.ListComp elt [⟨tg, iter, [cond], 0⟩] scope pos2] X.env = (false, eval (.ListComp elt [⟨tg, iter, [cond], 0⟩] scope pos2) X.env) :: starEach [] X.env := by rfl) :
    GE X B E (.Call (.Name "tuple" p) [.ListComp elt [⟨tg, iter, [cond], 0⟩] scope pos2] [] pos) (.rp (TUP X.K ((items.filter bb).map r))) :=
  gtupOf hm (gal (glc (pos := pos2) own hc hN hi ok hg his (bb := bb) (ifs := [cond]) (fun x hx s H C cl fp => pts1 (ht x hx s H C cl fp)) (fun x hx _ => he x hx) hz hs)) hg2 hs2
/-- iteration over given items -/
theorem gieq {ys zs : List En} (h : GI X B E tg iter ys) (e : ys = zs) : GI X B E tg iter zs := e ▸ h
theorem giceq {ys zs : List En} (h : GIc X B E tg iter ys) (e : ys = zs) : GIc X B E tg iter zs := e ▸ h
end
section
variable {X : Cx} {B : Bs} {E : List En} {pos : Pos} {K : PySem.W.Frag} {mg : Str → Option Value}
theorem noughtP (T : Tx K mg) : ∀ H, (dP K 0).p (.ref (He.ga K "NOUGHT")) H := fun H => ⟨_, _, rfl, T.noughtT H, .cons rfl (.cons rfl .nil)⟩
end
end KG
namespace KG
open PySem PySem.Spec PyProof.Rows L2
theorem gN {X : Cx} {B : Bs} {E : List En} {pos : Pos} {K : PySem.W.Frag} {mg : Str → Option Value} (T : Tx K mg) (hm : X.mg = mg := by rfl) (hg : Gl X "NOUGHT" := by rfl) : GE X B E (.Name "NOUGHT" pos) (.rp (dP K 0)) :=
  gglob (v := .ref (He.ga K "NOUGHT")) (by rw [hm]; exact T.nought) rfl (noughtP T) hg
theorem dt {p : Prop} {_ : Decidable p} (h : decide p = true) : p := of_decide_eq_true h
theorem df {p : Prop} {_ : Decidable p} (h : decide p = false) : ¬ p := of_decide_eq_false h
end KG
end
section
set_option maxRecDepth 100000
/-! the defs' slots -/
namespace KP
open PySem PySem.Spec PyProof.Rows L2 KG KJ
abbrev FnT (K : PySem.W.Frag) (x : Str) (st : Stmt) (f : Addr) (fd : FuncData) : Prop := FunD K x x (defArgs st) (defBody st) (defScope st) [] [] f fd
abbrev FnM (K : PySem.W.Frag) (x q : Str) (st : Stmt) (dfl : List V) (f : Addr) (fd : FuncData) : Prop := FunD K x q (defArgs st) (defBody st) (defScope st) dfl [] f fd
section
variable {P : Program} {w : World} {K : PySem.W.Frag} {mg : Str → Option Value} {base : Heap} {f : Addr} {fd : FuncData} {k : Nat} {sp : Sp}

abbrev N_is_whole : List Str := ["value"]
theorem sc_is_whole : FnScope N_is_whole ["value"] (defScope s_is_whole) := ⟨rfl, rfl, rfl, by decide +kernel, rfl, by decide +kernel, by decide +kernel⟩
theorem cal_is_whole (F : FnT K "is_whole" s_is_whole f fd) (ok : FnOk P w K mg base CX0 k f fd ["value"] sp) (hm : mg "is_whole" = some (.ref f)) : C8.Cal P w K mg base k "is_whole" sp [] := cal_of F ok hm fun _ _ _ _ _ _ us hl => match us, hl with | [_], _ => rfl
abbrev N_pair_sign : List Str := ["pair", "twice", "lead"]
theorem sc_pair_sign : FnScope N_pair_sign ["pair"] (defScope s_pair_sign) := ⟨rfl, rfl, rfl, by decide +kernel, rfl, by decide +kernel, by decide +kernel⟩
theorem cal_pair_sign (F : FnT K "pair_sign" s_pair_sign f fd) (ok : FnOk P w K mg base CX0 k f fd ["pair"] sp) (hm : mg "pair_sign" = some (.ref f)) : C8.Cal P w K mg base k "pair_sign" sp [] := cal_of F ok hm fun _ _ _ _ _ _ us hl => match us, hl with | [_], _ => rfl
abbrev N_axis_of : List Str := ["size", "button", "place"]
theorem sc_axis_of : FnScope N_axis_of ["size", "button"] (defScope s_axis_of) := ⟨rfl, rfl, rfl, by decide +kernel, rfl, by decide +kernel, by decide +kernel⟩
theorem cal_axis_of (F : FnT K "axis_of" s_axis_of f fd) (ok : FnOk P w K mg base CX0 k f fd ["size", "button"] sp) (hm : mg "axis_of" = some (.ref f)) : C8.Cal P w K mg base k "axis_of" sp [] := cal_of F ok hm fun _ _ _ _ _ _ us hl => match us, hl with | [_, _], _ => rfl
abbrev N_all_axes : List Str := ["size", "button"]
theorem sc_all_axes : FnScope N_all_axes ["size"] (defScope s_all_axes) := ⟨rfl, rfl, rfl, by decide +kernel, rfl, by decide +kernel, by decide +kernel⟩
theorem cal_all_axes (F : FnT K "all_axes" s_all_axes f fd) (ok : FnOk P w K mg base CX0 k f fd ["size"] sp) (hm : mg "all_axes" = some (.ref f)) : C8.Cal P w K mg base k "all_axes" sp [] := cal_of F ok hm fun _ _ _ _ _ _ us hl => match us, hl with | [_], _ => rfl
abbrev N_is_down : List Str := ["axis", "entry"]
theorem sc_is_down : FnScope N_is_down ["axis"] (defScope s_is_down) := ⟨rfl, rfl, rfl, by decide +kernel, rfl, by decide +kernel, by decide +kernel⟩
theorem cal_is_down (F : FnT K "is_down" s_is_down f fd) (ok : FnOk P w K mg base CX0 k f fd ["axis"] sp) (hm : mg "is_down" = some (.ref f)) : C8.Cal P w K mg base k "is_down" sp [] := cal_of F ok hm fun _ _ _ _ _ _ us hl => match us, hl with | [_], _ => rfl
abbrev N_level_at : List Str := ["weights", "vector", "button", "whole", "gold", "one", "two", "first", "second"]
theorem sc_level_at : FnScope N_level_at ["weights", "vector", "button"] (defScope s_level_at) := ⟨rfl, rfl, rfl, by decide +kernel, rfl, by decide +kernel, by decide +kernel⟩
theorem cal_level_at (F : FnT K "level_at" s_level_at f fd) (ok : FnOk P w K mg base CX0 k f fd ["weights", "vector", "button"] sp) (hm : mg "level_at" = some (.ref f)) : C8.Cal P w K mg base k "level_at" sp [] := cal_of F ok hm fun _ _ _ _ _ _ us hl => match us, hl with | [_, _, _], _ => rfl
abbrev N_turned : List Str := ["weights", "vector", "button", "whole", "gold", "first", "second"]
theorem sc_turned : FnScope N_turned ["weights", "vector", "button"] (defScope s_turned) := ⟨rfl, rfl, rfl, by decide +kernel, rfl, by decide +kernel, by decide +kernel⟩
theorem cal_turned (F : FnT K "turned" s_turned f fd) (ok : FnOk P w K mg base CX0 k f fd ["weights", "vector", "button"] sp) (hm : mg "turned" = some (.ref f)) : C8.Cal P w K mg base k "turned" sp [] := cal_of F ok hm fun _ _ _ _ _ _ us hl => match us, hl with | [_, _, _], _ => rfl
abbrev N_vector_less : List Str := ["vector", "factor", "other", "one", "two", "whole", "gold", "first", "second"]
theorem sc_vector_less : FnScope N_vector_less ["vector", "factor", "other"] (defScope s_vector_less) := ⟨rfl, rfl, rfl, by decide +kernel, rfl, by decide +kernel, by decide +kernel⟩
theorem cal_vector_less (F : FnT K "vector_less" s_vector_less f fd) (ok : FnOk P w K mg base CX0 k f fd ["vector", "factor", "other"] sp) (hm : mg "vector_less" = some (.ref f)) : C8.Cal P w K mg base k "vector_less" sp [] := cal_of F ok hm fun _ _ _ _ _ _ us hl => match us, hl with | [_, _, _], _ => rfl
abbrev N_pressed_behind : List Str := ["weights", "images", "button", "row", "pressed", "place", "image"]
theorem sc_pressed_behind : FnScope N_pressed_behind ["weights", "images", "button"] (defScope s_pressed_behind) := ⟨rfl, rfl, rfl, by decide +kernel, rfl, by decide +kernel, by decide +kernel⟩
theorem cal_pressed_behind (F : FnT K "pressed_behind" s_pressed_behind f fd) (ok : FnOk P w K mg base CX0 k f fd ["weights", "images", "button"] sp) (hm : mg "pressed_behind" = some (.ref f)) : C8.Cal P w K mg base k "pressed_behind" sp [] := cal_of F ok hm fun _ _ _ _ _ _ us hl => match us, hl with | [_, _, _], _ => rfl
abbrev N_pressed_front : List Str := ["weights", "images", "button", "image"]
theorem sc_pressed_front : FnScope N_pressed_front ["weights", "images", "button"] (defScope s_pressed_front) := ⟨rfl, rfl, rfl, by decide +kernel, rfl, by decide +kernel, by decide +kernel⟩
theorem cal_pressed_front (F : FnT K "pressed_front" s_pressed_front f fd) (ok : FnOk P w K mg base CX0 k f fd ["weights", "images", "button"] sp) (hm : mg "pressed_front" = some (.ref f)) : C8.Cal P w K mg base k "pressed_front" sp [] := cal_of F ok hm fun _ _ _ _ _ _ us hl => match us, hl with | [_, _, _], _ => rfl
abbrev N_images_of : List Str := ["weights", "word", "found", "button"]
theorem sc_images_of : FnScope N_images_of ["weights", "word"] (defScope s_images_of) := ⟨rfl, rfl, rfl, by decide +kernel, rfl, by decide +kernel, by decide +kernel⟩
theorem cal_images_of (F : FnT K "images_of" s_images_of f fd) (ok : FnOk P w K mg base CX0 k f fd ["weights", "word"] sp) (hm : mg "images_of" = some (.ref f)) : C8.Cal P w K mg base k "images_of" sp [] := cal_of F ok hm fun _ _ _ _ _ _ us hl => match us, hl with | [_, _], _ => rfl
abbrev N_down_buttons : List Str := ["images", "button", "image"]
theorem sc_down_buttons : FnScope N_down_buttons ["images"] (defScope s_down_buttons) := ⟨rfl, rfl, rfl, by decide +kernel, rfl, by decide +kernel, by decide +kernel⟩
theorem cal_down_buttons (F : FnT K "down_buttons" s_down_buttons f fd) (ok : FnOk P w K mg base CX0 k f fd ["images"] sp) (hm : mg "down_buttons" = some (.ref f)) : C8.Cal P w K mg base k "down_buttons" sp [] := cal_of F ok hm fun _ _ _ _ _ _ us hl => match us, hl with | [_], _ => rfl
abbrev N_word_by : List Str := ["weights", "back", "found", "images", "lowest"]
theorem sc_word_by : FnScope N_word_by ["weights", "back"] (defScope s_word_by) := ⟨rfl, rfl, rfl, by decide +kernel, rfl, by decide +kernel, by decide +kernel⟩
theorem cal_word_by (F : FnT K "word_by" s_word_by f fd) (ok : FnOk P w K mg base CX0 k f fd ["weights", "back"] sp) (hm : mg "word_by" = some (.ref f)) : C8.Cal P w K mg base k "word_by" sp [] := cal_of F ok hm fun _ _ _ _ _ _ us hl => match us, hl with | [_, _], _ => rfl
abbrev N_is_button : List Str := ["size", "value"]
theorem sc_is_button : FnScope N_is_button ["size", "value"] (defScope s_is_button) := ⟨rfl, rfl, rfl, by decide +kernel, rfl, by decide +kernel, by decide +kernel⟩
theorem cal_is_button (F : FnT K "is_button" s_is_button f fd) (ok : FnOk P w K mg base CX0 k f fd ["size", "value"] sp) (hm : mg "is_button" = some (.ref f)) : C8.Cal P w K mg base k "is_button" sp [] := cal_of F ok hm fun _ _ _ _ _ _ us hl => match us, hl with | [_, _], _ => rfl
abbrev N_is_right_row : List Str := ["ties", "place", "row", "other", "tie"]
theorem sc_is_right_row : FnScope N_is_right_row ["ties", "place"] (defScope s_is_right_row) := ⟨rfl, rfl, rfl, by decide +kernel, rfl, by decide +kernel, by decide +kernel⟩
theorem cal_is_right_row (F : FnT K "is_right_row" s_is_right_row f fd) (ok : FnOk P w K mg base CX0 k f fd ["ties", "place"] sp) (hm : mg "is_right_row" = some (.ref f)) : C8.Cal P w K mg base k "is_right_row" sp [] := cal_of F ok hm fun _ _ _ _ _ _ us hl => match us, hl with | [_, _], _ => rfl
abbrev N_first_wrong_row : List Str := ["ties", "place"]
theorem sc_first_wrong_row : FnScope N_first_wrong_row ["ties"] (defScope s_first_wrong_row) := ⟨rfl, rfl, rfl, by decide +kernel, rfl, by decide +kernel, by decide +kernel⟩
theorem cal_first_wrong_row (F : FnT K "first_wrong_row" s_first_wrong_row f fd) (ok : FnOk P w K mg base CX0 k f fd ["ties"] sp) (hm : mg "first_wrong_row" = some (.ref f)) : C8.Cal P w K mg base k "first_wrong_row" sp [] := cal_of F ok hm fun _ _ _ _ _ _ us hl => match us, hl with | [_], _ => rfl
abbrev N_weight_pairs : List Str := ["ties", "rows", "place", "row", "other", "tie"]
theorem sc_weight_pairs : FnScope N_weight_pairs ["ties"] (defScope s_weight_pairs) := ⟨rfl, rfl, rfl, by decide +kernel, rfl, by decide +kernel, by decide +kernel⟩
theorem cal_weight_pairs (F : FnT K "weight_pairs" s_weight_pairs f fd) (ok : FnOk P w K mg base CX0 k f fd ["ties"] sp) (hm : mg "weight_pairs" = some (.ref f)) : C8.Cal P w K mg base k "weight_pairs" sp [] := cal_of F ok hm fun _ _ _ _ _ _ us hl => match us, hl with | [_], _ => rfl
abbrev N_piece_from : List Str := ["ties", "first", "found", "waiting", "here", "other", "tie"]
theorem sc_piece_from : FnScope N_piece_from ["ties", "first"] (defScope s_piece_from) := ⟨rfl, rfl, rfl, by decide +kernel, rfl, by decide +kernel, by decide +kernel⟩
theorem cal_piece_from (F : FnT K "piece_from" s_piece_from f fd) (ok : FnOk P w K mg base CX0 k f fd ["ties", "first"] sp) (hm : mg "piece_from" = some (.ref f)) : C8.Cal P w K mg base k "piece_from" sp [] := cal_of F ok hm fun _ _ _ _ _ _ us hl => match us, hl with | [_, _], _ => rfl
abbrev N_pieces_of : List Str := ["ties", "found", "first", "piece"]
theorem sc_pieces_of : FnScope N_pieces_of ["ties"] (defScope s_pieces_of) := ⟨rfl, rfl, rfl, by decide +kernel, rfl, by decide +kernel, by decide +kernel⟩
theorem cal_pieces_of (F : FnT K "pieces_of" s_pieces_of f fd) (ok : FnOk P w K mg base CX0 k f fd ["ties"] sp) (hm : mg "pieces_of" = some (.ref f)) : C8.Cal P w K mg base k "pieces_of" sp [] := cal_of F ok hm fun _ _ _ _ _ _ us hl => match us, hl with | [_], _ => rfl
abbrev N_check_table : List Str := ["value"]
theorem sc_check_table : FnScope N_check_table ["value"] (defScope s_check_table) := ⟨rfl, rfl, rfl, by decide +kernel, rfl, by decide +kernel, by decide +kernel⟩
theorem cal_check_table (F : FnT K "check_table" s_check_table f fd) (ok : FnOk P w K mg base CX0 k f fd ["value"] sp) (hm : mg "check_table" = some (.ref f)) : C8.Cal P w K mg base k "check_table" sp [] := cal_of F ok hm fun _ _ _ _ _ _ us hl => match us, hl with | [_], _ => rfl
abbrev N_wrong_in_word : List Str := ["table", "value", "most", "place", "button"]
theorem sc_wrong_in_word : FnScope N_wrong_in_word ["table", "value", "most"] (defScope s_wrong_in_word) := ⟨rfl, rfl, rfl, by decide +kernel, rfl, by decide +kernel, by decide +kernel⟩
theorem cal_wrong_in_word (F : FnT K "wrong_in_word" s_wrong_in_word f fd) (ok : FnOk P w K mg base CX0 k f fd ["table", "value", "most"] sp) (hm : mg "wrong_in_word" = some (.ref f)) : C8.Cal P w K mg base k "wrong_in_word" sp [] := cal_of F ok hm fun _ _ _ _ _ _ us hl => match us, hl with | [_, _, _], _ => rfl
abbrev N_check_word : List Str := ["table", "value", "wrong"]
theorem sc_check_word : FnScope N_check_word ["table", "value"] (defScope s_check_word) := ⟨rfl, rfl, rfl, by decide +kernel, rfl, by decide +kernel, by decide +kernel⟩
theorem cal_check_word (F : FnT K "check_word" s_check_word f fd) (ok : FnOk P w K mg base CX0 k f fd ["table", "value"] sp) (hm : mg "check_word" = some (.ref f)) : C8.Cal P w K mg base k "check_word" sp [] := cal_of F ok hm fun _ _ _ _ _ _ us hl => match us, hl with | [_, _], _ => rfl
abbrev N_check_same_table : List Str := ["one", "other"]
theorem sc_check_same_table : FnScope N_check_same_table ["one", "other"] (defScope s_check_same_table) := ⟨rfl, rfl, rfl, by decide +kernel, rfl, by decide +kernel, by decide +kernel⟩
theorem cal_check_same_table (F : FnT K "check_same_table" s_check_same_table f fd) (ok : FnOk P w K mg base CX0 k f fd ["one", "other"] sp) (hm : mg "check_same_table" = some (.ref f)) : C8.Cal P w K mg base k "check_same_table" sp [] := cal_of F ok hm fun _ _ _ _ _ _ us hl => match us, hl with | [_, _], _ => rfl
abbrev N_change_made : List Str := ["table", "ahead", "back"]
theorem sc_change_made : FnScope N_change_made ["table", "ahead", "back"] (defScope s_change_made) := ⟨rfl, rfl, rfl, by decide +kernel, rfl, by decide +kernel, by decide +kernel⟩
theorem cal_change_made (F : FnT K "change_made" s_change_made f fd) (ok : FnOk P w K mg base CX0 k f fd ["table", "ahead", "back"] sp) (hm : mg "change_made" = some (.ref f)) : C8.Cal P w K mg base k "change_made" sp [] := cal_of F ok hm fun _ _ _ _ _ _ us hl => match us, hl with | [_, _, _], _ => rfl
abbrev N_check_change : List Str := ["value"]
theorem sc_check_change : FnScope N_check_change ["value"] (defScope s_check_change) := ⟨rfl, rfl, rfl, by decide +kernel, rfl, by decide +kernel, by decide +kernel⟩
theorem cal_check_change (F : FnT K "check_change" s_check_change f fd) (ok : FnOk P w K mg base CX0 k f fd ["value"] sp) (hm : mg "check_change" = some (.ref f)) : C8.Cal P w K mg base k "check_change" sp [] := cal_of F ok hm fun _ _ _ _ _ _ us hl => match us, hl with | [_], _ => rfl
abbrev N_led_behind : List Str := ["change", "button", "pairs", "back"]
theorem sc_led_behind : FnScope N_led_behind ["change", "button"] (defScope s_led_behind) := ⟨rfl, rfl, rfl, by decide +kernel, rfl, by decide +kernel, by decide +kernel⟩
theorem cal_led_behind (F : FnT K "led_behind" s_led_behind f fd) (ok : FnOk P w K mg base CX0 k f fd ["change", "button"] sp) (hm : mg "led_behind" = some (.ref f)) : C8.Cal P w K mg base k "led_behind" sp [] := cal_of F ok hm fun _ _ _ _ _ _ us hl => match us, hl with | [_, _], _ => rfl
abbrev N_plain : List Str := ["table"]
theorem sc_plain : FnScope N_plain ["table"] (defScope s_plain) := ⟨rfl, rfl, rfl, by decide +kernel, rfl, by decide +kernel, by decide +kernel⟩
theorem cal_plain (F : FnT K "plain" s_plain f fd) (ok : FnOk P w K mg base CX0 k f fd ["table"] sp) (hm : mg "plain" = some (.ref f)) : C8.Cal P w K mg base k "plain" sp [] := cal_of F ok hm fun _ _ _ _ _ _ us hl => match us, hl with | [_], _ => rfl
abbrev N_stretch : List Str := ["button", "other", "many", "at"]
theorem sc_stretch : FnScope N_stretch ["button", "other", "many"] (defScope s_stretch) := ⟨rfl, rfl, rfl, by decide +kernel, rfl, by decide +kernel, by decide +kernel⟩
theorem cal_stretch (F : FnT K "stretch" s_stretch f fd) (ok : FnOk P w K mg base CX0 k f fd ["button", "other", "many"] sp) (hm : mg "stretch" = some (.ref f)) : C8.Cal P w K mg base k "stretch" sp [] := cal_of F ok hm fun _ _ _ _ _ _ us hl => match us, hl with | [_, _, _], _ => rfl
abbrev N_tokens_for : List Str := ["tie", "first", "second", "ahead", "behind", "button"]
theorem sc_tokens_for : FnScope N_tokens_for ["tie", "first", "second"] (defScope s_tokens_for) := ⟨rfl, rfl, rfl, by decide +kernel, rfl, by decide +kernel, by decide +kernel⟩
theorem cal_tokens_for (F : FnT K "tokens_for" s_tokens_for f fd) (ok : FnOk P w K mg base CX0 k f fd ["tie", "first", "second"] sp) (hm : mg "tokens_for" = some (.ref f)) : C8.Cal P w K mg base k "tokens_for" sp [] := cal_of F ok hm fun _ _ _ _ _ _ us hl => match us, hl with | [_, _, _], _ => rfl
abbrev N_completions : List Str := ["ties", "word", "other", "most", "many", "left", "right", "token", "mate", "tie", "undone", "button"]
theorem sc_completions : FnScope N_completions ["ties", "word", "other", "most"] (defScope s_completions) := ⟨rfl, rfl, rfl, by decide +kernel, rfl, by decide +kernel, by decide +kernel⟩
theorem cal_completions (F : FnT K "completions" s_completions f fd) (ok : FnOk P w K mg base CX0 k f fd ["ties", "word", "other", "most"] sp) (hm : mg "completions" = some (.ref f)) : C8.Cal P w K mg base k "completions" sp [] := cal_of F ok hm fun _ _ _ _ _ _ us hl => match us, hl with | [_, _, _, _], _ => rfl
abbrev N_taken : List Str := ["ties", "word", "front", "found"]
theorem sc_taken : FnScope N_taken ["ties", "word", "front"] (defScope s_taken) := ⟨rfl, rfl, rfl, by decide +kernel, rfl, by decide +kernel, by decide +kernel⟩
theorem cal_taken (F : FnT K "taken" s_taken f fd) (ok : FnOk P w K mg base CX0 k f fd ["ties", "word", "front"] sp) (hm : mg "taken" = some (.ref f)) : C8.Cal P w K mg base k "taken" sp [] := cal_of F ok hm fun _ _ _ _ _ _ us hl => match us, hl with | [_, _, _], _ => rfl
abbrev N_front_buttons : List Str := ["ties", "word", "button"]
theorem sc_front_buttons : FnScope N_front_buttons ["ties", "word"] (defScope s_front_buttons) := ⟨rfl, rfl, rfl, by decide +kernel, rfl, by decide +kernel, by decide +kernel⟩
theorem cal_front_buttons (F : FnT K "front_buttons" s_front_buttons f fd) (ok : FnOk P w K mg base CX0 k f fd ["ties", "word"] sp) (hm : mg "front_buttons" = some (.ref f)) : C8.Cal P w K mg base k "front_buttons" sp [] := cal_of F ok hm fun _ _ _ _ _ _ us hl => match us, hl with | [_, _], _ => rfl
abbrev N_first_word : List Str := ["ties", "word", "found", "rest", "button"]
theorem sc_first_word : FnScope N_first_word ["ties", "word"] (defScope s_first_word) := ⟨rfl, rfl, rfl, by decide +kernel, rfl, by decide +kernel, by decide +kernel⟩
theorem cal_first_word (F : FnT K "first_word" s_first_word f fd) (ok : FnOk P w K mg base CX0 k f fd ["ties", "word"] sp) (hm : mg "first_word" = some (.ref f)) : C8.Cal P w K mg base k "first_word" sp [] := cal_of F ok hm fun _ _ _ _ _ _ us hl => match us, hl with | [_, _], _ => rfl
abbrev N_positive_made : List Str := ["table", "word"]
theorem sc_positive_made : FnScope N_positive_made ["table", "word"] (defScope s_positive_made) := ⟨rfl, rfl, rfl, by decide +kernel, rfl, by decide +kernel, by decide +kernel⟩
theorem cal_positive_made (F : FnT K "positive_made" s_positive_made f fd) (ok : FnOk P w K mg base CX0 k f fd ["table", "word"] sp) (hm : mg "positive_made" = some (.ref f)) : C8.Cal P w K mg base k "positive_made" sp [] := cal_of F ok hm fun _ _ _ _ _ _ us hl => match us, hl with | [_, _], _ => rfl
abbrev N_check_positive : List Str := ["value"]
theorem sc_check_positive : FnScope N_check_positive ["value"] (defScope s_check_positive) := ⟨rfl, rfl, rfl, by decide +kernel, rfl, by decide +kernel, by decide +kernel⟩
theorem cal_check_positive (F : FnT K "check_positive" s_check_positive f fd) (ok : FnOk P w K mg base CX0 k f fd ["value"] sp) (hm : mg "check_positive" = some (.ref f)) : C8.Cal P w K mg base k "check_positive" sp [] := cal_of F ok hm fun _ _ _ _ _ _ us hl => match us, hl with | [_], _ => rfl
abbrev N_lifted : List Str := ["change"]
theorem sc_lifted : FnScope N_lifted ["change"] (defScope s_lifted) := ⟨rfl, rfl, rfl, by decide +kernel, rfl, by decide +kernel, by decide +kernel⟩
theorem cal_lifted (F : FnT K "lifted" s_lifted f fd) (ok : FnOk P w K mg base CX0 k f fd ["change"] sp) (hm : mg "lifted" = some (.ref f)) : C8.Cal P w K mg base k "lifted" sp [] := cal_of F ok hm fun _ _ _ _ _ _ us hl => match us, hl with | [_], _ => rfl
abbrev N_head_of : List Str := ["table", "word", "found", "rest", "fresh", "button"]
theorem sc_head_of : FnScope N_head_of ["table", "word"] (defScope s_head_of) := ⟨rfl, rfl, rfl, by decide +kernel, rfl, by decide +kernel, by decide +kernel⟩
theorem cal_head_of (F : FnT K "head_of" s_head_of f fd) (ok : FnOk P w K mg base CX0 k f fd ["table", "word"] sp) (hm : mg "head_of" = some (.ref f)) : C8.Cal P w K mg base k "head_of" sp [] := cal_of F ok hm fun _ _ _ _ _ _ us hl => match us, hl with | [_, _], _ => rfl
abbrev N_grains_of : List Str := ["table", "word", "found", "rest", "change"]
theorem sc_grains_of : FnScope N_grains_of ["table", "word"] (defScope s_grains_of) := ⟨rfl, rfl, rfl, by decide +kernel, rfl, by decide +kernel, by decide +kernel⟩
theorem cal_grains_of (F : FnT K "grains_of" s_grains_of f fd) (ok : FnOk P w K mg base CX0 k f fd ["table", "word"] sp) (hm : mg "grains_of" = some (.ref f)) : C8.Cal P w K mg base k "grains_of" sp [] := cal_of F ok hm fun _ _ _ _ _ _ us hl => match us, hl with | [_, _], _ => rfl
abbrev N_grains : List Str := ["positive"]
theorem sc_grains : FnScope N_grains ["positive"] (defScope s_grains) := ⟨rfl, rfl, rfl, by decide +kernel, rfl, by decide +kernel, by decide +kernel⟩
theorem cal_grains (F : FnT K "grains" s_grains f fd) (ok : FnOk P w K mg base CX0 k f fd ["positive"] sp) (hm : mg "grains" = some (.ref f)) : C8.Cal P w K mg base k "grains" sp [] := cal_of F ok hm fun _ _ _ _ _ _ us hl => match us, hl with | [_], _ => rfl
abbrev N__law_well : List Str := ["_law_script", "_law_turn", "_law_own", "_law_mixed_here", "_law_cell", "_law_start"]
theorem sc__law_well : FnScope N__law_well ["_law_script", "_law_turn"] (defScope s__law_well) := ⟨rfl, rfl, rfl, by decide +kernel, rfl, by decide +kernel, by decide +kernel⟩
theorem cal__law_well (F : FnT K "_law_well" s__law_well f fd) (ok : FnOk P w K mg base CX0 k f fd ["_law_script", "_law_turn"] sp) (hm : mg "_law_well" = some (.ref f)) : C8.Cal P w K mg base k "_law_well" sp [] := cal_of F ok hm fun _ _ _ _ _ _ us hl => match us, hl with | [_, _], _ => rfl
abbrev N__law_dip : List Str := ["_law_well_here", "_law_top", "_law_digit", "_law_seed"]
theorem sc__law_dip : FnScope N__law_dip ["_law_well_here", "_law_top"] (defScope s__law_dip) := ⟨rfl, rfl, rfl, by decide +kernel, rfl, by decide +kernel, by decide +kernel⟩
theorem cal__law_dip (F : FnT K "_law_dip" s__law_dip f fd) (ok : FnOk P w K mg base CX0 k f fd ["_law_well_here", "_law_top"] sp) (hm : mg "_law_dip" = some (.ref f)) : C8.Cal P w K mg base k "_law_dip" sp [] := cal_of F ok hm fun _ _ _ _ _ _ us hl => match us, hl with | [_, _], _ => rfl
abbrev N__law_pick : List Str := ["_law_well_here", "_law_some"]
theorem sc__law_pick : FnScope N__law_pick ["_law_well_here", "_law_some"] (defScope s__law_pick) := ⟨rfl, rfl, rfl, by decide +kernel, rfl, by decide +kernel, by decide +kernel⟩
theorem cal__law_pick (F : FnT K "_law_pick" s__law_pick f fd) (ok : FnOk P w K mg base CX0 k f fd ["_law_well_here", "_law_some"] sp) (hm : mg "_law_pick" = some (.ref f)) : C8.Cal P w K mg base k "_law_pick" sp [] := cal_of F ok hm fun _ _ _ _ _ _ us hl => match us, hl with | [_, _], _ => rfl
abbrev N__law_any : List Str := ["_law_well_here", "_law_size", "_law_rows", "_law_one", "_law_two", "_law_tie"]
theorem sc__law_any : FnScope N__law_any ["_law_well_here", "_law_size"] (defScope s__law_any) := ⟨rfl, rfl, rfl, by decide +kernel, rfl, by decide +kernel, by decide +kernel⟩
theorem cal__law_any (F : FnT K "_law_any" s__law_any f fd) (ok : FnOk P w K mg base CX0 k f fd ["_law_well_here", "_law_size"] sp) (hm : mg "_law_any" = some (.ref f)) : C8.Cal P w K mg base k "_law_any" sp [] := cal_of F ok hm fun _ _ _ _ _ _ us hl => match us, hl with | [_, _], _ => rfl
abbrev N__law_mixed : List Str := ["_law_well_here", "_law_many", "_law_left", "_law_found", "_law_turn"]
theorem sc__law_mixed : FnScope N__law_mixed ["_law_well_here", "_law_many"] (defScope s__law_mixed) := ⟨rfl, rfl, rfl, by decide +kernel, rfl, by decide +kernel, by decide +kernel⟩
theorem cal__law_mixed (F : FnT K "_law_mixed" s__law_mixed f fd) (ok : FnOk P w K mg base CX0 k f fd ["_law_well_here", "_law_many"] sp) (hm : mg "_law_mixed" = some (.ref f)) : C8.Cal P w K mg base k "_law_mixed" sp [] := cal_of F ok hm fun _ _ _ _ _ _ us hl => match us, hl with | [_, _], _ => rfl
abbrev N__law_chained : List Str := ["_law_well_here", "_law_ties", "_law_spots", "_law_rows", "_law_step", "_law_tie", "_law_one", "_law_two"]
theorem sc__law_chained : FnScope N__law_chained ["_law_well_here", "_law_ties"] (defScope s__law_chained) := ⟨rfl, rfl, rfl, by decide +kernel, rfl, by decide +kernel, by decide +kernel⟩
theorem cal__law_chained (F : FnT K "_law_chained" s__law_chained f fd) (ok : FnOk P w K mg base CX0 k f fd ["_law_well_here", "_law_ties"] sp) (hm : mg "_law_chained" = some (.ref f)) : C8.Cal P w K mg base k "_law_chained" sp [] := cal_of F ok hm fun _ _ _ _ _ _ us hl => match us, hl with | [_, _], _ => rfl
abbrev N__law_drawn : List Str := ["_law_well_here"]
theorem sc__law_drawn : FnScope N__law_drawn ["_law_well_here"] (defScope s__law_drawn) := ⟨rfl, rfl, rfl, by decide +kernel, rfl, by decide +kernel, by decide +kernel⟩
theorem cal__law_drawn (F : FnT K "_law_drawn" s__law_drawn f fd) (ok : FnOk P w K mg base CX0 k f fd ["_law_well_here"] sp) (hm : mg "_law_drawn" = some (.ref f)) : C8.Cal P w K mg base k "_law_drawn" sp [] := cal_of F ok hm fun _ _ _ _ _ _ us hl => match us, hl with | [_], _ => rfl
abbrev N__law_grid : List Str := ["_law_rows", "_law_row"]
theorem sc__law_grid : FnScope N__law_grid ["_law_rows"] (defScope s__law_grid) := ⟨rfl, rfl, rfl, by decide +kernel, rfl, by decide +kernel, by decide +kernel⟩
theorem cal__law_grid (F : FnT K "_law_grid" s__law_grid f fd) (ok : FnOk P w K mg base CX0 k f fd ["_law_rows"] sp) (hm : mg "_law_grid" = some (.ref f)) : C8.Cal P w K mg base k "_law_grid" sp [] := cal_of F ok hm fun _ _ _ _ _ _ us hl => match us, hl with | [_], _ => rfl
abbrev N__law_letters : List Str := ["_law_well_here", "_law_rows", "_law_many", "_law_found", "_law_turn", "_law_button"]
theorem sc__law_letters : FnScope N__law_letters ["_law_well_here", "_law_rows", "_law_many"] (defScope s__law_letters) := ⟨rfl, rfl, rfl, by decide +kernel, rfl, by decide +kernel, by decide +kernel⟩
theorem cal__law_letters (F : FnT K "_law_letters" s__law_letters f fd) (ok : FnOk P w K mg base CX0 k f fd ["_law_well_here", "_law_rows", "_law_many"] sp) (hm : mg "_law_letters" = some (.ref f)) : C8.Cal P w K mg base k "_law_letters" sp [] := cal_of F ok hm fun _ _ _ _ _ _ us hl => match us, hl with | [_, _, _], _ => rfl
abbrev N__law_times : List Str := ["_law_tie", "_law_is_less"]
theorem sc__law_times : FnScope N__law_times ["_law_tie", "_law_is_less"] (defScope s__law_times) := ⟨rfl, rfl, rfl, by decide +kernel, rfl, by decide +kernel, by decide +kernel⟩
theorem cal__law_times (F : FnT K "_law_times" s__law_times f fd) (ok : FnOk P w K mg base CX0 k f fd ["_law_tie", "_law_is_less"] sp) (hm : mg "_law_times" = some (.ref f)) : C8.Cal P w K mg base k "_law_times" sp [] := cal_of F ok hm fun _ _ _ _ _ _ us hl => match us, hl with | [_, _], _ => rfl
abbrev N__law_press : List Str := ["_law_rows", "_law_state_here", "_law_button", "_law_lead", "_law_found", "_law_spot", "_law_pair", "_law_tie", "_law_many"]
theorem sc__law_press : FnScope N__law_press ["_law_rows", "_law_state_here", "_law_button"] (defScope s__law_press) := ⟨rfl, rfl, rfl, by decide +kernel, rfl, by decide +kernel, by decide +kernel⟩
theorem cal__law_press (F : FnT K "_law_press" s__law_press f fd) (ok : FnOk P w K mg base CX0 k f fd ["_law_rows", "_law_state_here", "_law_button"] sp) (hm : mg "_law_press" = some (.ref f)) : C8.Cal P w K mg base k "_law_press" sp [] := cal_of F ok hm fun _ _ _ _ _ _ us hl => match us, hl with | [_, _, _], _ => rfl
abbrev N__law_state : List Str := ["_law_rows", "_law_letters_here", "_law_state_here", "_law_button"]
theorem sc__law_state : FnScope N__law_state ["_law_rows", "_law_letters_here"] (defScope s__law_state) := ⟨rfl, rfl, rfl, by decide +kernel, rfl, by decide +kernel, by decide +kernel⟩
theorem cal__law_state (F : FnT K "_law_state" s__law_state f fd) (ok : FnOk P w K mg base CX0 k f fd ["_law_rows", "_law_letters_here"] sp) (hm : mg "_law_state" = some (.ref f)) : C8.Cal P w K mg base k "_law_state" sp [] := cal_of F ok hm fun _ _ _ _ _ _ us hl => match us, hl with | [_, _], _ => rfl
abbrev N__law_is_low : List Str := ["_law_pair", "_law_twice"]
theorem sc__law_is_low : FnScope N__law_is_low ["_law_pair"] (defScope s__law_is_low) := ⟨rfl, rfl, rfl, by decide +kernel, rfl, by decide +kernel, by decide +kernel⟩
theorem cal__law_is_low (F : FnT K "_law_is_low" s__law_is_low f fd) (ok : FnOk P w K mg base CX0 k f fd ["_law_pair"] sp) (hm : mg "_law_is_low" = some (.ref f)) : C8.Cal P w K mg base k "_law_is_low" sp [] := cal_of F ok hm fun _ _ _ _ _ _ us hl => match us, hl with | [_], _ => rfl
abbrev N__law_low : List Str := ["_law_state_here", "_law_button", "_law_pair"]
theorem sc__law_low : FnScope N__law_low ["_law_state_here"] (defScope s__law_low) := ⟨rfl, rfl, rfl, by decide +kernel, rfl, by decide +kernel, by decide +kernel⟩
theorem cal__law_low (F : FnT K "_law_low" s__law_low f fd) (ok : FnOk P w K mg base CX0 k f fd ["_law_state_here"] sp) (hm : mg "_law_low" = some (.ref f)) : C8.Cal P w K mg base k "_law_low" sp [] := cal_of F ok hm fun _ _ _ _ _ _ us hl => match us, hl with | [_], _ => rfl
abbrev N__law_fronts : List Str := ["_law_rows", "_law_letters_here"]
theorem sc__law_fronts : FnScope N__law_fronts ["_law_rows", "_law_letters_here"] (defScope s__law_fronts) := ⟨rfl, rfl, rfl, by decide +kernel, rfl, by decide +kernel, by decide +kernel⟩
theorem cal__law_fronts (F : FnT K "_law_fronts" s__law_fronts f fd) (ok : FnOk P w K mg base CX0 k f fd ["_law_rows", "_law_letters_here"] sp) (hm : mg "_law_fronts" = some (.ref f)) : C8.Cal P w K mg base k "_law_fronts" sp [] := cal_of F ok hm fun _ _ _ _ _ _ us hl => match us, hl with | [_, _], _ => rfl
abbrev N__law_is_row : List Str := ["_law_rows", "_law_some", "_law_spot", "_law_letters_here", "_law_behind", "_law_button"]
theorem sc__law_is_row : FnScope N__law_is_row ["_law_rows", "_law_some"] (defScope s__law_is_row) := ⟨rfl, rfl, rfl, by decide +kernel, rfl, by decide +kernel, by decide +kernel⟩
theorem cal__law_is_row (F : FnT K "_law_is_row" s__law_is_row f fd) (ok : FnOk P w K mg base CX0 k f fd ["_law_rows", "_law_some"] sp) (hm : mg "_law_is_row" = some (.ref f)) : C8.Cal P w K mg base k "_law_is_row" sp [] := cal_of F ok hm fun _ _ _ _ _ _ us hl => match us, hl with | [_, _], _ => rfl
abbrev N__law_put_together : List Str := ["_law_grid_here", "_law_some", "_law_found", "_law_each"]
theorem sc__law_put_together : FnScope N__law_put_together ["_law_grid_here", "_law_some"] (defScope s__law_put_together) := ⟨rfl, rfl, rfl, by decide +kernel, rfl, by decide +kernel, by decide +kernel⟩
theorem cal__law_put_together (F : FnT K "_law_put_together" s__law_put_together f fd) (ok : FnOk P w K mg base CX0 k f fd ["_law_grid_here", "_law_some"] sp) (hm : mg "_law_put_together" = some (.ref f)) : C8.Cal P w K mg base k "_law_put_together" sp [] := cal_of F ok hm fun _ _ _ _ _ _ us hl => match us, hl with | [_, _], _ => rfl
abbrev N__law_is_head_right : List Str := ["_law_grid_here", "_law_x", "_law_y", "_law_ahead", "_law_behind"]
theorem sc__law_is_head_right : FnScope N__law_is_head_right ["_law_grid_here", "_law_x", "_law_y"] (defScope s__law_is_head_right) := ⟨rfl, rfl, rfl, by decide +kernel, rfl, by decide +kernel, by decide +kernel⟩
theorem cal__law_is_head_right (F : FnT K "_law_is_head_right" s__law_is_head_right f fd) (ok : FnOk P w K mg base CX0 k f fd ["_law_grid_here", "_law_x", "_law_y"] sp) (hm : mg "_law_is_head_right" = some (.ref f)) : C8.Cal P w K mg base k "_law_is_head_right" sp [] := cal_of F ok hm fun _ _ _ _ _ _ us hl => match us, hl with | [_, _, _], _ => rfl
abbrev N__law_right : List Str := ["_law_well_here", "_law_rows", "_law_grid_here", "_law_x", "_law_y", "_law_both", "_law_told", "_law_each", "_law_some", "_law_turn"]
theorem sc__law_right : FnScope N__law_right ["_law_well_here"] (defScope s__law_right) := ⟨rfl, rfl, rfl, by decide +kernel, rfl, by decide +kernel, by decide +kernel⟩
theorem cal__law_right (F : FnT K "_law_right" s__law_right f fd) (ok : FnOk P w K mg base CX0 k f fd ["_law_well_here"] sp) (hm : mg "_law_right" = some (.ref f)) : C8.Cal P w K mg base k "_law_right" sp [] := cal_of F ok hm fun _ _ _ _ _ _ us hl => match us, hl with | [_], _ => rfl
abbrev N_law : List Str := ["_law_script", "_law_turn"]
theorem sc_law : FnScope N_law ["_law_script"] (defScope s_law) := ⟨rfl, rfl, rfl, by decide +kernel, rfl, by decide +kernel, by decide +kernel⟩
theorem cal_law (F : FnT K "law" s_law f fd) (ok : FnOk P w K mg base CX0 k f fd ["_law_script"] sp) (hm : mg "law" = some (.ref f)) : C8.Cal P w K mg base k "law" sp [] := cal_of F ok hm fun _ _ _ _ _ _ us hl => match us, hl with | [_], _ => rfl
abbrev N_Table_init : List Str := ["self", "ties", "wrong"]
theorem sc_Table_init : FnScope N_Table_init ["self", "ties"] (defScope s_Table_init) := ⟨rfl, rfl, rfl, by decide +kernel, rfl, by decide +kernel, by decide +kernel⟩
abbrev N_Table_eq : List Str := ["self", "other"]
theorem sc_Table_eq : FnScope N_Table_eq ["self", "other"] (defScope s_Table_eq) := ⟨rfl, rfl, rfl, by decide +kernel, rfl, by decide +kernel, by decide +kernel⟩
abbrev N_Change_init : List Str := ["self", "table", "word", "_parts"]
theorem sc_Change_init : FnScope N_Change_init ["self", "table", "word", "_parts"] (defScope s_Change_init) := ⟨rfl, rfl, rfl, by decide +kernel, rfl, by decide +kernel, by decide +kernel⟩
abbrev N_Change_word : List Str := ["self"]
theorem sc_Change_word : FnScope N_Change_word ["self"] (defScope s_Change_word) := ⟨rfl, rfl, rfl, by decide +kernel, rfl, by decide +kernel, by decide +kernel⟩
abbrev N_Change_backs : List Str := ["self"]
theorem sc_Change_backs : FnScope N_Change_backs ["self"] (defScope s_Change_backs) := ⟨rfl, rfl, rfl, by decide +kernel, rfl, by decide +kernel, by decide +kernel⟩
abbrev N_Change_eq : List Str := ["self", "other"]
theorem sc_Change_eq : FnScope N_Change_eq ["self", "other"] (defScope s_Change_eq) := ⟨rfl, rfl, rfl, by decide +kernel, rfl, by decide +kernel, by decide +kernel⟩
abbrev N_Positive_init : List Str := ["self", "table", "word", "_made"]
theorem sc_Positive_init : FnScope N_Positive_init ["self", "table", "word", "_made"] (defScope s_Positive_init) := ⟨rfl, rfl, rfl, by decide +kernel, rfl, by decide +kernel, by decide +kernel⟩
abbrev N_Positive_word : List Str := ["self"]
theorem sc_Positive_word : FnScope N_Positive_word ["self"] (defScope s_Positive_word) := ⟨rfl, rfl, rfl, by decide +kernel, rfl, by decide +kernel, by decide +kernel⟩
abbrev N_Positive_eq : List Str := ["self", "other"]
theorem sc_Positive_eq : FnScope N_Positive_eq ["self", "other"] (defScope s_Positive_eq) := ⟨rfl, rfl, rfl, by decide +kernel, rfl, by decide +kernel, by decide +kernel⟩
abbrev N_Positive_mul : List Str := ["self", "other"]
theorem sc_Positive_mul : FnScope N_Positive_mul ["self", "other"] (defScope s_Positive_mul) := ⟨rfl, rfl, rfl, by decide +kernel, rfl, by decide +kernel, by decide +kernel⟩
end
end KP
end
section
set_option maxRecDepth 100000
set_option maxHeartbeats 2000000
/-! == of the data -/
namespace KG
open PySem PySem.Spec PyProof.Rows L2
open KW (G Wd)
/-- can be laid, of depth at most n -/
def Shp (n : Nat) (d : PyData) : Prop := d.canLay0 = true ∧ d.depth ≤ n
theorem shp_int {i : Int} : Shp 0 (.int i) := ⟨by simp [PyData.canLay0], by simp [PyData.depth]⟩
theorem shp_all {n : Nat} : ∀ {l : List PyData}, (∀ d ∈ l, Shp n d) → PyData.canLayAll0 l = true ∧ PyData.depthAll l ≤ n
  | [], _ => ⟨by simp [PyData.canLayAll0], by simp [PyData.depthAll]⟩
  | d :: l, h => by
    obtain ⟨h1, h2⟩ := h d List.mem_cons_self
    obtain ⟨h3, h4⟩ := shp_all fun x hx => h x (List.mem_cons_of_mem _ hx)
    exact ⟨by simp [PyData.canLayAll0, h1, h3], by simp only [PyData.depthAll]; omega⟩
theorem shp_tup {n : Nat} {l : List PyData} (h : ∀ d ∈ l, Shp n d) : Shp (n + 1) (.tuple l) := by
  obtain ⟨h1, h2⟩ := shp_all h
  exact ⟨by simp [PyData.canLay0, h1], by simp only [PyData.depth]; omega⟩
theorem shp_lst {n : Nat} {l : List PyData} (h : ∀ d ∈ l, Shp n d) : Shp (n + 1) (.list l) := by
  obtain ⟨h1, h2⟩ := shp_all h
  exact ⟨by simp [PyData.canLay0, h1], by simp only [PyData.depth]; omega⟩
theorem shp_ok {n : Nat} {d : PyData} (h : Shp n d) (hn : n ≤ 64) : SeqAt.shaped d = true := by
  show (d.canLay0 && decide (d.depth ≤ 64)) = true
  rw [Bool.and_eq_true]
  exact ⟨h.1, decide_eq_true (by have := h.2; omega)⟩
theorem shp_map {α : Type} {n : Nat} {g : α → PyData} (h : ∀ a, Shp n (g a)) (l : List α) : Shp (n + 1) (.tuple (l.map g)) := shp_tup fun d hd => by
  obtain ⟨a, _, rfl⟩ := List.mem_map.mp hd
  exact h a
theorem shp_pP (x : G) : Shp 1 (pP x) := shp_tup fun d hd => by
  rcases List.mem_cons.mp hd with rfl | hd
  · exact shp_int
  · rw [List.mem_singleton.mp hd]
    exact shp_int
theorem shp_pV (v : List G) : Shp 2 (pV v) := shp_map shp_pP v
theorem shp_pM (v : List (List G)) : Shp 3 (pM v) := shp_map shp_pV v
theorem shp_pW (v : List Nat) : Shp 1 (pW v) := shp_map (fun _ => shp_int) v
theorem shp_pR (v : List (List Int)) : Shp 2 (pR v) := shp_map (fun r => shp_map (fun _ => shp_int) r) v
/-- == of equal things -/
theorem eqv_int {i j : Int} : PyData.eqv (.int i) (.int j) = decide (i = j) := by
  simp only [PyData.eqv]
  rw [Bool.beq_eq_decide_eq]
theorem eqvAll_dec {α : Type} {g : α → PyData} [DecidableEq α] (h : ∀ a b, PyData.eqv (g a) (g b) = decide (a = b)) : ∀ l m : List α, PyData.eqvAll (l.map g) (m.map g) = decide (l = m)
  | [], [] => by simp [PyData.eqvAll]
  | [], _ :: _ => by simp [PyData.eqvAll]
  | _ :: _, [] => by simp [PyData.eqvAll]
  | a :: l, b :: m => by
    simp only [List.map_cons, PyData.eqvAll]
    rw [h, eqvAll_dec h l m, ← Bool.decide_and]
    exact decide_eq_decide.mpr (by simp)
theorem eqv_tup {α : Type} {g : α → PyData} [DecidableEq α] (h : ∀ a b, PyData.eqv (g a) (g b) = decide (a = b)) (l m : List α) : PyData.eqv (.tuple (l.map g)) (.tuple (m.map g)) = decide (l = m) := by
  simp only [PyData.eqv]
  exact eqvAll_dec h l m
instance : DecidableEq G := fun x y => if h : x.a = y.a ∧ x.b = y.b then .isTrue (by cases x; cases y; simp at h; simp [h]) else .isFalse fun e => h (by rw [e]; exact ⟨rfl, rfl⟩)
theorem eqv_pP (x y : G) : PyData.eqv (pP x) (pP y) = decide (x = y) := by
  have e : PyData.eqv (pP x) (pP y) = ((x.a == y.a) && ((x.b == y.b) && true)) := by simp only [pP, PyData.eqv, PyData.eqvAll]
  rw [e]
  by_cases h : x = y
  · subst h
    simp
  · rw [decide_eq_false h]
    by_cases h1 : x.a = y.a
    · have h2 : x.b ≠ y.b := fun z => h (by cases x; cases y; simp at h1 z; simp [h1, z])
      simp [h2]
    · simp [h1]
theorem eqv_pV (v u : List G) : PyData.eqv (pV v) (pV u) = decide (v = u) := eqv_tup eqv_pP v u
theorem eqv_pM (v u : List (List G)) : PyData.eqv (pM v) (pM u) = decide (v = u) := eqv_tup eqv_pV v u
theorem eqv_pW (v u : List Nat) : PyData.eqv (pW v) (pW u) = decide (v = u) := eqv_tup (fun a b => by rw [eqv_int]; exact decide_eq_decide.mpr (by omega)) v u
theorem eqv_pR (v u : List (List Int)) : PyData.eqv (pR v) (pR u) = decide (v = u) := eqv_tup (fun a b => eqv_tup (fun _ _ => eqv_int) a b) v u
section
variable {X : Cx} {B : Bs} {E : List En} {a b : Expr}
/-- a tuple against () -/
theorem eqv_nil {l : List PyData} : PyData.eqv (.tuple l) (.tuple []) = l.isEmpty := by
  cases l <;> simp [PyData.eqv, PyData.eqvAll]
theorem eqvL_nil {l : List PyData} : PyData.eqv (.list l) (.list []) = l.isEmpty := by
  cases l <;> simp [PyData.eqv, PyData.eqvAll]
end
end KG
end
section
set_option maxRecDepth 100000
set_option maxHeartbeats 2000000
/-! lists of one's own that change -/
namespace KG
open PySem PySem.Spec PyProof.Rows L2
section
variable {X : Cx} {B : Bs} {E E1 E2 : List En} {a b c e : Expr} {ss rest : List Stmt} {pos p apos cpos : Pos} {o o1 o2 : En} {R R1 : Rp} {Rs Rs2 : List Rp} {N : List En → Prop} {Rt : En → Prop}
theorem Sn.chg {σ : L2.St} {H : Hp} {k : Nat} {M : Mu} (s : Sn B E σ H) (hk : E[k]? = some (.mu M)) : ∃ fp v, σ[k]? = some (some v) ∧ M.p fp v H ∧ (∀ a ∈ fp, B.H0 a = none) ∧
    ∀ (H1 H' : Hp) (M' : Mu), Rel B.w H H1 → (∀ b, b ∉ fp → H' b = H1 b) → Kp H1 H' → M'.p fp v H' → Sn B (E.set k (.mu M')) σ H' := by
  obtain ⟨fp, h1, h2⟩ := id s.at_
  obtain ⟨v, hv, hp, h0⟩ := h1 k _ hk rfl
  refine ⟨fp k, v, hv, hp, h0, fun H1 H' M' r hb kp hp' => ?_⟩
  have s1 := s.mono r
  have out : ∀ a, B.H0 a ≠ none → H' a = H1 a := fun a ha => hb a fun z => ha (h0 a z)
  refine ⟨⟨fun a u e cnd => ?_, fun a e q => ?_⟩, ⟨fp, fun i u e t => ?_, fun i j M1 M2 hij ei ej => ?_⟩, by rw [s.len, List.length_set]⟩
  · rw [out a (by rw [e]; exact fun z => nomatch z)]
    exact s1.rel.k a u e cnd
  · obtain ⟨x, y, z, h⟩ := id q
    obtain ⟨x', y', z', h'⟩ := s1.rel.wl a e q
    exact ⟨x', y', z', by rw [out a (by rw [h]; exact fun z => nomatch z)]; exact h'⟩
  · by_cases z : k = i
    · subst z
      have hl : k < E.length := (List.getElem?_eq_some_iff.mp hk).1
      rw [List.getElem?_set_self hl] at e
      cases e
      exact ⟨v, hv, hp', h0⟩
    · rw [List.getElem?_set_ne z] at e
      obtain ⟨u', hu, hs⟩ := h1 i u e t
      refine ⟨u', hu, ?_⟩
      cases u with
      | no => trivial
      | rp R => exact R.mono (r.kp.trans kp) hs
      | rm M => exact hs
      | mu M1 => exact ⟨M1.stab (Mu.mono hs.1 r fun a ha => Bs.new_ne (H := B.H0) Rel.refl (hs.2 a ha)) (fun a ha => hb a (h2 i k M1 M (Ne.symm z) e hk a ha)) kp, hs.2⟩
      | al M => trivial
      | wl => exact hs
  · have fix : ∀ (m : Nat) (L : Mu), (E.set k (.mu M'))[m]? = some (.mu L) → ∃ L', E[m]? = some (.mu L') := fun m L em => by
      by_cases z : k = m
      · exact ⟨M, by rw [← z]; exact hk⟩
      · rw [List.getElem?_set_ne z] at em
        exact ⟨L, em⟩
    obtain ⟨L1, e1⟩ := fix i M1 ei
    obtain ⟨L2', e2⟩ := fix j M2 ej
    exact h2 i j L1 L2' hij e1 e2
theorem one_upd {H : Hp} {l : Addr} {o : HO} : ∀ b, b ∉ [l] → upd H l o b = H b := fun b hb => upd_ne fun z => hb (by rw [z]; exact List.mem_singleton.mpr rfl)
theorem lineL {n : Nat} (h : n ≤ 1000) : n < sizeLine := small1000 h
/-- x.append(e) -/
theorem bapp (k : Nat) {x : Str} (he : E[k]? = some (.mu (LS Rs))) (h1 : GE X B E e (.rp R)) [hE : SetE E k (.mu (LS (Rs ++ [R]))) E1] (h : GB X B E1 rest N Rt) (hz : Rs.length ≤ 1000) (hN : X.N[k]? = some x := by rfl) (hv : Vis X.env.scope x := by first | exact Or.inl rfl | exact Or.inr (Or.inl rfl) | exact Or.inr (Or.inr rfl)) (hd : (x == ("__debug__" : Str)) = false := by decide)
    (hcd : (x == ("__classdict__" : Str)) = false := by decide) (hbase : attributeBase (.Name x p) "append" X.env (eval (.Name x p) X.env) = eval (.Name x p) X.env := by rfl)
    (hfew : ((backTo cpos (starEach [e] X.env)).all (fun x => !x.1) && (backToKw cpos (keywordEach [] X.env)).all (fun x => x.1.isSome) && decide ([e].length + ([] : List Keyword).length + (if ([] : List Keyword).isEmpty then 0 else 1) < 30)) = true := by rfl)
    (hline : (apos.endLine == cpos.line) = true := by rfl) (hs : starEach [e] X.env = (false, eval e X.env) :: starEach [] X.env := by rfl) (hs2 : swapsWith (.Call (.Attribute (.Name x p) "append" apos) [e] [] cpos) none pos.line X.env = pure false := by rfl) :
    GB X B E (.Expr (.Call (.Attribute (.Name x p) "append" apos) [e] [] cpos) pos :: rest) N Rt :=
  pssI (pss_cons (ps_expr (pe_bm PySem.F.plainAttrs_list PySem.F.slot_list_append PySem.F.type_list_append mt_append (pe_var hN hv hd hcd) (pa_cons h1 pa_nil hs) hbase hfew hline hs rfl) hs2) h) fun D σ H ⟨s, q1, q2⟩ => by
    obtain ⟨fp, v, hv, ⟨l, xs, e1, e2, h3, h4⟩, h0, k1⟩ := s.chg he
    subst e1 e2
    refine ⟨.ref l, hv, .inl ⟨rfl, xs, .of h3⟩, s, fun u H1 r hu => ?_⟩
    have lw : some l ≠ B.w := Bs.new_ne (H := B.H0) Rel.refl (h0 l (List.mem_singleton.mpr rfl))
    have h5 : H1 l = some (.lst xs) := r.k l _ h3 (.inl lw)
    have kp : Kp H1 (upd H1 l (.lst (xs ++ [u]))) := kp_mut h5 fun z => z
    have hlen := Paired.length h4
    refine ⟨l, xs, u, rfl, rfl, h5, lineL (by omega), ?_, fun E' σ' H' hN kp' s' => q1 E' σ' H' hN ((r.kp.trans kp).trans kp') s', q2⟩
    rw [← hE.e]
    exact k1 H1 _ (LS (Rs ++ [R])) r one_upd kp ⟨l, _, rfl, rfl, upd_same, prd_app (h4.mono (r.kp.trans kp)) (.cons (R.mono kp hu) .nil)⟩
/-- y = x.pop() -/
theorem bpop (k j : Nat) {x y : Str} {py : Pos} (nd : X.N.Nodup) (he : E[k]? = some (.mu (LS (Rs ++ [R])))) [hE : SetE E k (.mu (LS Rs)) E1] [hE2 : SetE E1 j (.rp R) E2] (h : GB X B E2 rest N Rt) (hN : X.N[k]? = some x := by rfl) (hv : Vis X.env.scope x := by first | exact Or.inl rfl | exact Or.inr (Or.inl rfl) | exact Or.inr (Or.inr rfl)) (hd : (x == ("__debug__" : Str)) = false := by decide)
    (hcd : (x == ("__classdict__" : Str)) = false := by decide) (hbase : attributeBase (.Name x p) "pop" X.env (eval (.Name x p) X.env) = eval (.Name x p) X.env := by rfl)
    (hline : (apos.endLine == cpos.line) = true := by rfl) (hi : X.N[j]? = some y := by rfl) (hx : Loc X.env.scope y := by first | exact Or.inl rfl | exact Or.inr rfl) (hs : swapsWith (.Call (.Attribute (.Name x p) "pop" apos) [] [] cpos) (some (.Name y py)) pos.line X.env = pure false := by rfl)
    (hf : X.fn y = true ∨ X.env.scope.names.lookup y = some .local := by first | exact .inl rfl | exact .inr rfl) :
    GB X B E (.Assign [.Name y py] (.Call (.Attribute (.Name x p) "pop" apos) [] [] cpos) pos :: rest) N Rt :=
  pssI (pss_cons (ps_set nd hi hx (pe_bm0 PySem.F.plainAttrs_list PySem.F.slot_list_pop PySem.F.type_list_pop mt_pop (pe_var hN hv hd hcd) hbase hline) hs hf) h) fun D σ H ⟨s, q1, q2⟩ => by
    obtain ⟨fp, v, hv, ⟨l, xs, e1, e2, h3, h4⟩, h0, k1⟩ := s.chg he
    subst e1 e2
    have hlen := Paired.length h4
    obtain ⟨u, hu, hR⟩ := prd_get h4 (i := Rs.length) (x := R) (by simp)
    have hl : xs.length - 1 = Rs.length := by
      rw [← hlen, List.length_append, List.length_singleton]
      omega
    have kp : Kp H (upd H l (.lst xs.dropLast)) := kp_mut h3 fun z => z
    refine ⟨.ref l, hv, .inl ⟨rfl, xs, .of h3⟩, l, xs, u, rfl, rfl, h3, by rw [hl]; exact hu, ?_⟩
    have hdl : Alls Rs xs.dropLast H := by
      rw [List.dropLast_eq_take, hl]
      have := prd_take h4 Rs.length
      rwa [List.take_left] at this
    have s1 : Sn B (E.set k (.mu (LS Rs))) σ (upd H l (.lst xs.dropLast)) := k1 H _ (LS Rs) Rel.refl one_upd kp ⟨l, _, rfl, rfl, upd_same, hdl.mono kp⟩
    rw [hE.e] at s1
    refine ⟨?_, fun E' σ' H' hN kp' s' => q1 E' σ' H' hN (kp.trans kp') s', q2⟩
    rw [← hE2.e]
    exact s1.set (o := .rp R) Rel.refl (R.mono kp hR) hE2.l
/-- x.extend(e) -/
theorem bext (k : Nat) {x : Str} (he : E[k]? = some (.mu (LS Rs))) (h1 : GE X B E e (.mu (LS Rs2))) [hE : SetE E k (.mu (LS (Rs ++ Rs2))) E1] (h : GB X B E1 rest N Rt) (hz : Rs.length + Rs2.length ≤ 1000) (hN : X.N[k]? = some x := by rfl) (hv : Vis X.env.scope x := by first | exact Or.inl rfl | exact Or.inr (Or.inl rfl) | exact Or.inr (Or.inr rfl)) (hd : (x == ("__debug__" : Str)) = false := by decide)
    (hcd : (x == ("__classdict__" : Str)) = false := by decide) (hbase : attributeBase (.Name x p) "extend" X.env (eval (.Name x p) X.env) = eval (.Name x p) X.env := by rfl)
    (hfew : ((backTo cpos (starEach [e] X.env)).all (fun x => !x.1) && (backToKw cpos (keywordEach [] X.env)).all (fun x => x.1.isSome) && decide ([e].length + ([] : List Keyword).length + (if ([] : List Keyword).isEmpty then 0 else 1) < 30)) = true := by rfl)
    (hline : (apos.endLine == cpos.line) = true := by rfl) (hs : starEach [e] X.env = (false, eval e X.env) :: starEach [] X.env := by rfl) (hs2 : swapsWith (.Call (.Attribute (.Name x p) "extend" apos) [e] [] cpos) none pos.line X.env = pure false := by rfl) :
    GB X B E (.Expr (.Call (.Attribute (.Name x p) "extend" apos) [e] [] cpos) pos :: rest) N Rt :=
  pssI (pss_cons (ps_expr (pe_bm PySem.F.plainAttrs_list PySem.F.slot_list_extend PySem.F.type_list_extend mt_extend (pe_var hN hv hd hcd) (pa_cons h1 pa_nil hs) hbase hfew hline hs rfl) hs2) h) fun D σ H ⟨s, q1, q2⟩ => by
    obtain ⟨fp, v, hv, ⟨l, xs, e1, e2, h3, h4⟩, h0, k1⟩ := s.chg he
    subst e1 e2
    refine ⟨.ref l, hv, .inl ⟨rfl, xs, .of h3⟩, s, fun u H1 r ⟨fp2, ⟨l2, ys, e3, e4, h6, h7⟩, hfr⟩ => ?_⟩
    subst e3 e4
    have lw : some l ≠ B.w := Bs.new_ne (H := B.H0) Rel.refl (h0 l (List.mem_singleton.mpr rfl))
    have h5 : H1 l = some (.lst xs) := r.k l _ h3 (.inl lw)
    have kp : Kp H1 (upd H1 l (.lst (xs ++ ys))) := kp_mut h5 fun z => z
    have l1 := Paired.length h4
    have l3 := Paired.length h7
    refine ⟨l, l2, xs, ys, rfl, rfl, h5, h6, Nat.le_of_lt (lineL (by omega)), ?_, fun E' σ' H' hN kp' s' => q1 E' σ' H' hN ((r.kp.trans kp).trans kp') s', q2⟩
    rw [← hE.e]
    exact k1 H1 _ (LS (Rs ++ Rs2)) r one_upd kp ⟨l, _, rfl, rfl, upd_same, prd_app (h4.mono (r.kp.trans kp)) (h7.mono kp)⟩
end
end KG
end
section
set_option maxRecDepth 100000
set_option maxHeartbeats 2000000
/-! values that are not known in full -/
namespace KG
open PySem PySem.Spec PyProof.Rows L2
def exR {α : Type} (R : α → Rp) : Rp := ⟨fun v H => ∃ x, (R x).p v H, fun k ⟨x, h⟩ => ⟨x, (R x).mono k h⟩⟩
section
variable {X : Cx} {B : Bs} {E E1 E2 : List En} {a b c e : Expr} {ss rest : List Stmt} {pos p apos cpos : Pos} {o o1 o2 : En} {R R1 : Rp} {Rs Rs2 : List Rp} {N : List En → Prop} {Rt : En → Prop}
theorem set_self {σ : L2.St} {k : Nat} {v : V} (h : σ[k]? = some (some v)) : σ.set k (some v) = σ := by
  apply List.ext_getElem?
  intro i
  by_cases z : k = i
  · subst z
    rw [List.getElem?_set_self (List.getElem?_eq_some_iff.mp h).1, h]
  · rw [List.getElem?_set_ne z]
/-- a slot's value named -/
theorem bopen {α : Type} {F : α → Rp} {E1 : α → List En} (k : Nat) (he : E[k]? = some (.rp (exR F))) [hE : ∀ x, SetE E k (.rp (F x)) (E1 x)] (h : ∀ x, GB X B (E1 x) ss N Rt) : GB X B E ss N Rt :=
  pssI (pssF (α := α) (Φ := fun _ => True) (t := fun x => tB' B (E1 x) N Rt) fun x _ => h x) fun D σ H ⟨s, q1, q2⟩ => by
    obtain ⟨v, fp, hv, x, hx⟩ := s.get he rfl
    have s1 := s.set (o := .rp (F x)) (v := v) Rel.refl hx (hE x).l
    rw [set_self hv, (hE x).e] at s1
    exact ⟨x, trivial, s1, q1, q2⟩
/-- .. to a description that is chosen by what holds -/
theorem bsay (k : Nat) {P : Prop} (he : E[k]? = some (.rp R)) (hP : ∀ v H, R.p v H → P) (h : P → GB X B E ss N Rt) : GB X B E ss N Rt :=
  pssI (pssP h) fun D σ H ⟨s, q1, q2⟩ => by
    obtain ⟨v, fp, hv, hx⟩ := s.get he rfl
    exact ⟨hP v H hx, s, q1, q2⟩
/-- a list of ints of which P is known -/
def LSX (P : List Int → Prop) : Mu := ⟨fun fp v H => ∃ ns, P ns ∧ (LS (ns.map TI)).p fp v H, fun ⟨ns, hp, h⟩ k kp => ⟨ns, hp, (LS _).stab h k kp⟩, fun ⟨ns, hp, h⟩ => (LS _).there h⟩
theorem gsorted {ns : List Int} (hm : X.mg "sorted" = none) (ha : GE X B E e (.al (LS (ns.map TI)))) (hn : ns.length < 64) (hg : Gl X "sorted" := by rfl) (hs : starEach [e] X.env = (false, eval e X.env) :: starEach [] X.env := by rfl) : GE X B E (.Call (.Name "sorted" p) [e] [] pos) (.mu (LSX fun l => l.Perm ns)) :=
  peI (pe_callB cr_sorted hg hm boot_sorted (acons ha anil hs) (by decide) (by decide) hs rfl) (callI fun H vs H2 Q _ _ ov q => by
    obtain ⟨v, rfl, fp, ⟨a, xs, e1, rfl, h1, h2⟩, hw⟩ := outs1 ov
    have e2 := alls_ints h2
    subst e2
    exact ⟨a, ns, rfl, .of h1, hn, fun ns' p hp _ np => q _ _ (Rel.new np) ⟨[p], ⟨ns', hp, p, _, rfl, rfl, upd_same, ints_alls ns'⟩, fun b hb => by rw [List.mem_singleton.mp hb]; exact np⟩⟩)
theorem gtupX {P : List Int → Prop} (hm : X.mg "tuple" = none) (ha : GE X B E e (.mu (LSX P))) (hg : Gl X "tuple" := by rfl) (hs : starEach [e] X.env = (false, eval e X.env) :: starEach [] X.env := by rfl) : GE X B E (.Call (.Name "tuple" p) [e] [] pos) (.rp (exR fun q : {ns : List Int // P ns} => TUP X.K (q.1.map TI))) :=
  peI (pe_callTy call_tuple_of hg hm boot_tuple (acons ha anil hs) (by decide) (by decide) hs rfl) (callI fun H vs H2 Q _ _ ov q => by
    obtain ⟨v, rfl, fp, ⟨ns, hp, p, xs, e1, rfl, h1, h2⟩, hw⟩ := outs1 ov
    exact ⟨p, xs, rfl, .inl ⟨.of h1, fun t ht => q _ _ (Rel.new ht) ⟨⟨ns, hp⟩, t, xs, rfl, .of upd_same, Alls.mono (Rel.new (w := none) ht).kp h2⟩⟩⟩)
/-- any tuple -/
def TANY (K : PySem.W.Frag) : Rp := ⟨fun v H => ∃ a xs, v = .ref a ∧ SqT K H a xs, fun k ⟨a, xs, e, h⟩ => ⟨a, xs, e, sqt_mono k h⟩⟩
theorem ty_tup {K : PySem.W.Frag} {v : V} {H : Hp} (h : (TANY K).p v H) : TyX K H v (.type "tuple") := by
  obtain ⟨a, xs, rfl, h⟩ := h
  rcases h with (h | ⟨o, h⟩) | ⟨o, its, n, h, hc, _⟩
  · exact .base (.tup h)
  · exact .fTuple h
  · exact .kTuple h hc
theorem tup_any {K : PySem.W.Frag} {Rs : List Rp} {v : V} {H : Hp} (h : (TUP K Rs).p v H) : (TANY K).p v H := by
  obtain ⟨a, xs, e, h1, _⟩ := h
  exact ⟨a, xs, e, h1⟩
theorem dtoL {K : PySem.W.Frag} : DtO K (.mu (LS [])) (.list []) := fun B H v H2 ⟨fp, ⟨a, xs, e1, e2, h1, h2⟩, _⟩ => by
  cases h2
  rw [e2]
  exact .lst (.of h1) .nil
theorem dpAll_of {K : PySem.W.Frag} {H : Hp} {Rs : List Rp} {xs : List V} (h2 : Alls Rs xs H) : ∀ {ds : List PyData}, Paired (fun (R : Rp) d => ∀ v H, R.p v H → Dp K H v d) Rs ds → DpAll K H xs ds := by
  induction h2 with
  | nil => intro ds h; cases h; exact .nil
  | cons q t ih =>
    intro ds h
    cases h with
    | cons q' t' => exact .cons (q' _ _ q) (ih t')
theorem dtoLs {K : PySem.W.Frag} {Rs : List Rp} {ds : List PyData} (h : Paired (fun (R : Rp) d => ∀ v H, R.p v H → Dp K H v d) Rs ds) : DtO K (.al (LS Rs)) (.list ds) := fun B H v H2 ⟨fp, ⟨a, xs, e1, e2, h1, h2⟩, _⟩ => by
  rw [e2]
  exact .lst (.of h1) (dpAll_of h2 h)
theorem dtoLi {K : PySem.W.Frag} (ns : List Int) : DtO K (.al (LS (ns.map TI))) (.list (ns.map PyData.int)) := dtoLs (by
  induction ns with
  | nil => exact .nil
  | cons n ns ih => exact .cons (fun _ _ h => dp_TI h) ih)
theorem shp_li (ns : List Int) : Shp 1 (.list (ns.map PyData.int)) := shp_lst fun d hd => by
  obtain ⟨n, _, rfl⟩ := List.mem_map.mp hd
  exact shp_int
theorem sqiT {K : PySem.W.Frag} (ns : List Int) : SqI K (.rp (TUP K (ns.map TI))) ns := fun B H v H2 ⟨a, xs, e, h1, h2⟩ => ⟨a, e, .inr (by rw [← alls_ints h2]; exact h1)⟩
theorem sqiL {K : PySem.W.Frag} (ns : List Int) : SqI K (.al (LS (ns.map TI))) ns := fun B H v H2 ⟨fp, ⟨a, xs, e1, e, h1, h2⟩, _⟩ => ⟨a, e, .inl (by rw [← alls_ints h2]; exact .of h1)⟩
theorem gTIES {K : PySem.W.Frag} {mg : Str → Option Value} (T : Tx K mg) (hm : X.mg = mg := by rfl) (hg : Gl X "TIES" := by rfl) : GE X B E (.Name "TIES" pos) (.rp (TUP K ([0, 2, 3, 4, 5, 6].map TI))) :=
  gglob (v := .ref (He.ga K "TIES")) (by rw [hm]; exact T.ties) rfl (fun H => ⟨_, _, rfl, T.tiesT H, ints_alls [0, 2, 3, 4, 5, 6]⟩) hg
theorem gmax {mg : Str → Option Value} {x : Str} {i : Int} (h : ∃ t, mg x = some (.int i t)) (hm : X.mg = mg := by rfl) (hg : Gl X x := by rfl) (hd : (x == ("__debug__" : Str)) = false := by decide) : GE X B E (.Name x pos) (.rp (TI i)) := by
  obtain ⟨t, h⟩ := h
  exact gglob (v := .int i) (u := .int i t) (by rw [hm]; exact h) ⟨t, rfl⟩ (fun _ => rfl) hg hd
end
end KG
end
section
set_option maxRecDepth 100000
set_option maxHeartbeats 2000000
/-! instances: fields, making, properties, own operators -/
namespace KG
open PySem PySem.Spec PyProof.Rows L2
abbrev Flds (fs : List (Str × Rp)) (vs : List (Str × V)) (H : Hp) : Prop := Paired (fun (q : Str × Rp) (u : Str × V) => u.1 = q.1 ∧ q.2.p u.2 H) fs vs
theorem Flds.mono {fs : List (Str × Rp)} {vs : List (Str × V)} {H H' : Hp} (k : Kp H H') (h : Flds fs vs H) : Flds fs vs H' := Paired.mapP h fun q u z => ⟨z.1, q.2.mono k z.2⟩
/-- an instance at x that is being filled -/
def INST (x C : Addr) (fs : List (Str × Rp)) : Mu := ⟨fun fp v H => fp = [x] ∧ v = .ref x ∧ ∃ dx vs, H x = some (.ins C dx vs) ∧ Flds fs vs H,
  fun ⟨e1, e2, dx, vs, h1, h2⟩ k kp => ⟨e1, e2, dx, vs, by rw [k x (by rw [e1]; exact List.mem_cons_self)]; exact h1, h2.mono kp⟩,
  fun ⟨e1, e2, dx, vs, h1, h2⟩ b hb => by
    rw [e1] at hb
    rw [List.mem_singleton.mp hb, h1]
    exact fun z => nomatch z⟩
theorem flds_none {H : Hp} {f : Str} : ∀ {fs : List (Str × Rp)} {vs : List (Str × V)}, Flds fs vs H → (fs.map (·.1)).contains f = false → vs.lookup f = none
  | _, _, .nil, _ => rfl
  | _, _, .cons (a := q) (b := u) h t, hn => by
    rw [List.map_cons, List.contains_cons, Bool.or_eq_false_iff] at hn
    obtain ⟨g, x⟩ := u
    have e : g = q.1 := h.1
    show (match f == g with | true => some x | false => _) = none
    rw [e, hn.1]
    exact flds_none t hn.2
def marks : List Str := ["pieces", "_back", "_word"]
theorem flds_mark {H : Hp} {fs : List (Str × Rp)} {vs : List (Str × V)} (h : Flds fs vs H) (hm : marks.all (fun f => !(fs.map (·.1)).contains f) = true) : mark vs = false := by
  have all : ∀ f ∈ marks, vs.lookup f = none := fun f hf => flds_none h (by simpa using List.all_eq_true.mp hm f hf)
  unfold mark
  rw [all "pieces" (by simp [marks]), all "_back" (by simp [marks]), all "_word" (by simp [marks])]
  rfl
theorem putF_new {f : Str} {v : V} : ∀ {vs : List (Str × V)}, vs.lookup f = none → putF f v vs = vs ++ [(f, v)]
  | [], _ => rfl
  | (g, x) :: r, h => by
    have h2 : (match f == g with | true => some x | false => r.lookup f) = none := h
    by_cases e : g = f
    · subst e
      simp at h2
    · have hb : (f == g) = false := beq_eq_false_iff_ne.mpr fun z => e z.symm
      rw [hb] at h2
      show (if g = f then (g, v) :: r else (g, x) :: putF f v r) = _
      rw [if_neg e, putF_new h2]
      rfl
section
variable {X : Cx} {B : Bs} {E E1 E2 : List En} {a b c e value : Expr} {es : List Expr} {ss rest : List Stmt} {pos p apos cpos pos' : Pos} {o o1 o2 : En} {R R1 R2 : Rp} {os : List En} {N : List En → Prop} {Rt : En → Prop} {C : Addr} {f : Str}
/-- e.f, a field -/
theorem gfld (ha : GE X B E e (.rp R)) (cl : Cls X.K C) (na : NoAttr X.K C f) (h : ∀ v H, R.p v H → ∃ a dx fs u, v = .ref a ∧ H a = some (.ins C dx fs) ∧ fs.lookup f = some u ∧ R1.p u H) (hb : attributeBase e f X.env (eval e X.env) = eval e X.env := by rfl) : GE X B E (.Attribute e f pos) (.rp R1) :=
  peI (pe_fld ha hb) (one fun H x H2 Q _ _ ox q => by
    obtain ⟨a, dx, fs, u, ev, hi, hl, hu⟩ := h x H2 ox
    exact ⟨a, C, dx, fs, u, ev, hi, cl, na, hl, q u H2 Rel.refl hu⟩)
/-- self.f = e -/
theorem bfld (k : Nat) {x : Str} {s : Addr} {fs : List (Str × Rp)} (he : E[k]? = some (.mu (INST s C fs))) (cl : Cls X.K C) (na : NoAttr X.K C f) (hv : GE X B E value (.rp R)) [hE : SetE E k (.mu (INST s C (fs ++ [(f, R)]))) E1] (h : GB X B E1 rest N Rt) (hnew : (fs.map (·.1)).contains f = false := by rfl) (hmk : marks.all (fun f => !(fs.map (·.1)).contains f) = true := by rfl) (hlen : fs.length ≤ 900 := by exact Nat.le_of_ble_eq_true rfl)
    (hN : X.N[k]? = some x := by rfl) (hvi : Vis X.env.scope x := by first | exact Or.inl rfl | exact Or.inr (Or.inl rfl) | exact Or.inr (Or.inr rfl)) (hd : (x == ("__debug__" : Str)) = false := by decide) (hcd : (x == ("__classdict__" : Str)) = false := by decide)
    (hs : swapsWith value (some (.Attribute (.Name x p) f pos')) pos.line X.env = pure false := by rfl) : GB X B E (.Assign [.Attribute (.Name x p) f pos'] value pos :: rest) N Rt :=
  pssI (pss_cons (ps_fld (pe_var hN hvi hd hcd) hv hs) h) fun D σ H ⟨s', q1, q2⟩ => ⟨s', fun y H1 r hy => by
    obtain ⟨fp, v, hv', ⟨e1, e2, dx, vs, h3, h4⟩, h0, k1⟩ := s'.chg he
    subst e1 e2
    have sw : some s ≠ B.w := Bs.new_ne (H := B.H0) Rel.refl (h0 s (List.mem_singleton.mpr rfl))
    have h5 : H1 s = some (.ins C dx vs) := r.k s _ h3 (.inl sw)
    have h6 : Flds fs vs H1 := h4.mono r.kp
    have hmv := flds_mark h6 hmk
    have kp : Kp H1 (upd H1 s (.ins C dx (putF f y vs))) := kp_mut h5 fun z => by
      have z2 : mark vs = true := z
      rw [hmv] at z2
      cases z2
    refine ⟨.ref s, hv', s, C, dx, vs, rfl, h5, cl, na, by have := Paired.length h6; omega, ?_, fun E' σ' H' hN kp' s2 => q1 E' σ' H' hN ((r.kp.trans kp).trans kp') s2, q2⟩
    rw [← hE.e]
    refine k1 H1 _ (INST s C (fs ++ [(f, R)])) r one_upd kp ⟨rfl, rfl, dx, _, upd_same, ?_⟩
    have ep : putF f y vs = vs ++ [(f, y)] := putF_new (flds_none h6 hnew)
    rw [ep] at kp ⊢
    exact prd_app (h6.mono kp) (.cons ⟨rfl, R.mono kp hy⟩ .nil)⟩
/-! ### making -/
/-- what an __init__ promises: a new instance at x, filled so that R says of it -/
def PIn (C : Addr) (Fi : List En → Rp → Prop) : Sp := fun vs H Q _ => ∃ (B : Bs) (x dx : Addr) (us : List V) (ins : List En) (R : Rp), B.w = none ∧ vs = .ref x :: us ∧ H = upd (upd B.H0 dx (.own x)) x (.ins C dx []) ∧ B.H0 x = none ∧ B.H0 dx = none ∧ dx ≠ x ∧ Fi ins R ∧ outs B B.H0 B.H0 us ins ∧
  ∀ H', Rel none B.H0 H' → R.p (.ref x) H' → Q .non H'
theorem sn_cons {σ : L2.St} {H : Hp} {M : Mu} {fp : List Addr} {v : V} (s : Sn B E σ H) (hp : M.p fp v H) (h0 : ∀ a ∈ fp, B.H0 a = none) (nm : ∀ (i : Nat) (M' : Mu), E[i]? ≠ some (.mu M')) : Sn B (.mu M :: E) (some v :: σ) H := by
  obtain ⟨fq, h1, h2⟩ := s.at_
  refine ⟨s.rel, ⟨fun i => if i = 0 then fp else fq (i - 1), fun i o e t => ?_, fun i j M1 M2 hij ei ej => ?_⟩, by simp [s.len]⟩
  · cases i with
    | zero =>
      simp at e
      subst e
      exact ⟨v, by simp, hp, h0⟩
    | succ i =>
      obtain ⟨u, hu, hs⟩ := h1 i o (by simpa using e) t
      exact ⟨u, by simpa using hu, by simpa using hs⟩
  · cases i with
    | zero =>
      cases j with
      | zero => exact absurd rfl hij
      | succ j => exact absurd (by simpa using ej) (nm j M2)
    | succ i => exact absurd (by simpa using ei) (nm i M1)
end
section
variable {P : Program} {w : World} {K : PySem.W.Frag} {mg : Str → Option Value} {base : Heap}
theorem in_ok {st : Stmt} {x qual n0 : Str} {Nt ps : List Str} {k : Nat} {dvs : List V} {f C : Addr} {fd : FuncData} {Fi : List En → Rp → Prop} (F : FunD K x qual (defArgs st) (defBody st) (defScope st) dvs [] f fd) (S : FnScope (n0 :: Nt) (n0 :: ps) (defScope st))
    (hl : ∀ ins R, Fi ins R → ins.length = ps.length)
    (hb : ∀ (cdv : Value) (A : Around) (outer : List Env) (s : Shared) (H : Hp) (Ex : XK) (B : Bs) (x : Addr) (ins : List En) (R : Rp), B.w = none → Fi ins R → Room k (A.deeper (envOfC qual (defScope st) s.heap.objs.size f cdv)) →
      ∃ E0, ins.map En.ent ++ List.replicate (Nt.length - ins.length) .no = E0 ∧ GB (cxOf CX0 P w K mg base (n0 :: Nt) qual (defScope st) f cdv A outer s H Ex).nox B (.mu (INST x C []) :: E0) (defBody st) (fun E' => ∃ M l, E' = .mu M :: l ∧ ∀ fp v H, M.p fp v H → R.p (.ref x) H) (fun _ => False)) : FnOk P w K mg base CX0 (k + 1) f fd (n0 :: ps) (PIn C Fi) := by
  refine FunD.ok F S (fun vs H Q E ⟨B, x, dx, us, ins, R, _, e, _, _, _, _, hF, ho, _⟩ => ?_) fun cdv A outer s H vs Q E hr ⟨B, x, dx, us, ins, R, hw, e, eH, hx, hdx, hne, hF, ho, hq⟩ => ?_
  · rw [e, List.length_cons, outs_len ho, hl _ _ hF]
    rfl
  · subst e
    have hN : ins.length ≤ Nt.length := by
      rw [hl _ _ hF]
      have := congrArg List.length S.pre
      rw [List.length_take] at this
      simp only [List.length_cons] at this
      omega
    obtain ⟨E0, he0, hbody⟩ := hb cdv A outer s H E B x ins R hw hF hr
    have s0 := sn_start (N := Nt) ho hN
    have r1 : Rel B.w B.H0 H := by
      rw [eH]
      refine .ext fun a u ha => ?_
      rw [upd_ne (ne_of_none ha hx), upd_ne (ne_of_none ha hdx)]
      exact ha
    have s1 := s0.mono r1
    have nm : ∀ (i : Nat) (M' : Mu), (ins.map En.ent ++ List.replicate (Nt.length - ins.length) .no)[i]? ≠ some (.mu M') := fun i M' hi => by
      have hm := List.mem_of_getElem? hi
      rcases List.mem_append.mp hm with z | z
      · obtain ⟨u, _, hu⟩ := List.mem_map.mp z
        cases u <;> cases hu
      · cases (List.mem_replicate.mp z).2
    have s2 : Sn B (.mu (INST x C []) :: E0) (some (.ref x) :: L2.start Nt us) H := by
      rw [← he0]
      exact sn_cons s1 (M := INST x C []) (fp := [x]) ⟨rfl, rfl, dx, [], by rw [eH]; exact upd_same, .nil⟩ (fun a ha => by rw [List.mem_singleton.mp ha]; exact hx) nm
    have es : L2.start (n0 :: Nt) (.ref x :: us) = some (.ref x) :: L2.start Nt us := by
      unfold L2.start
      simp only [List.map_cons, List.length_cons, List.cons_append]
      rw [Nat.add_sub_add_right]
    refine ⟨_, hbody.nox, by rw [es]; exact s2, fun E' σ' H' hE' _ sn => ?_, fun o' v H' e _ _ => e.elim⟩
    obtain ⟨M, l, rfl, hM⟩ := hE'
    obtain ⟨v, fp, hv, hp, _⟩ := sn.get (i := 0) (o := .mu M) rfl rfl
    exact hq H' (by have := sn.rel; rwa [hw] at this) (hM fp v H' hp)
end
section
variable {X : Cx} {B : Bs} {E E1 E2 : List En} {a b c e value : Expr} {es : List Expr} {ss rest : List Stmt} {pos p apos cpos pos' kpos : Pos} {o o1 o2 : En} {R R1 R2 : Rp} {os ds : List En} {C : Addr} {f : Str}
theorem outs_app {H H2 : Hp} : ∀ {vs us : List V} {os ps : List En}, outs B H H2 vs os → outs B H H2 us ps → outs B H H2 (vs ++ us) (os ++ ps)
  | [], _, [], _, _, h2 => h2
  | [], _, _ :: _, _, h, _ => h.elim
  | _ :: _, _, [], _, h, _ => h.elim
  | _ :: _, _, _ :: _, _, h, h2 => ⟨h.1, outs_app h.2 h2⟩
/-- C(e, ..) -/
theorem gmake {x : Str} {k j : Nat} {dvs : List V} {Fi : List En → Rp → Prop} (c : C8.Mak X.prog X.w X.K X.mg X.base k x C (PIn C Fi) dvs) (hr : Room j X.A) (ha : GA X B E (e :: es) os) (hF : Fi (os ++ ds) R) (hd : ∀ (B : Bs) (H : Hp), outs B H H dvs ds) (hk : k + 1 ≤ j := by decide) (hos : os.all En.arg = true := by rfl) (hg : Gl X x := by rfl)
    (hdb : (x == ("__debug__" : Str)) = false := by decide) (he : starEach (e :: es) X.env = (false, eval e X.env) :: starEach es X.env := by rfl) (hpl : (backTo pos (starEach es X.env)).any (·.1) = false := by rfl) : GE X B E (.Call (.Name x p) (e :: es) [] pos) (.rp R) :=
  peI (C8.pe_mk c hr hk hg ha hdb he hpl) fun σ H Q ⟨s, q⟩ => ⟨s, fun vs H1 r1 ov x dx hx hdx hne =>
    ⟨⟨H1, none, fun _ z => nomatch z⟩, x, dx, vs ++ dvs, os ++ ds, R, rfl, rfl, rfl, hx, hdx, hne, hF, outs_app (outs_none ov hos) (hd _ _), fun H' r h => ⟨rfl, q _ H' (r1.trans r.ofNone) h⟩⟩⟩
/-- a class made with one keyword -/
structure MakN (P : Program) (w : World) (K : PySem.W.Frag) (mg : Str → Option Value) (base : Heap) (k : Nat) (x : Str) (C : Addr) (sp : Sp) (n : Nat) (kw : Str) : Prop where
  ex : ∃ (f : Addr) (fd : FuncData) (ps : List Str) (g : List Value → List Value → List Value) (gV : List V → List V → List V), Mk K C f ∧ FnOk P w K mg base CX0 k f fd ps sp ∧ mg x = some (.ref C) ∧ KBn K fd ps (n + 1) [kw] g gV ∧ ∀ vs zs, gV vs zs = vs ++ zs
theorem gmakeK {x kw : Str} {k j n : Nat} {Fi : List En → Rp → Prop} (c : MakN X.prog X.w X.K X.mg X.base k x C (PIn C Fi) n kw) (hr : Room j X.A) (ha : GA X B E (e :: es) os) (hv : GE X B E value (.rp R1)) (hF : Fi (os ++ [.rp R1]) R) (hn : os.length = n := by rfl) (hk : k + 1 ≤ j := by decide) (hos : os.all En.arg = true := by rfl) (hg : Gl X x := by rfl)
    (hdb : (x == ("__debug__" : Str)) = false := by decide) (he : starEach (e :: es) X.env = (false, eval e X.env) :: starEach es X.env := by rfl)
    (hall : (backToKw pos (keywordEach [⟨some kw, value, kpos⟩] X.env)).all (·.1.isSome) = true := by rfl) (hks : (backToKw pos (keywordEach [⟨some kw, value, kpos⟩] X.env)).filterMap (·.1) = [kw] := by rfl)
    (hpl : ((backTo pos (starEach (e :: es) X.env)).any (·.1) || (backToKw pos (keywordEach [⟨some kw, value, kpos⟩] X.env)).any (·.1.isNone)) = false := by rfl) :
    GE X B E (.Call (.Name x p) (e :: es) [⟨some kw, value, kpos⟩] pos) (.rp R) := by
  obtain ⟨f, fd, ps, g, gV, M, F, hm, hb, hgV⟩ := c.ex
  refine peI (pe_makeN (n := n) M F (hr.mono hk) hg hm hb pass0 ha (pk_cons hv pk_nil) hall hks hdb he hpl) fun σ H Q ⟨s, q⟩ => ⟨s, fun vs H1 r1 ov => ⟨s.mono r1, fun u H2 r2 hu => ⟨by rw [outs_len ov, hn], rfl, fun x dx hx hdx hne => ?_⟩⟩⟩
  have hu : R1.p u H2 := hu
  rw [hgV]
  exact ⟨⟨H2, none, fun _ z => nomatch z⟩, x, dx, vs ++ [u], os ++ [.rp R1], R, rfl, rfl, rfl, hx, hdx, hne, hF, outs_app (outs_none (outs_back (B := B) s.rel Rel.refl (outs_mono s.rel r2 ov)) hos) (show outs ⟨H2, none, fun _ z => nomatch z⟩ H2 H2 [u] [.rp R1] from ⟨hu, trivial⟩), fun H' r h => ⟨rfl, q _ H' ((r1.trans r2).trans r.ofNone) h⟩⟩
/-! ### properties -/
structure Prp (P : Program) (w : World) (K : PySem.W.Frag) (mg : Str → Option Value) (base : Heap) (k : Nat) (C : Addr) (m : Str) (sp : Sp) : Prop where
  ex : ∃ (p g : Addr) (fd : FuncData) (ps : List Str), Cls K C ∧ PropOf K C m p g ∧ FnOk P w K mg base CX0 k g fd ps sp ∧ Binds K fd ps []
theorem gprop {k j : Nat} {Fm : Option Addr → List En → En → Prop} (c : Prp X.prog X.w X.K X.mg X.base k C f (PM Fm)) (hr : Room j X.A) (ha : GE X B E e (.rp R)) (h : ∀ v H, R.p v H → ∃ a dx fs, v = .ref a ∧ H a = some (.ins C dx fs)) (hF : Fm none [.rp R] o) (hk : k + 1 ≤ j := by decide) (ho : o.ret = true := by rfl)
    (hab : attributeBase e f X.env (eval e X.env) = eval e X.env := by rfl) : GE X B E (.Attribute e f pos) o := by
  obtain ⟨p, g, fd, ps, cl, hp, F, hb⟩ := c.ex
  exact peI (pe_prop ha cl hp F (hr.mono hk) hb .nil pass0 hab) fun σ H Q ⟨s, q⟩ => ⟨s, fun v H1 r1 ov => by
    obtain ⟨a, dx, fs, e1, e2⟩ := h v H1 ov
    subst e1
    exact ⟨a, dx, fs, rfl, e2, ⟨H1, none, fun _ z => nomatch z⟩, [.rp R], o, rfl, hF, ⟨ov, trivial⟩, fun u H' r ou => q u H' (r1.trans r.ofNone) (ret_back s.rel r1 ho ou)⟩⟩
/-! ### isinstance of an own class -/
theorem gisC (c : C8.InsC X.K C) (hm : X.mg "isinstance" = none) (ha : GE X B E a (.rp R)) (hb : GE X B E b (.rp (VL (.ref C)))) (h : ∀ v H, R.p v H → ∃ a dx fs, v = .ref a ∧ H a = some (.ins C dx fs)) (hg : Gl X "isinstance" := by rfl) (hs : starEach [a, b] X.env = (false, eval a X.env) :: starEach [b] X.env := by rfl)
    (hs2 : starEach [b] X.env = (false, eval b X.env) :: starEach [] X.env := by rfl) (hp : (backTo pos (starEach [b] X.env)).any (·.1) = false := by rfl) : GE X B E (.Call (.Name "isinstance" p) [a, b] [] pos) (.rp (TBl true)) :=
  peI (pe_callB (C8.call_isC c) hg hm boot_isinstance (acons ha (acons hb anil hs2) hs) (by decide) (by decide) hs hp) (callI fun H vs H2 Q _ _ ov q => by
    obtain ⟨v, u, rfl, hv, hu⟩ := outs2 ov
    obtain ⟨a, dx, fs, rfl, hi⟩ := h v H2 hv
    have e : u = .ref C := hu
    subst e
    exact ⟨a, dx, fs, rfl, hi, q _ H2 Rel.refl rfl⟩)
/-! ### own operators -/
theorem gmulO {k j : Nat} {op : Operator} {fa : Addr} {fd : FuncData} {ps : List Str} {Fm : Option Addr → List En → En → Prop} (F : FnOk X.prog X.w X.K X.mg X.base CX0 k fa fd ps (PM Fm)) (hc : PySem.W.selfFirst X.K C = true) (hs : PySem.W.findIn X.K (.ref C) (PySem.dunder op.info.2) = some (some (.ref fa))) (hf : PySem.W.isFn X.K (.ref fa) = true) (hb : Binds X.K fd ps []) (hr : Room j X.A)
    (ha : GE X B E a (.rp R1)) (hb2 : GE X B E b (.rp R2)) (h1 : ∀ v H, R1.p v H → ∃ a dx fs, v = .ref a ∧ H a = some (.ins C dx fs)) (h2 : ∀ v H, R2.p v H → ∃ a dx fs, v = .ref a ∧ H a = some (.ins C dx fs)) (hF : Fm none [.rp R1, .rp R2] o) (hk : k ≤ j := by decide) (ho : o.ret = true := by rfl) : GE X B E (.BinOp a op b pos) o :=
  peI (pe_op (KX.op_binOwn (C := C) F hc hs hf hb pass0 (hr.mono hk)) ha hb2) (two fun H x y H2 Q r0 r1 ox oy q => by
    obtain ⟨a, dx, fs, e1, i1⟩ := h1 x H2 ox
    obtain ⟨b, dy, gs, e2, i2⟩ := h2 y H2 oy
    subst e1 e2
    exact ⟨a, b, dx, dy, fs, gs, rfl, rfl, i1, i2, ⟨H2, none, fun _ z => nomatch z⟩, [.rp R1, .rp R2], o, rfl, hF, ⟨ox, oy, trivial⟩, fun u H' r ou => q u H' r.ofNone (by
      cases o with
      | rp R => exact ou
      | mu M => exact ou
      | _ => cases ho)⟩)
variable {n j : Nat} {D : Eqv}
theorem ceqG (h : RcG X n D) (hr : Room j X.A) (hn : n ≤ j) (ha : GE X B E a o1) (hb : GE X B E b o2) (hD : ∀ (H H2 : Hp) v u, o1.out B H v H2 → o2.out B H u H2 → D v u H2) : CM X B E .Eq a b true :=
  ⟨_, _, _, op_eqG h (hr.mono hn), ha, hb, two fun H x y H2 Q _ _ ox oy q => ⟨hD H H2 x y ox oy, fun H' e => q _ H' (.ext e) rfl⟩⟩
theorem cneO {CX : CXT} {fa : Addr} {fd : FuncData} {ps : List Str} {Rq : Addr → Addr → Hp → Prop} {Ex : XK} (F : FnOk X.prog X.w X.K X.mg X.base CX n fa fd ps (spEq Rq))
    (hn : PySem.W.findIn X.K (.ref C) "__ne__" = some (some (.builtin "object.__ne__"))) (ho : PySem.W.subIn X.K (.ref C) (.type "object") = some true) (hs : PySem.W.findIn X.K (.ref C) "__eq__" = some (some (.ref fa))) (hf : PySem.W.isFn X.K (.ref fa) = true) (hb : Binds X.K fd ps []) (hx : Passes CX X Ex) (hr : Room j X.A) (hj : n + 1 ≤ j)
    (ha : GE X B E a o1) (hb2 : GE X B E b o2) (hD : ∀ (H H2 : Hp) v u, o1.out B H v H2 → o2.out B H u H2 → DIns C Rq v u H2) : CM X B E .NotEq a b false :=
  ⟨_, _, _, KX.op_neIns F hn ho hs hf hb hx (hr.mono hj), ha, hb2, two fun H x y H2 Q _ _ ox oy q => ⟨hD H H2 x y ox oy, fun H' e => q _ H' (.ext e) rfl⟩⟩
theorem cneT (hD : Mon D) (h : EqG X n D) (hr : Room j X.A) (hj : n + 1 ≤ j) (ha : GE X B E a o1) (hb2 : GE X B E b o2) (hd : ∀ (H H2 : Hp) v u, o1.out B H v H2 → o2.out B H u H2 → DTup X.K D v u H2) : CM X B E .NotEq a b false :=
  ⟨_, _, _, KX.op_neTup hD h (hr.mono hj), ha, hb2, two fun H x y H2 Q _ _ ox oy q => ⟨hd H H2 x y ox oy, fun H' e => q _ H' (.ext e) rfl⟩⟩
end
end KG
end
section
set_option maxRecDepth 100000
set_option maxHeartbeats 2000000
/-! a tuple of anything against () -/
namespace KXq
open PySem PySem.SeqAt GQ
open AutoSeq1 (wpAny_loadPart')
open MeetsSeq MeetsSeq2 MeetsSeq3 SeqRoads2
section
variable {prog : Program} {w : World} {A : Around} {R : Result → Shared → Prop}
theorem tuple_eq0 (l b : Addr) (items items2 : Array Value) (n n2 : Nat) (dd dd2 : Option Addr) (sl sl2 : Array (Option Value)) (hz2 : items2.size = 0) (I : Shared → Prop)
    (fin : ∀ s, I s → R (.ok (.ret (.bool (decide (items.size = 0))))) s) {s : Shared}
    (hl1 : s.heap.get? l = some { cls := .type "tuple", dict := dd, data := .seq items n, slots := sl }) (hb1 : s.heap.get? b = some { cls := .type "tuple", dict := dd2, data := .seq items2 n2, slots := sl2 }) (h : I s) :
    wpAny (model prog w) A.in1 (Builtin.«tuple.__eq__» ⟨[.ref l, .ref b], []⟩) (FinOf prog w A R) (fun e s' => R (.error e) s') s := by
  have f2 := AutoSeq1.sub_tuple_tuple
  have e2 : items2 = #[] := Array.eq_empty_of_size_eq_zero hz2
  have hZ : (items.toList.zip items2.toList) = [] := by rw [e2, List.zip_nil_right]
  have h0 := h
  obtain ⟨hp, g, d, tk, os⟩ := s
  wp_walk using wpAny_loadPart' hl1, wpAny_loadPart' hb1, wpAny_forIn_list _ (fun rest b s' => b.1 = none ∧ rest = [] ∧ I s') _
  case turn =>
    rintro ⟨y, x⟩ rest b s' ⟨hb', hz, hi⟩
    cases hz
  case fin =>
    rintro ⟨b1, b2⟩ s' ⟨hb', hz, hi⟩
    simp only at hb'
    subst hb'
    have hR := fin s' hi
    wp_walk
    have e3 : (items.size == items2.size) = decide (items.size = 0) := by rw [hz2]; rfl
    show R (.ok (.ret (.bool (items.size == items2.size)))) s'
    rw [e3]
    exact hR
  case h =>
    exact ⟨rfl, hZ, h0⟩
end
section
variable {prog : Program} {w : World} {A : Around} {E : Value → Shared → Prop} {s : Shared}
theorem rc_tup0 {l b : Addr} {its its2 : Array Value} {Q : Value → Shared → Prop} (hz2 : its2.size = 0) (hu : A.units < cLine)
    (hl : s.heap.IsTuple l its) (hb : s.heap.IsTuple b its2) (fin : Q (.bool (decide (its.size = 0))) s) : wpAny (model prog w) A (richCompare .Eq (.ref l) (.ref b)) Q E s := by
  obtain ⟨⟨cls, dd, data, sl⟩, ho, hc, n, hd⟩ := id hl
  obtain ⟨⟨cls2, dd2, data2, sl2⟩, ho2, hc2, n2, hd2⟩ := id hb
  simp only at hc hd hc2 hd2
  subst hc hd hc2 hd2
  refine wpAny_richCompare_same_room (op := .Eq) ⟨_, ho, rfl⟩ ⟨_, ho2, rfl⟩ F.slot_tuple_eq (call_here F.slot_tuple_eq ⟨_, ho, rfl⟩ F.entry_tuple_eq (F.args_tuple_eq_2 _ _) ?_) hu
  exact tuple_eq0 (R := wants (fun v s' => v ≠ .notImplemented ∧ Q v s') E) l b its its2 n n2 dd dd2 sl sl2 hz2 (fun s' => Q (.bool (decide (its.size = 0))) s') (fun s' q => ⟨(fun x => nomatch x), q⟩) ho ho2 fin
end
end KXq
namespace KX
open PySem PySem.Spec PyProof.Rows L2
section
variable {X : Cx}
/-- t == (), by the number of items alone -/
def rEq0 (K : PySem.W.Frag) : R2 := fun x y H Q => ∃ a b xs, x = .ref a ∧ y = .ref b ∧ SqT K H a xs ∧ SqT K H b [] ∧ Q (.bl (decide (xs.length = 0))) H
theorem op_eq0 {n : Nat} (hr : Room n X.A) : OpR X (compareOp .Eq) (rEq0 X.K) := by
  intro pins s σ H x y v u Q I rx ry hq
  obtain ⟨a, b, xs, rfl, rfl, ha, hb, q⟩ := hq
  cases rx
  cases ry
  obtain ⟨its, r, e, z⟩ := I.tuple ha
  obtain ⟨its2, r2, e2, z2⟩ := I.tuple hb
  cases r2
  refine PySem.W.cmp_ofEq (KXq.rc_tup0 rfl hr.units0 e e2 ?_)
  refine ⟨.bl (decide (xs.length = 0)), H, I, ?_, q⟩
  rw [List.size_toArray, ← r.length] <;> rfl
end
end KX
end
section
set_option maxRecDepth 100000
set_option maxHeartbeats 2000000
/-! the well: three ints that nobody knows -/
namespace KG
open PySem PySem.Spec PyProof.Rows L2
/-- some int with P -/
def INTS (P : Int → Prop) : Rp := ⟨fun v H => ∃ z, P z ∧ v = .int z, fun _ h => h⟩
def ANYB : Rp := ⟨fun v H => ∃ b, v = .bl b, fun _ h => h⟩
def tTX (B : Bs) (E : List En) : TT := fun σ H Q => Sn B E σ H ∧ ∀ b H2, Rel B.w H H2 → Q b H2
abbrev GTX (X : Cx) (B : Bs) (E : List En) (e : Expr) : Prop := PT X e (tTX B E)
abbrev GWX (X : Cx) (B : Bs) (E : List En) (e : Expr) : Prop := PW X e (tTX B E)
theorem rel_well {w : Option Addr} {H : Hp} {a : Addr} (e : w = some a) (h : well a H) (x y z : Int) : Rel w H (upd H a (.lst [.int x, .int y, .int z])) := by
  refine ⟨fun b o hb c => ?_, fun b hb _ => ?_⟩
  · by_cases q : b = a
    · subst q
      obtain ⟨x', y', z', h'⟩ := h
      rw [h'] at hb
      cases hb
      rcases c with c | c
      · exact absurd e.symm c
      · exact c.elim
    · rw [upd_ne q]
      exact hb
  · rw [e] at hb
    cases hb
    exact ⟨x, y, z, upd_same⟩
section
variable {X : Cx} {B : Bs} {E E1 : List En} {a b c e : Expr} {es : List Expr} {ss rest : List Stmt} {pos p p2 pt : Pos} {o : En} {i j : Int} {P Q R : Int → Prop} {N N1 : List En → Prop} {Rt : En → Prop}
theorem gTP (h : GE X B E a (.rp (TI i))) (hp : P i) : GE X B E a (.rp (INTS P)) := grp h fun v H e => ⟨i, hp, e⟩
theorem gPP (h : GE X B E a (.rp (INTS P))) (k : ∀ z, P z → Q z) : GE X B E a (.rp (INTS Q)) := grp h fun v H ⟨z, h1, h2⟩ => ⟨z, k z h1, h2⟩
theorem gopP {op : Operator} {g : Int → Int → Int} (ho : OpR X (binaryOp op) (rI0 fun i j => .int (g i j))) (ha : GE X B E a (.rp (INTS P))) (hb : GE X B E b (.rp (INTS Q))) (k : ∀ x y, P x → Q y → R (g x y)) : GE X B E (.BinOp a op b pos) (.rp (INTS R)) :=
  peI (pe_op ho ha hb) (two fun H x y H2 q' _ _ ⟨i, hi, ox⟩ ⟨j, hj, oy⟩ q => ⟨i, j, ox, oy, q _ H2 Rel.refl ⟨_, k i j hi hj, rfl⟩⟩)
theorem gopPC {op : Operator} {C : Int → Int → Prop} {g : Int → Int → Int} (ho : OpR X (binaryOp op) (rI C fun i j => .int (g i j))) (ha : GE X B E a (.rp (INTS P))) (hb : GE X B E b (.rp (INTS Q))) (hc : ∀ x y, P x → Q y → C x y) (k : ∀ x y, P x → Q y → R (g x y)) : GE X B E (.BinOp a op b pos) (.rp (INTS R)) :=
  peI (pe_op ho ha hb) (two fun H x y H2 q' _ _ ⟨i, hi, ox⟩ ⟨j, hj, oy⟩ q => ⟨i, j, ox, oy, hc i j hi hj, q _ H2 Rel.refl ⟨_, k i j hi hj, rfl⟩⟩)
abbrev AnyI : Int → Prop := fun _ => True
abbrev Lt0 (n : Int) : Int → Prop := fun d => 0 ≤ d ∧ d < n
theorem gaddP (ha : GE X B E a (.rp (INTS P))) (hb : GE X B E b (.rp (INTS Q))) : GE X B E (.BinOp a .Add b pos) (.rp (INTS AnyI)) := gopP op_add ha hb fun _ _ _ _ => trivial
theorem gmulP (ha : GE X B E a (.rp (INTS P))) (hb : GE X B E b (.rp (INTS Q))) (hc : ∀ x y, P x → Q y → CMul x y) : GE X B E (.BinOp a .Mult b pos) (.rp (INTS AnyI)) := gopPC op_mul ha hb hc fun _ _ _ _ => trivial
theorem gmodP (ha : GE X B E a (.rp (INTS P))) (hb : GE X B E b (.rp (TI j))) (hj : 0 < j) : GE X B E (.BinOp a .Mod b pos) (.rp (INTS (Lt0 j))) :=
  gopPC op_mod ha (gTP (P := fun y => y = j) hb rfl) (fun x y _ (hy : y = j) => by rw [hy]; exact hj) fun x y _ (hy : y = j) => by
    rw [hy]
    exact ⟨Int.emod_nonneg _ (by omega), Int.emod_lt_of_pos _ hj⟩
theorem gfdivP (ha : GE X B E a (.rp (INTS P))) (hb : GE X B E b (.rp (TI j))) (hj : 0 < j ∧ j < 1073741824) : GE X B E (.BinOp a .FloorDiv b pos) (.rp (INTS AnyI)) :=
  gopPC op_fdiv ha (gTP (P := fun y => y = j) hb rfl) (fun x y _ (hy : y = j) => by rw [hy]; exact hj) fun _ _ _ _ => trivial
theorem gint1P (hm : X.mg "int" = none) (ha : GE X B E e (.rp (INTS P))) (hg : Gl X "int" := by rfl) (hs : starEach [e] X.env = (false, eval e X.env) :: starEach [] X.env := by rfl) : GE X B E (.Call (.Name "int" p) [e] [] pos) (.rp (INTS P)) :=
  peI (pe_callTy call_int1 hg hm boot_int (acons ha anil hs) (by decide) (by decide) hs rfl) (callI fun H vs H2 Q _ _ ov q => by
    obtain ⟨v, rfl, z, hz, hv⟩ := outs1 ov
    exact .inl ⟨z, by rw [hv], q _ H2 Rel.refl ⟨z, hz, rfl⟩⟩)
/-- well[i] -/
theorem gwix (ha : GE X B E a .wl) (hb : GE X B E b (.rp (TI i))) (hi : i = 0 ∨ i = 1 ∨ i = 2) (hs : PlainIx b := by intro _ _; rfl) : GE X B E (.Subscript a b pos) (.rp (INTS AnyI)) :=
  peI (pe_ix ix_list ha hb hs) (two fun H x y H2 Q r0 r1 ⟨w, ew, ox⟩ oy q => by
    obtain ⟨x1, y1, z1, hw⟩ := Bs.wl1 (r0.trans r1) w ew
    rcases hi with rfl | rfl | rfl
    · exact ⟨w, _, 0, .int x1, ox, oy, .of hw, rfl, q _ H2 Rel.refl ⟨x1, trivial, rfl⟩⟩
    · exact ⟨w, _, 1, .int y1, ox, oy, .of hw, rfl, q _ H2 Rel.refl ⟨y1, trivial, rfl⟩⟩
    · exact ⟨w, _, 2, .int z1, ox, oy, .of hw, rfl, q _ H2 Rel.refl ⟨z1, trivial, rfl⟩⟩)
/-- a test whose answer is not known -/
theorem gctX {op : CmpOp} {p : Int → Int → Bool} (ho : OpR X (compareOp op) (rI0 fun i j => .bl (p i j))) (ha : GE X B E a (.rp (INTS P))) (hb : GE X B E b (.rp (INTS Q))) (hm : behindInMarks op b = false := by first | exact nomark _ | rfl) : GTX X B E (.Compare a [op] [b] pos) :=
  ptI (pt_cmpR ho ha hb hm) fun σ H Q ⟨s, q⟩ => two (o := .rp ANYB) (fun H x y H2 Q _ _ ⟨i, _, ox⟩ ⟨j, _, oy⟩ q => ⟨i, j, ox, oy, q _ H2 Rel.refl ⟨_, rfl⟩⟩) σ H _ ⟨s, fun v H2 r ⟨b, eb⟩ => ⟨b, eb, q b H2 r⟩⟩
theorem bifX {s1 s2 : List Stmt} (hc : GTX X B E c) (h1 : GB X B E s1 N1 Rt) (h2 : GB X B E s2 N1 Rt) (k : ∀ E', N1 E' → GB X B E' rest N Rt) : GB X B E (.If c s1 s2 pos :: rest) N Rt :=
  bcons (psI (ps_if hc h1 h2) fun D σ H ⟨s, q1, q2⟩ => ⟨s, fun b H2 r => by
    cases b with
    | true => exact ⟨s.mono r, fun E' σ' H' hN kp s' => q1 E' σ' H' hN (r.kp.trans kp) s', q2⟩
    | false => exact ⟨s.mono r, fun E' σ' H' hN kp s' => q1 E' σ' H' hN (r.kp.trans kp) s', q2⟩⟩) k
theorem well_set {H : Hp} {w : Addr} (hw : well w H) (ew : B.w = some w) (hi : i = 0 ∨ i = 1 ∨ i = 2) (z : Int) : ∃ xs j, H w = some (.lst xs) ∧ ixN xs.length i = some j ∧ Rel B.w H (upd H w (.lst (xs.set j (.int z)))) := by
  obtain ⟨x1, y1, z1, h⟩ := hw
  rcases hi with rfl | rfl | rfl
  · exact ⟨_, 0, h, rfl, rel_well ew ⟨x1, y1, z1, h⟩ z y1 z1⟩
  · exact ⟨_, 1, h, rfl, rel_well ew ⟨x1, y1, z1, h⟩ x1 z z1⟩
  · exact ⟨_, 2, h, rfl, rel_well ew ⟨x1, y1, z1, h⟩ x1 y1 z⟩
/-- well[i] = e -/
theorem bwset (ha : GE X B E a .wl) (hb : GE X B E b (.rp (TI i))) (hv : GE X B E e (.rp (INTS P))) (hi : i = 0 ∨ i = 1 ∨ i = 2) (h : GB X B E rest N Rt)
    (has : ∀ v, assign (.Subscript a b p) X.env v = (do
      let ov ← holding [v] (eval a X.env)
      let iv ← holding [v, ov] (eval b X.env)
      standAt p
      holding [v, ov, iv] (setItem ov iv v)
      release [v, ov, iv] []) := by intro _; rfl)
    (hs : swapsWithSole [.Subscript a b p] e pos.line X.env = pure false := by rfl) (hw : swappedStores [.Subscript a b p] e X.env = pure none := by rfl)
    (h1 : (assignEach [.Subscript a b p] X.env).map (·.2) = [assign (.Subscript a b p) X.env] := by rfl) : GB X B E (.Assign [.Subscript a b p] e pos :: rest) N Rt :=
  pssI (pss_cons (ps_asg hv (pg_sub ha hb set_list has) hs hw h1) h) fun D σ H ⟨s, q1, q2⟩ => ⟨s, fun v H1 r ⟨z, _, ov⟩ => ⟨s.mono r, fun o H2 r2 ⟨w, ew, ho⟩ => ⟨(s.mono r).mono r2, fun y H3 r3 hy => by
    have s3 := ((s.mono r).mono r2).mono r3
    subst ov
    obtain ⟨xs, j, hx, hj, rr⟩ := well_set (B := B) (Bs.wl1 s3.rel w ew) ew hi z
    exact ⟨w, xs, i, j, ho, hy, hx, hj, s3.mono rr, fun E' σ' H' hN kp s' => q1 E' σ' H' hN ((((r.trans r2).trans r3).trans rr).kp.trans kp) s', q2⟩⟩⟩⟩
/-- well[i], name = a pair of ints -/
theorem bwpair (k : Nat) {x : Str} {kk : Nat} {py : Pos} (nd : X.N.Nodup) (hc : X.calm = true) (hv : GE X B E e (.rp (TUP X.K [INTS P, INTS Q]))) (ha : GE X B E a .wl) (hb : GE X B E b (.rp (TI i))) (hi : i = 0 ∨ i = 1 ∨ i = 2) [hE : SetE E k (.rp (INTS Q)) E1] (h : GB X B E1 rest N Rt)
    (hxi : X.N[k]? = some x := by rfl) (hx : Loc X.env.scope x := by first | exact Or.inl rfl | exact Or.inr rfl) (hf : X.fn x = true ∨ X.env.scope.names.lookup x = some .local := by first | exact .inl rfl | exact .inr rfl)
    (has : ∀ v, assign (.Subscript a b p) X.env v = (do
      let ov ← holding [v] (eval a X.env)
      let iv ← holding [v, ov] (eval b X.env)
      standAt p
      holding [v, ov, iv] (setItem ov iv v)
      release [v, ov, iv] []) := by intro _; rfl)
    (hs : swapsWithSole [.Tuple [.Subscript a b p, .Name x py] kk pt] e pos.line X.env = pure false := by rfl) (hw : swappedStores [.Tuple [.Subscript a b p, .Name x py] kk pt] e X.env = pure none := by rfl)
    (h1 : (assignEach [.Tuple [.Subscript a b p, .Name x py] kk pt] X.env).map (·.2) = [assign (.Tuple [.Subscript a b p, .Name x py] kk pt) X.env] := by rfl)
    (hs1 : (assignEach [.Subscript a b p, .Name x py] X.env).map (·.2) = assign (.Subscript a b p) X.env :: (assignEach [.Name x py] X.env).map (·.2) := by rfl)
    (hs2 : (assignEach [.Name x py] X.env).map (·.2) = assign (.Name x py) X.env :: (assignEach [] X.env).map (·.2) := by rfl) (hn : (assignEach [.Subscript a b p, .Name x py] X.env).length = 2 := by rfl) (hst : (assignEach [.Subscript a b p, .Name x py] X.env).findIdx? (·.1) = none := by rfl) :
    GB X B E (.Assign [.Tuple [.Subscript a b p, .Name x py] kk pt] e pos :: rest) N Rt :=
  pssI (pss_cons (ps_asg hv (pg_tup hc (pgs_cons (pg_sub ha hb set_list has) (pgs_cons (pg_name nd hxi hx hf) pgs_nil hs2) hs1) hn hst) hs hw h1) h) fun D σ H ⟨s, q1, q2⟩ => ⟨s, fun v H1 r ⟨t, xs, ev, ht, al⟩ => by
    cases al with
    | cons u1 t1 =>
      cases t1 with
      | cons u2 t2 =>
        cases t2
        obtain ⟨z1, _, e1⟩ := u1
        obtain ⟨z2, hz2, e2⟩ := u2
        subst e1 e2
        refine ⟨t, _, ev, ht, rfl, _, _, rfl, s.mono r, fun o H2 r2 ⟨w, ew, ho⟩ => ⟨(s.mono r).mono r2, fun y H3 r3 hy => ?_⟩⟩
        have s3 := ((s.mono r).mono r2).mono r3
        obtain ⟨ys, j, hx, hj, rr⟩ := well_set (B := B) (Bs.wl1 s3.rel w ew) ew hi z1
        refine ⟨w, ys, i, j, ho, hy, hx, hj, _, _, rfl, rfl, ?_, fun E' σ' H' hN kp s' => q1 E' σ' H' hN ((((r.trans r2).trans r3).trans rr).kp.trans kp) s', q2⟩
        rw [← hE.e]
        exact (s3.mono rr).set (o := .rp (INTS Q)) Rel.refl ⟨z2, hz2, rfl⟩ hE.l⟩
/-- divmod(e, n) -/
theorem gdivm (hm : X.mg "divmod" = none) (ha : GE X B E a (.rp (INTS P))) (hb : GE X B E b (.rp (TI j))) (hj : 0 < j ∧ j < 1073741824) (hg : Gl X "divmod" := by rfl) (hs : starEach [a, b] X.env = (false, eval a X.env) :: starEach [b] X.env := by rfl)
    (hs2 : starEach [b] X.env = (false, eval b X.env) :: starEach [] X.env := by rfl) (hp : (backTo pos (starEach [b] X.env)).any (·.1) = false := by rfl) : GE X B E (.Call (.Name "divmod" p) [a, b] [] pos) (.rp (TUP X.K [INTS AnyI, INTS (Lt0 j)])) :=
  peI (pe_callB call_divmod hg hm boot_divmod (acons ha (acons hb anil hs2) hs) (by decide) (by decide) hs hp) (callI fun H vs H2 Q _ _ ov q => by
    obtain ⟨v, u, rfl, ⟨z, _, rfl⟩, hu⟩ := outs2 ov
    obtain rfl : u = .int j := hu
    exact ⟨z, j, rfl, hj, fun t ht => q _ _ (Rel.new ht) ⟨t, _, rfl, .of upd_same, .cons ⟨_, trivial, rfl⟩ (.cons ⟨_, ⟨Int.emod_nonneg _ (by omega), Int.emod_lt_of_pos _ hj.1⟩, rfl⟩ .nil)⟩⟩)
end
end KG
end
section
set_option maxRecDepth 100000
set_option maxHeartbeats 2000000
/-! rows that change -/
namespace KG
open PySem PySem.Spec PyProof.Rows L2
theorem rows_set {H : Hp} {b : Addr} {r' : List Int} : ∀ {rows : List (List Int)} {bs : List Addr} {i : Nat}, RowsAt H rows bs → bs.Nodup → bs[i]? = some b → RowsAt (upd H b (.lst (r'.map V.int))) (rows.set i r') bs
  | _, _, _, .nil, _, e => by cases e
  | r :: rows, c :: bs, 0, .cons q t, nd, e => by
    cases e
    obtain ⟨nc, nd2⟩ := List.nodup_cons.mp nd
    exact .cons upd_same (RowsAt.stab t fun d hd => upd_ne fun z => nc (by rw [← z]; exact hd))
  | r :: rows, c :: bs, i + 1, .cons q t, nd, e => by
    obtain ⟨nc, nd2⟩ := List.nodup_cons.mp nd
    have hb : b ∈ bs := List.mem_of_getElem? (by simpa using e)
    exact .cons (by rw [upd_ne fun z => nc (by rw [z]; exact hb)]; exact q) (rows_set t nd2 (by simpa using e))
section
variable {X : Cx} {B : Bs} {E E1 : List En} {a b c e : Expr} {rest : List Stmt} {pos p p2 p3 : Pos} {N : List En → Prop} {Rt : En → Prop} {R : List (List Int)} {row : List Int} {i j : Nat} {v : Int}
/-- rows[i][j] = v -/
theorem brset (k : Nat) {x : Str} (he : E[k]? = some (.mu (ROWS R))) (ha : GE X B E a (.rp (TI (i : Int)))) (hb : GE X B E b (.rp (TI (j : Int)))) (hv : GE X B E e (.rp (TI v))) (hr : R[i]? = some row) (hj : j < row.length) [hE : SetE E k (.mu (ROWS (R.set i (row.set j v)))) E1] (h : GB X B E1 rest N Rt)
    (hN : X.N[k]? = some x := by rfl) (hvi : Vis X.env.scope x := by first | exact Or.inl rfl | exact Or.inr (Or.inl rfl) | exact Or.inr (Or.inr rfl)) (hd : (x == ("__debug__" : Str)) = false := by decide) (hcd : (x == ("__classdict__" : Str)) = false := by decide) (hpl : PlainIx a := by intro _ _; rfl)
    (has : ∀ v, assign (.Subscript (.Subscript (.Name x p) a p2) b p3) X.env v = (do
      let ov ← holding [v] (eval (.Subscript (.Name x p) a p2) X.env)
      let iv ← holding [v, ov] (eval b X.env)
      standAt p3
      holding [v, ov, iv] (setItem ov iv v)
      release [v, ov, iv] []) := by intro _; rfl)
    (hs : swapsWithSole [.Subscript (.Subscript (.Name x p) a p2) b p3] e pos.line X.env = pure false := by rfl) (hw : swappedStores [.Subscript (.Subscript (.Name x p) a p2) b p3] e X.env = pure none := by rfl)
    (h1 : (assignEach [.Subscript (.Subscript (.Name x p) a p2) b p3] X.env).map (·.2) = [assign (.Subscript (.Subscript (.Name x p) a p2) b p3) X.env] := by rfl) : GB X B E (.Assign [.Subscript (.Subscript (.Name x p) a p2) b p3] e pos :: rest) N Rt :=
  pssI (pss_cons (ps_asg hv (pg_sub (pe_ix ix_list (pe_var hN hvi hd hcd) ha hpl) hb set_list has) hs hw h1) h) fun D σ H ⟨s, q1, q2⟩ => ⟨s, fun u H1 r ov => by
    have ov : u = .int v := ov
    subst ov
    obtain ⟨fp, w, hσ, ⟨l, bs, e1, e2, h3, h4, nd⟩, h0, k1⟩ := s.chg he
    subst e1 e2
    have nw : ∀ c ∈ l :: bs, some c ≠ B.w := fun c hc => Bs.new_ne (H := B.H0) Rel.refl (h0 c hc)
    refine ⟨.ref l, hσ, s.mono r, fun y H2 r2 oy => ?_⟩
    have r12 := r.trans r2
    have keep : ∀ H', Rel B.w H H' → H' l = some (.lst (bs.map V.ref)) ∧ RowsAt H' R bs := fun H' r' => ⟨r'.k l _ h3 (.inl (nw l List.mem_cons_self)), RowsAt.stab h4 fun c hc => by
      obtain ⟨z, hz⟩ := RowsAt.there h4 c hc
      rw [hz]
      exact r'.k c _ hz (.inl (nw c (List.mem_cons_of_mem _ hc)))⟩
    obtain ⟨g1, g2⟩ := keep H2 r12
    obtain ⟨d, hd', hdm, hdq⟩ := RowsAt.atI g2 (atI_nat hr)
    refine ⟨l, _, i, .ref d, rfl, oy, .of g1, hd', (s.mono r).mono r2, fun z H3 r3 oz => ?_⟩
    obtain ⟨g3, g4⟩ := keep H3 (r12.trans r3)
    obtain ⟨d2, hd2, _, hdq3⟩ := RowsAt.atI g4 (atI_nat hr)
    rw [hd'] at hd2
    cases hd2
    have hbi : bs[i]? = some d := by
      have hlen := Paired.length g2
      have hi : i < R.length := (List.getElem?_eq_some_iff.mp hr).1
      have hib : i < bs.length := by omega
      have e3 : (bs.map V.ref)[i]? = some (V.ref bs[i]) := by rw [List.getElem?_map, List.getElem?_eq_getElem hib] <;> rfl
      rw [atI_nat e3] at hd'
      have e4 : bs[i] = d := by injection hd' with z; injection z
      rw [List.getElem?_eq_getElem hib, e4]
    obtain ⟨nl, nd2⟩ := List.nodup_cons.mp nd
    have em : (row.map V.int).set j (.int v) = (row.set j v).map V.int := by rw [List.map_set]
    have kp : Kp H3 (upd H3 d (.lst ((row.set j v).map V.int))) := kp_mut hdq3 fun z => z
    refine ⟨d, _, j, j, rfl, oz, hdq3, ?_, ?_⟩
    · unfold ixN
      rw [List.length_map]
      simp
      omega
    · rw [em]
      refine ⟨?_, fun E' σ' H' hN kp' s' => q1 E' σ' H' hN (((r12.trans r3).kp.trans kp).trans kp') s', q2⟩
      rw [← hE.e]
      refine k1 H3 _ (ROWS (R.set i (row.set j v))) (r12.trans r3) (fun c hc => upd_ne fun z => hc (by rw [z]; exact List.mem_cons_of_mem _ hdm)) kp ⟨l, bs, rfl, rfl, ?_, rows_set g4 nd2 hbi, nd⟩
      rw [upd_ne fun z => nl (by rw [z]; exact hdm)]
      exact g3⟩
end
end KG
end
section
set_option maxRecDepth 100000
set_option maxHeartbeats 2000000
/-! a comprehension that makes lists -/
namespace KG
open PySem PySem.Spec PyProof.Rows L2
section
variable {X : Cx} {B : Bs} {E E1 : List En} {tg iter elt : Expr} {ifs : List Expr} {rest : List Stmt} {pos : Pos}
theorem lcRI {α : Type} {Ew : List En} {items : List α} {y : α → En} {T : α → List En} {is : α → List Nat} {r : α → List Int} (vs : List Nat) (hE : wipeE E vs = Ew) (his : ∀ x ∈ items, ∀ k ∈ is x, k ∈ vs) (hz : items.length ≤ 1000) :
    ∀ σ H Q, tS B E (.mu (ROWS (items.map r))) σ H Q → tLc (tIc B E (items.map y)) (fun v σ H Q => ∃ x, x ∈ items ∧ tG B Ew (y x) (T x) (is x) v σ H Q) (fun σ H Q => ∃ x, x ∈ items ∧ tT B (T x) true σ H Q) (fun σ H Q => ∃ x, (x ∈ items ∧ true = true) ∧ tS B (T x) (.mu (LS ((r x).map TI))) σ H Q) vs σ H Q := by
  intro σ H Q ⟨s, q⟩
  refine ⟨s, fun J H1 G r1 st wk D hD => ?_⟩
  have sw := sn_wipe (s.mono r1) vs
  rw [hE] at sw
  have r0 := s.rel.trans r1
  have w1 := Bs.wl1 r0
  have hlen : (items.map y).length = items.length := List.length_map ..
  have lenB : ∀ {bs : List Addr} {k : Nat} {H' : Hp}, k < items.length → RowsAt H' ((items.take k).map r) bs → bs.length < sizeLine := fun {bs k H'} hk h => by
    have h1 := Paired.length h
    rw [List.length_map, List.length_take] at h1
    have : (1000 : Nat) < sizeLine := by decide
    omega
  have keep : ∀ {H' H'' : Hp} {bs : List Addr} {rows : List (List Int)}, Rel B.w H' H'' → (∀ b ∈ D :: bs, H1 b = none) → H' D = some (.lst (bs.map V.ref)) → RowsAt H' rows bs → H'' D = some (.lst (bs.map V.ref)) ∧ RowsAt H'' rows bs := fun {H' H'' bs rows} r' hf h1 h2 => by
    have nw : ∀ c ∈ D :: bs, some c ≠ B.w := fun c hc => Bs.new_ne r0 (hf c hc)
    refine ⟨r'.k D _ h1 (.inl (nw D List.mem_cons_self)), RowsAt.stab h2 fun c hc => ?_⟩
    obtain ⟨z, hz⟩ := RowsAt.there h2 c hc
    rw [hz]
    exact r'.k c _ hz (.inl (nw c (List.mem_cons_of_mem _ hc)))
  refine lc_it (g := fun v σ H Q => ∃ x, x ∈ items ∧ tG B Ew (y x) (T x) (is x) v σ H Q) (tt := fun σ H Q => ∃ x, x ∈ items ∧ tT B (T x) true σ H Q) (te := fun σ H Q => ∃ x, (x ∈ items ∧ true = true) ∧ tS B (T x) (.mu (LS ((r x).map TI))) σ H Q) (vs := vs) (σ := σ) (Qd := fun H => Q (.ref D) H) wk
    (fun k H' => Rel B.w H1 H' ∧ ∃ bs : List Addr, H' D = some (.lst (bs.map V.ref)) ∧ RowsAt H' ((items.take k).map r) bs ∧ (D :: bs).Nodup ∧ ∀ b ∈ D :: bs, H1 b = none) ⟨Rel.new hD, [], upd_same, by rw [List.take_zero]; exact .nil, by simp, fun b hb => by rw [List.mem_singleton.mp hb]; exact hD⟩ (fun k H' _ h => st H' h.1) (fun k v H2 H3 hk h hyy => ?_) fun H' h => ?_
  · obtain ⟨r2, bs, hacc, hall, nd, hf⟩ := h
    obtain ⟨rn, yv, hy, hv⟩ := hyy
    rw [hlen] at hk
    have hx := List.getElem?_eq_getElem hk
    have hmem : items[k] ∈ items := List.getElem_mem hk
    rw [List.getElem?_map, hx] at hy
    have ey : y items[k] = yv := Option.some.inj hy
    subst ey
    have r3 : Rel B.w H1 H3 := r2.trans rn.ofNone
    obtain ⟨hacc3, hall3⟩ := keep rn.ofNone hf hacc hall
    refine ⟨items[k], hmem, sw.mono r3, hv, fun σ2 s2 ag l2 => ⟨?_, items[k], hmem, s2, fun H4 r4 => ?_⟩⟩
    · refine (wipe_eq (l2.trans (wipe_length σ _)) fun i hi => ?_)
      rw [ag i fun z => hi (his _ hmem i z), wipe_out hi]
    · obtain ⟨hacc4, hall4⟩ := keep r4 hf hacc3 hall3
      have take1 : items.take (k + 1) = items.take k ++ [items[k]] := by rw [List.take_succ, hx] <;> rfl
      refine ⟨items[k], ⟨hmem, rfl⟩, s2.mono r4, fun u H5 r5 ⟨fq, ⟨b, xs, e1, e2, h5, h6⟩, hfr⟩ => ?_⟩
      subst e1 e2
      have hb4 : H4 b = none := hfr b List.mem_cons_self
      obtain ⟨hacc5, hall5⟩ := keep r5 hf hacc4 hall4
      have hbn : b ∉ D :: bs := fun z => by
        rcases List.mem_cons.mp z with rfl | z
        · rw [hb4] at hacc4
          cases hacc4
        · obtain ⟨w', hw'⟩ := RowsAt.there hall4 b z
          rw [hb4] at hw'
          cases hw'
      have hb1 : H1 b = none := (r3.trans r4).free w1 hb4
      obtain ⟨nD, ndb⟩ := List.nodup_cons.mp nd
      have hbD : b ≠ D := fun z => hbn (by rw [z]; exact List.mem_cons_self)
      have hbb : b ∉ bs := fun z => hbn (List.mem_cons_of_mem _ z)
      refine ⟨bs.map V.ref, hacc5, by rw [List.length_map]; exact lenB hk hall5, ((r3.trans r4).trans r5).mut hD w1, bs ++ [b], ?_, ?_, ?_, fun c hc => ?_⟩
      · rw [List.map_append]
        exact upd_same
      · rw [take1, List.map_append]
        refine prd_app (RowsAt.stab hall5 fun c hc => upd_ne fun z => nD (by rw [← z]; exact hc)) (.cons ?_ .nil)
        rw [upd_ne hbD, h5, alls_ints h6]
      · rw [List.nodup_cons, List.nodup_append]
        refine ⟨fun z => ?_, ndb, by simp, fun a ha c hc => ?_⟩
        · rcases List.mem_append.mp z with z | z
          · exact nD z
          · exact hbD (List.mem_singleton.mp z).symm
        · rw [List.mem_singleton.mp hc]
          exact fun z => hbb (by rw [← z]; exact ha)
      · rcases List.mem_cons.mp hc with rfl | hc
        · exact hD
        · rcases List.mem_append.mp hc with hc | hc
          · exact hf c (List.mem_cons_of_mem _ hc)
          · rw [List.mem_singleton.mp hc]
            exact hb1
  · obtain ⟨r2, bs, hacc, hall, nd, hf⟩ := h
    rw [hlen, List.take_length] at hall
    exact q (.ref D) H' (r1.trans r2) ⟨D :: bs, ⟨D, bs, rfl, rfl, hacc, hall, nd⟩, fun a ha => r1.free (Bs.wl1 s.rel) (hf a ha)⟩
end
end KG
namespace KG
open PySem PySem.Spec PyProof.Rows L2
section
variable {X : Cx} {B : Bs} {E E1 : List En} {tg iter elt : Expr} {rest : List Stmt} {pos : Pos}
theorem glcR {α : Type} {Ew : List En} {items : List α} {y : α → En} {T : α → List En} {is : α → List Nat} {r : α → List Int} {scope : Scope} (own : List (Str × Nat)) [hW : WipeE E own Ew] (hc : X.calm = true) (hN : X.N.Nodup) (hi : GIc X B E tg iter (items.map y)) (ok : BlkOk X.N X.env.scope scope own)
    (hg : ∀ x ∈ items, ∀ (s : Shared) (H : Hp) (C : Addr) (cl : List (Str × Addr)) (fp : List Addr), GG (X.blk s H scope (compEnvC scope cl C X.env) fp) B Ew tg (y x) (T x) (is x)) (his : ∀ x ∈ items, ∀ k ∈ is x, k ∈ own.map (·.2))
    (he : ∀ x ∈ items, ∀ (s : Shared) (H : Hp) (C : Addr) (cl : List (Str × Addr)) (fp : List Addr), GE (X.blk s H scope (compEnvC scope cl C X.env) fp) B (T x) elt (.mu (LS ((r x).map TI)))) (hz : items.length ≤ 1000)
    (hs : ∀ x, foldedSetIterable iter X.env x = pure x := by intro _; rfl) : GE X B E (.ListComp elt [⟨tg, iter, [], 0⟩] scope pos) (.mu (ROWS (items.map r))) :=
  peI (pe_lc hc hN hi ok (fun s H C cl fp => pgF (Φ := fun x => x ∈ items) fun x hx => hg x hx s H C cl fp) (fun s H C cl fp => ptsF (Φ := fun x => x ∈ items) (t := fun x => tT B (T x) true) fun x hx => pts0)
    (fun s H C cl fp => peF (Φ := fun x => x ∈ items ∧ true = true) fun x hx => he x hx.1 s H C cl fp) hs) (lcRI (own.map (·.2)) hW.e his hz)
theorem bsetLcR {α : Type} {Ew : List En} {items : List α} {y : α → En} {T : α → List En} {is : α → List Nat} {r : α → List Int} {scope : Scope} (k : Nat) {nm : Str} {py spos : Pos} {N : List En → Prop} {Rt : En → Prop} (own : List (Str × Nat)) [hW : WipeE E own Ew] [hE : SetE E k (.mu (ROWS (items.map r))) E1] (h : GB X B E1 rest N Rt) (hc : X.calm = true) (hN : X.N.Nodup) (hi : GIc X B E tg iter (items.map y)) (ok : BlkOk X.N X.env.scope scope own)
    (hg : ∀ x ∈ items, ∀ (s : Shared) (H : Hp) (C : Addr) (cl : List (Str × Addr)) (fp : List Addr), GG (X.blk s H scope (compEnvC scope cl C X.env) fp) B Ew tg (y x) (T x) (is x)) (his : ∀ x ∈ items, ∀ k ∈ is x, k ∈ own.map (·.2))
    (he : ∀ x ∈ items, ∀ (s : Shared) (H : Hp) (C : Addr) (cl : List (Str × Addr)) (fp : List Addr), GE (X.blk s H scope (compEnvC scope cl C X.env) fp) B (T x) elt (.mu (LS ((r x).map TI)))) (hz : items.length ≤ 1000)
    (hyl : X.env.scope.names.lookup nm = some .local := by rfl) (hy : X.N[k]? = some nm := by rfl) (hk : X.env.scope.kind = .function := by rfl) (hln : (py.line == pos.line) = true := by rfl) (hnn : (scope.names.any fun (n, k) => n == nm && (k == .local || k == .cell)) = false := by decide +kernel)
    (hs : ∀ x, foldedSetIterable iter X.env x = pure x := by intro _; rfl) : GB X B E (.Assign [.Name nm py] (.ListComp elt [⟨tg, iter, [], 0⟩] scope pos) spos :: rest) N Rt :=
  pssI (pss_cons (ps_setLc (i := k) hc hN hy hyl (sw_true hk hyl hln hnn) hi ok (fun s H C cl fp => pgF (Φ := fun x => x ∈ items) fun x hx => hg x hx s H C cl fp) (fun s H C cl fp => ptsF (Φ := fun x => x ∈ items) (t := fun x => tT B (T x) true) fun x hx => pts0)
    (fun s H C cl fp => peF (Φ := fun x => x ∈ items ∧ true = true) fun x hx => he x hx.1 s H C cl fp) hs) h) fun D σ H hh => by
    obtain ⟨s, q1, q2⟩ := hh
    have go := lcRI (B := B) (Ew := Ew) (items := items) (y := y) (T := T) (is := is) (r := r) (own.map Prod.snd) hW.e his hz σ H (fun x H1 => gName k x σ H1 fun σ2 H2 => tB' B E1 N Rt D σ2 H2)
    refine go ⟨s, fun v H1 r' ov => ?_⟩
    have s1 := s.set (o := .mu (ROWS (items.map r))) r' ov hE.l
    rw [hE.e] at s1
    exact ⟨s1, fun E' σ' H' hN kp s' => q1 E' σ' H' hN (r'.kp.trans kp) s', q2⟩
end
end KG
end
section
set_option maxRecDepth 100000
set_option maxHeartbeats 2000000
/-! x.append(y.pop(i)) -/
namespace KG
open PySem PySem.Spec PyProof.Rows L2
theorem prd_erase {α β : Type} {F : α → β → Prop} {l : List α} {m : List β} (h : Paired F l m) : ∀ i : Nat, Paired F (l.eraseIdx i) (m.eraseIdx i) := by
  induction h with
  | nil => intro i; exact .nil
  | cons q t ih =>
    intro i
    cases i with
    | zero => exact t
    | succ i => exact .cons q (ih i)
section
variable {X : Cx} {B : Bs} {E : List En} {e : Expr} {rest : List Stmt} {pos p p2 apos cpos apos2 cpos2 : Pos} {N : List En → Prop} {Rt : En → Prop} {Rs Ss : List Rp} {E1 : Nat → List En} {E2 : Nat → Rp → List En}
theorem bappPop (k l : Nat) {x y : Str} (hkl : l ≠ k) (he : E[k]? = some (.mu (LS Rs))) (he2 : E[l]? = some (.mu (LS Ss))) (h1 : GE X B E e (.rp (INTS (Lt0 (Ss.length : Int))))) [hE : ∀ i, SetE E l (.mu (LS (Ss.eraseIdx i))) (E1 i)] [hE2 : ∀ i R, SetE (E1 i) k (.mu (LS (Rs ++ [R]))) (E2 i R)]
    (h : ∀ i R, Ss[i]? = some R → GB X B (E2 i R) rest N Rt) (hz : Rs.length ≤ 1000) (hz2 : Ss.length ≤ 1000) (hN : X.N[k]? = some x := by rfl) (hv : Vis X.env.scope x := by first | exact Or.inl rfl | exact Or.inr (Or.inl rfl) | exact Or.inr (Or.inr rfl)) (hd : (x == ("__debug__" : Str)) = false := by decide)
    (hcd : (x == ("__classdict__" : Str)) = false := by decide) (hN2 : X.N[l]? = some y := by rfl) (hv2 : Vis X.env.scope y := by first | exact Or.inl rfl | exact Or.inr (Or.inl rfl) | exact Or.inr (Or.inr rfl)) (hd2 : (y == ("__debug__" : Str)) = false := by decide)
    (hcd2 : (y == ("__classdict__" : Str)) = false := by decide) (hbase : attributeBase (.Name x p) "append" X.env (eval (.Name x p) X.env) = eval (.Name x p) X.env := by rfl) (hbase2 : attributeBase (.Name y p2) "pop" X.env (eval (.Name y p2) X.env) = eval (.Name y p2) X.env := by rfl)
    (hfew : ((backTo cpos (starEach [.Call (.Attribute (.Name y p2) "pop" apos2) [e] [] cpos2] X.env)).all (fun x => !x.1) && (backToKw cpos (keywordEach [] X.env)).all (fun x => x.1.isSome) && decide ([Expr.Call (.Attribute (.Name y p2) "pop" apos2) [e] [] cpos2].length + ([] : List Keyword).length + (if ([] : List Keyword).isEmpty then 0 else 1) < 30)) = true := by rfl)
    (hfew2 : ((backTo cpos2 (starEach [e] X.env)).all (fun x => !x.1) && (backToKw cpos2 (keywordEach [] X.env)).all (fun x => x.1.isSome) && decide ([e].length + ([] : List Keyword).length + (if ([] : List Keyword).isEmpty then 0 else 1) < 30)) = true := by rfl)
    (hline : (apos.endLine == cpos.line) = true := by rfl) (hline2 : (apos2.endLine == cpos2.line) = true := by rfl) (hs : starEach [.Call (.Attribute (.Name y p2) "pop" apos2) [e] [] cpos2] X.env = (false, eval (.Call (.Attribute (.Name y p2) "pop" apos2) [e] [] cpos2) X.env) :: starEach [] X.env := by rfl) (hsp : starEach [e] X.env = (false, eval e X.env) :: starEach [] X.env := by rfl)
    (hs2 : swapsWith (.Call (.Attribute (.Name x p) "append" apos) [.Call (.Attribute (.Name y p2) "pop" apos2) [e] [] cpos2] [] cpos) none pos.line X.env = pure false := by rfl) :
    GB X B E (.Expr (.Call (.Attribute (.Name x p) "append" apos) [.Call (.Attribute (.Name y p2) "pop" apos2) [e] [] cpos2] [] cpos) pos :: rest) N Rt :=
  pssI (pss_cons (ps_expr (pe_bm PySem.F.plainAttrs_list PySem.F.slot_list_append PySem.F.type_list_append mt_append (pe_var hN hv hd hcd) (pa_cons (pe_bm PySem.F.plainAttrs_list PySem.F.slot_list_pop PySem.F.type_list_pop mt_popAt (pe_var hN2 hv2 hd2 hcd2) (pa_cons h1 pa_nil hsp) hbase2 hfew2 hline2 hsp rfl) pa_nil hs) hbase hfew hline hs rfl) hs2)
    (pssF (α := Nat × Rp) (Φ := fun q => Ss[q.1]? = some q.2) (t := fun q => tB' B (E2 q.1 q.2) N Rt) fun q hq => h q.1 q.2 hq)) fun D σ H ⟨s, q1, q2⟩ => by
    obtain ⟨fp, v, hσ, ⟨a, xs, e1, e2, h3, h4⟩, h0, _⟩ := s.chg he
    obtain ⟨fp2, v2, hσ2, ⟨b, ys, e3, e4, h5, h6⟩, h02, k2⟩ := s.chg he2
    subst e1 e2 e3 e4
    refine ⟨.ref a, hσ, .inl ⟨rfl, xs, .of h3⟩, .ref b, hσ2, .inl ⟨rfl, ys, .of h5⟩, s, fun u H1 r ⟨z, ⟨hz0, hz1⟩, hu⟩ => ?_⟩
    subst hu
    obtain ⟨i, rfl⟩ : ∃ i : Nat, z = (i : Int) := ⟨z.toNat, by omega⟩
    have hi : i < Ss.length := by omega
    have lenS := Paired.length h6
    have bw : some b ≠ B.w := Bs.new_ne (H := B.H0) Rel.refl (h02 b (List.mem_singleton.mpr rfl))
    have g5 : H1 b = some (.lst ys) := r.k b _ h5 (.inl bw)
    obtain ⟨w, hw, hR⟩ := prd_get h6 (List.getElem?_eq_getElem hi)
    have kp : Kp H1 (upd H1 b (.lst (ys.eraseIdx i))) := kp_mut g5 fun z => z
    have s2 : Sn B (E.set l (.mu (LS (Ss.eraseIdx i)))) σ (upd H1 b (.lst (ys.eraseIdx i))) := k2 H1 _ (LS (Ss.eraseIdx i)) r one_upd kp ⟨b, _, rfl, rfl, upd_same, prd_erase (h6.mono (r.kp.trans kp)) i⟩
    have he' : (E.set l (.mu (LS (Ss.eraseIdx i))))[k]? = some (.mu (LS Rs)) := by rw [List.getElem?_set_ne hkl, he]
    obtain ⟨fp3, v3, hσ3, ⟨a3, xs3, e5, e6, h7, h8⟩, h03, k3⟩ := s2.chg he'
    subst e5 e6
    rw [hσ] at hσ3
    cases hσ3
    have lenR := Paired.length h8
    have line : ((1000 : Nat) : Int) < 2 ^ 63 := by decide
    refine ⟨b, ys, i, i, w, rfl, rfl, g5, by omega, by omega, ?_, hw, ?_⟩
    · rw [seqIndex_of (by omega) (by omega)]
      simp
    · have kp3 : Kp (upd H1 b (.lst (ys.eraseIdx i))) (upd (upd H1 b (.lst (ys.eraseIdx i))) a (.lst (xs3 ++ [w]))) := kp_mut h7 fun z => z
      refine ⟨a, xs3, w, rfl, rfl, h7, lineL (by omega), (i, Ss[i]), List.getElem?_eq_getElem hi, ?_, fun E' σ' H' hN kp' s' => q1 E' σ' H' hN (((r.kp.trans kp).trans kp3).trans kp') s', q2⟩
      have e2 : (E.set l (.mu (LS (Ss.eraseIdx i)))).set k (.mu (LS (Rs ++ [Ss[i]]))) = E2 i Ss[i] := by rw [(hE i).e, (hE2 i Ss[i]).e]
      rw [← e2]
      exact k3 _ _ (LS (Rs ++ [Ss[i]])) Rel.refl one_upd kp3 ⟨a, _, rfl, rfl, upd_same, prd_app (h8.mono kp3) (.cons (Rp.mono _ ((r.kp.trans kp).trans kp3) hR) .nil)⟩
end
end KG
end
section
set_option maxRecDepth 100000
set_option maxHeartbeats 2000000
/-! the script; a well made; a loop over a list that nobody holds -/
namespace KG
open PySem PySem.Spec PyProof.Rows L2
/-- the script: a list that never changes -/
def SCR (K : PySem.W.Frag) (ns : List Int) : Rp := ⟨fun v H => ∃ a, v = .ref a ∧ ((∃ o, H a = some (.frz o (.lst (ns.map V.int)))) ∨ ∀ H', SqL K H' a (ns.map V.int)), fun k ⟨a, e, h⟩ => ⟨a, e, h.elim (fun ⟨o, h⟩ => .inl ⟨o, k a _ h trivial⟩) .inr⟩⟩
theorem scr_sql {K : PySem.W.Frag} {ns : List Int} {v : V} {H : Hp} (h : (SCR K ns).p v H) : ∃ a, v = .ref a ∧ SqL K H a (ns.map V.int) := by
  obtain ⟨a, e, h⟩ := h
  refine ⟨a, e, ?_⟩
  rcases h with ⟨o, h⟩ | h
  · exact .inl (.inr ⟨o, h⟩)
  · exact h H
theorem szS {K : PySem.W.Frag} {ns : List Int} : SzO K (.rp (SCR K ns)) ns.length := fun B H v H2 h => by
  obtain ⟨a, e, h⟩ := scr_sql (H := H2) h
  exact ⟨a, _, e, .inl h, by rw [List.length_map]⟩
/-- three ints -/
def WELL : Mu := ⟨fun fp v H => ∃ a, ∃ x y z : Int, fp = [a] ∧ v = .ref a ∧ H a = some (.lst [.int x, .int y, .int z]),
  fun ⟨a, x, y, z, e1, e2, h⟩ k kp => ⟨a, x, y, z, e1, e2, by rw [k a (by rw [e1]; exact List.mem_cons_self)]; exact h⟩,
  fun ⟨a, x, y, z, e1, e2, h⟩ b hb => by
    rw [e1] at hb
    rw [List.mem_singleton.mp hb, h]
    exact fun z => nomatch z⟩
def En.flat : En → Bool
  | .no => true
  | .rp _ => true
  | .al _ => true
  | .wl => true
  | _ => false
section
variable {X : Cx} {B : Bs} {E E1 : List En} {a b c e tg : Expr} {es rest2 : List Expr} {ss rest body : List Stmt} {pos p : Pos} {o : En} {i j : Int} {P Q : Int → Prop} {N N1 : List En → Prop} {Rt : En → Prop} {ns : List Int} {Rs : List Rp} {R : Rp}
theorem Sn.flat {B B' : Bs} {σ : L2.St} {H : Hp} (s : Sn B E σ H) (hf : E.all En.flat = true) (hw : B'.w = B.w) (r : Rel B'.w B'.H0 H) : Sn B' E σ H := by
  have fl : ∀ (i : Nat) (o : En), E[i]? = some o → o.flat = true := fun i o e => List.all_eq_true.mp hf o (List.mem_of_getElem? e)
  refine ⟨r, ⟨fun _ => [], fun i o e t => ?_, fun i j M N hij ei ej => absurd (fl i _ ei) (fun z => nomatch z)⟩, s.len⟩
  obtain ⟨v, fp, hv, hs⟩ := s.get e t
  refine ⟨v, hv, ?_⟩
  have := fl i o e
  cases o with
  | no => trivial
  | rp R => exact hs
  | rm M => cases this
  | mu M => cases this
  | al M => trivial
  | wl =>
    obtain ⟨a, e1, e2⟩ := hs
    exact ⟨a, hw.trans e1, e2⟩
theorem gixS (ha : GE X B E a (.rp (SCR X.K ns))) (hb : GE X B E b (.rp (TI i))) {z : Int} (h : atI ns i = some z) (hs : PlainIx b := by intro _ _; rfl) : GE X B E (.Subscript a b pos) (.rp (TI z)) :=
  peI (pe_ix ix_list ha hb hs) (two fun H x y H2 Q _ _ ox oy q => by
    obtain ⟨p, ep, hp⟩ := scr_sql (H := H2) ox
    exact ⟨p, _, i, .int z, ep, oy, hp, by rw [atI_map, h] <;> rfl, q _ H2 Rel.refl rfl⟩)
theorem gslS {lo hi : Option Expr} {l u : Option Int} {p2 : Pos} (ha : GE X B E a (.rp (SCR X.K ns))) (hl : PO X lo (tO B E l)) (hu : PO X hi (tO B E u)) : GE X B E (.Subscript a (.Slice lo hi none p2) pos) (.mu (LS ((cutR ns l u).map TI))) :=
  peI (pe_slice sl_list ha hl hu) (slI fun H x H2 Q r0 r1 ox q => by
    obtain ⟨p, ep, hp⟩ := scr_sql (H := H2) ox
    exact ⟨p, _, ep, hp, fun t ht => q _ _ (Rel.new ht) ⟨[t], ⟨t, _, rfl, rfl, upd_same, by
      have e : cutV (ns.map V.int) l u = (cutR ns l u).map V.int := by
        unfold cutV cutR
        rw [List.length_map, ← List.map_drop, ← List.map_take]
      rw [e]
      exact ints_alls _⟩, fun b hb => by rw [List.mem_singleton.mp hb]; exact ht⟩⟩)
/-- a list that was made just now, walked -/
def tIt (K : PySem.W.Frag) (B : Bs) (E : List En) (Rs : List Rp) : L2.TI := fun σ H R => Sn B E σ H ∧ ∀ (a : Addr) (xs : List V) (H1 : Hp), Rel B.w H H1 → H1 a = some (.lst xs) → H a = none → Alls Rs xs H1 → R (Itl K a) H1
theorem gi_tmp (h : GE X B E e (.mu (LS Rs))) : PI X tg e (tIt X.K B E Rs) :=
  piI (pi_list h) fun σ H R ⟨s, q⟩ => ⟨s, fun v H1 r ⟨fp, ⟨a, xs, e1, ev, h1, h2⟩, hw⟩ => by
    subst e1
    exact ⟨a, ev, ⟨xs, .of h1⟩, q a xs H1 r h1 (hw a (List.mem_singleton.mpr rfl)) h2⟩⟩
theorem bforT {E0 : List En} (is : List Nat) (Pv : Nat → List En → Prop) (hc : X.calm = true) (hp : PassesOwn (model X.prog X.w) X.A X.env X.xe) (he : GE X B E e (.mu (LS Rs))) (hwk : ∀ (i : Nat) (o : En), E0[i]? = some o → o.tr = true → E[i]? = some o) (hl : E0.length = E.length) (h0 : Pv 0 E0) (hfl : ∀ k E', Pv k E' → E'.all En.flat = true)
    (hb : ∀ (B' : Bs) k R E', Rs[k]? = some R → Pv k E' → ∃ E2, GG X B' E' tg (.rp R) E2 is ∧ GB X B' E2 body (Pv (k + 1)) (fun _ => False)) (h : ∀ E', Pv Rs.length E' → GB X B E' rest N Rt) (hs : ∀ x, foldedSetIterable e X.env x = pure x := by intro _; rfl) : GB X B E (.For tg e body [] pos :: rest) N Rt := by
  let Φ : Bs × Nat × Rp × List En × List En → Prop := fun q => (Rs[q.2.1]? = some q.2.2.1 ∧ Pv q.2.1 q.2.2.2.1) ∧ GG X q.1 q.2.2.2.1 tg (.rp q.2.2.1) q.2.2.2.2 is ∧ GB X q.1 q.2.2.2.2 body (Pv (q.2.1 + 1)) (fun _ => False)
  refine bcons (N1 := Pv Rs.length) (psI (ps_for hp hc (gi_tmp he) (pgF (Φ := Φ) (t := fun q => tG q.1 q.2.2.2.1 (.rp q.2.2.1) q.2.2.2.2 is) fun q hq => hq.2.1)
    (pssF (Φ := Φ) (t := fun q => tB' q.1 q.2.2.2.2 (Pv (q.2.1 + 1)) (fun _ => False)) fun q hq => hq.2.2) hs) fun D σ H ⟨s, q1, q2⟩ => ⟨s, fun a xs H1 r1 h1 hn al => ?_⟩) h
  have aw : some a ≠ B.w := Bs.new_ne s.rel hn
  have w1 : ∀ b, B.w = some b → well b H1 := Bs.wl1 (s.rel.trans r1)
  have s1 : Sn B E0 σ H1 := (s.mono r1).weak (by rw [(s.mono r1).len, hl]) fun i o e t => ⟨hwk i o e t, rfl⟩
  have s2 : Sn ⟨H1, B.w, w1⟩ E0 σ H1 := s1.flat (hfl 0 E0 h0) rfl Rel.refl
  have hlen := Paired.length al
  refine for_it (g := fun v σ H Q => ∃ q, Φ q ∧ tG q.1 q.2.2.2.1 (.rp q.2.2.1) q.2.2.2.2 is v σ H Q) (tb := fun D σ H => ∃ q, Φ q ∧ tB' q.1 q.2.2.2.2 (Pv (q.2.1 + 1)) (fun _ => False) D σ H) (D := D)
    (walk_list (K := X.K) (a := a) (xs := xs))
    (fun k σ' H' => ∃ E', Pv k E' ∧ Sn ⟨H1, B.w, w1⟩ E' σ' H') ⟨E0, h0, s2⟩ (fun k σ' H' _ ⟨E', hv, s'⟩ => .of (s'.rel.k a _ h1 (.inl aw))) (fun k v σ' H2 H3 hk hh hy' => ?_) fun σ' H' ⟨E', hv, s'⟩ => ?_
  · obtain ⟨E', hv, s'⟩ := hh
    obtain ⟨e1, e2⟩ := hy'
    subst e1
    have hk' : k < Rs.length := by omega
    obtain ⟨x', hx, hR⟩ := prd_get al (List.getElem?_eq_getElem hk')
    rw [e2] at hx
    cases hx
    obtain ⟨E2, g1', g2'⟩ := hb ⟨H1, B.w, w1⟩ k Rs[k] E' (List.getElem?_eq_getElem hk') hv
    refine ⟨⟨_, k, Rs[k], E', E2⟩, ⟨⟨List.getElem?_eq_getElem hk', hv⟩, g1', g2'⟩, s', Rp.mono _ s'.rel.kp hR, fun σ2 s2 _ _ => ⟨⟨_, k, Rs[k], E', E2⟩, ⟨⟨List.getElem?_eq_getElem hk', hv⟩, g1', g2'⟩, s2, fun E3 σ3 H4 hN kp4 s4 => ⟨E3, hN, s4⟩, fun _ _ _ z _ _ => z.elim⟩⟩
  · rw [← hlen] at hv
    exact q1 E' σ' H' hv (r1.kp.trans s'.rel.kp) (s'.flat (hfl _ E' hv) rfl ((s.rel.trans r1).trans s'.rel))
/-! ### tests that are not known -/
theorem gifX (h : GTX X B E c) (h1 : GE X B E a o) (h2 : GE X B E b o) : GE X B E (.IfExp c a b pos) o :=
  peI (pe_ifExp h h1 h2) fun σ H Q ⟨s, q⟩ => ⟨s, fun d H2 r => by
    cases d with
    | true => exact ⟨s.mono r, fun v H3 r3 ov => q v H3 (r.trans r3) (En.out_back ov s.rel r)⟩
    | false => exact ⟨s.mono r, fun v H3 r3 ov => q v H3 (r.trans r3) (En.out_back ov s.rel r)⟩⟩
theorem gwo1X (h : GTX X B E a) : GWX X B E (.BoolOp .Or [a] pos) := pw_or1 h
theorem gworX (h : GTX X B E a) (h2 : GWX X B E (.BoolOp .Or (b :: rest2) pos)) : GWX X B E (.BoolOp .Or (a :: b :: rest2) pos) :=
  pwI (pw_or h h2) fun σ H Q ⟨s, q⟩ => ⟨s, fun d H2 r => by
    cases d with
    | true => exact q true H2 r
    | false => exact ⟨s.mono r, fun b' H3 r3 => q b' H3 (r.trans r3)⟩⟩
theorem gworV {d1 d2 : Bool} (h : GE X B E a (.rp (TBl d1))) (h2 : d1 = false → GE X B E (.BoolOp .Or (b :: rest2) pos) (.rp (TBl d2))) : GE X B E (.BoolOp .Or (a :: b :: rest2) pos) (.rp (TBl (d1 || d2))) :=
  peI (pe_or h (peP h2)) fun σ H Q ⟨s, q⟩ => ⟨s, fun v H2 r ov => ⟨d1, ov, by
    cases d1 with
    | true => exact q _ H2 r rfl
    | false => exact ⟨rfl, s.mono r, fun u H3 r3 ou => q u H3 (r.trans r3) ou⟩⟩⟩
theorem gabsP (hm : X.mg "abs" = none) (ha : GE X B E e (.rp (INTS P))) (hg : Gl X "abs" := by rfl) (hs : starEach [e] X.env = (false, eval e X.env) :: starEach [] X.env := by rfl) : GE X B E (.Call (.Name "abs" p) [e] [] pos) (.rp (INTS AnyI)) :=
  peI (pe_callB call_abs hg hm boot_abs (acons ha anil hs) (by decide) (by decide) hs rfl) (callI fun H vs H2 Q _ _ ov q => by
    obtain ⟨v, rfl, z, hz, hv⟩ := outs1 ov
    exact ⟨z, by rw [hv], q _ H2 Rel.refl ⟨_, trivial, rfl⟩⟩)
/-! ### a well made in place, handed to a def -/
theorem rel_made {w : Option Addr} {H H1 H' : Hp} {a : Addr} (r1 : Rel w H H1) (hn : H a = none) (r : Rel (some a) H1 H') : Rel w H H' := by
  refine ⟨fun b o e c => r.k b o (r1.k b o e c) (.inl fun z => ?_), fun b eb hb => ?_⟩
  · cases z
    rw [hn] at e
    cases e
  · obtain ⟨x, y, z, h⟩ := r1.wl b eb hb
    refine ⟨x, y, z, r.k b _ h (.inl fun q => ?_)⟩
    cases q
    obtain ⟨_, _, _, h2⟩ := hb
    rw [hn] at h2
    cases h2
theorem gclN {x : Str} {k j : Nat} {Fm : Option Addr → List En → En → Prop} (c : C8.Cal X.prog X.w X.K X.mg X.base k x (PM Fm) []) (hr : Room j X.A) (ha : GE X B E e (.mu WELL)) (hF : ∀ a, Fm (some a) [.wl] (.rp R)) (hk : k ≤ j := by decide) (hg : Gl X x := by rfl)
    (hdb : (x == ("__debug__" : Str)) = false := by decide) (he : starEach [e] X.env = (false, eval e X.env) :: starEach [] X.env := by rfl) (hpl : (backTo pos (starEach [] X.env)).any (·.1) = false := by rfl) : GE X B E (.Call (.Name x p) [e] [] pos) (.rp R) :=
  peI (C8.pe_c c hr hk hg (acons ha anil he) hdb he hpl) fun σ H Q ⟨s, q⟩ => ⟨s, fun vs H1 r1 ov => by
    obtain ⟨v, rfl, fp, ⟨a, x, y, z, e1, e2, h1⟩, hfr⟩ := outs1 ov
    subst e1 e2
    have hn : H a = none := hfr a (List.mem_singleton.mpr rfl)
    exact ⟨⟨H1, some a, fun b eb => by cases eb; exact ⟨x, y, z, h1⟩⟩, [.wl], .rp R, rfl, hF a, by rw [List.append_nil]; exact ⟨⟨a, rfl, rfl⟩, trivial⟩, fun v H' r ov' => q v H' (rel_made r1 hn r) ov'⟩⟩
/-- a class made of something that is not known in full -/
theorem gmakeX {α : Type} {x : Str} {k j : Nat} {C : Addr} {dvs : List V} {Fi : List En → Rp → Prop} {F G : α → Rp} {ds : List En} (cm : C8.Mak X.prog X.w X.K X.mg X.base k x C (PIn C Fi) dvs) (hr : Room j X.A) (ha : GA X B E [a, b] [.rp R, .rp (exR F)]) (hF : ∀ y, Fi ([.rp R, .rp (F y)] ++ ds) (G y)) (hd : ∀ (B : Bs) (H : Hp), outs B H H dvs ds) (hk : k + 1 ≤ j := by decide) (hg : Gl X x := by rfl)
    (hdb : (x == ("__debug__" : Str)) = false := by decide) (he : starEach [a, b] X.env = (false, eval a X.env) :: starEach [b] X.env := by rfl) (hpl : (backTo pos (starEach [b] X.env)).any (·.1) = false := by rfl) : GE X B E (.Call (.Name x p) [a, b] [] pos) (.rp (exR G)) :=
  peI (C8.pe_mk cm hr hk hg ha hdb he hpl) fun σ H Q ⟨s, q⟩ => ⟨s, fun vs H1 r1 ov x dx hx hdx hne => by
    obtain ⟨v, u, rfl, hv, y, hy⟩ := outs2 ov
    exact ⟨⟨H1, none, fun _ z => nomatch z⟩, x, dx, [v, u] ++ dvs, [.rp R, .rp (F y)] ++ ds, G y, rfl, rfl, rfl, hx, hdx, hne, hF y, outs_app (show outs ⟨H1, none, fun _ z => nomatch z⟩ H1 H1 [v, u] [.rp R, .rp (F y)] from ⟨hv, hy, trivial⟩) (hd _ _), fun H' r h => ⟨rfl, q _ H' (r1.trans r.ofNone) ⟨y, h⟩⟩⟩⟩
/-- x, y = a list of two -/
theorem basL2 {R1 R2 : Rp} {t1 t2 : Expr} {kt : Nat} {pt : Pos} {E2 : List En} {is1 is2 : List Nat} (hc : X.calm = true) (he : GE X B E e (.mu (LS [R1, R2]))) (h1 : GG X B E t1 (.rp R1) E1 is1) (h2 : GG X B E1 t2 (.rp R2) E2 is2) (h : GB X B E2 rest N Rt) (hs1 : (assignEach [t1, t2] X.env).map (·.2) = assign t1 X.env :: (assignEach [t2] X.env).map (·.2) := by rfl)
    (hs2 : (assignEach [t2] X.env).map (·.2) = assign t2 X.env :: (assignEach [] X.env).map (·.2) := by rfl) (hn : (assignEach [t1, t2] X.env).length = 2 := by rfl) (hst : (assignEach [t1, t2] X.env).findIdx? (·.1) = none := by rfl)
    (hs : swapsWithSole [.Tuple [t1, t2] kt pt] e pos.line X.env = pure false := by rfl) (hw : swappedStores [.Tuple [t1, t2] kt pt] e X.env = pure none := by rfl)
    (h3 : (assignEach [.Tuple [t1, t2] kt pt] X.env).map (·.2) = [assign (.Tuple [t1, t2] kt pt) X.env] := by rfl) : GB X B E (.Assign [.Tuple [t1, t2] kt pt] e pos :: rest) N Rt :=
  pssI (pss_cons (ps_asg he (pg_unl hc (pgs_cons h1 (pgs_cons h2 pgs_nil hs2) hs1) hn hst) hs hw h3) h) fun D σ H ⟨s, q1, q2⟩ => ⟨s, fun v H1 r ⟨fp, ⟨a, xs, e1, ev, hx, al⟩, hfr⟩ => by
    cases al with
    | cons u1 t1 =>
      cases t1 with
      | cons u2 t2 =>
        cases t2
        exact ⟨a, _, ev, .of hx, rfl, _, _, rfl, s.mono r, u1, fun σ1 s1 g1 l1 => ⟨_, _, rfl, s1, u2, fun σ2 s2 g2 l2 => ⟨rfl, s2, fun E' σ' H' hN kp s' => q1 E' σ' H' hN (r.kp.trans kp) s', q2⟩⟩⟩⟩
end
end KG
end
section
set_option maxRecDepth 100000
set_option maxHeartbeats 2000000
namespace KP
open PySem PySem.Spec PyProof.Rows L2 KG KJ
open KW (G Wd)
section
variable {P : Program} {w : World} {K : PySem.W.Frag} {mg : Str → Option Value} {base : Heap} {f : Addr} {fd : FuncData}
theorem m2 {i j : Int} (h : -1000000 ≤ i ∧ i ≤ 1000000) : CMul i j := .inl ⟨by omega, by omega⟩
theorem mr {i j : Int} (h : -1000000 ≤ j ∧ j ≤ 1000000) : CMul i j := .inr ⟨by omega, by omega⟩
theorem sq0 (x : Int) : 0 ≤ x * x := by
  rcases Int.le_total 0 x with h | h
  · exact Int.mul_nonneg h h
  · exact Int.mul_nonneg_of_nonpos_of_nonpos h h
/-! ### is_whole -/
def isIntR (R : Rp) (d : Bool) : Prop := ∃ i : Int, R = TI i ∧ d = true
def F_is_whole : Option Addr → List En → En → Prop := fun _ ins o => ∃ i : Int, ins = [.rp (TI i)] ∧ o = .rp (TBl true)
theorem gisi {X : Cx} {B : Bs} {E : List En} {a b : Expr} {pos p : Pos} {o : En} {n : String} {tn : String} {d : Bool} (hm : X.mg "isinstance" = none) (ha : GE X B E a o) (hb : GE X B E b (.rp (VL (.ty n)))) (ht : ∀ (B : Bs) (H : Hp) (v : V) (H2 : Hp), o.out B H v H2 → TyX X.K H2 v (.type tn))
    (hk : kitB tn n = some d) (hg : Gl X "isinstance" := by rfl) (hs : starEach [a, b] X.env = (false, eval a X.env) :: starEach [b] X.env := by rfl) (hs2 : starEach [b] X.env = (false, eval b X.env) :: starEach [] X.env := by rfl) (hp : (backTo pos (starEach [b] X.env)).any (·.1) = false := by rfl) :
    GE X B E (.Call (.Name "isinstance" p) [a, b] [] pos) (.rp (TBl d)) :=
  peI (pe_callB call_isi hg hm boot_isinstance (acons ha (acons hb anil hs2) hs) (by decide) (by decide) hs hp) (callI fun H vs H2 Q _ _ ov q => by
    obtain ⟨v, u, rfl, hv, hu⟩ := outs2 ov
    have e : u = .ty n := hu
    subst e
    exact ⟨v, .ty n, .type tn, .type n, d, rfl, .ty n, ht B H v H2 hv, kit_ty hk, q _ H2 Rel.refl rfl⟩)
theorem ty_int {K : PySem.W.Frag} {i : Int} : ∀ (B : Bs) (H : Hp) (v : V) (H2 : Hp), (En.rp (TI i)).out B H v H2 → TyX K H2 v (.type "int") := fun B H v H2 h => by
  rw [show v = .int i from h]
  exact .base (.int i)
theorem gbt {X : Cx} {B : Bs} {E : List En} {pos : Pos} {x : Str} {n : String} (hm : X.mg x = none) (hv : bootBuiltins x = some (.type n)) (hg : Gl X x := by rfl) (hn : x ≠ "__name__" := by decide) (hd : (x == ("__debug__" : Str)) = false := by decide) : GE X B E (.Name x pos) (.rp (VL (.ty n))) :=
  peI (pe_bltn hg hm hv (v := .ty n) rfl hn hd) fun σ H Q ⟨s, q⟩ => q _ H Rel.refl rfl
theorem ok_is_whole (T : Tx K mg) (F : FnT K "is_whole" s_is_whole f fd) : FnOk P w K mg base CX0 1 f fd ["value"] (PM F_is_whole) := by
  refine pm_ok F sc_is_whole (fun _ _ _ ⟨x, e, _⟩ => by rw [e] <;> rfl) fun cdv A outer s Ex B ins o hF hr => ?_
  obtain ⟨i, rfl, rfl⟩ := hF
  refine ⟨[.rp (TI i)], rfl, ?_⟩
  exact bret (gand (gisi T.isinstance (gr 0 rfl) (gbt T.int boot_int) ty_int (d := true) (by decide +kernel)) fun _ => gone (gnotV (gisi T.isinstance (gr 0 rfl) (gbt T.bool boot_bool) ty_int (d := false) (by decide +kernel)))) rfl
/-! ### pair_sign -/
def psg (x : G) : Int :=
  if 0 < (if x.b = 0 ∨ 5 * x.b * x.b ≤ (2 * x.a + x.b) * (2 * x.a + x.b) then 2 * x.a + x.b else x.b) then 1
  else if (if x.b = 0 ∨ 5 * x.b * x.b ≤ (2 * x.a + x.b) * (2 * x.a + x.b) then 2 * x.a + x.b else x.b) < 0 then -1 else 0
theorem psg_low (x : G) : decide (psg x < 0) = KW.isLow x := by
  unfold psg KW.isLow
  by_cases h : 5 * x.b * x.b ≤ (2 * x.a + x.b) * (2 * x.a + x.b)
  · rw [if_pos (Or.inr h), if_pos (show (2 * x.a + x.b) * (2 * x.a + x.b) ≥ 5 * x.b * x.b from h)]
    split
    · rw [eq_comm, decide_eq_decide]
      omega
    · split
      · rw [decide_eq_decide]; omega
      · rw [decide_eq_decide]; omega
  · have hb : x.b ≠ 0 := fun z => h (by rw [z]; simp; exact sq0 _)
    rw [if_neg (show ¬ (x.b = 0 ∨ 5 * x.b * x.b ≤ (2 * x.a + x.b) * (2 * x.a + x.b)) from fun z => Or.elim z hb h), if_neg (show ¬ (2 * x.a + x.b) * (2 * x.a + x.b) ≥ 5 * x.b * x.b from h)]
    split
    · rw [decide_eq_decide]; omega
    · split
      · rw [decide_eq_decide]; omega
      · rw [decide_eq_decide]; omega
def F_pair_sign (K : PySem.W.Frag) : Option Addr → List En → En → Prop := fun _ ins o => ∃ x : G, bG x ∧ ins = [.rp (dP K x)] ∧ o = .rp (TI (psg x))
theorem ok_pair_sign (F : FnT K "pair_sign" s_pair_sign f fd) : FnOk P w K mg base CX0 1 f fd ["pair"] (PM (F_pair_sign K)) := by
  refine pm_ok F sc_pair_sign (fun _ _ _ ⟨x, _, e, _⟩ => by rw [e] <;> rfl) fun cdv A outer s Ex B ins o hF hr => ?_
  obtain ⟨x, ⟨b1, b2, b3, b4⟩, rfl, rfl⟩ := hF
  refine ⟨[.rp (dP K x), .no, .no], rfl, ?_⟩
  refine bset 1 sc_pair_sign.nd (gadd (gmul gint (gixT (gr 0 rfl) gint rfl) (m2 (by omega))) (gixT (gr 0 rfl) gint rfl)) ?_
  refine bset 2 sc_pair_sign.nd (gif (o := .rp (TI (if x.b = 0 ∨ 5 * x.b * x.b ≤ (2 * x.a + x.b) * (2 * x.a + x.b) then 2 * x.a + x.b else x.b))) (gtw (gwor (gct (ceq (gixT (gr 0 rfl) gint rfl) gint)) fun _ => gwo1 (gct (cge (gmul (gr 1 rfl) (gr 1 rfl) (.inl ⟨by omega, by omega⟩)) (gmul (gmul gint (gixT (gr 0 rfl) gint rfl) (m2 (by omega))) (gixT (gr 0 rfl) gint rfl) (.inr ⟨by omega, by omega⟩))))))
    (fun h => geq (gr 1 rfl) ?_) fun h => geq (gixT (gr 0 rfl) gint rfl) ?_) ?_
  · rw [if_pos (by simpa using h)]
  · rw [if_neg (by simpa using h)]
  · refine bret (gif (o := .rp (TI (psg x))) (gct (cgt (gr 2 rfl) gint)) (fun h => geq gint ?_) fun h => gif (gct (clt (gr 2 rfl) gint)) (fun h2 => geq (gneg gint) ?_) fun h2 => geq gint ?_) rfl
    · unfold psg
      rw [if_pos (by simpa using h)]
    · unfold psg
      rw [if_neg (by simpa using h), if_pos (by simpa using h2)]
    · unfold psg
      rw [if_neg (by simpa using h), if_neg (by simpa using h2)]
end
end KP
end
section
set_option maxRecDepth 100000
set_option maxHeartbeats 2000000
namespace KP
open PySem PySem.Spec PyProof.Rows L2 KG KJ
open KW (G Wd)
section
variable {P : Program} {w : World} {K : PySem.W.Frag} {mg : Str → Option Value} {base : Heap} {f : Addr} {fd : FuncData}
/-! ### axis_of, all_axes -/
def axis (n b : Nat) : List G := (List.range n).map fun c => if c = b then (1 : G) else 0
def F_axis_of (K : PySem.W.Frag) : Option Addr → List En → En → Prop := fun _ ins o => ∃ n b : Nat, n ≤ 1000 ∧ ins = [.rp (TI n), .rp (TI b)] ∧ o = .rp (dV K (axis n b))
theorem ok_axis_of (T : Tx K mg) (F : FnT K "axis_of" s_axis_of f fd) : FnOk P w K mg base CX0 1 f fd ["size", "button"] (PM (F_axis_of K)) := by
  refine pm_ok F sc_axis_of (fun _ _ _ ⟨_, _, _, e, _⟩ => by rw [e] <;> rfl) fun cdv A outer s Ex B ins o hF hr => ?_
  obtain ⟨n, b, hn, rfl, rfl⟩ := hF
  refine ⟨[.rp (TI n), .rp (TI b), .no], rfl, ?_⟩
  refine bret (gtc [("place", 2)] (fun c => dP K (if c = b then (1 : G) else 0)) rfl T.tuple sc_axis_of.nd (gic (gi_range T.range (gr 0 rfl) hn)) (blkOk_by (N := N_axis_of) (sc := defScope s_axis_of) (by decide +kernel)) (fun x _ _ _ _ _ _ => tgn 2 sc_axis_of.nd) (fun _ _ k hk => hk)
    (fun x _ _ _ _ _ _ => gif (gct (ceq (gr 2 rfl) (gr 1 rfl))) (fun h => geq (gtup (acons gint (acons gint anil))) ?_) fun h => geq (gN T) ?_) (by simpa using hn)) ?_
  · rw [if_pos (by have := dt h; omega)]
    rfl
  · rw [if_neg (by have := df h; omega)]
  · unfold dV axis
    rw [List.map_map]
    rfl
def axes (n : Nat) : List (List G) := (List.range n).map (axis n)
def F_all_axes (K : PySem.W.Frag) : Option Addr → List En → En → Prop := fun _ ins o => ∃ n : Nat, n ≤ 1000 ∧ ins = [.rp (TI n)] ∧ o = .rp (dM K (axes n))
theorem ok_all_axes (T : Tx K mg) (c1 : C8.Cal P w K mg base 1 "axis_of" (PM (F_axis_of K)) []) (F : FnT K "all_axes" s_all_axes f fd) : FnOk P w K mg base CX0 2 f fd ["size"] (PM (F_all_axes K)) := by
  refine pm_ok F sc_all_axes (fun _ _ _ ⟨_, _, e, _⟩ => by rw [e] <;> rfl) fun cdv A outer s Ex B ins o hF hr => ?_
  obtain ⟨n, hn, rfl, rfl⟩ := hF
  refine ⟨[.rp (TI n), .no], rfl, ?_⟩
  refine bret (gtc [("button", 1)] (fun b => dV K (axis n b)) rfl T.tuple sc_all_axes.nd (gic (gi_range T.range (gr 0 rfl) hn)) (blkOk_by (N := N_all_axes) (sc := defScope s_all_axes) (by decide +kernel)) (fun x _ _ _ _ _ _ => tgn 1 sc_all_axes.nd) (fun _ _ k hk => hk)
    (fun x _ _ _ _ _ _ => gcl c1 hr (acons (gr 0 rfl) (acons (gr 1 rfl) anil)) ⟨n, x, hn, rfl, rfl⟩) (by simpa using hn)) ?_
  unfold dM axes
  rw [List.map_map]
  rfl
end
end KP
end
section
set_option maxRecDepth 100000
set_option maxHeartbeats 2000000
set_option profiler true
set_option profiler.threshold 500
namespace KP
open PySem PySem.Spec PyProof.Rows L2 KG KJ
open KW (G Wd)
section
variable {P : Program} {w : World} {K : PySem.W.Frag} {mg : Str → Option Value} {base : Heap} {f : Addr} {fd : FuncData}
theorem dto {X : Cx} {R : Rp} {d : PyData} (h : ∀ v H, R.p v H → Dp X.K H v d) : DtO X.K (.rp R) d := fun _ _ v H2 q => h v H2 q
theorem dtoK {K : PySem.W.Frag} {R : Rp} {d : PyData} (h : ∀ v H, R.p v H → Dp K H v d) : DtO K (.rp R) d := fun _ _ v H2 q => h v H2 q
/-! ### is_down -/
def F_is_down (K : PySem.W.Frag) : Option Addr → List En → En → Prop := fun _ ins o => ∃ v : List G, (∀ x ∈ v, bG x) ∧ ins = [.rp (dV K v)] ∧ o = .rp (TBl (KW.isDownV v))
theorem isDownV_take {v : List G} {k : Nat} {x : G} (h0 : ∀ y ∈ v.take k, y = 0) (hx : v[k]? = some x) (n : x ≠ 0) : KW.isDownV v = KW.isLow x := by
  induction v generalizing k with
  | nil => simp at hx
  | cons y v ih =>
    unfold KW.isDownV
    cases k with
    | zero =>
      simp at hx
      subst hx
      rw [if_pos n]
    | succ k =>
      have : y = 0 := h0 y (by simp)
      rw [if_neg (by simp [this])]
      exact ih (k := k) (fun z hz => h0 z (by rw [List.take_succ_cons]; exact List.mem_cons_of_mem _ hz)) (by simpa using hx)
theorem isDownV_zero {v : List G} (h0 : ∀ y ∈ v, y = 0) : KW.isDownV v = false := by
  induction v with
  | nil => rfl
  | cons y v ih =>
    unfold KW.isDownV
    rw [if_neg (by simp [h0 y List.mem_cons_self])]
    exact ih fun z hz => h0 z (List.mem_cons_of_mem _ hz)
theorem ok_is_down (T : Tx K mg) (c1 : C8.Cal P w K mg base 1 "pair_sign" (PM (F_pair_sign K)) []) (F : FnT K "is_down" s_is_down f fd) : FnOk P w K mg base CX0 2 f fd ["axis"] (PM (F_is_down K)) := by
  refine pm_ok F sc_is_down (fun _ _ _ ⟨_, _, e, _⟩ => by rw [e] <;> rfl) fun cdv A outer s Ex B ins o hF hr => ?_
  obtain ⟨v, hv, rfl, rfl⟩ := hF
  refine ⟨[.rp (dV K v), .no], rfl, ?_⟩
  refine bfor [1] (fun k E' => (∀ y ∈ v.take k, y = 0) ∧ ∃ o, E' = [.rp (dV K v), o]) rfl PassesOwn.never (gi_tup (gr 0 rfl)) ⟨by simp, _, rfl⟩ (fun k y E' hy ⟨h0, o, e⟩ => ?_) fun E' ⟨h0, o, e⟩ => ?_
  · subst e
    rw [List.getElem?_map, List.getElem?_map] at hy
    cases hx : v[k]? with
    | none =>
      rw [hx] at hy
      cases hy
    | some x =>
      rw [hx] at hy
      cases hy
      have hm := List.mem_of_getElem? hx
      refine ⟨_, tgn 1 sc_is_down.nd, ?_⟩
      refine bifR (gct (cneD hr.units (gr 1 rfl) (gN T) (dto dp_dP) (dto dp_dP) (shp_ok (shp_pP x) (by decide)) (shp_ok (shp_pP 0) (by decide)))) (fun h => bret (gcm (clt (gcl c1 hr (acons (gr 1 rfl) anil) ⟨x, hv x hm, rfl, rfl⟩) gint)) ?_) fun h => bnil ⟨fun y hy => ?_, _, rfl⟩
      · rw [eqv_pP] at h
        have hn : x ≠ 0 := by simpa using h
        rw [isDownV_take h0 hx hn, ← psg_low]
      · rw [eqv_pP] at h
        have hn : x = 0 := by simpa using h
        rw [List.take_succ, hx, List.mem_append] at hy
        rcases hy with hy | hy
        · exact h0 y hy
        · simp at hy
          rw [hy, hn]
  · subst e
    refine bret gbl ?_
    rw [isDownV_zero fun y hy => h0 y (by
      rw [List.length_map, List.length_map, List.take_length]
      exact hy)]
/-! ### vector_less -/
def sml (x : G) : Prop := -1000 ≤ x.a ∧ x.a ≤ 1000 ∧ -1000 ≤ x.b ∧ x.b ≤ 1000
def vless (v : List G) (c : G) (u : List G) : List G := (v.zip u).map fun q => q.1 - c * q.2
def F_vector_less (K : PySem.W.Frag) : Option Addr → List En → En → Prop := fun _ ins o => ∃ (v u : List G) (c : G), v.length = u.length ∧ v.length ≤ 1000 ∧ sml c ∧ ins = [.rp (dV K v), .rp (dP K c), .rp (dV K u)] ∧ o = .rp (dV K (vless v c u))
theorem zip_items {v u : List G} : zipE K (v.map (dP K)) (u.map (dP K)) = (v.zip u).map fun q => En.rp (TUP K [dP K q.1, dP K q.2]) := by
  unfold zipE
  rw [List.zip_map, List.map_map]
  rfl
theorem dP_eq {x : G} {a b : Int} (h1 : a = x.a) (h2 : b = x.b) : En.rp (TUP K [TI a, TI b]) = .rp (dP K x) := by
  rw [h1, h2] <;> rfl
theorem ok_vector_less (T : Tx K mg) (F : FnT K "vector_less" s_vector_less f fd) : FnOk P w K mg base CX0 1 f fd ["vector", "factor", "other"] (PM (F_vector_less K)) := by
  refine pm_ok F sc_vector_less (fun _ _ _ ⟨_, _, _, _, _, _, e, _⟩ => by rw [e] <;> rfl) fun cdv A outer s Ex B ins o hF hr => ?_
  obtain ⟨v, u, c, hl, hn, ⟨c1, c2, c3, c4⟩, rfl, rfl⟩ := hF
  have hz : (v.zip u).length ≤ 1000 := by rw [List.length_zip]; omega
  have fin : ((v.zip u).map fun q => dP K (q.1 - c * q.2)) = (vless v c u).map (dP K) := by
    unfold vless
    rw [List.map_map]
    rfl
  refine ⟨[.rp (dV K v), .rp (dP K c), .rp (dV K u), .no, .no, .no, .no, .no, .no], rfl, ?_⟩
  refine basg (gr 1 rfl) (tg2 rfl (tgn 3 sc_vector_less.nd) (tgn 4 sc_vector_less.nd)) ?_
  refine bifR (gct (ceq (gr 4 rfl) gint)) (fun h => ?_) fun h => ?_
  · have h0 : c.b = 0 := dt h
    refine bret (gtc [("whole", 5), ("gold", 6), ("first", 7), ("second", 8)] (fun q : G × G => dP K (q.1 - c * q.2)) rfl T.tuple sc_vector_less.nd (giceq (gic (gi_zip T.zip (gr 0 rfl) (gr 2 rfl) (by simpa using hl))) zip_items) (blkOk_by (N := N_vector_less) (sc := defScope s_vector_less) (by decide +kernel))
      (fun x _ _ _ _ _ _ => tg2 rfl (tg2 rfl (tgn 5 sc_vector_less.nd) (tgn 6 sc_vector_less.nd)) (tg2 rfl (tgn 7 sc_vector_less.nd) (tgn 8 sc_vector_less.nd))) (fun _ _ k hk => hk)
      (fun x _ _ _ _ _ _ => geq (gtup (acons (gsub (gr 5 rfl) (gmul (gr 3 rfl) (gr 7 rfl) (m2 (by omega)))) (acons (gsub (gr 6 rfl) (gmul (gr 3 rfl) (gr 8 rfl) (m2 (by omega)))) anil))) (dP_eq ?_ ?_)) hz) (by rw [fin]; rfl)
    · show x.1.a - c.a * x.2.a = x.1.a - (c.a * x.2.a + c.b * x.2.b)
      rw [h0]
      omega
    · show x.1.b - c.a * x.2.b = x.1.b - (c.a * x.2.b + c.b * x.2.a + c.b * x.2.b)
      rw [h0]
      omega
  · refine bret (gtc [("whole", 5), ("gold", 6), ("first", 7), ("second", 8)] (fun q : G × G => dP K (q.1 - c * q.2)) rfl T.tuple sc_vector_less.nd (giceq (gic (gi_zip T.zip (gr 0 rfl) (gr 2 rfl) (by simpa using hl))) zip_items) (blkOk_by (N := N_vector_less) (sc := defScope s_vector_less) (by decide +kernel))
      (fun x _ _ _ _ _ _ => tg2 rfl (tg2 rfl (tgn 5 sc_vector_less.nd) (tgn 6 sc_vector_less.nd)) (tg2 rfl (tgn 7 sc_vector_less.nd) (tgn 8 sc_vector_less.nd))) (fun _ _ k hk => hk)
      (fun x _ _ _ _ _ _ => geq (gtup (acons (gsub (gsub (gr 5 rfl) (gmul (gr 3 rfl) (gr 7 rfl) (m2 (by omega)))) (gmul (gr 4 rfl) (gr 8 rfl) (m2 (by omega)))) (acons (gsub (gsub (gsub (gr 6 rfl) (gmul (gr 3 rfl) (gr 8 rfl) (m2 (by omega)))) (gmul (gr 4 rfl) (gr 7 rfl) (m2 (by omega)))) (gmul (gr 4 rfl) (gr 8 rfl) (m2 (by omega)))) anil))) (dP_eq ?_ ?_)) hz) (by rw [fin]; rfl)
    · show x.1.a - c.a * x.2.a - c.b * x.2.b = x.1.a - (c.a * x.2.a + c.b * x.2.b)
      omega
    · show x.1.b - c.a * x.2.b - c.b * x.2.a - c.b * x.2.b = x.1.b - (c.a * x.2.b + c.b * x.2.a + c.b * x.2.b)
      omega
end
end KP
end
section
set_option maxRecDepth 100000
set_option maxHeartbeats 2000000
namespace KP
open PySem PySem.Spec PyProof.Rows L2 KG KJ
open KW (G Wd)
section
variable {P : Program} {w : World} {K : PySem.W.Frag} {mg : Str → Option Value} {base : Heap} {f : Addr} {fd : FuncData}
/-! ### pressed_behind -/
def mtx (n : Nat) (J : Nat → Nat → G) : List (List G) := (List.range n).map fun t => (List.range n).map (J t)
theorem atI_rg {α : Type} {n b : Nat} (g : Nat → α) (h : b < n) : atI ((List.range n).map g) (b : Int) = some (g b) := atI_nat (by rw [List.getElem?_map, List.getElem?_range h] <;> rfl)
theorem dM_map {n : Nat} {J : Nat → Nat → G} : (mtx n J).map (dV K) = (List.range n).map fun t => dV K ((List.range n).map (J t)) := by
  unfold mtx
  rw [List.map_map]
  rfl
theorem enum_rg {n : Nat} (g : Nat → Rp) : enumE K ((List.range n).map g) = (List.range n).map fun t => En.rp (TUP K [TI (t : Nat), g t]) := by
  apply List.ext_getElem?
  intro i
  by_cases h : i < n
  · rw [enumE_get (R := g i) (by rw [List.getElem?_map, List.getElem?_range h] <;> rfl), List.getElem?_map, List.getElem?_range h]
    rfl
  · rw [List.getElem?_eq_none (by rw [enumE_len]; simp; omega), List.getElem?_eq_none (by simp; omega)]
theorem gix_m {X : Cx} {B : Bs} {E : List En} {a b : Expr} {pos : Pos} {n i : Nat} {J : Nat → Nat → G} (ha : GE X B E a (.rp (dM X.K (mtx n J)))) (hb : GE X B E b (.rp (TI (i : Int)))) (h : i < n) (hs : PlainIx b := by intro _ _; rfl) : GE X B E (.Subscript a b pos) (.rp (dV X.K ((List.range n).map (J i)))) :=
  gixT ha hb (by rw [dM_map]; exact atI_rg _ h) hs
theorem gix_v {X : Cx} {B : Bs} {E : List En} {a b : Expr} {pos : Pos} {n i : Nat} {g : Nat → G} (ha : GE X B E a (.rp (dV X.K ((List.range n).map g)))) (hb : GE X B E b (.rp (TI (i : Int)))) (h : i < n) (hs : PlainIx b := by intro _ _; rfl) : GE X B E (.Subscript a b pos) (.rp (dP X.K (g i))) :=
  gixT ha hb (by rw [List.map_map]; exact atI_rg _ h) hs
def F_pressed_behind (K : PySem.W.Frag) : Option Addr → List En → En → Prop := fun _ ins o => ∃ (n b : Nat) (A J : Nat → Nat → G), n ≤ 1000 ∧ b < n ∧ (∀ s t, sml (A s t)) ∧ ins = [.rp (dM K (mtx n A)), .rp (dM K (mtx n J)), .rp (TI b)] ∧ o = .rp (dM K (mtx n fun t c => J t c - A b t * J b c))
theorem vless_rg {n : Nat} {g h : Nat → G} {c : G} : vless ((List.range n).map g) c ((List.range n).map h) = (List.range n).map fun i => g i - c * h i := by
  unfold vless
  rw [List.zip_map', List.map_map]
  rfl
theorem ok_pressed_behind (T : Tx K mg) (c1 : C8.Cal P w K mg base 1 "vector_less" (PM (F_vector_less K)) []) (F : FnT K "pressed_behind" s_pressed_behind f fd) : FnOk P w K mg base CX0 2 f fd ["weights", "images", "button"] (PM (F_pressed_behind K)) := by
  refine pm_ok F sc_pressed_behind (fun _ _ _ ⟨_, _, _, _, _, _, _, e, _⟩ => by rw [e] <;> rfl) fun cdv A0 outer s Ex B ins o hF hr => ?_
  obtain ⟨n, b, A, J, hn, hb, hA, rfl, rfl⟩ := hF
  refine ⟨[.rp (dM K (mtx n A)), .rp (dM K (mtx n J)), .rp (TI b), .no, .no, .no, .no], rfl, ?_⟩
  refine basg (gtup (acons (gix_m (gr 0 rfl) (gr 2 rfl) hb) (acons (gix_m (gr 1 rfl) (gr 2 rfl) hb) anil))) (tg2 rfl (tgn 3 sc_pressed_behind.nd) (tgn 4 sc_pressed_behind.nd)) ?_
  refine bret (gtc [("place", 5), ("image", 6)] (items := List.range n) (y := fun t => En.rp (TUP K [TI (t : Nat), dV K ((List.range n).map (J t))])) (fun t => dV K ((List.range n).map fun c => J t c - A b t * J b c)) rfl T.tuple sc_pressed_behind.nd (giceq (gic (gi_enumT T.enumerate (gr 1 rfl))) (by rw [dM_map]; exact enum_rg _)) (blkOk_by (N := N_pressed_behind) (sc := defScope s_pressed_behind) (by decide +kernel))
    (fun x _ _ _ _ _ _ => tg2 rfl (tgn 5 sc_pressed_behind.nd) (tgn 6 sc_pressed_behind.nd)) (fun _ _ k hk => hk) (fun t ht s' H C cl fp => ?_) (by simpa using hn)) (by rw [dM, dM_map] <;> rfl)
  have ht : t < n := List.mem_range.mp ht
  refine gif (gct (ceqD hr.units (gix_v (gr 3 rfl) (gr 5 rfl) ht) (gN T) (dto dp_dP) (dto dp_dP) (shp_ok (shp_pP _) (by decide)) (shp_ok (shp_pP 0) (by decide)))) (fun h => geq (gr 6 rfl) ?_) fun h => geq (gcl c1 hr (acons (gr 6 rfl) (acons (gix_v (gr 3 rfl) (gr 5 rfl) ht) (acons (gr 4 rfl) anil))) ⟨_, _, _, by simp, by simpa using hn, hA b t, rfl, rfl⟩) ?_
  · rw [eqv_pP] at h
    have h0 : A b t = 0 := dt h
    rw [h0]
    have e : ∀ c, J t c = J t c - 0 * J b c := fun c => by grind
    exact congrArg (fun l => En.rp (dV K l)) (List.map_congr_left fun c _ => e c)
  · rw [vless_rg]
/-! ### images_of -/
theorem axes_imgs {n : Nat} {A : Nat → Nat → G} : axes n = KW.imgs A n [] := by
  unfold axes axis KW.imgs KW.col
  refine List.map_congr_left fun t _ => List.map_congr_left fun c _ => ?_
  show (if c = t then (1 : G) else 0) = (if t = c then 1 else 0)
  by_cases h : c = t
  · rw [if_pos h, if_pos h.symm]
  · rw [if_neg h, if_neg fun z => h z.symm]
theorem imgs_mtx {n : Nat} {A : Nat → Nat → G} {w : Wd} : KW.imgs A n w = mtx n fun t c => KW.play A (KW.dl c) w t := rfl
theorem imgs_snoc {n : Nat} {A : Nat → Nat → G} {w : Wd} {b : Nat} : KW.imgs A n (w ++ [b]) = mtx n fun t c => KW.play A (KW.dl c) w t - A b t * KW.play A (KW.dl c) w b := by
  rw [imgs_mtx]
  congr 1
  funext t c
  unfold KW.play
  rw [List.foldl_append]
  rfl
def F_images_of (K : PySem.W.Frag) : Option Addr → List En → En → Prop := fun _ ins o => ∃ (n : Nat) (A : Nat → Nat → G) (u : Wd), n ≤ 1000 ∧ (∀ s t, sml (A s t)) ∧ KW.okw n u ∧ ins = [.rp (dM K (mtx n A)), .rp (dW K u)] ∧ o = .rp (dM K (KW.imgs A n u))
theorem szTT {K : PySem.W.Frag} {Rs : List Rp} {n : Nat} (h : Rs.length = n) : SzO K (.rp (TUP K Rs)) n := h ▸ szT
theorem ok_images_of (T : Tx K mg) (c1 : C8.Cal P w K mg base 2 "all_axes" (PM (F_all_axes K)) []) (c2 : C8.Cal P w K mg base 2 "pressed_behind" (PM (F_pressed_behind K)) []) (F : FnT K "images_of" s_images_of f fd) : FnOk P w K mg base CX0 3 f fd ["weights", "word"] (PM (F_images_of K)) := by
  refine pm_ok F sc_images_of (fun _ _ _ ⟨_, _, _, _, _, _, e, _⟩ => by rw [e] <;> rfl) fun cdv A0 outer s Ex B ins o hF hr => ?_
  obtain ⟨n, A, u, hn, hA, hu, rfl, rfl⟩ := hF
  refine ⟨[.rp (dM K (mtx n A)), .rp (dW K u), .no, .no], rfl, ?_⟩
  refine bset 2 sc_images_of.nd (gcl c1 hr (acons (glen T.len (gr 0 rfl) (szTT (n := n) (by simp [mtx]))) anil) ⟨n, hn, rfl, rfl⟩) ?_
  refine bfor [3] (fun k E' => ∃ o, E' = [.rp (dM K (mtx n A)), .rp (dW K u), .rp (dM K (KW.imgs A n (u.take k))), o]) rfl PassesOwn.never (gi_tup (gr 1 rfl)) ⟨.no, by rw [axes_imgs (A := A)] <;> rfl⟩ (fun k y E' hy ⟨o, e⟩ => ?_) fun E' ⟨o, e⟩ => ?_
  · subst e
    rw [List.getElem?_map, List.getElem?_map] at hy
    cases hx : u[k]? with
    | none =>
      rw [hx] at hy
      cases hy
    | some b =>
      rw [hx] at hy
      cases hy
      refine ⟨_, tgn 3 sc_images_of.nd, ?_⟩
      refine bset 2 sc_images_of.nd (gcl c2 hr (acons (gr 0 rfl) (acons (gr 2 rfl) (acons (gr 3 rfl) anil))) ⟨n, b, A, _, hn, hu b (List.mem_of_getElem? hx), hA, by rw [imgs_mtx], rfl⟩) (bnil ⟨.rp (TI b), ?_⟩)
      rw [List.take_succ, hx]
      show _ = [_, _, En.rp (dM K (KW.imgs A n (u.take k ++ [b]))), _]
      rw [imgs_snoc]
  · subst e
    exact bret (gr 2 rfl) (by simp)
/-! ### down_buttons -/
def F_down_buttons (K : PySem.W.Frag) : Option Addr → List En → En → Prop := fun _ ins o => ∃ (n : Nat) (J : Nat → Nat → G), n ≤ 1000 ∧ (∀ t c, t < n → c < n → bG (J t c)) ∧ ins = [.rp (dM K (mtx n J))] ∧ o = .rp (dW K ((List.range n).filter fun t => KW.isDownV ((List.range n).map (J t))))
theorem ok_down_buttons (T : Tx K mg) (c1 : C8.Cal P w K mg base 2 "is_down" (PM (F_is_down K)) []) (F : FnT K "down_buttons" s_down_buttons f fd) : FnOk P w K mg base CX0 3 f fd ["images"] (PM (F_down_buttons K)) := by
  refine pm_ok F sc_down_buttons (fun _ _ _ ⟨_, _, _, _, e, _⟩ => by rw [e] <;> rfl) fun cdv A0 outer s Ex B ins o hF hr => ?_
  obtain ⟨n, J, hn, hJ, rfl, rfl⟩ := hF
  refine ⟨[.rp (dM K (mtx n J)), .no, .no], rfl, ?_⟩
  exact bret (gtcI [("button", 1), ("image", 2)] (items := List.range n) (y := fun t => En.rp (TUP K [TI (t : Nat), dV K ((List.range n).map (J t))])) (fun t => TI (t : Nat)) (fun t => KW.isDownV ((List.range n).map (J t))) rfl T.tuple sc_down_buttons.nd (giceq (gic (gi_enumT T.enumerate (gr 0 rfl))) (by rw [dM_map]; exact enum_rg _)) (blkOk_by (N := N_down_buttons) (sc := defScope s_down_buttons) (by decide +kernel))
    (fun x _ _ _ _ _ _ => tg2 rfl (tgn 1 sc_down_buttons.nd) (tgn 2 sc_down_buttons.nd)) (fun _ _ k hk => hk)
    (fun t ht _ _ _ _ _ => gval (gcl c1 hr (acons (gr 2 rfl) anil) ⟨_, fun x hx => by
      obtain ⟨c, hc, rfl⟩ := List.mem_map.mp hx
      exact hJ t c (List.mem_range.mp ht) (List.mem_range.mp hc), rfl, rfl⟩)) (fun t _ _ _ _ _ _ => gr 1 rfl) (by simpa using hn)) rfl
end
end KP
end
section
set_option maxRecDepth 100000
set_option maxHeartbeats 2000000
namespace KP
open PySem PySem.Spec PyProof.Rows L2 KG KJ
open KW (G Wd)
section
variable {P : Program} {w : World} {K : PySem.W.Frag} {mg : Str → Option Value} {base : Heap} {f : Addr} {fd : FuncData}
/-! ### level_at -/
def F_level_at (K : PySem.W.Frag) : Option Addr → List En → En → Prop := fun _ ins o => ∃ (n b : Nat) (A : Nat → Nat → G) (x : Nat → G), n ≤ 1000 ∧ b < n ∧ (∀ s t, sml (A s t)) ∧ ins = [.rp (dM K (mtx n A)), .rp (dV K ((List.range n).map x)), .rp (TI b)] ∧ o = .rp (dP K (KW.lvl A b x n))
theorem dV_rg {n : Nat} {x : Nat → G} : ((List.range n).map x).map (dP K) = (List.range n).map fun i => dP K (x i) := by
  rw [List.map_map]
  rfl
theorem zip_rg {n : Nat} {x y : Nat → Rp} : zipE K ((List.range n).map x) ((List.range n).map y) = (List.range n).map fun i => En.rp (TUP K [x i, y i]) := by
  unfold zipE
  rw [List.zip_map', List.map_map]
  rfl
theorem ok_level_at (T : Tx K mg) (F : FnT K "level_at" s_level_at f fd) : FnOk P w K mg base CX0 1 f fd ["weights", "vector", "button"] (PM (F_level_at K)) := by
  refine pm_ok F sc_level_at (fun _ _ _ ⟨_, _, _, _, _, _, _, e, _⟩ => by rw [e] <;> rfl) fun cdv A0 outer s Ex B ins o hF hr => ?_
  obtain ⟨n, b, A, x, hn, hb, hA, rfl, rfl⟩ := hF
  refine ⟨[.rp (dM K (mtx n A)), .rp (dV K ((List.range n).map x)), .rp (TI b), .no, .no, .no, .no, .no, .no], rfl, ?_⟩
  refine bset 3 sc_level_at.nd gint (bset 4 sc_level_at.nd gint ?_)
  refine bfor (ys := (List.range n).map fun i => En.rp (TUP K [dP K (A b i), dP K (x i)])) [5, 6, 7, 8] (fun k E' => ∃ o1 o2 o3 o4, E' = [.rp (dM K (mtx n A)), .rp (dV K ((List.range n).map x)), .rp (TI b), .rp (TI (KW.lvl A b x k).a), .rp (TI (KW.lvl A b x k).b), o1, o2, o3, o4]) rfl PassesOwn.never
    (gieq (gi_zip T.zip (gix_m (gr 0 rfl) (gr 2 rfl) hb) (gr 1 rfl) (by simp)) (by rw [dV_rg, dV_rg]; exact zip_rg)) ⟨.no, .no, .no, .no, rfl⟩ (fun k y E' hy ⟨o1, o2, o3, o4, e⟩ => ?_) fun E' ⟨o1, o2, o3, o4, e⟩ => ?_
  · subst e
    have hk : k < n := by
      have := (List.getElem?_eq_some_iff.mp hy).1
      simpa using this
    rw [List.getElem?_map, List.getElem?_range hk] at hy
    cases hy
    obtain ⟨c1, c2, c3, c4⟩ := hA b k
    refine ⟨_, tg2 rfl (tg2 rfl (tgn 5 sc_level_at.nd) (tgn 6 sc_level_at.nd)) (tg2 rfl (tgn 7 sc_level_at.nd) (tgn 8 sc_level_at.nd)), ?_⟩
    refine bifs (N1 := fun E' => ∃ o1 o2 o3 o4, E' = [.rp (dM K (mtx n A)), .rp (dV K ((List.range n).map x)), .rp (TI b), .rp (TI (KW.lvl A b x (k + 1)).a), .rp (TI (KW.lvl A b x (k + 1)).b), o1, o2, o3, o4]) (gct (ceq (gr 6 rfl) gint)) (fun h => ?_) (fun h => ?_) fun E' h => bnil h
    · refine bset 3 sc_level_at.nd (gadd (gr 3 rfl) (gmul (gr 5 rfl) (gr 7 rfl) (m2 (by omega)))) (bset 4 sc_level_at.nd (gadd (gr 4 rfl) (gmul (gr 5 rfl) (gr 8 rfl) (m2 (by omega)))) (bnil ⟨.rp (TI (A b k).a), .rp (TI (A b k).b), .rp (TI (x k).a), .rp (TI (x k).b), ?_⟩))
      have h0 : (A b k).b = 0 := dt h
      have e1 : (KW.lvl A b x (k + 1)).a = (KW.lvl A b x k).a + (A b k).a * (x k).a := by
        show (KW.lvl A b x k).a + ((A b k).a * (x k).a + (A b k).b * (x k).b) = _
        rw [h0]
        omega
      have e2 : (KW.lvl A b x (k + 1)).b = (KW.lvl A b x k).b + (A b k).a * (x k).b := by
        show (KW.lvl A b x k).b + ((A b k).a * (x k).b + (A b k).b * (x k).a + (A b k).b * (x k).b) = _
        rw [h0]
        omega
      rw [e1, e2]
    · refine bset 3 sc_level_at.nd (gadd (gadd (gr 3 rfl) (gmul (gr 5 rfl) (gr 7 rfl) (m2 (by omega)))) (gmul (gr 6 rfl) (gr 8 rfl) (m2 (by omega)))) (bset 4 sc_level_at.nd (gadd (gadd (gadd (gr 4 rfl) (gmul (gr 5 rfl) (gr 8 rfl) (m2 (by omega)))) (gmul (gr 6 rfl) (gr 7 rfl) (m2 (by omega)))) (gmul (gr 6 rfl) (gr 8 rfl) (m2 (by omega)))) (bnil ⟨.rp (TI (A b k).a), .rp (TI (A b k).b), .rp (TI (x k).a), .rp (TI (x k).b), ?_⟩))
      have e1 : (KW.lvl A b x (k + 1)).a = (KW.lvl A b x k).a + (A b k).a * (x k).a + (A b k).b * (x k).b := by
        show (KW.lvl A b x k).a + ((A b k).a * (x k).a + (A b k).b * (x k).b) = _
        omega
      have e2 : (KW.lvl A b x (k + 1)).b = (KW.lvl A b x k).b + (A b k).a * (x k).b + (A b k).b * (x k).a + (A b k).b * (x k).b := by
        show (KW.lvl A b x k).b + ((A b k).a * (x k).b + (A b k).b * (x k).a + (A b k).b * (x k).b) = _
        omega
      rw [e1, e2]
  · subst e
    rw [List.length_map, List.length_range]
    exact bret (gtup (acons (gr 3 rfl) (acons (gr 4 rfl) anil))) rfl
/-! ### turned -/
def F_turned (K : PySem.W.Frag) : Option Addr → List En → En → Prop := fun _ ins o => ∃ (n b : Nat) (A : Nat → Nat → G) (x : Nat → G), n ≤ 900 ∧ b < n ∧ (∀ s t, sml (A s t)) ∧ ins = [.rp (dM K (mtx n A)), .rp (dV K ((List.range n).map x)), .rp (TI b)] ∧ o = .rp (dV K ((List.range n).map fun c => if c = b then x b - KW.lvl A b x n else x c))
theorem put_rg {α : Type} {n b : Nat} (g : Nat → α) (v : α) (h : b < n) : ((List.range n).map g).take b ++ [v] ++ ((List.range n).map g).drop (b + 1) = (List.range n).map fun c => if c = b then v else g c := by
  apply List.ext_getElem?
  intro i
  rw [List.append_assoc]
  by_cases h1 : i < b
  · rw [List.getElem?_append_left (by simp; omega), List.getElem?_take_of_lt h1, List.getElem?_map, List.getElem?_map, List.getElem?_range (by omega)]
    simp [show i ≠ b by omega]
  · have hl : (((List.range n).map g).take b).length = b := by simp; omega
    rw [List.getElem?_append_right (by omega), hl]
    by_cases h2 : i = b
    · subst h2
      rw [Nat.sub_self, List.getElem?_map, List.getElem?_range h]
      simp
    · have e : i - b = (i - (b + 1)) + 1 := by omega
      rw [e]
      show (((List.range n).map g).drop (b + 1))[i - (b + 1)]? = _
      rw [List.getElem?_drop, show b + 1 + (i - (b + 1)) = i by omega, List.getElem?_map, List.getElem?_map]
      by_cases h3 : i < n
      · rw [List.getElem?_range h3]
        simp [h2]
      · rw [List.getElem?_eq_none (by simp; omega)]
        rfl
theorem ok_turned (T : Tx K mg) (c1 : C8.Cal P w K mg base 1 "level_at" (PM (F_level_at K)) []) (F : FnT K "turned" s_turned f fd) : FnOk P w K mg base CX0 2 f fd ["weights", "vector", "button"] (PM (F_turned K)) := by
  refine pm_ok F sc_turned (fun _ _ _ ⟨_, _, _, _, _, _, _, e, _⟩ => by rw [e] <;> rfl) fun cdv A0 outer s Ex B ins o hF hr => ?_
  obtain ⟨n, b, A, x, hn, hb, hA, rfl, rfl⟩ := hF
  refine ⟨[.rp (dM K (mtx n A)), .rp (dV K ((List.range n).map x)), .rp (TI b), .no, .no, .no, .no], rfl, ?_⟩
  refine basg (gcl c1 hr (acons (gr 0 rfl) (acons (gr 1 rfl) (acons (gr 2 rfl) anil))) ⟨n, b, A, x, by omega, hb, hA, rfl, rfl⟩) (tg2 rfl (tgn 3 sc_turned.nd) (tgn 4 sc_turned.nd)) ?_
  refine bifR (gtw (gwand (gct (ceq (gr 3 rfl) gint)) fun _ => gw1 (gct (ceq (gr 4 rfl) gint)))) (fun h => bret (gr 1 rfl) ?_) fun h => ?_
  · obtain ⟨h1, h2⟩ := Bool.and_eq_true_iff.mp h
    have e : KW.lvl A b x n = 0 := by
      have h1 := dt h1
      have h2 := dt h2
      generalize KW.lvl A b x n = z at *
      obtain ⟨p, q⟩ := z
      have h3 : p = 0 := h1
      have h4 : q = 0 := h2
      rw [h3, h4]
      rfl
    rw [e]
    exact congrArg (fun l => En.rp (dV K l)) (List.map_congr_left fun c _ => by
      by_cases z : c = b
      · subst z
        rw [if_pos rfl]
        grind
      · rw [if_neg z])
  · refine basg (gix_v (gr 1 rfl) (gr 2 rfl) hb) (tg2 rfl (tgn 5 sc_turned.nd) (tgn 6 sc_turned.nd)) ?_
    refine bret (gcatT (gcatT (gslT (gr 1 rfl) on (oi (gr 2 rfl)) (cut_take _ b)) (gtup (acons (geq (gtup (acons (gsub (gr 5 rfl) (gr 3 rfl)) (acons (gsub (gr 6 rfl) (gr 4 rfl)) anil))) (dP_eq (x := x b - KW.lvl A b x n) rfl rfl)) anil)) ?_) (gslT (gr 1 rfl) (oi (gadd (gr 2 rfl) gint)) on (cut_drop _ (b + 1))) ?_) ?_
    · simp; omega
    · simp; omega
    · show En.rp (TUP K _) = En.rp (TUP K _)
      rw [dV_rg, put_rg (fun i => dP K (x i)) _ hb, dV_rg]
      exact congrArg (fun l => En.rp (TUP K l)) (List.map_congr_left fun c _ => by
        by_cases z : c = b
        · rw [if_pos z, if_pos z] <;> rfl
        · rw [if_neg z, if_neg z])
/-! ### pressed_front -/
def F_pressed_front (K : PySem.W.Frag) : Option Addr → List En → En → Prop := fun _ ins o => ∃ (n b : Nat) (A : Nat → Nat → G) (u : Wd), n ≤ 900 ∧ b < n ∧ (∀ s t, sml (A s t)) ∧ KW.okw n u ∧ ins = [.rp (dM K (mtx n A)), .rp (dM K (KW.imgs A n u)), .rp (TI b)] ∧ o = .rp (dM K (KW.imgs A n (b :: u)))
theorem ok_pressed_front (T : Tx K mg) (c1 : C8.Cal P w K mg base 2 "turned" (PM (F_turned K)) []) (F : FnT K "pressed_front" s_pressed_front f fd) : FnOk P w K mg base CX0 3 f fd ["weights", "images", "button"] (PM (F_pressed_front K)) := by
  refine pm_ok F sc_pressed_front (fun _ _ _ ⟨_, _, _, _, _, _, _, _, e, _⟩ => by rw [e] <;> rfl) fun cdv A0 outer s Ex B ins o hF hr => ?_
  obtain ⟨n, b, A, u, hn, hb, hA, hu, rfl, rfl⟩ := hF
  refine ⟨[.rp (dM K (mtx n A)), .rp (dM K (KW.imgs A n u)), .rp (TI b), .no], rfl, ?_⟩
  refine bret (gtc [("image", 3)] (items := List.range n) (y := fun t => En.rp (dV K ((List.range n).map fun c => KW.play A (KW.dl c) u t))) (fun t => dV K ((List.range n).map fun c => KW.play A (KW.dl c) (b :: u) t)) rfl T.tuple sc_pressed_front.nd (giceq (gic (gi_tup (gr 1 rfl))) (by rw [imgs_mtx, dM_map, List.map_map] <;> rfl)) (blkOk_by (N := N_pressed_front) (sc := defScope s_pressed_front) (by decide +kernel))
    (fun x _ _ _ _ _ _ => tgn 3 sc_pressed_front.nd) (fun _ _ k hk => hk) (fun t ht s' H C cl fp => geq (gcl c1 hr (acons (gr 0 rfl) (acons (gr 3 rfl) (acons (gr 2 rfl) anil))) ⟨n, b, A, _, hn, hb, hA, rfl, rfl⟩) ?_) (by simp; omega)) (by rw [imgs_mtx, dM, dM_map] <;> rfl)
  exact congrArg (fun l => En.rp (dV K l)) (List.map_congr_left fun c _ => by rw [KW.play_front hu hb (List.mem_range.mp ht)])
end
end KP
end
section
set_option maxRecDepth 100000
set_option maxHeartbeats 2000000
namespace KP
open PySem PySem.Spec PyProof.Rows L2 KG KJ
open KW (G Wd)
section
variable {P : Program} {w : World} {K : PySem.W.Frag} {mg : Str → Option Value} {base : Heap} {f : Addr} {fd : FuncData}
theorem bG_of {k : Nat} {x : G} (h : KW.bd k x) (hk : k ≤ 29) : bG x := by
  have h2 := KW.bd_mono hk h
  unfold KW.bd at h2
  have e : (4 ^ 29 : Int) = 2 ^ 58 := by decide
  rw [e] at h2
  exact h2
theorem wA_sml {m : Nat → Nat → Nat} (s t : Nat) : sml (KW.wA m s t) := by
  rcases KW.wA_cases (m := m) s t with h | h | h | h | h | h <;> rw [h] <;> exact ⟨by decide, by decide, by decide, by decide⟩
/-- small pictures -/
def bI (m : Nat → Nat → Nat) (n : Nat) (u : Wd) : Prop := ∀ t c, t < n → c < n → bG (KW.play (KW.wA m) (KW.dl c) u t)
theorem bI_of {m : Nat → Nat → Nat} (hm : KW.Ties m) {n : Nat} {u : Wd} (ho : KW.okw n u) (h : KW.W.len (KW.W.mk m u) ≤ 29) : bI m n u := fun t c ht hc => bG_of (KW.imgs_bd hm ho h ht hc) (Nat.le_refl _)
/-! ### word_by -/
def F_word_by (K : PySem.W.Frag) : Option Addr → List En → En → Prop := fun _ ins o => ∃ (n : Nat) (m : Nat → Nat → Nat) (c : Wd), KW.Ties m ∧ n ≤ 900 ∧ KW.okw n c ∧ KW.W.len (KW.W.mk m c) ≤ 29 ∧ ins = [.rp (dM K (mtx n (KW.wA m))), .rp (dM K (KW.imgs (KW.wA m) n c.reverse))] ∧ o = .rp (dW K (KW.wordBy (KW.wA m) n c))
theorem gdown {X : Cx} {B : Bs} {E : List En} {e : Expr} {p pos : Pos} {j n : Nat} {m : Nat → Nat → Nat} {u : Wd} (c1 : C8.Cal X.prog X.w X.K X.mg X.base 3 "down_buttons" (PM (F_down_buttons X.K)) []) (hr : Room j X.A) (hj : 3 ≤ j) (he : GE X B E e (.rp (dM X.K (KW.imgs (KW.wA m) n u)))) (hn : n ≤ 900) (hb : bI m n u)
    (hg : Gl X "down_buttons" := by rfl) (hs : starEach [e] X.env = (false, eval e X.env) :: starEach [] X.env := by rfl) : GE X B E (.Call (.Name "down_buttons" p) [e] [] pos) (.rp (dW X.K (KW.down (KW.wA m) n u))) :=
  gcl c1 hr (acons he anil hs) ⟨n, _, by omega, hb, rfl, rfl⟩ hj rfl rfl hg (by decide) hs rfl
theorem dW_take {K : PySem.W.Frag} {l : Wd} {k : Nat} : TUP K ((l.map fun (n : Nat) => TI n).take k) = dW K (l.take k) := by
  rw [← List.map_take]
  rfl
theorem ok_word_by (T : Tx K mg) (c1 : C8.Cal P w K mg base 3 "down_buttons" (PM (F_down_buttons K)) []) (c2 : C8.Cal P w K mg base 2 "pressed_behind" (PM (F_pressed_behind K)) []) (F : FnT K "word_by" s_word_by f fd) : FnOk P w K mg base CX0 4 f fd ["weights", "back"] (PM (F_word_by K)) := by
  refine pm_ok F sc_word_by (fun _ _ _ ⟨_, _, _, _, _, _, _, e, _⟩ => by rw [e] <;> rfl) fun cdv A0 outer s Ex B ins o hF hr => ?_
  obtain ⟨n, m, c, hm, hn, hc, hl, rfl, rfl⟩ := hF
  refine ⟨[.rp (dM K (mtx n (KW.wA m))), .rp (dM K (KW.imgs (KW.wA m) n c.reverse)), .no, .no, .no], rfl, ?_⟩
  have hl2 : KW.W.len (KW.W.mk m c.reverse) = KW.W.len (KW.W.mk m c) := by rw [KW.W.mk_rev, KW.W.len_inv]
  refine bset 2 sc_word_by.nd (glst anil) (bset 3 sc_word_by.nd (gr 1 rfl) (bset 4 sc_word_by.nd (geq (gslT (gdown c1 hr (by decide) (gr 3 rfl) hn (bI_of hm hc.rev (by omega))) on (oi gint) (cut_take _ 1)) (congrArg En.rp dW_take)) ?_))
  refine bwhile (fun k E' => ∃ u fnd fuel, KW.okw n u ∧ KW.W.len (KW.W.mk m u) = k ∧ fnd.length + k ≤ 29 ∧ k < fuel ∧ fnd ++ KW.wbgo (KW.wA m) n fuel u = KW.wordBy (KW.wA m) n c ∧
    E' = [.rp (dM K (mtx n (KW.wA m))), .rp (dM K (KW.imgs (KW.wA m) n c.reverse)), .mu (LS (fnd.map fun (n : Nat) => TI n)), .rp (dM K (KW.imgs (KW.wA m) n u)), .rp (dW K ((KW.down (KW.wA m) n u).take 1))]) (KW.W.len (KW.W.mk m c.reverse)) PassesOwn.never
    ⟨c.reverse, [], c.length + 1, hc.rev, rfl, by simp; omega, by rw [hl2]; have := KW.W.len_mk (m := m) c; omega, rfl, rfl⟩ fun k E' ⟨u, fnd, fuel, hu, hk, hlen, hfu, hw, e⟩ => ?_
  subst e
  refine ⟨_, gct (cneD hr.units (gr 4 rfl) (gtup anil) (dto (dp_dW _)) (dto (dp_dW [])) (shp_ok (shp_pW _) (by decide)) (shp_ok (shp_pW []) (by decide))), fun h => ?_, fun h => ?_⟩
  · rw [eqv_pW] at h
    cases hd : KW.down (KW.wA m) n u with
    | nil =>
      rw [hd] at h
      simp at h
    | cons b l =>
      obtain ⟨fu, rfl⟩ : ∃ fu, fuel = fu + 1 := ⟨fuel - 1, by omega⟩
      have hbm : b ∈ KW.down (KW.wA m) n u := by rw [hd]; exact List.mem_cons_self
      obtain ⟨hb, hlb⟩ := KW.down_len hm hu hbm
      have hu2 : KW.okw n (u ++ [b]) := KW.okw.app hu fun x hx => by rw [List.mem_singleton.mp hx]; exact hb
      show GB _ _ [_, _, _, _, .rp (dW K [b])] _ _ _
      refine bapp 2 rfl (gixT (gr 4 rfl) gint rfl) ?_ (by simp; omega)
      refine bset 3 sc_word_by.nd (geq (gcl c2 hr (acons (gr 0 rfl) (acons (gr 3 rfl) (acons (gixT (gr 4 rfl) gint rfl) anil))) ⟨n, b, KW.wA m, fun t c => KW.play (KW.wA m) (KW.dl c) u t, by omega, hb, wA_sml, rfl, rfl⟩) (o1 := .rp (dM K (KW.imgs (KW.wA m) n (u ++ [b])))) (by rw [imgs_snoc] <;> rfl)) ?_
      refine bset 4 sc_word_by.nd (geq (gslT (gdown c1 hr (by decide) (gr 3 rfl) hn (bI_of hm hu2 (by omega))) on (oi gint) (cut_take _ 1)) (congrArg En.rp dW_take)) (bnil ⟨k - 1, by omega, u ++ [b], fnd ++ [b], fu, hu2, by omega, by simp; omega, by omega, ?_, ?_⟩)
      · rw [← hw]
        show fnd ++ [b] ++ _ = fnd ++ (match KW.down (KW.wA m) n u with | [] => [] | b :: _ => b :: KW.wbgo (KW.wA m) n fu (u ++ [b]))
        rw [hd, List.append_assoc] <;> rfl
      · rw [List.map_append] <;> rfl
  · rw [eqv_pW] at h
    have hd : KW.down (KW.wA m) n u = [] := by
      have : (KW.down (KW.wA m) n u).take 1 = [] := by simpa using h
      cases q : KW.down (KW.wA m) n u with
      | nil => rfl
      | cons b l =>
        rw [q] at this
        cases this
    obtain ⟨fu, rfl⟩ : ∃ fu, fuel = fu + 1 := ⟨fuel - 1, by omega⟩
    have hw2 : fnd = KW.wordBy (KW.wA m) n c := by
      rw [← hw]
      show fnd = fnd ++ (match KW.down (KW.wA m) n u with | [] => [] | b :: _ => b :: KW.wbgo (KW.wA m) n fu (u ++ [b]))
      rw [hd, List.append_nil]
    exact bret (gtupOf T.tuple (gM 2 rfl)) (by rw [← hw2] <;> rfl)
end
end KP
end
section
set_option maxRecDepth 100000
set_option maxHeartbeats 2000000
namespace KP
open PySem PySem.Spec PyProof.Rows L2 KG KJ
open KW (G Wd)
section
variable {P : Program} {w : World} {K : PySem.W.Frag} {mg : Str → Option Value} {base : Heap} {f : Addr} {fd : FuncData}
/-! ### rows of ties -/
def tr (m : Nat → Nat → Nat) (s t : Nat) : Int := if s = t then 1 else (m s t : Int)
def rowT (n : Nat) (m : Nat → Nat → Nat) (s : Nat) : List Int := (List.range n).map (tr m s)
def tbl (n : Nat) (m : Nat → Nat → Nat) : List (List Int) := (List.range n).map (rowT n m)
def dT (K : PySem.W.Frag) (n : Nat) (m : Nat → Nat → Nat) : Rp := dR K (tbl n m)
theorem dT_map {n : Nat} {m : Nat → Nat → Nat} : (tbl n m).map (dWI K) = (List.range n).map fun s => dWI K (rowT n m s) := by
  unfold tbl
  rw [List.map_map]
  rfl
theorem gix_t {X : Cx} {B : Bs} {E : List En} {a b : Expr} {pos : Pos} {n i : Nat} {m : Nat → Nat → Nat} (ha : GE X B E a (.rp (dT X.K n m))) (hb : GE X B E b (.rp (TI (i : Int)))) (h : i < n) (hs : PlainIx b := by intro _ _; rfl) : GE X B E (.Subscript a b pos) (.rp (dWI X.K (rowT n m i))) :=
  gixT ha hb (by rw [dT_map]; exact atI_rg _ h) hs
theorem rowT_map {n s : Nat} {m : Nat → Nat → Nat} : (rowT n m s).map TI = (List.range n).map fun t => TI (tr m s t) := by
  unfold rowT
  rw [List.map_map]
  rfl
theorem gix_r {X : Cx} {B : Bs} {E : List En} {a b : Expr} {pos : Pos} {n s i : Nat} {m : Nat → Nat → Nat} (ha : GE X B E a (.rp (dWI X.K (rowT n m s)))) (hb : GE X B E b (.rp (TI (i : Int)))) (h : i < n) (hs : PlainIx b := by intro _ _; rfl) : GE X B E (.Subscript a b pos) (.rp (TI (tr m s i))) :=
  gixT ha hb (by rw [rowT_map]; exact atI_rg _ h) hs
theorem tr_ok {m : Nat → Nat → Nat} (hm : KW.Ties m) {s t : Nat} (h : s ≠ t) : tr m s t ∈ ([0, 2, 3, 4, 5, 6] : List Int) := by
  unfold tr
  rw [if_neg h]
  rcases hm.ok s t h with h | h | h | h | h | h <;> rw [h] <;> decide
theorem tr_symm {m : Nat → Nat → Nat} (hm : KW.Ties m) (s t : Nat) : tr m s t = tr m t s := by
  unfold tr
  by_cases h : s = t
  · subst h; rfl
  · rw [if_neg h, if_neg fun z => h z.symm, hm.symm]
/-! ### is_button -/
def F_is_button : Option Addr → List En → En → Prop := fun _ ins o => ∃ n i : Int, ins = [.rp (TI n), .rp (TI i)] ∧ o = .rp (TBl (decide (0 ≤ i) && decide (i < n)))
theorem ok_is_button (c1 : C8.Cal P w K mg base 1 "is_whole" (PM F_is_whole) []) (F : FnT K "is_button" s_is_button f fd) : FnOk P w K mg base CX0 2 f fd ["size", "value"] (PM F_is_button) := by
  refine pm_ok F sc_is_button (fun _ _ _ ⟨_, _, e, _⟩ => by rw [e] <;> rfl) fun cdv A0 outer s Ex B ins o hF hr => ?_
  obtain ⟨n, i, rfl, rfl⟩ := hF
  exact ⟨[.rp (TI n), .rp (TI i)], rfl, bret (gand (gcl c1 hr (acons (gr 1 rfl) anil) ⟨i, rfl, rfl⟩) fun _ => gone (gch op_le op_lt gint (gr 1 rfl) (gr 0 rfl))) rfl⟩
/-! ### is_right_row -/
def F_is_right_row (K : PySem.W.Frag) : Option Addr → List En → En → Prop := fun _ ins o => ∃ (n s : Nat) (m : Nat → Nat → Nat), KW.Ties m ∧ n ≤ 1000 ∧ s < n ∧ ins = [.rp (dT K n m), .rp (TI s)] ∧ o = .rp (TBl true)
theorem ok_is_right_row (T : Tx K mg) (c1 : C8.Cal P w K mg base 1 "is_whole" (PM F_is_whole) []) (F : FnT K "is_right_row" s_is_right_row f fd) : FnOk P w K mg base CX0 2 f fd ["ties", "place"] (PM (F_is_right_row K)) := by
  refine pm_ok F sc_is_right_row (fun _ _ _ ⟨_, _, _, _, _, _, e, _⟩ => by rw [e] <;> rfl) fun cdv A0 outer s0 Ex B ins o hF hr => ?_
  obtain ⟨n, s, m, hm, hn, hs, rfl, rfl⟩ := hF
  refine ⟨[.rp (dT K n m), .rp (TI s), .no, .no, .no], rfl, ?_⟩
  refine bset 2 sc_is_right_row.nd (gix_t (gr 0 rfl) (gr 1 rfl) hs) ?_
  refine bifR (GT.to (d1 := false) (gtw (gwor (gnot (gval (gisi T.isinstance (gr 2 rfl) (gbt T.tuple boot_tuple) (fun B H v H2 h => ty_tup (tup_any h)) (d := true) (by decide +kernel)))) fun _ => gwor (gct (cne (glen T.len (gr 2 rfl) (szTT (n := n) (by simp [rowT]))) (glen T.len (gr 0 rfl) (szTT (n := n) (by simp [tbl]))))) fun _ =>
    gwo1 (gct (cneD (y := .list []) (z := .list []) hr.units (geq (glc [("tie", 4)] (items := List.range n) (y := fun t => En.rp (TI (tr m s t))) (bb := fun _ => false) (r := fun t => TI (tr m s t)) rfl sc_is_right_row.nd (giceq (gic (gi_tup (gr 2 rfl))) (by rw [rowT_map, List.map_map] <;> rfl)) (blkOk_by (N := N_is_right_row) (sc := defScope s_is_right_row) (by decide +kernel))
      (fun x _ _ _ _ _ _ => tgn 4 sc_is_right_row.nd) (fun _ _ k hk => hk) (fun x _ _ _ _ _ _ => pts1 (GT.to (gnot (gval (gcl c1 hr (acons (gr 4 rfl) anil) ⟨_, rfl, rfl⟩))) rfl)) (fun x _ h => by cases h) (by simpa using hn)) (o1 := .mu (LS [])) (by rw [show (List.range n).filter (fun _ => false) = [] by simp] <;> rfl)) (glst anil) dtoL dtoL (shp_ok (shp_lst (n := 0) fun d hd => by cases hd) (by decide)) (shp_ok (shp_lst (n := 0) fun d hd => by cases hd) (by decide)))))) (by simp [PyData.eqv, PyData.eqvAll])) (fun h => by cases h) fun _ => ?_
  refine bfor (ys := (List.range n).map fun t => En.rp (TUP K [TI (t : Nat), TI (tr m s t)])) [3, 4] (fun k E' => ∃ o1 o2, E' = [.rp (dT K n m), .rp (TI s), .rp (dWI K (rowT n m s)), o1, o2]) rfl PassesOwn.never (gieq (gi_enumT T.enumerate (gr 2 rfl)) (by rw [rowT_map]; exact enum_rg _)) ⟨.no, .no, rfl⟩ (fun k y E' hy ⟨o1, o2, e⟩ => ?_) fun E' ⟨o1, o2, e⟩ => ?_
  · subst e
    have hk : k < n := by
      have := (List.getElem?_eq_some_iff.mp hy).1
      simpa using this
    rw [List.getElem?_map, List.getElem?_range hk] at hy
    cases hy
    refine ⟨_, tg2 rfl (tgn 3 sc_is_right_row.nd) (tgn 4 sc_is_right_row.nd), ?_⟩
    refine bifR (GT.to (d1 := false) (gtw (gwor (gtw (gwand (gct (ceq (gr 3 rfl) (gr 1 rfl))) fun _ => gw1 (gct (cne (gr 4 rfl) gint)))) fun _ => gwo1 (gtw (gwand (gct (cne (gr 3 rfl) (gr 1 rfl))) fun _ => gw1 (gct (cnin (gr 4 rfl) (gTIES T) (sqiT _))))))) ?_) (fun h => by cases h) fun _ => bifR (GT.to (d1 := false) (gtw (gwand (gct (clt (gr 3 rfl) (gr 1 rfl))) fun h => gw1 (gct (cne (gr 4 rfl) (gix_r (gix_t (gr 0 rfl) (gr 3 rfl) hk) (gr 1 rfl) hs))))) ?_) (fun h => by cases h) fun _ => bnil ⟨_, _, rfl⟩
    · by_cases h : k = s
      · subst h
        have e1 : tr m k k = 1 := by unfold tr; rw [if_pos rfl]
        rw [e1]
        simp
      · have h2 : ¬ ((k : Int) = s) := by omega
        rw [decide_eq_false h2, decide_eq_true (tr_ok hm (s := s) (t := k) fun z => h z.symm)]
        rfl
    · rw [tr_symm hm s k]
      simp
  · subst e
    exact bret gbl rfl
/-! ### first_wrong_row -/
def F_first_wrong_row (K : PySem.W.Frag) : Option Addr → List En → En → Prop := fun _ ins o => ∃ (n : Nat) (m : Nat → Nat → Nat), KW.Ties m ∧ 1 ≤ n ∧ n ≤ 6 ∧ ins = [.rp (dT K n m)] ∧ o = .rp (TI (-1))
theorem ok_first_wrong_row (T : Tx K mg) (c1 : C8.Cal P w K mg base 2 "is_right_row" (PM (F_is_right_row K)) []) (F : FnT K "first_wrong_row" s_first_wrong_row f fd) : FnOk P w K mg base CX0 3 f fd ["ties"] (PM (F_first_wrong_row K)) := by
  refine pm_ok F sc_first_wrong_row (fun _ _ _ ⟨_, _, _, _, _, e, _⟩ => by rw [e] <;> rfl) fun cdv A0 outer s0 Ex B ins o hF hr => ?_
  obtain ⟨n, m, hm, h1, hn, rfl, rfl⟩ := hF
  refine ⟨[.rp (dT K n m), .no], rfl, ?_⟩
  refine bifR (GT.to (d1 := false) (gtw (gwor (gnot (gval (gisi T.isinstance (gr 0 rfl) (gbt T.tuple boot_tuple) (fun B H v H2 h => ty_tup (tup_any h)) (d := true) (by decide +kernel)))) fun _ => gwo1 (gnot (gcht op_le op_le gint (glen T.len (gr 0 rfl) (szTT (n := n) (by simp [tbl]))) (gmax T.mostB))))) (by
    have a : decide ((1 : Int) ≤ (n : Int)) = true := decide_eq_true (by omega)
    have b : decide ((n : Int) ≤ 6) = true := decide_eq_true (by omega)
    rw [a, b]
    rfl)) (fun h => by cases h) fun _ => ?_
  refine bfor (ys := (List.range n).map fun (t : Nat) => En.rp (TI t)) [1] (fun k E' => ∃ o1, E' = [.rp (dT K n m), o1]) rfl PassesOwn.never (gi_range T.range (glen T.len (gr 0 rfl) (szTT (n := n) (by simp [tbl]))) (by omega)) ⟨.no, rfl⟩ (fun k y E' hy ⟨o1, e⟩ => ?_) fun E' ⟨o1, e⟩ => ?_
  · subst e
    have hk : k < n := by
      have := (List.getElem?_eq_some_iff.mp hy).1
      simpa using this
    rw [List.getElem?_map, List.getElem?_range hk] at hy
    cases hy
    exact ⟨_, tgn 1 sc_first_wrong_row.nd, bifR (gnot (gval (gcl c1 hr (acons (gr 0 rfl) (acons (gr 1 rfl) anil)) ⟨n, k, m, hm, by omega, hk, rfl, rfl⟩))) (fun h => by cases h) fun _ => bnil ⟨_, rfl⟩⟩
  · subst e
    exact bret (gneg gint) rfl
end
end KP
end
section
set_option maxRecDepth 100000
set_option maxHeartbeats 2000000
namespace KP
open PySem PySem.Spec PyProof.Rows L2 KG KJ
open KW (G Wd)
section
variable {P : Program} {w : World} {K : PySem.W.Frag} {mg : Str → Option Value} {base : Heap} {f : Addr} {fd : FuncData}
/-! ### weight_pairs -/
def F_weight_pairs (K : PySem.W.Frag) : Option Addr → List En → En → Prop := fun _ ins o => ∃ (n : Nat) (m : Nat → Nat → Nat), KW.Ties m ∧ n ≤ 1000 ∧ ins = [.rp (dT K n m)] ∧ o = .rp (dM K (mtx n (KW.wA m)))
theorem low_in {m : Nat → Nat → Nat} (hm : KW.Ties m) {s t : Nat} (h : s < t) : (tr m s t, (KW.wA m s t).a, (KW.wA m s t).b) ∈ lowL := by
  unfold tr KW.wA
  rw [if_neg (by omega), if_neg (by omega), if_pos h]
  rcases hm.ok s t (by omega) with h | h | h | h | h | h <;> rw [h] <;> decide
theorem high_in {m : Nat → Nat → Nat} (hm : KW.Ties m) {s t : Nat} (h : t < s) : (tr m s t, (KW.wA m s t).a, (KW.wA m s t).b) ∈ highL := by
  unfold tr KW.wA
  rw [if_neg (by omega), if_neg (by omega), if_neg (by omega)]
  rcases hm.ok s t (by omega) with h | h | h | h | h | h <;> rw [h] <;> decide
theorem glow {X : Cx} {B : Bs} {E : List En} {b : Expr} {pos p : Pos} {i : Int} {x : G} (T : Tx X.K X.mg) (hb : GE X B E b (.rp (TI i))) (h : (i, x.a, x.b) ∈ lowL) (hs : NoSl b := by intro _ _; rfl) (hg : Gl X "LOW" := by rfl) : GE X B E (.Subscript (.Name "LOW" p) b pos) (.rp (dP X.K x)) := by
  obtain ⟨q, h1, h2⟩ := T.lowT i x.a x.b h
  exact gkint (gglob (v := .ref (He.ga X.K "LOW")) (R := VL (.ref (He.ga X.K "LOW"))) T.low rfl (fun _ => rfl) hg) hb h1 (fun H => ⟨q, _, rfl, h2 H, .cons rfl (.cons rfl .nil)⟩) hs
theorem ghigh {X : Cx} {B : Bs} {E : List En} {b : Expr} {pos p : Pos} {i : Int} {x : G} (T : Tx X.K X.mg) (hb : GE X B E b (.rp (TI i))) (h : (i, x.a, x.b) ∈ highL) (hs : NoSl b := by intro _ _; rfl) (hg : Gl X "HIGH" := by rfl) : GE X B E (.Subscript (.Name "HIGH" p) b pos) (.rp (dP X.K x)) := by
  obtain ⟨q, h1, h2⟩ := T.highT i x.a x.b h
  exact gkint (gglob (v := .ref (He.ga X.K "HIGH")) (R := VL (.ref (He.ga X.K "HIGH"))) T.high rfl (fun _ => rfl) hg) hb h1 (fun H => ⟨q, _, rfl, h2 H, .cons rfl (.cons rfl .nil)⟩) hs
theorem wA_self {m : Nat → Nat → Nat} {s : Nat} : KW.wA m s s = 2 := by unfold KW.wA; rw [if_pos rfl]
theorem ok_weight_pairs (T : Tx K mg) (F : FnT K "weight_pairs" s_weight_pairs f fd) : FnOk P w K mg base CX0 1 f fd ["ties"] (PM (F_weight_pairs K)) := by
  refine pm_ok F sc_weight_pairs (fun _ _ _ ⟨_, _, _, _, e, _⟩ => by rw [e] <;> rfl) fun cdv A0 outer s0 Ex B ins o hF hr => ?_
  obtain ⟨n, m, hm, hn, rfl, rfl⟩ := hF
  refine ⟨[.rp (dT K n m), .no, .no, .no, .no, .no], rfl, ?_⟩
  refine bset 1 sc_weight_pairs.nd (glst anil) ?_
  refine bfor (ys := (List.range n).map fun s => En.rp (TUP K [TI (s : Nat), dWI K (rowT n m s)])) [2, 3] (fun k E' => ∃ o1 o2, E' = [.rp (dT K n m), .mu (LS ((List.range k).map fun s => dV K ((List.range n).map (KW.wA m s)))), o1, o2, .no, .no]) rfl PassesOwn.never (gieq (gi_enumT T.enumerate (gr 0 rfl)) (by rw [dT_map]; exact enum_rg _)) ⟨.no, .no, rfl⟩ (fun k y E' hy ⟨o1, o2, e⟩ => ?_) fun E' ⟨o1, o2, e⟩ => ?_
  · subst e
    have hk : k < n := by
      have := (List.getElem?_eq_some_iff.mp hy).1
      simpa using this
    rw [List.getElem?_map, List.getElem?_range hk] at hy
    cases hy
    refine ⟨_, tg2 rfl (tgn 2 sc_weight_pairs.nd) (tgn 3 sc_weight_pairs.nd), ?_⟩
    refine bapp 1 rfl (geq (gtc [("other", 4), ("tie", 5)] (items := List.range n) (y := fun t => En.rp (TUP K [TI (t : Nat), TI (tr m k t)])) (fun t => dP K (KW.wA m k t)) rfl T.tuple sc_weight_pairs.nd (giceq (gic (gi_enumT T.enumerate (gr 3 rfl))) (by rw [rowT_map]; exact enum_rg _)) (blkOk_by (N := N_weight_pairs) (sc := defScope s_weight_pairs) (by decide +kernel))
      (fun x _ _ _ _ _ _ => tg2 rfl (tgn 4 sc_weight_pairs.nd) (tgn 5 sc_weight_pairs.nd)) (fun _ _ i hi => hi) (fun t ht _ _ _ _ _ => gif (gct (ceq (gr 4 rfl) (gr 2 rfl))) (fun h => geq (gtup (acons gint (acons gint anil))) ?_) fun h => gif (gct (clt (gr 2 rfl) (gr 4 rfl))) (fun h2 => glow T (gr 5 rfl) ?_) fun h2 => ghigh T (gr 5 rfl) ?_) (by simpa using hn)) (o1 := .rp (dV K ((List.range n).map (KW.wA m k)))) (by rw [dV, dV_rg] <;> rfl)) (bnil ⟨.rp (TI k), .rp (dWI K (rowT n m k)), ?_⟩) (by simp; omega)
    · have h := dt h
      have e : t = k := by omega
      rw [e, wA_self] <;> rfl
    · have h2 := dt h2
      exact low_in hm (by omega)
    · have h := df h
      have h2 := df h2
      exact high_in hm (by omega)
    · rw [List.range_succ, List.map_append] <;> rfl
  · subst e
    rw [List.length_map, List.length_range]
    exact bret (gtupOf T.tuple (gM 1 rfl)) (by rw [dM, dM_map] <;> rfl)
/-! ### piece_from, pieces_of -/
def NEW (K : PySem.W.Frag) : Rp := exR fun q : {ns : List Int // ns ≠ []} => dWI K q.1
def F_piece_from (K : PySem.W.Frag) : Option Addr → List En → En → Prop := fun _ ins o => ∃ (n s : Nat) (m : Nat → Nat → Nat), KW.Ties m ∧ n ≤ 60 ∧ s < n ∧ ins = [.rp (dT K n m), .rp (TI s)] ∧ o = .rp (NEW K)
theorem ok_piece_from (T : Tx K mg) (F : FnT K "piece_from" s_piece_from f fd) : FnOk P w K mg base CX0 1 f fd ["ties", "first"] (PM (F_piece_from K)) := by
  refine pm_ok F sc_piece_from (fun _ _ _ ⟨_, _, _, _, _, _, e, _⟩ => by rw [e] <;> rfl) fun cdv A0 outer s0 Ex B ins o hF hr => ?_
  obtain ⟨n, s, m, hm, hn, hs, rfl, rfl⟩ := hF
  refine ⟨[.rp (dT K n m), .rp (TI s), .no, .no, .no, .no, .no], rfl, ?_⟩
  refine bset 2 sc_piece_from.nd (glst (acons (gr 1 rfl) anil)) (bset 3 sc_piece_from.nd (glst (acons (gr 1 rfl) anil)) ?_)
  have nat_len : ∀ {l : List Nat}, l.Nodup → (∀ x ∈ l, x < n) → l.length ≤ n := fun {l} h1 h2 => by
    have := List.Nodup.length_le_of_subset h1 (l₂ := List.range n) fun x hx => List.mem_range.mpr (h2 x hx)
    simpa using this
  refine bwhile (fun k E' => ∃ (fo wa : List Nat) (o1 o2 o3 : En), fo ≠ [] ∧ fo.Nodup ∧ (∀ x ∈ fo, x < n) ∧ (∀ x ∈ wa, x < n) ∧ wa.length ≤ fo.length ∧ 2 * (n - fo.length) + wa.length = k ∧
    E' = [.rp (dT K n m), .rp (TI s), .mu (LS ((fo.map fun (x : Nat) => (x : Int)).map TI)), .mu (LS ((wa.map fun (x : Nat) => (x : Int)).map TI)), o1, o2, o3]) (2 * (n - 1) + 1) PassesOwn.never ⟨[s], [s], .no, .no, .no, by simp, by simp, by simp [hs], by simp [hs], by simp, by simp, rfl⟩ fun k E' ⟨fo, wa, o1, o2, o3, hne, hnd, hfo, hwa, hle, hk, e⟩ => ?_
  subst e
  refine ⟨_, gct (cneD hr.units (gM 3 rfl) (glst anil) (dtoLi _) dtoL (shp_ok (shp_li _) (by decide)) (shp_ok (shp_lst (n := 0) fun d hd => by cases hd) (by decide))), fun h => ?_, fun h => ?_⟩
  · rw [eqvL_nil] at h
    rcases List.eq_nil_or_concat wa with hw | ⟨wa', x, hw⟩
    · subst hw
      simp at h
    · subst hw
      rw [List.concat_eq_append] at *
      have hx : x < n := hwa x (by simp)
      rw [List.map_append, List.map_append]
      refine bpop 3 4 sc_piece_from.nd (R := TI x) rfl ?_
      refine bfor (ys := (List.range n).map fun t => En.rp (TUP K [TI (t : Nat), TI (tr m x t)])) [5, 6] (fun j E' => ∃ (fo2 wa2 : List Nat) (o2 o3 : En), fo2 ≠ [] ∧ fo2.Nodup ∧ (∀ x ∈ fo2, x < n) ∧ (∀ x ∈ wa2, x < n) ∧ wa2.length ≤ fo2.length ∧ 2 * (n - fo2.length) + wa2.length < k ∧
        E' = [.rp (dT K n m), .rp (TI s), .mu (LS ((fo2.map fun (x : Nat) => (x : Int)).map TI)), .mu (LS ((wa2.map fun (x : Nat) => (x : Int)).map TI)), .rp (TI x), o2, o3]) rfl PassesOwn.never (gieq (gi_enumT T.enumerate (gix_t (gr 0 rfl) (gr 4 rfl) hx)) (by rw [rowT_map]; exact enum_rg _))
        ⟨fo, wa', o2, o3, hne, hnd, hfo, fun y hy => hwa y (by simp [hy]), by simp at hle; omega, by simp at hk; omega, rfl⟩ (fun j y E' hy ⟨fo2, wa2, o2, o3, hne, hnd, hfo, hwa2, hle2, hk2, e⟩ => ?_) fun E' ⟨fo2, wa2, o2, o3, hne, hnd, hfo, hwa2, hle2, hk2, e⟩ => bnil ⟨_, hk2, fo2, wa2, _, _, _, hne, hnd, hfo, hwa2, hle2, rfl, e⟩
      subst e
      have hj : j < n := by
        have := (List.getElem?_eq_some_iff.mp hy).1
        simpa using this
      rw [List.getElem?_map, List.getElem?_range hj] at hy
      cases hy
      refine ⟨_, tg2 rfl (tgn 5 sc_piece_from.nd) (tgn 6 sc_piece_from.nd), ?_⟩
      have hl2 := nat_len hnd hfo
      refine bifs (N1 := fun E' => ∃ (fo2 wa2 : List Nat) (o2 o3 : En), fo2 ≠ [] ∧ fo2.Nodup ∧ (∀ x ∈ fo2, x < n) ∧ (∀ x ∈ wa2, x < n) ∧ wa2.length ≤ fo2.length ∧ 2 * (n - fo2.length) + wa2.length < k ∧
        E' = [.rp (dT K n m), .rp (TI s), .mu (LS ((fo2.map fun (x : Nat) => (x : Int)).map TI)), .mu (LS ((wa2.map fun (x : Nat) => (x : Int)).map TI)), .rp (TI x), o2, o3]) (gtw (gwand (gct (cnin (gr 6 rfl) (gtup (acons gint (acons gint anil))) (sqiT [1, 2]))) fun _ => gw1 (gct (cnin (gr 5 rfl) (gM 2 rfl) (sqiL _))))) (fun h => ?_) (fun h => bnil ⟨fo2, wa2, _, _, hne, hnd, hfo, hwa2, hle2, hk2, rfl⟩) fun E' q => bnil q
      obtain ⟨_, h2⟩ := Bool.and_eq_true_iff.mp h
      have hjn : j ∉ fo2 := fun z => by
        have : (j : Int) ∈ fo2.map fun (x : Nat) => (x : Int) := List.mem_map.mpr ⟨j, z, rfl⟩
        rw [decide_eq_true this] at h2
        cases h2
      have hnd2 : (fo2 ++ [j]).Nodup := by
        rw [List.nodup_append]
        exact ⟨hnd, by simp, fun a ha b hb => by
          rw [List.mem_singleton.mp hb]
          exact fun z => hjn (z ▸ ha)⟩
      have hfo2 : ∀ x ∈ fo2 ++ [j], x < n := fun x hx => by
        rcases List.mem_append.mp hx with z | z
        · exact hfo x z
        · rw [List.mem_singleton.mp z]
          exact hj
      have hl3 := nat_len hnd2 hfo2
      rw [List.length_append, List.length_singleton] at hl3
      refine bapp 2 rfl (gr 5 rfl) (bapp 3 rfl (gr 5 rfl) (bnil ⟨fo2 ++ [j], wa2 ++ [j], .rp (TI j), .rp (TI (tr m x j)), by simp, hnd2, hfo2, fun x hx => ?_, by simp; omega, by simp; omega, ?_⟩) (by simp; omega)) (by simp; omega)
      · rcases List.mem_append.mp hx with z | z
        · exact hwa2 x z
        · rw [List.mem_singleton.mp z]
          exact hj
      · simp only [List.map_append, List.map_cons, List.map_nil]
  · have hl2 := nat_len hnd hfo
    refine bret (o := .rp (NEW K)) (grp (R1 := NEW K) (gtupX T.tuple (gsorted T.sorted (gM 2 rfl) (by simp; omega))) fun v H ⟨⟨q, hq⟩, hp⟩ => ⟨⟨q, fun z => ?_⟩, hp⟩) rfl
    subst z
    have := hq.length_eq
    simp at this
    exact hne (List.length_eq_zero_iff.mp (by simpa using this.symm))
def F_pieces_of (K : PySem.W.Frag) : Option Addr → List En → En → Prop := fun _ ins o => ∃ (n : Nat) (m : Nat → Nat → Nat), KW.Ties m ∧ n ≤ 60 ∧ ins = [.rp (dT K n m)] ∧ o = .rp (TANY K)
theorem ok_pieces_of (T : Tx K mg) (c1 : C8.Cal P w K mg base 1 "piece_from" (PM (F_piece_from K)) []) (F : FnT K "pieces_of" s_pieces_of f fd) : FnOk P w K mg base CX0 2 f fd ["ties"] (PM (F_pieces_of K)) := by
  refine pm_ok F sc_pieces_of (fun _ _ _ ⟨_, _, _, _, e, _⟩ => by rw [e] <;> rfl) fun cdv A0 outer s0 Ex B ins o hF hr => ?_
  obtain ⟨n, m, hm, hn, rfl, rfl⟩ := hF
  refine ⟨[.rp (dT K n m), .no, .no, .no], rfl, ?_⟩
  refine bset 1 sc_pieces_of.nd (glst anil) ?_
  refine bfor (ys := (List.range n).map fun (t : Nat) => En.rp (TI t)) [2] (fun k E' => ∃ Rs o1 o2, Rs.length ≤ k ∧ E' = [.rp (dT K n m), .mu (LS Rs), o1, o2]) rfl PassesOwn.never (gi_range T.range (glen T.len (gr 0 rfl) (szTT (n := n) (by simp [tbl]))) (by omega)) ⟨[], .no, .no, by simp, rfl⟩ (fun k y E' hy ⟨Rs, o1, o2, hl, e⟩ => ?_) fun E' ⟨Rs, o1, o2, hl, e⟩ => ?_
  · subst e
    have hk : k < n := by
      have := (List.getElem?_eq_some_iff.mp hy).1
      simpa using this
    rw [List.getElem?_map, List.getElem?_range hk] at hy
    cases hy
    refine ⟨_, tgn 2 sc_pieces_of.nd, bset 3 sc_pieces_of.nd (gcl c1 hr (acons (gr 0 rfl) (acons (gr 2 rfl) anil)) ⟨n, k, m, hm, hn, hk, rfl, rfl⟩) (bopen 3 rfl fun q => ?_)⟩
    obtain ⟨ns, hne⟩ := q
    cases ns with
    | nil => exact absurd rfl hne
    | cons z zs => exact bifs (N1 := fun E' => ∃ Rs o1 o2, Rs.length ≤ k + 1 ∧ E' = [.rp (dT K n m), .mu (LS Rs), o1, o2]) (gct (ceq (gixT (R := TI z) (Rs := (z :: zs).map TI) (gr 3 rfl) gint (atI_nat (j := 0) rfl)) (gr 2 rfl))) (fun _ => bapp 1 rfl (gr 3 rfl) (bnil ⟨_, _, _, by simp; omega, rfl⟩) (by omega)) (fun _ => bnil ⟨Rs, _, _, by omega, rfl⟩) fun E' q => bnil q
  · subst e
    exact bret (grp (gtupOf T.tuple (gM 1 rfl)) fun v H h => tup_any h) rfl
end
end KP
end
section
set_option maxRecDepth 100000
set_option maxHeartbeats 2000000
namespace KP
open PySem PySem.Spec PyProof.Rows L2 KG KJ
open KW (G Wd)
abbrev cT (K : PySem.W.Frag) : Addr := He.ga K "Table"
abbrev cC (K : PySem.W.Frag) : Addr := He.ga K "Change"
abbrev cP (K : PySem.W.Frag) : Addr := He.ga K "Positive"
/-- the classes' facts -/
structure Tk (K : PySem.W.Frag) (mg : Str → Option Value) (C : Str) (fs : List Str) : Prop where
  m : mg C = some (.ref (He.ga K C))
  cl : Cls K (He.ga K C)
  na : ∀ f ∈ fs, NoAttr K (He.ga K C) f
  ins : C8.InsC K (He.ga K C)
  eq : PySem.W.findIn K (.ref (He.ga K C)) "__eq__" = some (some (.ref (He.ma K (He.ga K C) "__eq__")))
  eqf : PySem.W.isFn K (.ref (He.ma K (He.ga K C) "__eq__")) = true
  ne : PySem.W.findIn K (.ref (He.ga K C)) "__ne__" = some (some (.builtin "object.__ne__"))
  ob : PySem.W.subIn K (.ref (He.ga K C)) (.type "object") = some true
  mkr : Mk K (He.ga K C) (He.ma K (He.ga K C) "__init__")
structure Tc (K : PySem.W.Frag) (mg : Str → Option Value) : Prop where
  t : Tk K mg "Table" ["ties", "size", "pairs", "pieces"]
  c : Tk K mg "Change" ["table", "_ahead", "_back"]
  p : Tk K mg "Positive" ["table", "_word"]
  mul : PySem.W.selfFirst K (cP K) = true ∧ PySem.W.findIn K (.ref (cP K)) "__mul__" = some (some (.ref (He.ma K (cP K) "__mul__"))) ∧ PySem.W.isFn K (.ref (He.ma K (cP K) "__mul__")) = true
  word : PropOf K (cC K) "word" (KH.pA K "Change" "word") (KH.gA K "Change" "word")
  backs : PropOf K (cC K) "backs" (KH.pA K "Change" "backs") (KH.gA K "Change" "backs")
  wordP : PropOf K (cP K) "word" (KH.pA K "Positive" "word") (KH.gA K "Positive" "word")
def TAB (K : PySem.W.Frag) (n : Nat) (m : Nat → Nat → Nat) : Rp := ⟨fun v H => ∃ a dx v1 v3 v4, v = .ref a ∧ H a = some (.ins (cT K) dx [("ties", v1), ("size", .int n), ("pairs", v3), ("pieces", v4)]) ∧ (dT K n m).p v1 H ∧ (dM K (mtx n (KW.wA m))).p v3 H,
  fun k ⟨a, dx, v1, v3, v4, e, h, h1, h3⟩ => ⟨a, dx, v1, v3, v4, e, k a _ h (show mark _ = true from rfl), Rp.mono _ k h1, Rp.mono _ k h3⟩⟩
def CHG (K : PySem.W.Frag) (n : Nat) (m : Nat → Nat → Nat) (c : Wd) : Rp := ⟨fun v H => ∃ a dx v0 v1 v2, v = .ref a ∧ H a = some (.ins (cC K) dx [("table", v0), ("_ahead", v1), ("_back", v2)]) ∧ (TAB K n m).p v0 H ∧ (dM K (KW.imgs (KW.wA m) n c)).p v1 H ∧ (dM K (KW.imgs (KW.wA m) n c.reverse)).p v2 H,
  fun k ⟨a, dx, v0, v1, v2, e, h, h0, h1, h2⟩ => ⟨a, dx, v0, v1, v2, e, k a _ h (show mark _ = true from rfl), Rp.mono _ k h0, Rp.mono _ k h1, Rp.mono _ k h2⟩⟩
def POS (K : PySem.W.Frag) (n : Nat) (m : Nat → Nat → Nat) (u : Wd) : Rp := ⟨fun v H => ∃ a dx v0 v1, v = .ref a ∧ H a = some (.ins (cP K) dx [("table", v0), ("_word", v1)]) ∧ (TAB K n m).p v0 H ∧ (dW K u).p v1 H,
  fun k ⟨a, dx, v0, v1, e, h, h0, h1⟩ => ⟨a, dx, v0, v1, e, k a _ h (show mark _ = true from rfl), Rp.mono _ k h0, Rp.mono _ k h1⟩⟩
section
variable {P : Program} {w : World} {K : PySem.W.Frag} {mg : Str → Option Value} {base : Heap} {f : Addr} {fd : FuncData}
theorem tab_ins {n : Nat} {m : Nat → Nat → Nat} : ∀ v H, (TAB K n m).p v H → ∃ a dx fs, v = .ref a ∧ H a = some (.ins (cT K) dx fs) := fun v H ⟨a, dx, _, _, _, e, h, _⟩ => ⟨a, dx, _, e, h⟩
theorem chg_ins {n : Nat} {m : Nat → Nat → Nat} {c : Wd} : ∀ v H, (CHG K n m c).p v H → ∃ a dx fs, v = .ref a ∧ H a = some (.ins (cC K) dx fs) := fun v H ⟨a, dx, _, _, _, e, h, _⟩ => ⟨a, dx, _, e, h⟩
theorem pos_ins {n : Nat} {m : Nat → Nat → Nat} {c : Wd} : ∀ v H, (POS K n m c).p v H → ∃ a dx fs, v = .ref a ∧ H a = some (.ins (cP K) dx fs) := fun v H ⟨a, dx, _, _, e, h, _⟩ => ⟨a, dx, _, e, h⟩
section
variable {X : Cx} {B : Bs} {E : List En} {e : Expr} {pos : Pos} {n : Nat} {m : Nat → Nat → Nat} {c : Wd}
theorem gties (Z : Tc X.K X.mg) (h : GE X B E e (.rp (TAB X.K n m))) (hb : attributeBase e "ties" X.env (eval e X.env) = eval e X.env := by rfl) : GE X B E (.Attribute e "ties" pos) (.rp (dT X.K n m)) :=
  gfld h Z.t.cl (Z.t.na _ (by simp)) (fun v H ⟨a, dx, v1, v3, v4, e, h, h1, h3⟩ => ⟨a, dx, _, v1, e, h, rfl, h1⟩) hb
theorem gsize (Z : Tc X.K X.mg) (h : GE X B E e (.rp (TAB X.K n m))) (hb : attributeBase e "size" X.env (eval e X.env) = eval e X.env := by rfl) : GE X B E (.Attribute e "size" pos) (.rp (TI n)) :=
  gfld h Z.t.cl (Z.t.na _ (by simp)) (fun v H ⟨a, dx, v1, v3, v4, e, h, h1, h3⟩ => ⟨a, dx, _, _, e, h, rfl, rfl⟩) hb
theorem gpairs (Z : Tc X.K X.mg) (h : GE X B E e (.rp (TAB X.K n m))) (hb : attributeBase e "pairs" X.env (eval e X.env) = eval e X.env := by rfl) : GE X B E (.Attribute e "pairs" pos) (.rp (dM X.K (mtx n (KW.wA m)))) :=
  gfld h Z.t.cl (Z.t.na _ (by simp)) (fun v H ⟨a, dx, v1, v3, v4, e, h, h1, h3⟩ => ⟨a, dx, _, v3, e, h, rfl, h3⟩) hb
theorem gtabC (Z : Tc X.K X.mg) (h : GE X B E e (.rp (CHG X.K n m c))) (hb : attributeBase e "table" X.env (eval e X.env) = eval e X.env := by rfl) : GE X B E (.Attribute e "table" pos) (.rp (TAB X.K n m)) :=
  gfld h Z.c.cl (Z.c.na _ (by simp)) (fun v H ⟨a, dx, v0, v1, v2, e, h, h0, h1, h2⟩ => ⟨a, dx, _, v0, e, h, rfl, h0⟩) hb
theorem gahead (Z : Tc X.K X.mg) (h : GE X B E e (.rp (CHG X.K n m c))) (hb : attributeBase e "_ahead" X.env (eval e X.env) = eval e X.env := by rfl) : GE X B E (.Attribute e "_ahead" pos) (.rp (dM X.K (KW.imgs (KW.wA m) n c))) :=
  gfld h Z.c.cl (Z.c.na _ (by simp)) (fun v H ⟨a, dx, v0, v1, v2, e, h, h0, h1, h2⟩ => ⟨a, dx, _, v1, e, h, rfl, h1⟩) hb
theorem gback (Z : Tc X.K X.mg) (h : GE X B E e (.rp (CHG X.K n m c))) (hb : attributeBase e "_back" X.env (eval e X.env) = eval e X.env := by rfl) : GE X B E (.Attribute e "_back" pos) (.rp (dM X.K (KW.imgs (KW.wA m) n c.reverse))) :=
  gfld h Z.c.cl (Z.c.na _ (by simp)) (fun v H ⟨a, dx, v0, v1, v2, e, h, h0, h1, h2⟩ => ⟨a, dx, _, v2, e, h, rfl, h2⟩) hb
theorem gtabP (Z : Tc X.K X.mg) (h : GE X B E e (.rp (POS X.K n m c))) (hb : attributeBase e "table" X.env (eval e X.env) = eval e X.env := by rfl) : GE X B E (.Attribute e "table" pos) (.rp (TAB X.K n m)) :=
  gfld h Z.p.cl (Z.p.na _ (by simp)) (fun v H ⟨a, dx, v0, v1, e, h, h0, h1⟩ => ⟨a, dx, _, v0, e, h, rfl, h0⟩) hb
theorem gwordP (Z : Tc X.K X.mg) (h : GE X B E e (.rp (POS X.K n m c))) (hb : attributeBase e "_word" X.env (eval e X.env) = eval e X.env := by rfl) : GE X B E (.Attribute e "_word" pos) (.rp (dW X.K c)) :=
  gfld h Z.p.cl (Z.p.na _ (by simp)) (fun v H ⟨a, dx, v0, v1, e, h, h0, h1⟩ => ⟨a, dx, _, v1, e, h, rfl, h1⟩) hb
/-- a class's name -/
theorem gcls {C : Str} {a : Addr} (hm : X.mg C = some (.ref a)) (hg : Gl X C := by rfl) (hd : (C == ("__debug__" : Str)) = false := by decide) : GE X B E (.Name C pos) (.rp (VL (.ref a))) := gglob (v := .ref a) hm rfl (fun _ => rfl) hg hd
end
/-! ### Table.__init__, __eq__, check_table -/
/-- the tables that there are -/
def okT (n : Nat) (m : Nat → Nat → Nat) : Prop := KW.Ties m ∧ 1 ≤ n ∧ n ≤ 6
def I_Table (K : PySem.W.Frag) : List En → Rp → Prop := fun ins R => ∃ n m, okT n m ∧ ins = [.rp (dT K n m)] ∧ R = TAB K n m
theorem ok_Table_init (T : Tx K mg) (Z : Tc K mg) (c1 : C8.Cal P w K mg base 3 "first_wrong_row" (PM (F_first_wrong_row K)) []) (c2 : C8.Cal P w K mg base 1 "weight_pairs" (PM (F_weight_pairs K)) []) (c3 : C8.Cal P w K mg base 2 "pieces_of" (PM (F_pieces_of K)) []) (F : FnM K "__init__" "Table.__init__" s_Table_init [] f fd) : FnOk P w K mg base CX0 4 f fd ["self", "ties"] (PIn (cT K) (I_Table K)) := by
  refine in_ok F sc_Table_init (fun _ _ ⟨_, _, _, e, _⟩ => by rw [e] <;> rfl) fun cdv A0 outer s0 H Ex B x ins R hw hF hr => ?_
  obtain ⟨n, m, ⟨hm, h1, h6⟩, rfl, rfl⟩ := hF
  refine ⟨[.rp (dT K n m), .no], rfl, ?_⟩
  refine bset 2 sc_Table_init.nd (gcl c1 hr (acons (gr 1 rfl) anil) ⟨n, m, hm, h1, h6, rfl, rfl⟩) (bifR (GT.to (d1 := false) (gct (cne (gr 2 rfl) (gneg gint))) (by decide)) (fun h => by cases h) fun _ => ?_)
  refine bfld 0 rfl Z.t.cl (Z.t.na _ (by simp)) (gr 1 rfl) (bfld 0 rfl Z.t.cl (Z.t.na _ (by simp)) (glen T.len (gr 1 rfl) (szTT (n := n) (by simp [tbl]))) (bfld 0 rfl Z.t.cl (Z.t.na _ (by simp)) (gcl c2 hr (acons (gr 1 rfl) anil) ⟨n, m, hm, by omega, rfl, rfl⟩) (bfld 0 rfl Z.t.cl (Z.t.na _ (by simp)) (gcl c3 hr (acons (gr 1 rfl) anil) ⟨n, m, hm, by omega, rfl, rfl⟩) (bnil ⟨INST x (cT K) _, _, rfl, fun fp v H' ⟨e1, e2, dx, vs, h, hf⟩ => ?_⟩))))
  cases hf with
  | cons q1 t1 =>
    cases t1 with
    | cons q2 t2 =>
      cases t2 with
      | cons q3 t3 =>
        cases t3 with
        | cons q4 t4 =>
          cases t4
          rename_i u1 u2 u3 u4
          obtain ⟨n1, v1⟩ := u1
          obtain ⟨n2, v2⟩ := u2
          obtain ⟨n3, v3⟩ := u3
          obtain ⟨n4, v4⟩ := u4
          obtain ⟨rfl, p1⟩ := q1
          obtain ⟨rfl, p2⟩ := q2
          obtain ⟨rfl, p3⟩ := q3
          obtain ⟨rfl, p4⟩ := q4
          obtain rfl : v2 = .int n := p2
          exact ⟨x, dx, v1, v3, v4, rfl, h, p1, p3⟩
def F_Table_eq (K : PySem.W.Frag) : Option Addr → List En → En → Prop := fun _ ins o => ∃ n m, ins = [.rp (TAB K n m), .rp (TAB K n m)] ∧ o = .rp (TBl true)
theorem ok_Table_eq (T : Tx K mg) (Z : Tc K mg) (F : FnM K "__eq__" "Table.__eq__" s_Table_eq [] f fd) : FnOk P w K mg base CX0 1 f fd ["self", "other"] (PM (F_Table_eq K)) := by
  refine pm_ok F sc_Table_eq (fun _ _ _ ⟨_, _, e, _⟩ => by rw [e] <;> rfl) fun cdv A0 outer s0 Ex B ins o hF hr => ?_
  obtain ⟨n, m, rfl, rfl⟩ := hF
  refine ⟨[.rp (TAB K n m), .rp (TAB K n m)], rfl, bret (gand (gisC Z.t.ins T.isinstance (gr 1 rfl) (gcls Z.t.m) tab_ins) fun _ => gone (gcm (ceqD hr.units (gties Z (gr 0 rfl)) (gties Z (gr 1 rfl)) (dto (dp_dR _)) (dto (dp_dR _)) (shp_ok (shp_pR _) (by decide)) (shp_ok (shp_pR _) (by decide))))) ?_⟩
  rw [eqv_pR, decide_eq_true rfl]
  rfl
/-- what makes two tables equal -/
def eqT (K : PySem.W.Frag) : Addr → Addr → Hp → Prop := fun a b H => ∃ n m, (TAB K n m).p (.ref a) H ∧ (TAB K n m).p (.ref b) H
theorem eqT_ok (F : FnOk P w K mg base CX0 1 f fd ["self", "other"] (PM (F_Table_eq K))) : FnOk P w K mg base CX0 1 f fd ["self", "other"] (spEq (eqT K)) :=
  F.imp fun vs H Q E ⟨a, b, e, ⟨n, m, h1, h2⟩, q⟩ => ⟨⟨H, none, fun _ z => nomatch z⟩, _, _, rfl, ⟨n, m, rfl, rfl⟩, by rw [e]; exact ⟨h1, h2, trivial⟩, fun v H' r hv => by
    rw [show v = .bl true from hv]
    exact q H' r.toExt⟩
def F_check_table (K : PySem.W.Frag) : Option Addr → List En → En → Prop := fun _ ins o => ∃ n m, ins = [.rp (TAB K n m)] ∧ o = .rp TN
theorem ok_check_table (T : Tx K mg) (Z : Tc K mg) (F : FnT K "check_table" s_check_table f fd) : FnOk P w K mg base CX0 1 f fd ["value"] (PM (F_check_table K)) := by
  refine pm_ok F sc_check_table (fun _ _ _ ⟨_, _, e, _⟩ => by rw [e] <;> rfl) fun cdv A0 outer s0 Ex B ins o hF hr => ?_
  obtain ⟨n, m, rfl, rfl⟩ := hF
  exact ⟨[.rp (TAB K n m)], rfl, bifR (gnot (gval (gisC Z.t.ins T.isinstance (gr 0 rfl) (gcls Z.t.m) tab_ins))) (fun h => by cases h) fun _ => bnil rfl⟩
/-! ### words -/
def F_wrong_in_word (K : PySem.W.Frag) : Option Addr → List En → En → Prop := fun _ ins o => ∃ (n k : Nat) (m : Nat → Nat → Nat) (u : Wd), KW.okw n u ∧ u.length ≤ k ∧ ins = [.rp (TAB K n m), .rp (dW K u), .rp (TI k)] ∧ o = .rp (TI (-1))
theorem enum_w {u : Wd} : enumE K (u.map fun (n : Nat) => TI n) = u.zipIdx.map fun q => En.rp (TUP K [TI (q.2 : Nat), TI (q.1 : Nat)]) := by
  unfold enumE
  rw [List.zipIdx_map, List.map_map]
  rfl
theorem ok_wrong_in_word (T : Tx K mg) (Z : Tc K mg) (c1 : C8.Cal P w K mg base 2 "is_button" (PM F_is_button) []) (F : FnT K "wrong_in_word" s_wrong_in_word f fd) : FnOk P w K mg base CX0 3 f fd ["table", "value", "most"] (PM (F_wrong_in_word K)) := by
  refine pm_ok F sc_wrong_in_word (fun _ _ _ ⟨_, _, _, _, _, _, e, _⟩ => by rw [e] <;> rfl) fun cdv A0 outer s0 Ex B ins o hF hr => ?_
  obtain ⟨n, k, m, u, hu, hk, rfl, rfl⟩ := hF
  refine ⟨[.rp (TAB K n m), .rp (dW K u), .rp (TI k), .no, .no], rfl, ?_⟩
  refine bifR (gnot (gval (gisi T.isinstance (gr 1 rfl) (gbt T.tuple boot_tuple) (fun B H v H2 h => ty_tup (tup_any h)) (d := true) (by decide +kernel)))) (fun h => by cases h) fun _ => ?_
  refine bfor (ys := u.zipIdx.map fun q => En.rp (TUP K [TI (q.2 : Nat), TI (q.1 : Nat)])) [3, 4] (fun j E' => ∃ o1 o2, E' = [.rp (TAB K n m), .rp (dW K u), .rp (TI k), o1, o2]) rfl PassesOwn.never (gieq (gi_enumT T.enumerate (gr 1 rfl)) enum_w) ⟨.no, .no, rfl⟩ (fun j y E' hy ⟨o1, o2, e⟩ => ?_) fun E' ⟨o1, o2, e⟩ => ?_
  · subst e
    have hj : j < u.length := by
      have := (List.getElem?_eq_some_iff.mp hy).1
      simpa using this
    have hz : u.zipIdx[j]? = some (u[j], j) := by simp [hj]
    rw [List.getElem?_map, hz] at hy
    cases hy
    refine ⟨_, tg2 rfl (tgn 3 sc_wrong_in_word.nd) (tgn 4 sc_wrong_in_word.nd), bifR (GT.to (d1 := false) (gtw (gwor (gct (ceq (gr 3 rfl) (gr 2 rfl))) fun _ => gwo1 (gnot (gval (gcl c1 hr (acons (gsize Z (gr 0 rfl)) (acons (gr 4 rfl) anil)) ⟨n, _, rfl, rfl⟩))))) ?_) (fun h => by cases h) fun _ => bnil ⟨_, _, rfl⟩⟩
    have hb := hu _ (List.getElem_mem hj)
    have a1 : ¬ ((j : Int) = (k : Int)) := by omega
    have a2 : decide ((0 : Int) ≤ (u[j] : Int)) = true := decide_eq_true (by omega)
    have a3 : decide ((u[j] : Int) < (n : Int)) = true := decide_eq_true (by omega)
    rw [decide_eq_false a1, a2, a3]
    rfl
  · subst e
    exact bret (gneg gint) rfl
def F_check_word (K : PySem.W.Frag) : Option Addr → List En → En → Prop := fun _ ins o => ∃ (n : Nat) (m : Nat → Nat → Nat) (u : Wd), KW.okw n u ∧ u.length ≤ 60 ∧ ins = [.rp (TAB K n m), .rp (dW K u)] ∧ o = .rp TN
theorem ok_check_word (T : Tx K mg) (c1 : C8.Cal P w K mg base 3 "wrong_in_word" (PM (F_wrong_in_word K)) []) (F : FnT K "check_word" s_check_word f fd) : FnOk P w K mg base CX0 4 f fd ["table", "value"] (PM (F_check_word K)) := by
  refine pm_ok F sc_check_word (fun _ _ _ ⟨_, _, _, _, _, e, _⟩ => by rw [e] <;> rfl) fun cdv A0 outer s0 Ex B ins o hF hr => ?_
  obtain ⟨n, m, u, hu, hl, rfl, rfl⟩ := hF
  refine ⟨[.rp (TAB K n m), .rp (dW K u), .no], rfl, ?_⟩
  exact bset 2 sc_check_word.nd (gcl c1 hr (acons (gr 0 rfl) (acons (gr 1 rfl) (acons (gmax T.mostW) anil))) ⟨n, 60, m, u, hu, hl, rfl, rfl⟩) (bifR (GT.to (d1 := false) (gct (cne (gr 2 rfl) (gneg gint))) (by decide)) (fun h => by cases h) fun _ => bnil rfl)
theorem dtab {n : Nat} {m : Nat → Nat → Nat} {B : Bs} {H H2 : Hp} {v u : V} (h1 : (En.rp (TAB K n m)).out B H v H2) (h2 : (En.rp (TAB K n m)).out B H u H2) : DIns (cT K) (eqT K) v u H2 := by
  obtain ⟨a, dx, fs, rfl, i1⟩ := tab_ins v H2 h1
  obtain ⟨b, dy, gs, rfl, i2⟩ := tab_ins u H2 h2
  exact ⟨a, b, dx, dy, fs, gs, rfl, rfl, i1, i2, n, m, h1, h2⟩
def F_check_same_table (K : PySem.W.Frag) : Option Addr → List En → En → Prop := fun _ ins o => ∃ (n : Nat) (m : Nat → Nat → Nat) (u v : Wd), ins = [.rp (POS K n m u), .rp (POS K n m v)] ∧ o = .rp TN
theorem ok_check_same_table (Z : Tc K mg) {fe : Addr} {fde : FuncData} (FE : FnOk P w K mg base CX0 1 (He.ma K (cT K) "__eq__") fde ["self", "other"] (PM (F_Table_eq K))) (hb : Binds K fde ["self", "other"] []) (F : FnT K "check_same_table" s_check_same_table f fd) : FnOk P w K mg base CX0 3 f fd ["one", "other"] (PM (F_check_same_table K)) := by
  refine pm_ok F sc_check_same_table (fun _ _ _ ⟨_, _, _, _, e, _⟩ => by rw [e] <;> rfl) fun cdv A0 outer s0 Ex B ins o hF hr => ?_
  obtain ⟨n, m, u, v, rfl, rfl⟩ := hF
  exact ⟨[.rp (POS K n m u), .rp (POS K n m v)], rfl, bifR (gct (cneO (eqT_ok FE) Z.t.ne Z.t.ob Z.t.eq Z.t.eqf hb pass0 hr (by decide) (gtabP Z (gr 0 rfl)) (gtabP Z (gr 1 rfl)) fun H H2 v u h1 h2 => dtab h1 h2)) (fun h => by cases h) fun _ => bnil rfl⟩
end
end KP
end
section
set_option maxRecDepth 100000
set_option maxHeartbeats 2000000
namespace KP
open PySem PySem.Spec PyProof.Rows L2 KG KJ
open KW (G Wd)
section
variable {P : Program} {w : World} {K : PySem.W.Frag} {mg : Str → Option Value} {base : Heap} {f : Addr} {fd : FuncData}
theorem non_tn : ∀ v H, TN.p v H → decide (v = V.non) = true := fun v H h => by
  rw [show v = .non from h]
  rfl
theorem non_tup {Rs : List Rp} : ∀ v H, (TUP K Rs).p v H → decide (v = V.non) = false := fun v H ⟨a, xs, e, _⟩ => by
  rw [e]
  rfl
theorem rev_w {u : Wd} : (TUP K (u.map fun (n : Nat) => TI n).reverse) = dW K u.reverse := by
  rw [← List.map_reverse]
  rfl
theorem grevW {X : Cx} {B : Bs} {E : List En} {a : Expr} {pos p1 p2 p3 : Pos} {k : Nat} {u : Wd} (h : GE X B E a (.rp (dW X.K u))) : GE X B E (.Subscript a (.Slice none none (some (.UnaryOp .USub (.Constant (.int 1) k p1) p2)) p3) pos) (.rp (dW X.K u.reverse)) :=
  geq (grevT h) (congrArg En.rp rev_w)
/-! ### Change.__init__ -/
def I_Change (K : PySem.W.Frag) : List En → Rp → Prop := fun ins R => ∃ n m c, okT n m ∧ KW.okw n c ∧ R = CHG K n m c ∧
  ((c.length ≤ 60 ∧ ins = [.rp (TAB K n m), .rp (dW K c), .rp TN]) ∨ ins = [.rp (TAB K n m), .rp (dW K []), .rp (TUP K [dM K (KW.imgs (KW.wA m) n c), dM K (KW.imgs (KW.wA m) n c.reverse)])])
theorem chg_of {n : Nat} {m : Nat → Nat → Nat} {c : Wd} {x : Addr} : ∀ fp v H, (INST x (cC K) [("table", TAB K n m), ("_ahead", dM K (KW.imgs (KW.wA m) n c)), ("_back", dM K (KW.imgs (KW.wA m) n c.reverse))]).p fp v H → (CHG K n m c).p (.ref x) H := fun fp v H ⟨e1, e2, dx, vs, h, hf⟩ => by
  cases hf with
  | cons q1 t1 =>
    cases t1 with
    | cons q2 t2 =>
      cases t2 with
      | cons q3 t3 =>
        cases t3
        rename_i u1 u2 u3
        obtain ⟨n1, v1⟩ := u1
        obtain ⟨n2, v2⟩ := u2
        obtain ⟨n3, v3⟩ := u3
        obtain ⟨rfl, p1⟩ := q1
        obtain ⟨rfl, p2⟩ := q2
        obtain ⟨rfl, p3⟩ := q3
        exact ⟨x, dx, v1, v2, v3, rfl, h, p1, p2, p3⟩
theorem ok_Change_init (T : Tx K mg) (Z : Tc K mg) (c1 : C8.Cal P w K mg base 1 "check_table" (PM (F_check_table K)) []) (c2 : C8.Cal P w K mg base 4 "check_word" (PM (F_check_word K)) []) (c3 : C8.Cal P w K mg base 3 "images_of" (PM (F_images_of K)) []) (F : FnM K "__init__" "Change.__init__" s_Change_init [.non] f fd) : FnOk P w K mg base CX0 5 f fd ["self", "table", "word", "_parts"] (PIn (cC K) (I_Change K)) := by
  refine in_ok F sc_Change_init (fun _ _ ⟨_, _, _, _, _, _, h⟩ => by rcases h with ⟨_, e⟩ | e <;> rw [e] <;> rfl) fun cdv A0 outer s0 H Ex B x ins R hw hF hr => ?_
  obtain ⟨n, m, c, ⟨hm, h1, h6⟩, hc, rfl, h⟩ := hF
  rcases h with ⟨hl, rfl⟩ | rfl
  · refine ⟨[.rp (TAB K n m), .rp (dW K c), .rp TN], rfl, ?_⟩
    refine bifs (N1 := fun E' => E' = [.mu (INST x (cC K) []), .rp (TAB K n m), .rp (dW K c), .rp TN]) (gct (cisN (gr 3 rfl) non_tn)) (fun _ => bexpr (gcl c1 hr (acons (gr 1 rfl) anil) ⟨n, m, rfl, rfl⟩) (bexpr (gcl c2 hr (acons (gr 1 rfl) (acons (gr 2 rfl) anil)) ⟨n, m, c, hc, hl, rfl, rfl⟩) (bnil rfl))) (fun h => by cases h) fun E' e => ?_
    subst e
    exact bfld 0 rfl Z.c.cl (Z.c.na _ (by simp)) (gr 1 rfl) (bfld 0 rfl Z.c.cl (Z.c.na _ (by simp)) (gif (gct (cisN (gr 3 rfl) non_tn)) (fun _ => gcl c3 hr (acons (gpairs Z (gr 1 rfl)) (acons (gr 2 rfl) anil)) ⟨n, _, c, by omega, wA_sml, hc, rfl, rfl⟩) (fun h => by cases h))
      (bfld 0 rfl Z.c.cl (Z.c.na _ (by simp)) (gif (gct (cisN (gr 3 rfl) non_tn)) (fun _ => gcl c3 hr (acons (gpairs Z (gr 1 rfl)) (acons (grevW (gr 2 rfl)) anil)) ⟨n, _, c.reverse, by omega, wA_sml, hc.rev, rfl, rfl⟩) (fun h => by cases h)) (bnil ⟨INST x (cC K) _, _, rfl, chg_of⟩)))
  · refine ⟨[.rp (TAB K n m), .rp (dW K []), .rp (TUP K [dM K (KW.imgs (KW.wA m) n c), dM K (KW.imgs (KW.wA m) n c.reverse)])], rfl, ?_⟩
    refine bifs (N1 := fun E' => E' = [.mu (INST x (cC K) []), .rp (TAB K n m), .rp (dW K []), .rp (TUP K [dM K (KW.imgs (KW.wA m) n c), dM K (KW.imgs (KW.wA m) n c.reverse)])]) (gct (cisN (gr 3 rfl) non_tup)) (fun h => by cases h) (fun _ => bnil rfl) fun E' e => ?_
    subst e
    exact bfld 0 rfl Z.c.cl (Z.c.na _ (by simp)) (gr 1 rfl) (bfld 0 rfl Z.c.cl (Z.c.na _ (by simp)) (gif (gct (cisN (gr 3 rfl) non_tup)) (fun h => by cases h) (fun _ => gixT (gr 3 rfl) gint rfl))
      (bfld 0 rfl Z.c.cl (Z.c.na _ (by simp)) (gif (gct (cisN (gr 3 rfl) non_tup)) (fun h => by cases h) (fun _ => gixT (gr 3 rfl) gint rfl)) (bnil ⟨INST x (cC K) _, _, rfl, chg_of⟩)))
/-! ### word, backs, == -/
def okC (n : Nat) (m : Nat → Nat → Nat) (c : Wd) : Prop := okT n m ∧ KW.okw n c ∧ KW.W.len (KW.W.mk m c) ≤ 29
def F_Change_word (K : PySem.W.Frag) : Option Addr → List En → En → Prop := fun _ ins o => ∃ n m c, okC n m c ∧ ins = [.rp (CHG K n m c)] ∧ o = .rp (dW K (KW.wordBy (KW.wA m) n c))
theorem ok_Change_word (Z : Tc K mg) (c1 : C8.Cal P w K mg base 4 "word_by" (PM (F_word_by K)) []) (F : FnM K "word" "Change.word" s_Change_word [] f fd) : FnOk P w K mg base CX0 5 f fd ["self"] (PM (F_Change_word K)) := by
  refine pm_ok F sc_Change_word (fun _ _ _ ⟨_, _, _, _, e, _⟩ => by rw [e] <;> rfl) fun cdv A0 outer s0 Ex B ins o hF hr => ?_
  obtain ⟨n, m, c, ⟨⟨hm, h1, h6⟩, hc, hl⟩, rfl, rfl⟩ := hF
  exact ⟨[.rp (CHG K n m c)], rfl, bret (gcl c1 hr (acons (gpairs Z (gtabC Z (gr 0 rfl))) (acons (gback Z (gr 0 rfl)) anil)) ⟨n, m, c, hm, by omega, hc, hl, rfl, rfl⟩) rfl⟩
def F_Change_backs (K : PySem.W.Frag) : Option Addr → List En → En → Prop := fun _ ins o => ∃ n m c, okC n m c ∧ ins = [.rp (CHG K n m c)] ∧ o = .rp (dW K (KW.down (KW.wA m) n c))
theorem ok_Change_backs (Z : Tc K mg) (c1 : C8.Cal P w K mg base 3 "down_buttons" (PM (F_down_buttons K)) []) (F : FnM K "backs" "Change.backs" s_Change_backs [] f fd) : FnOk P w K mg base CX0 4 f fd ["self"] (PM (F_Change_backs K)) := by
  refine pm_ok F sc_Change_backs (fun _ _ _ ⟨_, _, _, _, e, _⟩ => by rw [e] <;> rfl) fun cdv A0 outer s0 Ex B ins o hF hr => ?_
  obtain ⟨n, m, c, ⟨⟨hm, h1, h6⟩, hc, hl⟩, rfl, rfl⟩ := hF
  exact ⟨[.rp (CHG K n m c)], rfl, bret (gdown c1 hr (by decide) (gahead Z (gr 0 rfl)) (by omega) (bI_of hm hc hl)) rfl⟩
def F_Change_eq (K : PySem.W.Frag) : Option Addr → List En → En → Prop := fun _ ins o => ∃ n m c d, KW.imgs (KW.wA m) n c = KW.imgs (KW.wA m) n d ∧ ins = [.rp (CHG K n m c), .rp (CHG K n m d)] ∧ o = .rp (TBl true)
theorem ok_Change_eq (T : Tx K mg) (Z : Tc K mg) {fde : FuncData} (FE : FnOk P w K mg base CX0 1 (He.ma K (cT K) "__eq__") fde ["self", "other"] (PM (F_Table_eq K))) (hb : Binds K fde ["self", "other"] []) (F : FnM K "__eq__" "Change.__eq__" s_Change_eq [] f fd) : FnOk P w K mg base CX0 3 f fd ["self", "other"] (PM (F_Change_eq K)) := by
  refine pm_ok F sc_Change_eq (fun _ _ _ ⟨_, _, _, _, _, e, _⟩ => by rw [e] <;> rfl) fun cdv A0 outer s0 Ex B ins o hF hr => ?_
  obtain ⟨n, m, c, d, hcd, rfl, rfl⟩ := hF
  refine ⟨[.rp (CHG K n m c), .rp (CHG K n m d)], rfl, bret (gand (gisC Z.c.ins T.isinstance (gr 1 rfl) (gcls Z.c.m) chg_ins) fun _ => gand (gcm (ceqG (rcG_ins (C := cT K) (eqT_ok FE) Z.t.eq Z.t.eqf hb pass0) hr (by decide) (gtabC Z (gr 0 rfl)) (gtabC Z (gr 1 rfl)) fun H H2 v u h1 h2 => dtab h1 h2)) fun _ => gone (gcm (ceqD hr.units (gahead Z (gr 0 rfl)) (gahead Z (gr 1 rfl)) (dto (dp_dM _)) (dto (dp_dM _)) (shp_ok (shp_pM _) (by decide)) (shp_ok (shp_pM _) (by decide))))) ?_⟩
  rw [eqv_pM, decide_eq_true hcd]
  rfl
/-! ### change_made, check_change, led_behind, plain -/
def F_change_made (K : PySem.W.Frag) : Option Addr → List En → En → Prop := fun _ ins o => ∃ n m c, okT n m ∧ KW.okw n c ∧ ins = [.rp (TAB K n m), .rp (dM K (KW.imgs (KW.wA m) n c)), .rp (dM K (KW.imgs (KW.wA m) n c.reverse))] ∧ o = .rp (CHG K n m c)
theorem ok_change_made (c1 : MakN P w K mg base 5 "Change" (cC K) (PIn (cC K) (I_Change K)) 2 "_parts") (F : FnT K "change_made" s_change_made f fd) : FnOk P w K mg base CX0 7 f fd ["table", "ahead", "back"] (PM (F_change_made K)) := by
  refine pm_ok F sc_change_made (fun _ _ _ ⟨_, _, _, _, _, e, _⟩ => by rw [e] <;> rfl) fun cdv A0 outer s0 Ex B ins o hF hr => ?_
  obtain ⟨n, m, c, ho, hc, rfl, rfl⟩ := hF
  exact ⟨[.rp (TAB K n m), .rp (dM K (KW.imgs (KW.wA m) n c)), .rp (dM K (KW.imgs (KW.wA m) n c.reverse))], rfl, bret (gmakeK c1 hr (acons (gr 0 rfl) (acons (gtup anil) anil)) (gtup (acons (gr 1 rfl) (acons (gr 2 rfl) anil))) ⟨n, m, c, ho, hc, rfl, .inr rfl⟩) rfl⟩
def F_check_change (K : PySem.W.Frag) : Option Addr → List En → En → Prop := fun _ ins o => ∃ n m c, ins = [.rp (CHG K n m c)] ∧ o = .rp TN
theorem ok_check_change (T : Tx K mg) (Z : Tc K mg) (F : FnT K "check_change" s_check_change f fd) : FnOk P w K mg base CX0 1 f fd ["value"] (PM (F_check_change K)) := by
  refine pm_ok F sc_check_change (fun _ _ _ ⟨_, _, _, e, _⟩ => by rw [e] <;> rfl) fun cdv A0 outer s0 Ex B ins o hF hr => ?_
  obtain ⟨n, m, c, rfl, rfl⟩ := hF
  exact ⟨[.rp (CHG K n m c)], rfl, bifR (gnot (gval (gisC Z.c.ins T.isinstance (gr 0 rfl) (gcls Z.c.m) chg_ins))) (fun h => by cases h) fun _ => bnil rfl⟩
def F_led_behind (K : PySem.W.Frag) : Option Addr → List En → En → Prop := fun _ ins o => ∃ (n b : Nat) (m : Nat → Nat → Nat) (c : Wd), okT n m ∧ KW.okw n c ∧ b < n ∧ ins = [.rp (CHG K n m c), .rp (TI b)] ∧ o = .rp (CHG K n m (c ++ [b]))
theorem ok_led_behind (Z : Tc K mg) (c1 : C8.Cal P w K mg base 3 "pressed_front" (PM (F_pressed_front K)) []) (c2 : C8.Cal P w K mg base 2 "pressed_behind" (PM (F_pressed_behind K)) []) (c3 : C8.Cal P w K mg base 7 "change_made" (PM (F_change_made K)) []) (F : FnT K "led_behind" s_led_behind f fd) : FnOk P w K mg base CX0 8 f fd ["change", "button"] (PM (F_led_behind K)) := by
  refine pm_ok F sc_led_behind (fun _ _ _ ⟨_, _, _, _, _, _, _, e, _⟩ => by rw [e] <;> rfl) fun cdv A0 outer s0 Ex B ins o hF hr => ?_
  obtain ⟨n, b, m, c, ⟨hm, h1, h6⟩, hc, hb, rfl, rfl⟩ := hF
  refine ⟨[.rp (CHG K n m c), .rp (TI b), .no, .no], rfl, ?_⟩
  have hc2 : KW.okw n (c ++ [b]) := KW.okw.app hc fun x hx => by rw [List.mem_singleton.mp hx]; exact hb
  refine bset 2 sc_led_behind.nd (gpairs Z (gtabC Z (gr 0 rfl))) (bset 3 sc_led_behind.nd (gcl c1 hr (acons (gr 2 rfl) (acons (gback Z (gr 0 rfl)) (acons (gr 1 rfl) anil))) ⟨n, b, KW.wA m, c.reverse, by omega, hb, wA_sml, hc.rev, rfl, rfl⟩) ?_)
  refine bret (gcl c3 hr (acons (gtabC Z (gr 0 rfl)) (acons (geq (gcl c2 hr (acons (gr 2 rfl) (acons (gahead Z (gr 0 rfl)) (acons (gr 1 rfl) anil))) ⟨n, b, KW.wA m, fun t k => KW.play (KW.wA m) (KW.dl k) c t, by omega, hb, wA_sml, rfl, rfl⟩) (o1 := .rp (dM K (KW.imgs (KW.wA m) n (c ++ [b])))) (by rw [imgs_snoc] <;> rfl)) (acons (gr 3 rfl) anil))) ⟨n, m, c ++ [b], ⟨hm, h1, h6⟩, hc2, ?_, rfl⟩) rfl
  rw [List.reverse_append] <;> rfl
def F_plain (K : PySem.W.Frag) : Option Addr → List En → En → Prop := fun _ ins o => ∃ n m, okT n m ∧ ins = [.rp (TAB K n m)] ∧ o = .rp (CHG K n m [])
theorem outs_non : ∀ (B : Bs) (H : Hp), outs B H H [V.non] [En.rp TN] := fun _ _ => ⟨rfl, trivial⟩
theorem ok_plain (c1 : C8.Cal P w K mg base 1 "check_table" (PM (F_check_table K)) []) (c2 : C8.Mak P w K mg base 5 "Change" (cC K) (PIn (cC K) (I_Change K)) [.non]) (F : FnT K "plain" s_plain f fd) : FnOk P w K mg base CX0 7 f fd ["table"] (PM (F_plain K)) := by
  refine pm_ok F sc_plain (fun _ _ _ ⟨_, _, _, e, _⟩ => by rw [e] <;> rfl) fun cdv A0 outer s0 Ex B ins o hF hr => ?_
  obtain ⟨n, m, ho, rfl, rfl⟩ := hF
  exact ⟨[.rp (TAB K n m)], rfl, bexpr (gcl c1 hr (acons (gr 0 rfl) anil) ⟨n, m, rfl, rfl⟩) (bret (gmake c2 hr (acons (gr 0 rfl) (acons (gtup anil) anil)) (ds := [.rp TN]) ⟨n, m, [], ho, (fun x hx => by cases hx), rfl, .inl ⟨by simp, rfl⟩⟩ outs_non) rfl)⟩
end
end KP
end
section
set_option maxRecDepth 100000
set_option maxHeartbeats 2000000
namespace KP
open PySem PySem.Spec PyProof.Rows L2 KG KJ
open KW (G Wd)
section
variable {P : Program} {w : World} {K : PySem.W.Frag} {mg : Str → Option Value} {base : Heap} {f : Addr} {fd : FuncData}
/-! ### stretch, tokens_for -/
theorem alt_rg : ∀ (k s t : Nat), (List.range k).map (fun i => if i % 2 = 0 then s else t) = KW.alt s t k
  | 0, _, _ => rfl
  | k + 1, s, t => by
    rw [List.range_succ_eq_map, List.map_cons, List.map_map]
    show s :: _ = s :: KW.alt t s k
    rw [← alt_rg k t s]
    congr 1
    refine List.map_congr_left fun i _ => ?_
    show (if (i + 1) % 2 = 0 then s else t) = if i % 2 = 0 then t else s
    by_cases h : i % 2 = 0
    · rw [if_pos h, if_neg (by omega)]
    · rw [if_neg h, if_pos (by omega)]
def F_stretch (K : PySem.W.Frag) : Option Addr → List En → En → Prop := fun _ ins o => ∃ s t k : Nat, k ≤ 1000 ∧ ins = [.rp (TI s), .rp (TI t), .rp (TI k)] ∧ o = .rp (dW K (KW.alt s t k))
theorem ok_stretch (T : Tx K mg) (F : FnT K "stretch" s_stretch f fd) : FnOk P w K mg base CX0 1 f fd ["button", "other", "many"] (PM (F_stretch K)) := by
  refine pm_ok F sc_stretch (fun _ _ _ ⟨_, _, _, _, e, _⟩ => by rw [e] <;> rfl) fun cdv A0 outer s0 Ex B ins o hF hr => ?_
  obtain ⟨s, t, k, hk, rfl, rfl⟩ := hF
  refine ⟨[.rp (TI s), .rp (TI t), .rp (TI k), .no], rfl, ?_⟩
  refine bret (gtc [("at", 3)] (fun (i : Nat) => TI ((if i % 2 = 0 then s else t : Nat) : Int)) rfl T.tuple sc_stretch.nd (gic (gi_range T.range (gr 2 rfl) hk)) (blkOk_by (N := N_stretch) (sc := defScope s_stretch) (by decide +kernel)) (fun x _ _ _ _ _ _ => tgn 3 sc_stretch.nd) (fun _ _ i hi => hi)
    (fun i _ _ _ _ _ _ => gif (gct (ceq (gmod (gr 3 rfl) gint (by decide)) gint)) (fun h => geq (gr 0 rfl) ?_) fun h => geq (gr 1 rfl) ?_) (by simpa using hk)) ?_
  · have := dt h
    rw [if_pos (by omega)]
  · have := df h
    rw [if_neg (by omega)]
  · rw [dW, ← alt_rg k s t, List.map_map] <;> rfl
def F_tokens_for : Option Addr → List En → En → Prop := fun _ ins o => ∃ k u s : Nat, 1 ≤ k ∧ k ≤ 400 ∧ ins = [.rp (TI k), .rp (TI u), .rp (TI s)] ∧ o = .mu (LS (((KW.tokR k u s).reverse.map KW.Tok.int).map TI))
theorem ok_tokens_for (T : Tx K mg) (c1 : C8.Cal P w K mg base 1 "stretch" (PM (F_stretch K)) []) (F : FnT K "tokens_for" s_tokens_for f fd) : FnOk P w K mg base CX0 2 f fd ["tie", "first", "second"] (PM F_tokens_for) := by
  refine pm_ok F sc_tokens_for (fun _ _ _ ⟨_, _, _, _, _, e, _⟩ => by rw [e] <;> rfl) fun cdv A0 outer s0 Ex B ins o hF hr => ?_
  obtain ⟨k, u, s, hk, hk2, rfl, rfl⟩ := hF
  refine ⟨[.rp (TI k), .rp (TI u), .rp (TI s), .no, .no, .no], rfl, ?_⟩
  have ft : ∀ l : List Nat, l.filter (fun _ => true) = l := fun l => by simp
  have e1 : (k : Int) - 1 = ((k - 1 : Nat) : Int) := by omega
  have hal : ∀ (j a b : Nat), (KW.alt a b j).length = j := fun j => by
    induction j with
    | zero => intro a b; rfl
    | succ j ih => intro a b; show (KW.alt b a j).length + 1 = j + 1; rw [ih]
  refine bsetLc 3 [("button", 5)] (items := KW.alt s u (k - 1)) (y := fun (b : Nat) => En.rp (TI b)) (bb := fun _ => true) (r := fun (b : Nat) => TI ((b : Int) + 1)) ?_ rfl sc_tokens_for.nd (giceq (gic (gi_tup (gcl c1 hr (acons (gr 2 rfl) (acons (gr 1 rfl) (acons (gsub (gr 0 rfl) gint) anil))) ⟨s, u, k - 1, by omega, by rw [e1], rfl⟩))) (by rw [List.map_map] <;> rfl)) (blkOk_by (N := N_tokens_for) (sc := defScope s_tokens_for) (by decide +kernel))
    (fun x _ _ _ _ _ _ => tgn 5 sc_tokens_for.nd) (fun _ _ i hi => hi) (fun _ _ _ _ _ _ _ => pts0) (fun b _ _ _ _ _ _ _ => gadd (gr 5 rfl) gint) (by rw [hal]; omega)
  refine bsetLc 4 [("button", 5)] (items := KW.alt u s (k - 1)) (y := fun (b : Nat) => En.rp (TI b)) (bb := fun _ => true) (r := fun (b : Nat) => TI (-1 - (b : Int))) ?_ rfl sc_tokens_for.nd (giceq (gic (gi_tup (gcl c1 hr (acons (gr 1 rfl) (acons (gr 2 rfl) (acons (gsub (gr 0 rfl) gint) anil))) ⟨u, s, k - 1, by omega, by rw [e1], rfl⟩))) (by rw [List.map_map] <;> rfl)) (blkOk_by (N := N_tokens_for) (sc := defScope s_tokens_for) (by decide +kernel))
    (fun x _ _ _ _ _ _ => tgn 5 sc_tokens_for.nd) (fun _ _ i hi => hi) (fun _ _ _ _ _ _ _ => pts0) (fun b _ _ _ _ _ _ _ => gsub (gneg gint) (gr 5 rfl)) (by rw [hal]; omega)
  refine bret (gcatL (gM 4 rfl) (gal (grevL (gM 3 rfl))) ?_) ?_
  · simp only [List.length_map, List.length_reverse, ft, hal]
    omega
  · rw [KW.tokR, List.reverse_append, List.reverse_reverse, List.map_append, List.map_append, ft, ft]
    simp only [List.map_map, List.map_reverse]
    rfl
end
end KP
end
section
set_option maxRecDepth 100000
set_option maxHeartbeats 4000000
namespace KP
open PySem PySem.Spec PyProof.Rows L2 KG KJ
open KW (G Wd)
section
variable {P : Program} {w : World} {K : PySem.W.Frag} {mg : Str → Option Value} {base : Heap} {f : Addr} {fd : FuncData}
/-! ### completions -/
def lft (P N : Wd) : List Int := P.reverse.map (fun (s : Nat) => (s : Int) + 1) ++ N.reverse.map (fun (s : Nat) => -1 - (s : Int))
def rgt (R : List KW.Tok) : List Int := R.reverse.map KW.Tok.int
def ltr : KW.Tok → Nat
  | .p s => s
  | .n s => s
def cres (K : PySem.W.Frag) : Option (Wd × Wd) → Rp
  | none => TN
  | some q => TUP K [dW K q.1, dW K q.2]
def F_completions (K : PySem.W.Frag) : Option Addr → List En → En → Prop := fun _ ins o => ∃ (n b : Nat) (m : Nat → Nat → Nat) (x : Wd) (r : Option (Wd × Wd)), okT n m ∧ b < n ∧ KW.okw n x ∧ x.length ≤ 29 ∧ KW.cgo m 1 x.length (KW.takFuel x b) [] [] (.n b :: x.map KW.Tok.p) = some r ∧
  ins = [.rp (dT K n m), .rp (dW K [b]), .rp (dW K x), .rp (TI x.length)] ∧ o = .rp (cres K r)
theorem rgt_cons {t : KW.Tok} {R : List KW.Tok} : (rgt (t :: R)).map TI = (rgt R).map TI ++ [TI t.int] := by
  unfold rgt
  rw [List.reverse_cons, List.map_append, List.map_append]
  rfl
theorem lft_n {P N : Wd} {u : Nat} : lft P (u :: N) = lft P N ++ [-1 - (u : Int)] := by
  unfold lft
  rw [List.reverse_cons, List.map_append, List.append_assoc]
  rfl
theorem lft_p {P : Wd} {u : Nat} : lft (u :: P) [] = lft P [] ++ [(u : Int) + 1] := by
  unfold lft
  rw [List.reverse_cons, List.map_append]
  simp
theorem lft_len {P N : Wd} : (lft P N).length = P.length + N.length := by simp [lft]
theorem tokR_ltr {k u s : Nat} : ∀ t ∈ KW.tokR k u s, ltr t = u ∨ ltr t = s := by
  have ha : ∀ (j a b : Nat), ∀ y ∈ KW.alt a b j, y = a ∨ y = b := fun j => by
    induction j with
    | zero => intro a b y hy; cases hy
    | succ j ih =>
      intro a b y hy
      rcases List.mem_cons.mp (show y ∈ a :: KW.alt b a j from hy) with z | z
      · exact .inl z
      · exact (ih b a y z).symm
  intro t ht
  unfold KW.tokR at ht
  rcases List.mem_append.mp ht with z | z
  · obtain ⟨y, hy, rfl⟩ := List.mem_map.mp z
    exact (ha _ _ _ y hy).symm
  · obtain ⟨y, hy, rfl⟩ := List.mem_map.mp (List.mem_reverse.mp z)
    exact ha _ _ _ y hy
def inv (K : PySem.W.Frag) (n b : Nat) (m : Nat → Nat → Nat) (x : Wd) (r : Option (Wd × Wd)) (fu : Nat) (E' : List En) : Prop := ∃ (P N : Wd) (R : List KW.Tok) (o1 o2 o3 : En), KW.cgo m 1 x.length fu P N R = some r ∧ KW.Iv x.length (1 + P.length - N.length) R ∧ (∀ t ∈ R, ltr t < n) ∧ (∀ u ∈ N, u < n) ∧ P.length ≤ x.length ∧
  E' = [.rp (dT K n m), .rp (dW K [b]), .rp (dW K x), .rp (TI x.length), .rp (TI P.length), .mu (LS ((lft P N).map TI)), .mu (LS ((rgt R).map TI)), o1, o2, o3, .no, .no]
theorem ok_completions (T : Tx K mg) (c1 : C8.Cal P w K mg base 2 "tokens_for" (PM F_tokens_for) []) (F : FnT K "completions" s_completions f fd) : FnOk P w K mg base CX0 3 f fd ["ties", "word", "other", "most"] (PM (F_completions K)) := by
  refine pm_ok F sc_completions (fun _ _ _ ⟨_, _, _, _, _, _, _, _, _, _, e, _⟩ => by rw [e] <;> rfl) fun cdv A0 outer s0 Ex B ins o hF hr => ?_
  obtain ⟨n, b, m, x, r, ⟨hm, h1, h6⟩, hb, hx, hxl, hc, rfl, rfl⟩ := hF
  have ft : ∀ l : List Nat, l.filter (fun _ => true) = l := fun l => by simp
  refine ⟨[.rp (dT K n m), .rp (dW K [b]), .rp (dW K x), .rp (TI x.length), .no, .no, .no, .no, .no, .no, .no, .no], rfl, ?_⟩
  refine bset 4 sc_completions.nd gint (bset 5 sc_completions.nd (glst anil) ?_)
  refine bsetLc 6 [("button", 11)] (items := x.reverse) (y := fun (b : Nat) => En.rp (TI b)) (bb := fun _ => true) (r := fun (b : Nat) => TI ((b : Int) + 1)) ?_ rfl sc_completions.nd (giceq (gic (gi_tup (grevW (gr 2 rfl)))) (by rw [List.map_map] <;> rfl)) (blkOk_by (N := N_completions) (sc := defScope s_completions) (by decide +kernel))
    (fun x _ _ _ _ _ _ => tgn 11 sc_completions.nd) (fun _ _ i hi => hi) (fun _ _ _ _ _ _ _ => pts0) (fun b _ _ _ _ _ _ _ => gadd (gr 11 rfl) gint) (by rw [List.length_reverse]; omega)
  rw [ft]
  refine bext 6 rfl (glc [("button", 11)] (items := [b]) (y := fun (b : Nat) => En.rp (TI b)) (bb := fun _ => true) (r := fun (b : Nat) => TI (-1 - (b : Int))) rfl sc_completions.nd (giceq (gic (gi_tup (gr 1 rfl))) (by rw [List.map_map] <;> rfl)) (blkOk_by (N := N_completions) (sc := defScope s_completions) (by decide +kernel))
    (fun x _ _ _ _ _ _ => tgn 11 sc_completions.nd) (fun _ _ i hi => hi) (fun _ _ _ _ _ _ _ => pts0) (fun b _ _ _ _ _ _ _ => gsub (gneg gint) (gr 11 rfl)) (by simp)) ?_ (by simp; omega)
  refine bwhile (inv K n b m x r) (KW.takFuel x b) PassesOwn.never ⟨[], [], .n b :: x.map KW.Tok.p, .no, .no, .no, hc, KW.Iv.start, fun t ht => ?_, (fun u hu => by cases hu), by simp, ?_⟩ fun fu E' hinv => ?_
  · rcases List.mem_cons.mp ht with rfl | ht
    · exact hb
    · obtain ⟨y, hy, rfl⟩ := List.mem_map.mp ht
      exact hx y hy
  · unfold rgt lft
    simp only [List.reverse_cons, List.map_append, List.map_reverse, List.map_map]
    rfl
  obtain ⟨P, N, R, o1, o2, o3, hcg, hiv, hR, hN, hP, rfl⟩ := hinv
  have hRl := hiv.len (M := 30) (by omega)
  have hnn := hiv.nn
  have hRl2 : (rgt R).length = R.length := by simp [rgt]
  obtain ⟨fv, rfl⟩ : ∃ fv, fu = fv + 1 := by
    cases fu with
    | zero => simp [KW.cgo] at hcg
    | succ fv => exact ⟨fv, rfl⟩
  refine ⟨_, gct (cneD hr.units (gM 6 rfl) (glst anil) (dtoLi _) dtoL (shp_ok (shp_li _) (by decide)) (shp_ok (shp_lst (n := 0) fun d hd => by cases hd) (by decide))), fun h => ?_, fun h => ?_⟩
  · rw [eqvL_nil] at h
    cases R with
    | nil => simp [rgt] at h
    | cons t R =>
      rw [rgt_cons]
      have hRl3 : (rgt R).length = R.length := by simp [rgt]
      simp only [List.length_cons] at hRl
      refine bpop 6 7 sc_completions.nd rfl ?_
      have hR' : ∀ t ∈ R, ltr t < n := fun y hy => hR y (List.mem_cons_of_mem _ hy)
      cases t with
      | n s =>
        have hs : s < n := hR _ List.mem_cons_self
        refine bifs (N1 := fun E' => ∃ m', m' < fv + 1 ∧ inv K n b m x r m' E') (GT.to (d1 := false) (gtw (gwand (d2 := true) (gct (cgt (gr 7 rfl) gint)) fun h => (by
          have := dt h
          have e : KW.Tok.int (.n s) = -1 - (s : Int) := rfl
          omega))) (by
            have e : KW.Tok.int (.n s) = -1 - (s : Int) := rfl
            rw [e, decide_eq_false (by omega)] <;> rfl)) (fun h => by cases h) (fun _ => ?_) fun E' q => bnil q
        refine bapp 5 rfl (gr 7 rfl) ?_ (by rw [List.length_map, lft_len]; omega)
        refine bset 4 sc_completions.nd (gif (o := .rp (TI P.length)) (gct (cgt (gr 7 rfl) gint)) (fun h => by
          have := dt h
          have e : KW.Tok.int (.n s) = -1 - (s : Int) := rfl
          omega) fun _ => gr 4 rfl) ?_
        have hcg2 : (if x.length < 1 + P.length then some none else KW.cgo m 1 x.length fv P (s :: N) R) = some r := hcg
        refine bifR (gct (cgt (gadd (glen T.len (gr 1 rfl) (szTT (n := 1) rfl)) (gr 4 rfl)) (gr 3 rfl))) (fun h => bret gnon ?_) fun h => bnil ⟨fv, by omega, P, s :: N, R, .rp (TI (KW.Tok.int (.n s))), o2, o3, ?_, ?_, hR', fun u hu => ?_, hP, ?_⟩
        · have := dt h
          rw [if_pos (by omega)] at hcg2
          cases hcg2
          rfl
        · have := df h
          rw [if_neg (by omega)] at hcg2
          exact hcg2
        · have := hiv.n
          have e : (1 : Int) + P.length - N.length - 1 = 1 + P.length - ((s :: N).length : Int) := by rw [List.length_cons]; omega
          rw [e] at this
          exact this
        · rcases List.mem_cons.mp hu with rfl | hu
          · exact hs
          · exact hN u hu
        · rw [lft_n, List.map_append]
          rfl
      | p s =>
        have hs : s < n := hR _ List.mem_cons_self
        obtain ⟨hi1, hi2⟩ := hiv.p
        cases N with
        | nil =>
          refine bifs (N1 := fun E' => ∃ m', m' < fv + 1 ∧ inv K n b m x r m' E') (d := false) ?_ (fun h => by cases h) (fun _ => ?_) fun E' q => bnil q
          · cases P with
            | nil =>
              exact GT.to (gtw (gwand (gct (cgt (gr 7 rfl) gint)) fun _ => gwand (d2 := true) (gct (cneD hr.units (gM 5 rfl) (glst anil) (dtoLi _) dtoL (shp_ok (shp_li _) (by decide)) (shp_ok (shp_lst (n := 0) fun d hd => by cases hd) (by decide)))) fun h => by
                rw [eqvL_nil] at h
                simp [lft] at h)) (by
                  rw [eqvL_nil]
                  simp [lft])
            | cons q P =>
              rw [lft_p, List.map_append]
              exact GT.to (gtw (gwand (gct (cgt (gr 7 rfl) gint)) fun _ => gwand (gct (cneD (y := .list ((lft P [] ++ [(q : Int) + 1]).map PyData.int)) hr.units (gM 5 rfl) (glst anil) (by rw [show (lft P []).map TI ++ [(q : Int) + 1].map TI = (lft P [] ++ [(q : Int) + 1]).map TI by rw [List.map_append]]; exact dtoLi _) dtoL (shp_ok (shp_li _) (by decide)) (shp_ok (shp_lst (n := 0) fun d hd => by cases hd) (by decide)))) fun _ => gw1 (gct (clt (gixL (R := TI ((q : Int) + 1)) (gM 5 rfl) (gneg gint) (atI_last _ _)) gint)))) (by
                rw [decide_eq_false (p := ((q : Int) + 1 < 0)) (by omega), Bool.and_false, Bool.and_false])
          · refine bapp 5 rfl (gr 7 rfl) ?_ (by rw [List.length_map, lft_len]; simp; omega)
            have e7 : KW.Tok.int (.p s) = (s : Int) + 1 := rfl
            refine bset 4 sc_completions.nd (gif (o := .rp (TI ((P.length : Int) + 1))) (gct (cgt (gr 7 rfl) gint)) (fun _ => gadd (gr 4 rfl) gint) fun h => by
              have := df h
              omega) ?_
            have hcg2 : (if x.length < 1 + (P.length + 1) then some none else KW.cgo m 1 x.length fv (s :: P) [] R) = some r := hcg
            refine bifR (gct (cgt (gadd (glen T.len (gr 1 rfl) (szTT (n := 1) rfl)) (gr 4 rfl)) (gr 3 rfl))) (fun h => bret gnon ?_) fun h => bnil ⟨fv, by omega, s :: P, [], R, .rp (TI (KW.Tok.int (.p s))), o2, o3, ?_, ?_, hR', (fun u hu => by cases hu), ?_, ?_⟩
            · have := dt h
              rw [if_pos (by omega)] at hcg2
              cases hcg2
              rfl
            · have := df h
              rw [if_neg (by omega)] at hcg2
              exact hcg2
            · have e : (1 : Int) + P.length - (([] : Wd).length : Int) + 1 = 1 + ((s :: P).length : Int) - (([] : Wd).length : Int) := by simp; omega
              rw [e] at hi1
              exact hi1
            · have := df h
              rw [List.length_cons]
              omega
            · rw [lft_p, List.map_append]
              rfl
        | cons u N =>
          have hu : u < n := hN u List.mem_cons_self
          have hN' : ∀ y ∈ N, y < n := fun y hy => hN y (List.mem_cons_of_mem _ hy)
          have e7 : KW.Tok.int (.p s) = (s : Int) + 1 := rfl
          have eh : (1 : Int) + P.length - ((u :: N).length : Int) + 1 = 1 + P.length - N.length := by rw [List.length_cons]; omega
          rw [eh] at hi1 hi2
          have hnn2 : (0 : Int) ≤ 1 + P.length - ((u :: N).length : Int) := hnn
          rw [List.length_cons] at hnn2
          rw [lft_n, List.map_append]
          refine bifs (N1 := fun E' => ∃ m', m' < fv + 1 ∧ inv K n b m x r m' E') (d := true) ?_ (fun _ => ?_) (fun h => by cases h) fun E' q => bnil q
          · exact GT.to (gtw (gwand (gct (cgt (gr 7 rfl) gint)) fun _ => gwand (gct (cneD (y := .list ((lft P N ++ [-1 - (u : Int)]).map PyData.int)) hr.units (gM 5 rfl) (glst anil) (by rw [show (lft P N).map TI ++ [-1 - (u : Int)].map TI = (lft P N ++ [-1 - (u : Int)]).map TI by rw [List.map_append]]; exact dtoLi _) dtoL (shp_ok (shp_li _) (by decide)) (shp_ok (shp_lst (n := 0) fun d hd => by cases hd) (by decide)))) fun _ => gw1 (gct (clt (gixL (R := TI (-1 - (u : Int))) (gM 5 rfl) (gneg gint) (atI_last _ _)) gint)))) (by
              rw [eqvL_nil, decide_eq_true (p := (-1 - (u : Int) < 0)) (by omega), decide_eq_true (p := (0 < KW.Tok.int (.p s))) (by omega)]
              simp)
          · refine bpop 5 8 sc_completions.nd (R := TI (-1 - (u : Int))) rfl ?_
            have hcg2 : (if s = u then KW.cgo m 1 x.length fv P N R else if m u s = 0 ∨ x.length + N.length + 1 < 1 + P.length + m u s then some none else KW.cgo m 1 x.length fv P N (KW.tokR (m u s) u s ++ R)) = some r := hcg
            refine bifs (N1 := fun E' => ∃ m', m' < fv + 1 ∧ inv K n b m x r m' E') (gct (cne (gadd (gr 7 rfl) (gr 8 rfl)) gint)) (fun h => ?_) (fun h => bnil ⟨fv, by omega, P, N, R, .rp (TI (KW.Tok.int (.p s))), .rp (TI (-1 - (u : Int))), o3, ?_, hi1, hR', hN', hP, rfl⟩) fun E' q => bnil q
            · have hus : ¬ s = u := fun z => by
                subst z
                rw [e7, decide_eq_true (by omega)] at h
                cases h
              rw [if_neg hus] at hcg2
              have etr : tr m u s = (m u s : Int) := by
                unfold tr
                rw [if_neg fun z => hus z.symm]
              refine bset 9 sc_completions.nd (geq (gix_r (n := n) (s := u) (i := s) (gix_t (gr 0 rfl) (geq (gsub (gneg gint) (gr 8 rfl)) (o1 := .rp (TI (u : Int))) (congrArg (fun z => En.rp (TI z)) (by omega))) hu) (geq (gsub (gr 7 rfl) gint) (o1 := .rp (TI (s : Int))) (congrArg (fun z => En.rp (TI z)) (by omega))) hs) (o1 := .rp (TI (m u s : Int))) (by rw [etr])) ?_
              have h6' : m u s ≤ 6 := by
                rcases hm.ok u s (fun z => hus z.symm) with z | z | z | z | z | z <;> omega
              refine bifR (gtw (gwor (gct (ceq (gr 9 rfl) gint)) fun _ => gwo1 (gct (cgt (gadd (gsub (gsub (gadd (glen T.len (gr 1 rfl) (szTT (n := 1) rfl)) (gmul gint (gr 4 rfl) (m2 (by omega)))) (glen T.len (gM 5 rfl) szL)) gint) (gr 9 rfl)) (gr 3 rfl))))) (fun h => bret gnon ?_) fun h => ?_
              · have hl := lft_len (P := P) (N := N)
                rw [if_pos] at hcg2
                · cases hcg2
                  rfl
                · rcases Bool.or_eq_true_iff.mp h with z | z
                  · have := dt z
                    exact .inl (by omega)
                  · have := dt z
                    rw [List.length_map] at this
                    exact .inr (by omega)
              · have hl := lft_len (P := P) (N := N)
                obtain ⟨z1, z2⟩ := Bool.or_eq_false_iff.mp h
                have z1 := df z1
                have z2 := df z2
                rw [List.length_map] at z2
                rw [if_neg (fun q => by rcases q with q | q <;> omega)] at hcg2
                have htl : (KW.tokR (m u s) u s).length ≤ 10 := by
                  unfold KW.tokR
                  rw [List.length_append, List.length_reverse, List.length_map, List.length_map, KW.alt_length, KW.alt_length]
                  omega
                refine bext 6 rfl (gcl c1 hr (acons (gr 9 rfl) (acons (geq (gsub (gneg gint) (gr 8 rfl)) (o1 := .rp (TI (u : Int))) (congrArg (fun z => En.rp (TI z)) (by omega))) (acons (geq (gsub (gr 7 rfl) gint) (o1 := .rp (TI (s : Int))) (congrArg (fun z => En.rp (TI z)) (by omega))) anil))) ⟨m u s, u, s, by omega, by omega, rfl, rfl⟩) (bnil ⟨fv, by omega, P, N, KW.tokR (m u s) u s ++ R, .rp (TI (KW.Tok.int (.p s))), .rp (TI (-1 - (u : Int))), .rp (TI (m u s : Int)), hcg2, ?_, fun t ht => ?_, hN', hP, ?_⟩) (by simp only [List.length_map, List.length_reverse, hRl3]; omega)
                · have e2 : (1 : Int) + P.length - N.length = 1 + P.length - ((N.length + 1 : Nat) : Int) + 1 := by omega
                  rw [e2] at hi2 ⊢
                  exact KW.Iv.flip hi2 h6' (by omega)
                · rcases List.mem_append.mp ht with z | z
                  · rcases tokR_ltr t z with q | q <;> omega
                  · exact hR' t z
                · unfold rgt
                  simp only [List.reverse_append, List.map_append]
            · have hus : s = u := by
                have h3 : decide (KW.Tok.int (.p s) + (-1 - (u : Int)) = 0) = true := by simpa using h
                have := dt h3
                omega
              rw [if_pos hus] at hcg2
              exact hcg2
  · rw [eqvL_nil] at h
    have hR0 : R = [] := by
      cases R with
      | nil => rfl
      | cons t R => simp [rgt] at h
    subst hR0
    have hr2 : some (some (P.reverse, N)) = some r := hcg
    cases hr2
    have e1 : (lft P N).take P.length = P.reverse.map (fun (s : Nat) => (s : Int) + 1) := by
      unfold lft
      rw [List.take_left' (by simp)]
    have e2 : (lft P N).drop P.length = N.reverse.map (fun (s : Nat) => -1 - (s : Int)) := by
      unfold lft
      rw [List.drop_left' (by simp)]
    refine bset 10 sc_completions.nd (gslL (gM 5 rfl) (oi (gr 4 rfl)) on (Rs1 := (N.reverse.map (fun (s : Nat) => -1 - (s : Int))).map TI) (by rw [cut_drop, ← List.map_drop, e2])) ?_
    refine bret (gtup (acons (gtc [("token", 7)] (items := P.reverse) (y := fun (s : Nat) => En.rp (TI ((s : Int) + 1))) (fun (s : Nat) => TI (s : Int)) rfl T.tuple sc_completions.nd (giceq (gic_list (gal (gslL (gM 5 rfl) on (oi (gr 4 rfl)) (Rs1 := (P.reverse.map (fun (s : Nat) => (s : Int) + 1)).map TI) (by rw [cut_take, ← List.map_take, e1])))) (by rw [List.map_map, List.map_map] <;> rfl)) (blkOk_by (N := N_completions) (sc := defScope s_completions) (by decide +kernel))
      (fun x _ _ _ _ _ _ => tgn 7 sc_completions.nd) (fun _ _ i hi => hi) (fun s _ _ _ _ _ _ => geq (gsub (gr 7 rfl) gint) (congrArg (fun z => En.rp (TI z)) (by omega))) (by rw [List.length_reverse]; omega))
      (acons (gtc [("token", 7)] (items := N) (y := fun (s : Nat) => En.rp (TI (-1 - (s : Int)))) (fun (s : Nat) => TI (s : Int)) rfl T.tuple sc_completions.nd (giceq (gic_list (gal (grevL (gM 10 rfl)))) (by rw [← List.map_reverse, ← List.map_reverse, List.reverse_reverse, List.map_map, List.map_map] <;> rfl)) (blkOk_by (N := N_completions) (sc := defScope s_completions) (by decide +kernel))
      (fun x _ _ _ _ _ _ => tgn 7 sc_completions.nd) (fun _ _ i hi => hi) (fun s _ _ _ _ _ _ => geq (gsub (gneg gint) (gr 7 rfl)) (congrArg (fun z => En.rp (TI z)) (by omega))) (by omega)) anil))) rfl
end
end KP
end
section
set_option maxRecDepth 100000
set_option maxHeartbeats 4000000
namespace KP
open PySem PySem.Spec PyProof.Rows L2 KG KJ
open KW (G Wd)
section
variable {P : Program} {w : World} {K : PySem.W.Frag} {mg : Str → Option Value} {base : Heap} {f : Addr} {fd : FuncData}
/-! ### taken, front_buttons, first_word -/
def tres (K : PySem.W.Frag) : Option Wd → Rp
  | none => TN
  | some y => dW K y
/-- tables and words that are small -/
def okX (n : Nat) (m : Nat → Nat → Nat) (x : Wd) : Prop := okT n m ∧ KW.okw n x ∧ x.length ≤ 29
def F_taken (K : PySem.W.Frag) : Option Addr → List En → En → Prop := fun _ ins o => ∃ (n b : Nat) (m : Nat → Nat → Nat) (x : Wd), okX n m x ∧ b < n ∧ ins = [.rp (dT K n m), .rp (dW K x), .rp (dW K [b])] ∧ o = .rp (tres K (KW.taken m x b))
def pk2 : Option (Wd × Wd) → Option Wd
  | some (y, []) => some y
  | _ => none
theorem taken_of {m : Nat → Nat → Nat} {x : Wd} {b : Nat} {r : Option (Wd × Wd)} (h : KW.cgo m 1 x.length (KW.takFuel x b) [] [] (.n b :: x.map KW.Tok.p) = some r) : KW.taken m x b = pk2 r := by
  unfold KW.taken
  simp only [h]
  cases r with
  | none => rfl
  | some q =>
    obtain ⟨y, S⟩ := q
    cases S <;> rfl
theorem ok_taken (T : Tx K mg) (c1 : C8.Cal P w K mg base 3 "completions" (PM (F_completions K)) []) (F : FnT K "taken" s_taken f fd) : FnOk P w K mg base CX0 4 f fd ["ties", "word", "front"] (PM (F_taken K)) := by
  refine pm_ok F sc_taken (fun _ _ _ ⟨_, _, _, _, _, _, e, _⟩ => by rw [e] <;> rfl) fun cdv A0 outer s0 Ex B ins o hF hr => ?_
  obtain ⟨n, b, m, x, ⟨⟨hm, h1, h6⟩, hx, hl⟩, hb, rfl, rfl⟩ := hF
  have hne := KW.taken_run (KW.wA_cart hm) hm x b
  obtain ⟨r, hc⟩ := Option.ne_none_iff_exists'.mp hne
  rw [taken_of hc]
  refine ⟨[.rp (dT K n m), .rp (dW K x), .rp (dW K [b]), .no], rfl, ?_⟩
  refine bset 3 sc_taken.nd (gcl c1 hr (acons (gr 0 rfl) (acons (gr 2 rfl) (acons (gr 1 rfl) (acons (glen T.len (gr 1 rfl) (szTT (n := x.length) (by simp))) anil)))) ⟨n, b, m, x, r, ⟨hm, h1, h6⟩, hb, hx, hl, hc, rfl, rfl⟩) ?_
  cases r with
  | none => exact bret (gif (o := .rp TN) (GT.to (d1 := false) (gtw (gwand (d2 := true) (gct (cnotN (gr 3 rfl) non_tn)) fun h => by cases h)) rfl) (fun h => by cases h) fun _ => gnon) rfl
  | some q =>
    obtain ⟨y, S⟩ := q
    refine bret (gif (o := .rp (tres K (pk2 (some (y, S))))) (gtw (gwand (gct (cnotN (R := TUP K [dW K y, dW K S]) (gr 3 rfl) non_tup)) fun _ => gw1 (gct (ceqD hr.units (gixT (R := dW K S) (Rs := [dW K y, dW K S]) (gr 3 rfl) gint rfl) (gtup anil) (dto (dp_dW _)) (dto (dp_dW [])) (shp_ok (shp_pW _) (by decide)) (shp_ok (shp_pW []) (by decide)))))) (fun h => geq (gixT (R := dW K y) (Rs := [dW K y, dW K S]) (gr 3 rfl) gint rfl) ?_) fun h => geq gnon ?_) rfl
    · rw [eqv_pW] at h
      have hS : S = [] := by simpa using h
      subst hS
      rfl
    · rw [eqv_pW] at h
      cases S with
      | nil => simp at h
      | cons a S => rfl
def F_front_buttons (K : PySem.W.Frag) : Option Addr → List En → En → Prop := fun _ ins o => ∃ (n : Nat) (m : Nat → Nat → Nat) (x : Wd), okX n m x ∧ ins = [.rp (dT K n m), .rp (dW K x)] ∧ o = .rp (dW K (KW.frontB m n x))
theorem non_tres {r : Option Wd} : ∀ v H, (tres K r).p v H → decide (v = V.non) = !r.isSome := fun v H h => by
  cases r with
  | none => rw [non_tn v H h] <;> rfl
  | some y => rw [non_tup v H h] <;> rfl
theorem ok_front_buttons (T : Tx K mg) (c1 : C8.Cal P w K mg base 4 "taken" (PM (F_taken K)) []) (F : FnT K "front_buttons" s_front_buttons f fd) : FnOk P w K mg base CX0 5 f fd ["ties", "word"] (PM (F_front_buttons K)) := by
  refine pm_ok F sc_front_buttons (fun _ _ _ ⟨_, _, _, _, e, _⟩ => by rw [e] <;> rfl) fun cdv A0 outer s0 Ex B ins o hF hr => ?_
  obtain ⟨n, m, x, ho, rfl, rfl⟩ := hF
  have h6 := ho.1.2.2
  refine ⟨[.rp (dT K n m), .rp (dW K x), .no], rfl, ?_⟩
  exact bret (gtcI [("button", 2)] (items := List.range n) (y := fun (b : Nat) => En.rp (TI b)) (fun (b : Nat) => TI b) (fun b => (KW.taken m x b).isSome) rfl T.tuple sc_front_buttons.nd (gic (gi_range T.range (glen T.len (gr 0 rfl) (szTT (n := n) (by simp [tbl]))) (by omega))) (blkOk_by (N := N_front_buttons) (sc := defScope s_front_buttons) (by decide +kernel))
    (fun x _ _ _ _ _ _ => tgn 2 sc_front_buttons.nd) (fun _ _ i hi => hi) (fun b hb _ _ _ _ _ => GT.to (gct (cnotN (gcl c1 hr (acons (gr 0 rfl) (acons (gr 1 rfl) (acons (gtup (acons (gr 2 rfl) anil)) anil))) ⟨n, b, m, x, ho, List.mem_range.mp hb, rfl, rfl⟩) non_tres)) (Bool.not_not _)) (fun b _ _ _ _ _ _ => gr 2 rfl) (by simp; omega)) rfl
def F_first_word (K : PySem.W.Frag) : Option Addr → List En → En → Prop := fun _ ins o => ∃ (n : Nat) (m : Nat → Nat → Nat) (x : Wd), okX n m x ∧ ins = [.rp (dT K n m), .rp (dW K x)] ∧ o = .rp (dW K (KW.firstW m n x))
theorem ok_first_word (T : Tx K mg) (c1 : C8.Cal P w K mg base 5 "front_buttons" (PM (F_front_buttons K)) []) (c2 : C8.Cal P w K mg base 4 "taken" (PM (F_taken K)) []) (F : FnT K "first_word" s_first_word f fd) : FnOk P w K mg base CX0 6 f fd ["ties", "word"] (PM (F_first_word K)) := by
  refine pm_ok F sc_first_word (fun _ _ _ ⟨_, _, _, _, e, _⟩ => by rw [e] <;> rfl) fun cdv A0 outer s0 Ex B ins o hF hr => ?_
  obtain ⟨n, m, x, ⟨⟨hm, h1, h6⟩, hx, hl⟩, rfl, rfl⟩ := hF
  have C := KW.wA_cart hm
  refine ⟨[.rp (dT K n m), .rp (dW K x), .no, .no, .no], rfl, ?_⟩
  refine bset 2 sc_first_word.nd (glst anil) (bset 3 sc_first_word.nd (gr 1 rfl) ?_)
  refine bwhile (fun k E' => ∃ (y fo : Wd) (o1 : En), KW.okw n y ∧ y.length = k ∧ fo.length + k ≤ 29 ∧ fo ++ KW.firstgo m n k y = KW.firstW m n x ∧ E' = [.rp (dT K n m), .rp (dW K x), .mu (LS (fo.map fun (b : Nat) => TI b)), .rp (dW K y), o1]) x.length PassesOwn.never ⟨x, [], .no, hx, rfl, by simp; omega, rfl, rfl⟩ fun k E' ⟨y, fo, o1, hy, hk, hle, hfo, e⟩ => ?_
  subst e
  refine ⟨_, gct (cneD hr.units (gr 3 rfl) (gtup anil) (dto (dp_dW _)) (dto (dp_dW [])) (shp_ok (shp_pW _) (by decide)) (shp_ok (shp_pW []) (by decide))), fun h => ?_, fun h => ?_⟩
  · rw [eqv_pW] at h
    have hne : y ≠ [] := by simpa using h
    have hmem := KW.head_mem C hm hne hy
    obtain ⟨z, hz, hbr, hzl, hzo⟩ := KW.take_ok C hm hmem hy
    have hbn := ((KW.frontB_mem C hm).1 hmem).1
    cases hfb : KW.frontB m n y with
    | nil => exact absurd hfb (KW.frontB_ne C hm hne hy)
    | cons b l =>
      rw [hfb, List.headD_cons] at hz hbn hmem
      obtain ⟨k', rfl⟩ : ∃ k', k = k' + 1 := ⟨k - 1, by omega⟩
      refine bset 4 sc_first_word.nd (gixT (R := TI b) (Rs := (b :: l).map fun (b : Nat) => TI b) (geq (gcl c1 hr (acons (gr 0 rfl) (acons (gr 3 rfl) anil)) ⟨n, m, y, ⟨⟨hm, h1, h6⟩, hy, by omega⟩, rfl, rfl⟩) (by rw [hfb] <;> rfl)) gint (atI_nat (j := 0) rfl)) ?_
      refine bapp 2 rfl (gr 4 rfl) (bset 3 sc_first_word.nd (geq (gcl c2 hr (acons (gr 0 rfl) (acons (gr 3 rfl) (acons (gtup (acons (gr 4 rfl) anil)) anil))) ⟨n, b, m, y, ⟨⟨hm, h1, h6⟩, hy, by omega⟩, hbn, rfl, rfl⟩) (o1 := .rp (dW K z)) (by rw [hz] <;> rfl)) (bnil ⟨k', by omega, z, fo ++ [b], .rp (TI b), hzo, by omega, by simp; omega, ?_, ?_⟩)) (by simp; omega)
      · rw [← hfo]
        show fo ++ [b] ++ _ = fo ++ (if y = [] then [] else (KW.frontB m n y).headD 0 :: KW.firstgo m n k' ((KW.taken m y ((KW.frontB m n y).headD 0)).getD []))
        rw [if_neg hne, hfb, List.headD_cons, hz, List.append_assoc] <;> rfl
      · rw [List.map_append] <;> rfl
  · rw [eqv_pW] at h
    have hne : y = [] := by simpa using h
    subst hne
    have hk0 : k = 0 := by rw [← hk] <;> rfl
    subst hk0
    have h2 : fo = KW.firstW m n x := by
      rw [← hfo]
      show fo = fo ++ []
      rw [List.append_nil]
    exact bret (gtupOf T.tuple (gM 2 rfl)) (by rw [← h2] <;> rfl)
/-! ### Positive -/
def I_Positive (K : PySem.W.Frag) : List En → Rp → Prop := fun ins R => ∃ n m u d, okX n m u ∧ ins = [.rp (TAB K n m), .rp (dW K u), .rp (TBl d)] ∧ R = POS K n m (KW.firstW m n u)
theorem pos_of {n : Nat} {m : Nat → Nat → Nat} {u : Wd} {x : Addr} : ∀ fp v H, (INST x (cP K) [("table", TAB K n m), ("_word", dW K u)]).p fp v H → (POS K n m u).p (.ref x) H := fun fp v H ⟨e1, e2, dx, vs, h, hf⟩ => by
  cases hf with
  | cons q1 t1 =>
    cases t1 with
    | cons q2 t2 =>
      cases t2
      rename_i u1 u2
      obtain ⟨n1, v1⟩ := u1
      obtain ⟨n2, v2⟩ := u2
      obtain ⟨rfl, p1⟩ := q1
      obtain ⟨rfl, p2⟩ := q2
      exact ⟨x, dx, v1, v2, rfl, h, p1, p2⟩
theorem ok_Positive_init (Z : Tc K mg) (c1 : C8.Cal P w K mg base 1 "check_table" (PM (F_check_table K)) []) (c2 : C8.Cal P w K mg base 4 "check_word" (PM (F_check_word K)) []) (c3 : C8.Cal P w K mg base 6 "first_word" (PM (F_first_word K)) []) (F : FnM K "__init__" "Positive.__init__" s_Positive_init [.bl false] f fd) : FnOk P w K mg base CX0 7 f fd ["self", "table", "word", "_made"] (PIn (cP K) (I_Positive K)) := by
  refine in_ok F sc_Positive_init (fun _ _ ⟨_, _, _, _, _, e, _⟩ => by rw [e] <;> rfl) fun cdv A0 outer s0 H Ex B x ins R hw hF hr => ?_
  obtain ⟨n, m, u, d, ho, rfl, rfl⟩ := hF
  refine ⟨[.rp (TAB K n m), .rp (dW K u), .rp (TBl d)], rfl, ?_⟩
  refine bifs (N1 := fun E' => E' = [.mu (INST x (cP K) []), .rp (TAB K n m), .rp (dW K u), .rp (TBl d)]) (gnot (gval (gr 3 rfl))) (fun _ => bexpr (gcl c1 hr (acons (gr 1 rfl) anil) ⟨n, m, rfl, rfl⟩) (bexpr (gcl c2 hr (acons (gr 1 rfl) (acons (gr 2 rfl) anil)) ⟨n, m, u, ho.2.1, by have := ho.2.2; omega, rfl, rfl⟩) (bnil rfl))) (fun _ => bnil rfl) fun E' e => ?_
  subst e
  exact bfld 0 rfl Z.p.cl (Z.p.na _ (by simp)) (gr 1 rfl) (bfld 0 rfl Z.p.cl (Z.p.na _ (by simp)) (gcl c3 hr (acons (gties Z (gr 1 rfl)) (acons (gr 2 rfl) anil)) ⟨n, m, u, ho, rfl, rfl⟩) (bnil ⟨INST x (cP K) _, _, rfl, pos_of⟩))
def F_Positive_word (K : PySem.W.Frag) : Option Addr → List En → En → Prop := fun _ ins o => ∃ n m u, ins = [.rp (POS K n m u)] ∧ o = .rp (dW K u)
theorem ok_Positive_word (Z : Tc K mg) (F : FnM K "word" "Positive.word" s_Positive_word [] f fd) : FnOk P w K mg base CX0 1 f fd ["self"] (PM (F_Positive_word K)) := by
  refine pm_ok F sc_Positive_word (fun _ _ _ ⟨_, _, _, e, _⟩ => by rw [e] <;> rfl) fun cdv A0 outer s0 Ex B ins o hF hr => ?_
  obtain ⟨n, m, u, rfl, rfl⟩ := hF
  exact ⟨[.rp (POS K n m u)], rfl, bret (gwordP Z (gr 0 rfl)) rfl⟩
def F_Positive_eq (K : PySem.W.Frag) : Option Addr → List En → En → Prop := fun _ ins o => ∃ n m u, ins = [.rp (POS K n m u), .rp (POS K n m u)] ∧ o = .rp (TBl true)
theorem ok_Positive_eq (T : Tx K mg) (Z : Tc K mg) {fde : FuncData} (FE : FnOk P w K mg base CX0 1 (He.ma K (cT K) "__eq__") fde ["self", "other"] (PM (F_Table_eq K))) (hb : Binds K fde ["self", "other"] []) (F : FnM K "__eq__" "Positive.__eq__" s_Positive_eq [] f fd) : FnOk P w K mg base CX0 3 f fd ["self", "other"] (PM (F_Positive_eq K)) := by
  refine pm_ok F sc_Positive_eq (fun _ _ _ ⟨_, _, _, e, _⟩ => by rw [e] <;> rfl) fun cdv A0 outer s0 Ex B ins o hF hr => ?_
  obtain ⟨n, m, u, rfl, rfl⟩ := hF
  refine ⟨[.rp (POS K n m u), .rp (POS K n m u)], rfl, bret (gand (gisC Z.p.ins T.isinstance (gr 1 rfl) (gcls Z.p.m) pos_ins) fun _ => gand (gcm (ceqG (rcG_ins (C := cT K) (eqT_ok FE) Z.t.eq Z.t.eqf hb pass0) hr (by decide) (gtabP Z (gr 0 rfl)) (gtabP Z (gr 1 rfl)) fun H H2 v u h1 h2 => dtab h1 h2)) fun _ => gone (gcm (ceqD hr.units (gwordP Z (gr 0 rfl)) (gwordP Z (gr 1 rfl)) (dto (dp_dW _)) (dto (dp_dW _)) (shp_ok (shp_pW _) (by decide)) (shp_ok (shp_pW _) (by decide))))) ?_⟩
  rw [eqv_pW, decide_eq_true rfl]
  rfl
def F_positive_made (K : PySem.W.Frag) : Option Addr → List En → En → Prop := fun _ ins o => ∃ n m u, okX n m u ∧ ins = [.rp (TAB K n m), .rp (dW K u)] ∧ o = .rp (POS K n m (KW.firstW m n u))
theorem ok_positive_made (c1 : MakN P w K mg base 7 "Positive" (cP K) (PIn (cP K) (I_Positive K)) 2 "_made") (F : FnT K "positive_made" s_positive_made f fd) : FnOk P w K mg base CX0 9 f fd ["table", "word"] (PM (F_positive_made K)) := by
  refine pm_ok F sc_positive_made (fun _ _ _ ⟨_, _, _, _, e, _⟩ => by rw [e] <;> rfl) fun cdv A0 outer s0 Ex B ins o hF hr => ?_
  obtain ⟨n, m, u, ho, rfl, rfl⟩ := hF
  exact ⟨[.rp (TAB K n m), .rp (dW K u)], rfl, bret (gmakeK c1 hr (acons (gr 0 rfl) (acons (gr 1 rfl) anil)) gbl ⟨n, m, u, true, ho, rfl, rfl⟩) rfl⟩
def F_Positive_mul (K : PySem.W.Frag) : Option Addr → List En → En → Prop := fun _ ins o => ∃ n m u v, okX n m (u ++ v) ∧ ins = [.rp (POS K n m u), .rp (POS K n m v)] ∧ o = .rp (POS K n m (KW.firstW m n (u ++ v)))
theorem ok_Positive_mul (T : Tx K mg) (Z : Tc K mg) (c1 : C8.Cal P w K mg base 3 "check_same_table" (PM (F_check_same_table K)) []) (c2 : C8.Cal P w K mg base 9 "positive_made" (PM (F_positive_made K)) []) (F : FnM K "__mul__" "Positive.__mul__" s_Positive_mul [] f fd) : FnOk P w K mg base CX0 10 f fd ["self", "other"] (PM (F_Positive_mul K)) := by
  refine pm_ok F sc_Positive_mul (fun _ _ _ ⟨_, _, _, _, _, e, _⟩ => by rw [e] <;> rfl) fun cdv A0 outer s0 Ex B ins o hF hr => ?_
  obtain ⟨n, m, u, v, ho, rfl, rfl⟩ := hF
  have hl := ho.2.2
  rw [List.length_append] at hl
  refine ⟨[.rp (POS K n m u), .rp (POS K n m v)], rfl, bifR (gnot (gval (gisC Z.p.ins T.isinstance (gr 1 rfl) (gcls Z.p.m) pos_ins))) (fun h => by cases h) fun _ => bexpr (gcl c1 hr (acons (gr 0 rfl) (acons (gr 1 rfl) anil)) ⟨n, m, u, v, rfl, rfl⟩) (bret (gcl c2 hr (acons (gtabP Z (gr 0 rfl)) (acons (geq (gcatT (gwordP Z (gr 0 rfl)) (gwordP Z (gr 1 rfl)) (by simp; omega)) (o1 := .rp (dW K (u ++ v))) (by rw [← List.map_append] <;> rfl)) anil)) ⟨n, m, u ++ v, ho, rfl, rfl⟩) rfl)⟩
def F_check_positive (K : PySem.W.Frag) : Option Addr → List En → En → Prop := fun _ ins o => ∃ n m u, ins = [.rp (POS K n m u)] ∧ o = .rp TN
theorem ok_check_positive (T : Tx K mg) (Z : Tc K mg) (F : FnT K "check_positive" s_check_positive f fd) : FnOk P w K mg base CX0 1 f fd ["value"] (PM (F_check_positive K)) := by
  refine pm_ok F sc_check_positive (fun _ _ _ ⟨_, _, _, e, _⟩ => by rw [e] <;> rfl) fun cdv A0 outer s0 Ex B ins o hF hr => ?_
  obtain ⟨n, m, u, rfl, rfl⟩ := hF
  exact ⟨[.rp (POS K n m u)], rfl, bifR (gnot (gval (gisC Z.p.ins T.isinstance (gr 0 rfl) (gcls Z.p.m) pos_ins))) (fun h => by cases h) fun _ => bnil rfl⟩
def F_lifted (K : PySem.W.Frag) : Option Addr → List En → En → Prop := fun _ ins o => ∃ n m c, okC n m c ∧ ins = [.rp (CHG K n m c)] ∧ o = .rp (POS K n m (KW.firstW m n (KW.wordBy (KW.wA m) n c)))
theorem ok_lifted (Z : Tc K mg) (c1 : C8.Cal P w K mg base 1 "check_change" (PM (F_check_change K)) []) (c2 : C8.Cal P w K mg base 9 "positive_made" (PM (F_positive_made K)) []) (p1 : Prp P w K mg base 5 (cC K) "word" (PM (F_Change_word K))) (F : FnT K "lifted" s_lifted f fd) : FnOk P w K mg base CX0 10 f fd ["change"] (PM (F_lifted K)) := by
  refine pm_ok F sc_lifted (fun _ _ _ ⟨_, _, _, _, e, _⟩ => by rw [e] <;> rfl) fun cdv A0 outer s0 Ex B ins o hF hr => ?_
  obtain ⟨n, m, c, ho, rfl, rfl⟩ := hF
  obtain ⟨w1, w2, w3⟩ := KW.wordBy_ok (KW.wA_cart ho.1.1) ho.1.1 (n := n) ho.2.1
  exact ⟨[.rp (CHG K n m c)], rfl, bexpr (gcl c1 hr (acons (gr 0 rfl) anil) ⟨n, m, c, rfl, rfl⟩) (bret (gcl c2 hr (acons (gtabC Z (gr 0 rfl)) (acons (gprop p1 hr (gr 0 rfl) chg_ins ⟨n, m, c, ho, rfl, rfl⟩) anil)) ⟨n, m, _, ⟨ho.1, w3, by rw [w2]; exact ho.2.2⟩, rfl, rfl⟩) rfl)⟩
end
end KP
end
section
set_option maxRecDepth 100000
set_option maxHeartbeats 4000000
namespace KP
open PySem PySem.Spec PyProof.Rows L2 KG KJ
open KW (G Wd)
section
variable {P : Program} {w : World} {K : PySem.W.Frag} {mg : Str → Option Value} {base : Heap} {f : Addr} {fd : FuncData}
theorem sqiW {l : Wd} : SqI K (.rp (dW K l)) (l.map fun (n : Nat) => (n : Int)) := by
  have := sqiT (K := K) (l.map fun (n : Nat) => (n : Int))
  rw [List.map_map] at this
  exact this
theorem dtoLw {l : Wd} : DtO K (.al (LS (l.map fun (n : Nat) => TI n))) (.list ((l.map fun (n : Nat) => (n : Int)).map PyData.int)) := by
  have := dtoLi (K := K) (l.map fun (n : Nat) => (n : Int))
  rw [List.map_map] at this
  exact this
theorem in_cast {l : Wd} {b : Nat} : (!decide ((b : Int) ∈ l.map fun (n : Nat) => (n : Int))) = !l.contains b := by
  congr 1
  rw [Bool.eq_iff_iff, decide_eq_true_iff, List.contains_iff_mem]
  constructor
  · intro h
    obtain ⟨a, ha, e⟩ := List.mem_map.mp h
    have : a = b := by omega
    exact this ▸ ha
  · intro h
    exact List.mem_map.mpr ⟨b, h, rfl⟩
def F_head_of (K : PySem.W.Frag) : Option Addr → List En → En → Prop := fun _ ins o => ∃ (n : Nat) (m : Nat → Nat → Nat) (r : Wd), okX n m r ∧ ins = [.rp (TAB K n m), .rp (dW K r)] ∧ o = .rp (TUP K [CHG K n m (KW.headOf m (KW.wA m) n r).1, dW K (KW.headOf m (KW.wA m) n r).2])
theorem ok_head_of (Z : Tc K mg) (c1 : C8.Cal P w K mg base 7 "plain" (PM (F_plain K)) []) (c2 : C8.Cal P w K mg base 5 "front_buttons" (PM (F_front_buttons K)) []) (c3 : C8.Cal P w K mg base 8 "led_behind" (PM (F_led_behind K)) []) (c4 : C8.Cal P w K mg base 4 "taken" (PM (F_taken K)) []) (p1 : Prp P w K mg base 4 (cC K) "backs" (PM (F_Change_backs K)))
    (F : FnT K "head_of" s_head_of f fd) : FnOk P w K mg base CX0 9 f fd ["table", "word"] (PM (F_head_of K)) := by
  refine pm_ok F sc_head_of (fun _ _ _ ⟨_, _, _, _, e, _⟩ => by rw [e] <;> rfl) fun cdv A0 outer s0 Ex B ins o hF hr => ?_
  obtain ⟨n, m, r0, ⟨⟨hm, h1, h6⟩, hr0, hl0⟩, rfl, rfl⟩ := hF
  have C := KW.wA_cart hm
  refine ⟨[.rp (TAB K n m), .rp (dW K r0), .no, .no, .no, .no], rfl, ?_⟩
  refine basg (gtup (acons (gcl c1 hr (acons (gr 0 rfl) anil) ⟨n, m, ⟨hm, h1, h6⟩, rfl, rfl⟩) (acons (gr 1 rfl) anil))) (tg2 rfl (tgn 2 sc_head_of.nd) (tgn 3 sc_head_of.nd)) ?_
  refine bwhile (fun fu E' => ∃ (c r : Wd) (o4 : En), KW.okw n c ∧ KW.okw n r ∧ c.length + r.length ≤ 29 ∧ r.length < fu ∧ KW.hgo m (KW.wA m) n fu c r = KW.headOf m (KW.wA m) n r0 ∧ E' = [.rp (TAB K n m), .rp (dW K r0), .rp (CHG K n m c), .rp (dW K r), o4, .no]) (r0.length + 1) PassesOwn.never
    ⟨[], r0, .no, (fun x hx => by cases hx), hr0, by simp; omega, by omega, rfl, rfl⟩ fun fu E' ⟨c, r, o4, hc, hr', hle, hfu, hh, e⟩ => ?_
  subst e
  obtain ⟨k, rfl⟩ : ∃ k, fu = k + 1 := ⟨fu - 1, by omega⟩
  refine ⟨true, gval gbl, fun _ => ?_, fun h => by cases h⟩
  have hoC : okC n m c := ⟨⟨hm, h1, h6⟩, hc, Nat.le_trans (KW.W.len_mk c) (by omega)⟩
  refine bsetLc 4 [("button", 5)] (items := KW.frontB m n r) (y := fun (b : Nat) => En.rp (TI b)) (bb := fun b => !(KW.down (KW.wA m) n c).contains b) (r := fun (b : Nat) => TI b) ?_ rfl sc_head_of.nd (giceq (gic (gi_tup (gcl c2 hr (acons (gties Z (gr 0 rfl)) (acons (gr 3 rfl) anil)) ⟨n, m, r, ⟨⟨hm, h1, h6⟩, hr', by omega⟩, rfl, rfl⟩))) (by rw [List.map_map] <;> rfl)) (blkOk_by (N := N_head_of) (sc := defScope s_head_of) (by decide +kernel))
    (fun x _ _ _ _ _ _ => tgn 5 sc_head_of.nd) (fun _ _ i hi => hi) (fun b _ _ _ _ _ _ => pts1 (GT.to (gct (cnin (gr 5 rfl) (gprop p1 hr (gr 2 rfl) chg_ins ⟨n, m, c, hoC, rfl, rfl⟩) sqiW)) in_cast)) (fun b _ _ _ _ _ _ _ => gr 5 rfl) (by
      have := List.length_filter_le (fun b => (KW.taken m r b).isSome) (List.range n)
      unfold KW.frontB
      simp at this ⊢
      omega)
  have hfr : (KW.frontB m n r).filter (fun b => !(KW.down (KW.wA m) n c).contains b) = KW.fresh m (KW.wA m) n c r := rfl
  rw [hfr]
  refine bifR (gct (ceqD hr.units (gM 4 rfl) (glst anil) dtoLw dtoL (shp_ok (shp_li _) (by decide)) (shp_ok (shp_lst (n := 0) fun d hd => by cases hd) (by decide)))) (fun h => bret (gtup (acons (gr 2 rfl) (acons (gr 3 rfl) anil))) ?_) fun h => ?_
  · rw [eqvL_nil] at h
    have hf0 : KW.fresh m (KW.wA m) n c r = [] := by simpa using h
    have hh2 : (match KW.fresh m (KW.wA m) n c r with | [] => (c, r) | b :: _ => KW.hgo m (KW.wA m) n k (c ++ [b]) ((KW.taken m r b).getD [])) = KW.headOf m (KW.wA m) n r0 := hh
    rw [hf0] at hh2
    rw [← hh2] <;> rfl
  · rw [eqvL_nil] at h
    cases hf0 : KW.fresh m (KW.wA m) n c r with
    | nil =>
      rw [hf0] at h
      cases h
    | cons b l =>
      have hbm : b ∈ KW.fresh m (KW.wA m) n c r := by rw [hf0]; exact List.mem_cons_self
      have hbf : b ∈ KW.frontB m n r := (List.mem_filter.mp hbm).1
      obtain ⟨hbn, _⟩ := (KW.frontB_mem C hm).1 hbf
      obtain ⟨y, hy, hbr, hyl, hyo⟩ := KW.take_ok C hm hbf hr'
      have hh2 : (match KW.fresh m (KW.wA m) n c r with | [] => (c, r) | b :: _ => KW.hgo m (KW.wA m) n k (c ++ [b]) ((KW.taken m r b).getD [])) = KW.headOf m (KW.wA m) n r0 := hh
      rw [hf0] at hh2
      have hh3 : KW.hgo m (KW.wA m) n k (c ++ [b]) y = KW.headOf m (KW.wA m) n r0 := by
        have hh4 : KW.hgo m (KW.wA m) n k (c ++ [b]) ((KW.taken m r b).getD []) = KW.headOf m (KW.wA m) n r0 := hh2
        rw [hy] at hh4
        exact hh4
      refine basg (gtup (acons (gcl c3 hr (acons (gr 2 rfl) (acons (gixL (R := TI b) (Rs := (b :: l).map fun (n : Nat) => TI n) (gM 4 rfl) gint (atI_nat (j := 0) rfl)) anil)) ⟨n, b, m, c, ⟨hm, h1, h6⟩, hc, hbn, rfl, rfl⟩)
        (acons (geq (gcl c4 hr (acons (gties Z (gr 0 rfl)) (acons (gr 3 rfl) (acons (gtup (acons (gixL (R := TI b) (Rs := (b :: l).map fun (n : Nat) => TI n) (gM 4 rfl) gint (atI_nat (j := 0) rfl)) anil)) anil))) ⟨n, b, m, r, ⟨⟨hm, h1, h6⟩, hr', by omega⟩, hbn, rfl, rfl⟩) (o1 := .rp (dW K y)) (by rw [hy] <;> rfl)) anil))) (tg2 rfl (tgn 2 sc_head_of.nd) (tgn 3 sc_head_of.nd)) (bnil ⟨k, by omega, c ++ [b], y, .mu (LS ((b :: l).map fun (n : Nat) => TI n)), KW.okw.app hc fun x hx => by rw [List.mem_singleton.mp hx]; exact hbn, hyo, by simp; omega, by omega, hh3, rfl⟩)
def F_grains_of (K : PySem.W.Frag) : Option Addr → List En → En → Prop := fun _ ins o => ∃ (n : Nat) (m : Nat → Nat → Nat) (r : Wd), okX n m r ∧ ins = [.rp (TAB K n m), .rp (dW K r)] ∧ o = .rp (TUP K ((KW.grains m (KW.wA m) n r).map (CHG K n m)))
theorem ok_grains_of (T : Tx K mg) (c1 : C8.Cal P w K mg base 9 "head_of" (PM (F_head_of K)) []) (F : FnT K "grains_of" s_grains_of f fd) : FnOk P w K mg base CX0 10 f fd ["table", "word"] (PM (F_grains_of K)) := by
  refine pm_ok F sc_grains_of (fun _ _ _ ⟨_, _, _, _, e, _⟩ => by rw [e] <;> rfl) fun cdv A0 outer s0 Ex B ins o hF hr => ?_
  obtain ⟨n, m, r0, ⟨⟨hm, h1, h6⟩, hr0, hl0⟩, rfl, rfl⟩ := hF
  have C := KW.wA_cart hm
  refine ⟨[.rp (TAB K n m), .rp (dW K r0), .no, .no, .no], rfl, ?_⟩
  refine bset 2 sc_grains_of.nd (glst anil) (bset 3 sc_grains_of.nd (gr 1 rfl) ?_)
  refine bwhile (fun k E' => ∃ (r : Wd) (fo : List Wd) (o4 : En), KW.okw n r ∧ r.length ≤ k ∧ r.length ≤ 29 ∧ fo.length + k ≤ 29 ∧ fo ++ KW.ggo m (KW.wA m) n k r = KW.grains m (KW.wA m) n r0 ∧ E' = [.rp (TAB K n m), .rp (dW K r0), .mu (LS (fo.map (CHG K n m))), .rp (dW K r), o4]) r0.length PassesOwn.never ⟨r0, [], .no, hr0, by omega, hl0, by simp; omega, rfl, rfl⟩ fun k E' ⟨r, fo, o4, hr', hk, hk2, hle, hg, e⟩ => ?_
  subst e
  refine ⟨_, gct (cneD hr.units (gr 3 rfl) (gtup anil) (dto (dp_dW _)) (dto (dp_dW [])) (shp_ok (shp_pW _) (by decide)) (shp_ok (shp_pW []) (by decide))), fun h => ?_, fun h => ?_⟩
  · rw [eqv_pW] at h
    have hne : r ≠ [] := by simpa using h
    have hpos : 0 < r.length := List.length_pos_iff.mpr hne
    obtain ⟨k', rfl⟩ : ∃ k', k = k' + 1 := ⟨k - 1, by omega⟩
    obtain ⟨a1, a2, a3, a4, a5, _⟩ := KW.headOf_ok C hm (n := n) hr' hne
    have hl := a1.len
    rw [List.length_append] at hl
    have hp2 : 0 < (KW.headOf m (KW.wA m) n r).1.length := List.length_pos_iff.mpr a5
    refine basg (gcl c1 hr (acons (gr 0 rfl) (acons (gr 3 rfl) anil)) ⟨n, m, r, ⟨⟨hm, h1, h6⟩, hr', hk2⟩, rfl, rfl⟩) (tg2 rfl (tgn 4 sc_grains_of.nd) (tgn 3 sc_grains_of.nd)) (bapp 2 rfl (gr 4 rfl) (bnil ⟨k', by omega, (KW.headOf m (KW.wA m) n r).2, fo ++ [(KW.headOf m (KW.wA m) n r).1], .rp (CHG K n m (KW.headOf m (KW.wA m) n r).1), a3, by omega, by omega, by simp; omega, ?_, ?_⟩) (by simp; omega))
    · rw [← hg]
      show fo ++ [_] ++ _ = fo ++ (if r = [] then [] else (KW.headOf m (KW.wA m) n r).1 :: KW.ggo m (KW.wA m) n k' (KW.headOf m (KW.wA m) n r).2)
      rw [if_neg hne, List.append_assoc] <;> rfl
    · rw [List.map_append] <;> rfl
  · rw [eqv_pW] at h
    have hne : r = [] := by simpa using h
    subst hne
    have h0 : KW.ggo m (KW.wA m) n k [] = [] := by cases k <;> rfl
    rw [h0, List.append_nil] at hg
    exact bret (gtupOf T.tuple (gM 2 rfl)) (by rw [hg] <;> rfl)
def F_grains (K : PySem.W.Frag) : Option Addr → List En → En → Prop := fun _ ins o => ∃ (n : Nat) (m : Nat → Nat → Nat) (u : Wd), okX n m u ∧ ins = [.rp (POS K n m u)] ∧ o = .rp (TUP K ((KW.grains m (KW.wA m) n u).map (CHG K n m)))
theorem ok_grains (Z : Tc K mg) (c1 : C8.Cal P w K mg base 1 "check_positive" (PM (F_check_positive K)) []) (c2 : C8.Cal P w K mg base 10 "grains_of" (PM (F_grains_of K)) []) (p1 : Prp P w K mg base 1 (cP K) "word" (PM (F_Positive_word K))) (F : FnT K "grains" s_grains f fd) : FnOk P w K mg base CX0 11 f fd ["positive"] (PM (F_grains K)) := by
  refine pm_ok F sc_grains (fun _ _ _ ⟨_, _, _, _, e, _⟩ => by rw [e] <;> rfl) fun cdv A0 outer s0 Ex B ins o hF hr => ?_
  obtain ⟨n, m, u, ho, rfl, rfl⟩ := hF
  exact ⟨[.rp (POS K n m u)], rfl, bexpr (gcl c1 hr (acons (gr 0 rfl) anil) ⟨n, m, u, rfl, rfl⟩) (bret (gcl c2 hr (acons (gtabP Z (gr 0 rfl)) (acons (gprop p1 hr (gr 0 rfl) pos_ins ⟨n, m, u, rfl, rfl⟩) anil)) ⟨n, m, u, ho, rfl, rfl⟩) rfl)⟩
end
end KP
end
section
set_option maxRecDepth 100000
set_option maxHeartbeats 4000000
namespace KG
open PySem PySem.Spec PyProof.Rows L2
section
variable {X : Cx} {B : Bs} {E : List En} {k1 k2 k3 v1 v2 v3 idx : Expr} {p pos : Pos} {a1 b1 a2 b2 a3 b3 i r : Int}
/-- {k1: v1, k2: v2, k3: v3}[i], of ints -/
theorem gdic3 (hu : X.A.units + 1 < cLine) (h1 : GE X B E k1 (.rp (TI a1))) (g1 : GE X B E v1 (.rp (TI b1))) (h2 : GE X B E k2 (.rp (TI a2))) (g2 : GE X B E v2 (.rp (TI b2))) (h3 : GE X B E k3 (.rp (TI a3))) (g3 : GE X B E v3 (.rp (TI b3))) (hi : GE X B E idx (.rp (TI i)))
    (hr : valV (mergeK [] [(.inl a1, .int b1), (.inl a2, .int b2), (.inl a3, .int b3)]) (.inl i) = some (.int r)) (hs : NoSl idx := by intro _ _; rfl) : GE X B E (.Subscript (.Dict [some k1, some k2, some k3] [v1, v2, v3] p) idx pos) (.rp (TI r)) :=
  peI (pe_dget hu (pe_disp (pps_cons h1 g1 (pps_cons h2 g2 (pps_cons h3 g3 pps_nil))) rfl rfl (by simp) (by simp)) hi hs) fun σ H Q ⟨s, q⟩ q0 hq0 => by
    have r0 : Rel B.w H (upd H q0 (.dK [])) := Rel.new hq0
    have w0 := Bs.wl1 s.rel
    have hw : some q0 ≠ B.w := Bs.new_ne s.rel hq0
    refine ⟨s.mono r0, fun x1 H1 r1 o1 => ⟨(s.mono r0).mono r1, fun y1 H2 r2 p1 => ⟨((s.mono r0).mono r1).mono r2, fun x2 H3 r3 o2 => ⟨(((s.mono r0).mono r1).mono r2).mono r3, fun y2 H4 r4 p2 => ⟨((((s.mono r0).mono r1).mono r2).mono r3).mono r4, fun x3 H5 r5 o3 => ⟨(((((s.mono r0).mono r1).mono r2).mono r3).mono r4).mono r5, fun y3 H6 r6 p3 => ?_⟩⟩⟩⟩⟩⟩
    have rr := ((((r1.trans r2).trans r3).trans r4).trans r5).trans r6
    have hd : H6 q0 = some (.dK []) := rr.k q0 _ upd_same (.inl hw)
    have rH : Rel B.w H H6 := r0.trans rr
    obtain rfl : x1 = .int a1 := o1
    obtain rfl : y1 = .int b1 := p1
    obtain rfl : x2 = .int a2 := o2
    obtain rfl : y2 = .int b2 := p2
    obtain rfl : x3 = .int a3 := o3
    obtain rfl : y3 = .int b3 := p3
    refine ⟨hd, [(.inl a1, .int b1), (.inl a2, .int b2), (.inl a3, .int b3)], rfl, by simp, ?_⟩
    have r7 : Rel B.w H (upd H6 q0 (.dK (mergeK [] [(.inl a1, .int b1), (.inl a2, .int b2), (.inl a3, .int b3)]))) := rH.mut hq0 w0
    refine ⟨s.mono r7, fun y H7 r8 oy => ⟨q0, .int r, rfl, ?_, q _ H7 (r7.trans r8) rfl⟩⟩
    have e : H7 q0 = _ := r8.k q0 _ upd_same (.inl hw)
    obtain rfl : y = .int i := oy
    have := DGet.k (k := .inl i) e
    rw [hr] at this
    exact this
end
end KG
namespace KP
open PySem PySem.Spec PyProof.Rows L2 KG KJ
open KW (G Wd)
section
variable {P : Program} {w : World} {K : PySem.W.Frag} {mg : Str → Option Value} {base : Heap} {f : Addr} {fd : FuncData}
/-! ### the law's own game -/
def timesI (t : Int) (l : Bool) : Int := if t = 2 then 0 else if l = true then (if t = 0 then 4 else if t = 4 then 2 else if t = 6 then 3 else 1) else 1
def F_law_times : Option Addr → List En → En → Prop := fun _ ins o => ∃ (t : Int) (l : Bool), ins = [.rp (TI t), .rp (TBl l)] ∧ o = .rp (TI (timesI t l))
theorem ok_law_times (F : FnT K "_law_times" s__law_times f fd) : FnOk P w K mg base CX0 1 f fd ["_law_tie", "_law_is_less"] (PM F_law_times) := by
  refine pm_ok F sc__law_times (fun _ _ _ ⟨_, _, e, _⟩ => by rw [e] <;> rfl) fun cdv A0 outer s0 Ex B ins o hF hr => ?_
  obtain ⟨t, l, rfl, rfl⟩ := hF
  refine ⟨[.rp (TI t), .rp (TBl l)], rfl, bifR (gct (ceq (gr 0 rfl) gint)) (fun h => bret gint ?_) fun h => ?_⟩
  · have h := dt h
    subst h
    rfl
  · have h := df h
    refine bret (gif (o := .rp (TI (timesI t l))) (gtw (gwand (gval (gr 1 rfl)) fun _ => gw1 (gct (cin (gr 0 rfl) (gtup (acons gint (acons gint (acons gint anil)))) (sqiT [0, 4, 6]))))) (fun h2 => ?_) fun h2 => geq gint ?_) rfl
    · obtain ⟨hl, ht⟩ := Bool.and_eq_true_iff.mp h2
      have ht := dt ht
      subst hl
      refine gdic3 (hu_of hr) gint gint gint gint gint gint (gr 0 rfl) ?_
      simp only [List.mem_cons, List.not_mem_nil, or_false] at ht
      rcases ht with rfl | rfl | rfl <;> rfl
    · unfold timesI
      rw [if_neg h]
      cases l with
      | false => rfl
      | true =>
        have h3 : ¬ (t ∈ ([0, 4, 6] : List Int)) := by simpa using h2
        simp only [List.mem_cons, List.not_mem_nil, or_false, not_or] at h3
        rw [if_pos rfl, if_neg h3.1, if_neg h3.2.1, if_neg h3.2.2]
def F_law_press (K : PySem.W.Frag) : Option Addr → List En → En → Prop := fun _ ins o => ∃ (n b : Nat) (m : Nat → Nat → Nat) (I : Nat → G), KW.Ties m ∧ n ≤ 6 ∧ b < n ∧ ins = [.al (ROWS (tbl n m)), .rp (dV K ((List.range n).map I)), .rp (TI b)] ∧ o = .rp (dV K ((List.range n).map (KW.press (KW.wC m) I b)))
theorem gtie {X : Cx} {B : Bs} {E : List En} {a b c : Expr} {pos pos2 : Pos} {n i j : Nat} {m : Nat → Nat → Nat} (ha : GE X B E a (.al (ROWS (tbl n m)))) (hb : GE X B E b (.rp (TI (i : Int)))) (hc : GE X B E c (.rp (TI (j : Int)))) (hi : i < n) (hj : j < n) (hs : PlainIx b := by intro _ _; rfl) (hs2 : PlainIx c := by intro _ _; rfl) : GE X B E (.Subscript (.Subscript a b pos) c pos2) (.rp (TI (tr m i j))) :=
  gixL (gixR ha hb (r := rowT n m i) (atI_rg _ hi) hs) hc (by rw [rowT_map]; exact atI_rg _ hj) hs2
theorem press_eq {m : Nat → Nat → Nat} {I : Nat → G} {b t : Nat} (h : b ≠ t) (h5 : ¬ (m b t = 5 ∧ t < b)) : KW.press (KW.wC m) I b t = ⟨(I t).a + timesI (m b t : Int) (decide (b < t)) * (I b).a, (I t).b + timesI (m b t : Int) (decide (b < t)) * (I b).b⟩ := by
  have key : KW.wC m b t = ⟨-(timesI (m b t : Int) (decide (b < t))), 0⟩ := by
    unfold KW.wC timesI
    rw [if_neg h, if_neg h5]
    by_cases h2 : m b t = 2
    · rw [if_pos h2, if_pos (show (m b t : Int) = 2 by omega)]
      rfl
    · rw [if_neg h2, if_neg (show ¬ ((m b t : Int) = 2) by omega)]
      by_cases hl : b < t
      · rw [if_pos hl, if_pos (show decide (b < t) = true from decide_eq_true hl)]
        generalize m b t = k at *
        match k with
        | 0 => rfl
        | 1 => rfl
        | 2 => rfl
        | 3 => rfl
        | 4 => rfl
        | 5 => rfl
        | 6 => rfl
        | k + 7 =>
          show (-1 : G) = _
          rw [if_neg (show ¬ (((k + 7 : Nat) : Int) = 0) by omega), if_neg (show ¬ (((k + 7 : Nat) : Int) = 4) by omega), if_neg (show ¬ (((k + 7 : Nat) : Int) = 6) by omega)]
          rfl
      · rw [if_neg hl, if_neg (show ¬ (decide (b < t) = true) by rw [decide_eq_false hl]; exact fun z => nomatch z)]
        rfl
  unfold KW.press
  rw [key]
  generalize timesI (m b t : Int) (decide (b < t)) = z
  show G.mk ((I t).a - (-z * (I b).a + 0 * (I b).b)) ((I t).b - (-z * (I b).b + 0 * (I b).a + 0 * (I b).b)) = _
  congr 1
  · rw [Int.neg_mul]; omega
  · rw [Int.neg_mul]; omega
theorem timesI_small (t : Int) (l : Bool) : 0 ≤ timesI t l ∧ timesI t l ≤ 4 := by
  unfold timesI
  repeat' split
  all_goals omega
theorem ok_law_press (T : Tx K mg) (c1 : C8.Cal P w K mg base 1 "_law_times" (PM F_law_times) []) (F : FnT K "_law_press" s__law_press f fd) : FnOk P w K mg base CX0 2 f fd ["_law_rows", "_law_state_here", "_law_button"] (PM (F_law_press K)) := by
  refine pm_ok F sc__law_press (fun _ _ _ ⟨_, _, _, _, _, _, _, e, _⟩ => by rw [e] <;> rfl) fun cdv A0 outer s0 Ex B ins o hF hr => ?_
  obtain ⟨n, b, m, I, hm, hn, hb, rfl, rfl⟩ := hF
  refine ⟨[.rm (ROWS (tbl n m)), .rp (dV K ((List.range n).map I)), .rp (TI b), .no, .no, .no, .no, .no, .no], rfl, ?_⟩
  refine bpar 3 4 sc__law_press.nd rfl (gix_v (gr 1 rfl) (gr 2 rfl) hb) (glst anil) ?_
  let Nv : Nat → List En → Prop := fun k E' => ∃ o1 o2 o3 o4, E' = [.rm (ROWS (tbl n m)), .rp (dV K ((List.range n).map I)), .rp (TI b), .rp (dP K (I b)), .mu (LS ((List.range k).map fun t => dP K (KW.press (KW.wC m) I b t))), o1, o2, o3, o4]
  refine bfor (ys := (List.range n).map fun t => En.rp (TUP K [TI (t : Nat), dP K (I t)])) [5, 6] Nv rfl PassesOwn.never (gieq (gi_enumT T.enumerate (gr 1 rfl)) (by rw [dV_rg]; exact enum_rg _)) ⟨.no, .no, .no, .no, rfl⟩ (fun k y E' hy ⟨o1, o2, o3, o4, e⟩ => ?_) fun E' ⟨o1, o2, o3, o4, e⟩ => ?_
  · subst e
    have hk : k < n := by
      have := (List.getElem?_eq_some_iff.mp hy).1
      simpa using this
    rw [List.getElem?_map, List.getElem?_range hk] at hy
    cases hy
    have fin : ∀ {o1 o2 o3 o4 : En} {x : G}, x = KW.press (KW.wC m) I b k → Nv (k + 1) [.rm (ROWS (tbl n m)), .rp (dV K ((List.range n).map I)), .rp (TI b), .rp (dP K (I b)), .mu (LS (((List.range k).map fun t => dP K (KW.press (KW.wC m) I b t)) ++ [dP K x])), o1, o2, o3, o4] := fun {o1 o2 o3 o4 x} hx => ⟨o1, o2, o3, o4, by
      rw [List.range_succ, List.map_append, hx] <;> rfl⟩
    have hlen : ((List.range k).map fun t => dP K (KW.press (KW.wC m) I b t)).length ≤ 1000 := by simp; omega
    refine ⟨_, tg2 rfl (tgn 5 sc__law_press.nd) (tgn 6 sc__law_press.nd), bset 7 sc__law_press.nd (gtie (gm 0 rfl) (gr 2 rfl) (gr 5 rfl) hb hk) ?_⟩
    refine bifs (N1 := Nv (k + 1)) (gct (ceq (gr 5 rfl) (gr 2 rfl))) (fun h => ?_) (fun h => ?_) fun E' q => bnil q
    · have h := dt h
      obtain rfl : k = b := by omega
      refine bapp 4 rfl (geq (gtup (acons (gsub gint (gixT (gr 3 rfl) gint rfl)) (acons (gsub gint (gixT (gr 3 rfl) gint rfl)) anil))) (dP_eq (x := KW.press (KW.wC m) I k k) ?_ ?_)) (bnil (fin rfl)) hlen
      · have e : KW.wC m k k = 2 := by unfold KW.wC; rw [if_pos rfl]
        unfold KW.press
        rw [e]
        show 0 - (I k).a = (I k).a - (2 * (I k).a + 0 * (I k).b)
        omega
      · have e : KW.wC m k k = 2 := by unfold KW.wC; rw [if_pos rfl]
        unfold KW.press
        rw [e]
        show 0 - (I k).b = (I k).b - (2 * (I k).b + 0 * (I k).a + 0 * (I k).b)
        omega
    · have h := df h
      have hbk : b ≠ k := fun z => h (by omega)
      have etr : tr m b k = (m b k : Int) := by unfold tr; rw [if_neg hbk]
      refine bifs (N1 := Nv (k + 1)) (gtw (gwand (gct (ceq (gr 7 rfl) gint)) fun _ => gw1 (gct (cgt (gr 2 rfl) (gr 5 rfl))))) (fun h2 => ?_) (fun h2 => ?_) fun E' q => bnil q
      · obtain ⟨z1, z2⟩ := Bool.and_eq_true_iff.mp h2
        have z1 := dt z1
        have z2 := dt z2
        rw [etr] at z1
        have e : KW.wC m b k = -(G.gold + 1) := by
          unfold KW.wC
          rw [if_neg hbk, if_pos ⟨by omega, by omega⟩]
        refine bapp 4 rfl (geq (gtup (acons (gadd (gadd (gixT (gr 6 rfl) gint rfl) (gixT (gr 3 rfl) gint rfl)) (gixT (gr 3 rfl) gint rfl)) (acons (gadd (gadd (gixT (gr 6 rfl) gint rfl) (gixT (gr 3 rfl) gint rfl)) (gmul gint (gixT (gr 3 rfl) gint rfl) (m2 (by omega)))) anil))) (dP_eq (x := KW.press (KW.wC m) I b k) ?_ ?_)) (bnil (fin rfl)) hlen
        · unfold KW.press
          rw [e]
          show _ = (I k).a - (-(0 + 1) * (I b).a + -(1 + 0) * (I b).b)
          omega
        · unfold KW.press
          rw [e]
          show _ = (I k).b - (-(0 + 1) * (I b).b + -(1 + 0) * (I b).a + -(1 + 0) * (I b).b)
          omega
      · have h5 : ¬ (m b k = 5 ∧ k < b) := fun ⟨z1, z2⟩ => by
          rw [etr, decide_eq_true (by omega), decide_eq_true (by omega)] at h2
          cases h2
        have hsm := timesI_small (m b k : Int) (decide (b < k))
        have hde : decide ((b : Int) < (k : Int)) = decide (b < k) := decide_eq_decide.mpr (by omega)
        refine bset 8 sc__law_press.nd (geq (gcl c1 hr (acons (gr 7 rfl) (acons (gcm (clt (gr 2 rfl) (gr 5 rfl))) anil)) ⟨_, _, rfl, rfl⟩) (o1 := .rp (TI (timesI (m b k : Int) (decide (b < k))))) (by rw [etr, hde])) ?_
        refine bapp 4 rfl (geq (gtup (acons (gadd (gixT (gr 6 rfl) gint rfl) (gmul (gr 8 rfl) (gixT (gr 3 rfl) gint rfl) (m2 (by omega)))) (acons (gadd (gixT (gr 6 rfl) gint rfl) (gmul (gr 8 rfl) (gixT (gr 3 rfl) gint rfl) (m2 (by omega)))) anil))) (dP_eq (x := KW.press (KW.wC m) I b k) ?_ ?_)) (bnil (fin rfl)) hlen
        · rw [press_eq hbk h5]
        · rw [press_eq hbk h5]
  · subst e
    rw [List.length_map, List.length_range]
    exact bret (gtupOf T.tuple (gM 4 rfl)) (by rw [dV, dV_rg] <;> rfl)
end
end KP
end
section
set_option maxRecDepth 100000
set_option maxHeartbeats 4000000
namespace KP
open PySem PySem.Spec PyProof.Rows L2 KG KJ
open KW (G Wd)
section
variable {P : Program} {w : World} {K : PySem.W.Frag} {mg : Str → Option Value} {base : Heap} {f : Addr} {fd : FuncData}
/-- where the law's game stands -/
def gst (m : Nat → Nat → Nat) (u : Wd) : Nat → G := KW.play (KW.wC m) (fun _ => 1) u
def F_law_state (K : PySem.W.Frag) : Option Addr → List En → En → Prop := fun _ ins o => ∃ (n : Nat) (m : Nat → Nat → Nat) (u : Wd), KW.Ties m ∧ n ≤ 6 ∧ KW.okw n u ∧ ins = [.al (ROWS (tbl n m)), .rp (dW K u)] ∧ o = .rp (dV K ((List.range n).map (gst m u)))
theorem tbl_len {n : Nat} {m : Nat → Nat → Nat} : (tbl n m).length = n := by simp [tbl]
theorem szRR {K : PySem.W.Frag} {n : Nat} {m : Nat → Nat → Nat} : SzO K (.al (ROWS (tbl n m))) n := by
  have := szR (K := K) (rows := tbl n m)
  rwa [tbl_len] at this
theorem one_rg {n : Nat} {m : Nat → Nat → Nat} : List.replicate n (TUP K [TI 1, TI 0]) = ((List.range n).map (gst m [])).map (dP K) := by
  rw [List.map_map]
  apply List.ext_getElem?
  intro i
  by_cases h : i < n
  · rw [List.getElem?_replicate_of_lt h, List.getElem?_map, List.getElem?_range h]
    rfl
  · rw [List.getElem?_eq_none (by simp; omega), List.getElem?_eq_none (by simp; omega)]
theorem ok_law_state (T : Tx K mg) (c1 : C8.Cal P w K mg base 2 "_law_press" (PM (F_law_press K)) []) (F : FnT K "_law_state" s__law_state f fd) : FnOk P w K mg base CX0 3 f fd ["_law_rows", "_law_letters_here"] (PM (F_law_state K)) := by
  refine pm_ok F sc__law_state (fun _ _ _ ⟨_, _, _, _, _, _, e, _⟩ => by rw [e] <;> rfl) fun cdv A0 outer s0 Ex B ins o hF hr => ?_
  obtain ⟨n, m, u, hm, hn, hu, rfl, rfl⟩ := hF
  refine ⟨[.rm (ROWS (tbl n m)), .rp (dW K u), .no, .no], rfl, ?_⟩
  refine bset 2 sc__law_state.nd (geq (gtupOf T.tuple (gal (grep (gal (glst (acons (gtup (acons gint (acons gint anil))) anil))) (glen T.len (gm 0 rfl) szRR) (by omega)))) (o1 := .rp (dV K ((List.range n).map (gst m [])))) (by rw [dV, ← one_rg] <;> rfl)) ?_
  refine bfor [3] (fun k E' => ∃ o, E' = [.rm (ROWS (tbl n m)), .rp (dW K u), .rp (dV K ((List.range n).map (gst m (u.take k)))), o]) rfl PassesOwn.never (gi_tup (gr 1 rfl)) ⟨.no, rfl⟩ (fun k y E' hy ⟨o, e⟩ => ?_) fun E' ⟨o, e⟩ => ?_
  · subst e
    rw [List.getElem?_map, List.getElem?_map] at hy
    cases hx : u[k]? with
    | none =>
      rw [hx] at hy
      cases hy
    | some b =>
      rw [hx] at hy
      cases hy
      refine ⟨_, tgn 3 sc__law_state.nd, ?_⟩
      refine bset 2 sc__law_state.nd (gcl c1 hr (acons (gm 0 rfl) (acons (gr 2 rfl) (acons (gr 3 rfl) anil))) ⟨n, b, m, _, hm, hn, hu b (List.mem_of_getElem? hx), rfl, rfl⟩) (bnil ⟨.rp (TI b), ?_⟩)
      rw [List.take_succ, hx]
      show _ = [_, _, En.rp (dV K ((List.range n).map (KW.play (KW.wC m) (fun _ => 1) (u.take k ++ [b])))), _]
      rw [KW.play_snoc] <;> rfl
  · subst e
    exact bret (gr 2 rfl) (by simp)
def F_law_is_low (K : PySem.W.Frag) : Option Addr → List En → En → Prop := fun _ ins o => ∃ x : G, bG x ∧ ins = [.rp (dP K x)] ∧ o = .rp (TBl (KW.isLow x))
theorem ok_law_is_low (F : FnT K "_law_is_low" s__law_is_low f fd) : FnOk P w K mg base CX0 1 f fd ["_law_pair"] (PM (F_law_is_low K)) := by
  refine pm_ok F sc__law_is_low (fun _ _ _ ⟨x, _, e, _⟩ => by rw [e] <;> rfl) fun cdv A outer s Ex B ins o hF hr => ?_
  obtain ⟨x, ⟨b1, b2, b3, b4⟩, rfl, rfl⟩ := hF
  refine ⟨[.rp (dP K x), .no], rfl, ?_⟩
  refine bset 1 sc__law_is_low.nd (gadd (gmul gint (gixT (gr 0 rfl) gint rfl) (m2 (by omega))) (gixT (gr 0 rfl) gint rfl)) ?_
  refine bifR (gct (cge (gmul (gr 1 rfl) (gr 1 rfl) (.inl ⟨by omega, by omega⟩)) (gmul (gmul gint (gixT (gr 0 rfl) gint rfl) (m2 (by omega))) (gixT (gr 0 rfl) gint rfl) (.inr ⟨by omega, by omega⟩)))) (fun h => bret (gcm (clt (gr 1 rfl) gint)) ?_) fun h => bret (gcm (clt (gixT (gr 0 rfl) gint rfl) gint)) ?_
  · unfold KW.isLow
    rw [if_pos (show (2 * x.a + x.b) * (2 * x.a + x.b) ≥ 5 * x.b * x.b from dt h)]
  · unfold KW.isLow
    rw [if_neg (show ¬ (2 * x.a + x.b) * (2 * x.a + x.b) ≥ 5 * x.b * x.b from df h)]
def lowsB (K : PySem.W.Frag) (l : Wd) : Mu := LS (l.map fun (n : Nat) => TI n)
def F_law_low (K : PySem.W.Frag) : Option Addr → List En → En → Prop := fun _ ins o => ∃ (n : Nat) (I : Nat → G), n ≤ 6 ∧ (∀ t, bG (I t)) ∧ ins = [.rp (dV K ((List.range n).map I))] ∧ o = .mu (LS (((List.range n).filter fun b => KW.isLow (I b)).map fun (n : Nat) => TI n))
theorem ok_law_low (T : Tx K mg) (c1 : C8.Cal P w K mg base 1 "_law_is_low" (PM (F_law_is_low K)) []) (F : FnT K "_law_low" s__law_low f fd) : FnOk P w K mg base CX0 2 f fd ["_law_state_here"] (PM (F_law_low K)) := by
  refine pm_ok F sc__law_low (fun _ _ _ ⟨_, _, _, _, e, _⟩ => by rw [e] <;> rfl) fun cdv A0 outer s Ex B ins o hF hr => ?_
  obtain ⟨n, I, hn, hI, rfl, rfl⟩ := hF
  refine ⟨[.rp (dV K ((List.range n).map I)), .no, .no], rfl, ?_⟩
  exact bret (glc [("_law_button", 1), ("_law_pair", 2)] (items := List.range n) (y := fun t => En.rp (TUP K [TI (t : Nat), dP K (I t)])) (bb := fun t => KW.isLow (I t)) (r := fun t => TI (t : Nat)) rfl sc__law_low.nd (giceq (gic (gi_enumT T.enumerate (gr 0 rfl))) (by rw [dV_rg]; exact enum_rg _)) (blkOk_by (N := N__law_low) (sc := defScope s__law_low) (by decide +kernel))
    (fun x _ _ _ _ _ _ => tg2 rfl (tgn 1 sc__law_low.nd) (tgn 2 sc__law_low.nd)) (fun _ _ k hk => hk)
    (fun t ht _ _ _ _ _ => pts1 (gval (gcl c1 hr (acons (gr 2 rfl) anil) ⟨_, hI t, rfl, rfl⟩))) (fun t _ _ _ _ _ _ _ => gr 1 rfl) (by simp; omega)) rfl
theorem gst_bG {m : Nat → Nat → Nat} {u : Wd} (h : u.length ≤ 24) : ∀ t, bG (gst m u t) := fun t => KW.game_bd h t
def F_law_fronts (K : PySem.W.Frag) : Option Addr → List En → En → Prop := fun _ ins o => ∃ (n : Nat) (m : Nat → Nat → Nat) (u : Wd), KW.Ties m ∧ n ≤ 6 ∧ KW.okw n u ∧ u.length ≤ 24 ∧ ins = [.al (ROWS (tbl n m)), .rp (dW K u)] ∧ o = .mu (LS ((KW.lowB m n u.reverse).map fun (n : Nat) => TI n))
theorem ok_law_fronts (T : Tx K mg) (c1 : C8.Cal P w K mg base 2 "_law_low" (PM (F_law_low K)) []) (c2 : C8.Cal P w K mg base 3 "_law_state" (PM (F_law_state K)) []) (F : FnT K "_law_fronts" s__law_fronts f fd) : FnOk P w K mg base CX0 4 f fd ["_law_rows", "_law_letters_here"] (PM (F_law_fronts K)) := by
  refine pm_ok F sc__law_fronts (fun _ _ _ ⟨_, _, _, _, _, _, _, e, _⟩ => by rw [e] <;> rfl) fun cdv A0 outer s Ex B ins o hF hr => ?_
  obtain ⟨n, m, u, hm, hn, hu, hl, rfl, rfl⟩ := hF
  refine ⟨[.rm (ROWS (tbl n m)), .rp (dW K u)], rfl, ?_⟩
  refine bret (gcl c1 hr (acons (gcl c2 hr (acons (gm 0 rfl) (acons (geq (grevT (gr 1 rfl)) (o1 := .rp (dW K u.reverse)) (by rw [dW, List.map_reverse] <;> rfl)) anil)) ⟨n, m, u.reverse, hm, hn, fun x hx => hu x (List.mem_reverse.mp hx), rfl, rfl⟩) anil) ⟨n, gst m u.reverse, hn, gst_bG (by rw [List.length_reverse]; exact hl), rfl, rfl⟩) rfl
end
end KP
end
section
set_option maxRecDepth 100000
set_option maxHeartbeats 4000000
namespace KG
open PySem PySem.Spec PyProof.Rows L2
section
variable {X : Cx} {B : Bs} {E : List En} {a e tg : Expr} {pos p p2 : Pos} {o : En} {R : Rp} {M : Mu} {Rs : List Rp} {x : Str}
theorem grm (k : Nat) (he : E[k]? = some (.rm M)) (hN : X.N[k]? = some x := by rfl) (hv : Vis X.env.scope x := by first | exact Or.inl rfl | exact Or.inr (Or.inl rfl) | exact Or.inr (Or.inr rfl)) (hd : (x == ("__debug__" : Str)) = false := by decide)
    (hcd : (x == ("__classdict__" : Str)) = false := by decide) : GE X B E (.Name x pos) (.rm M) := peI (pe_var hN hv hd hcd) fun σ H Q ⟨s, q⟩ => by
  obtain ⟨v, fp, h1, h2⟩ := s.get he rfl
  exact ⟨v, h1, q v H Rel.refl h2⟩
/-- enumerate(a list that was there) -/
theorem gi_enumL {elts : List Expr} {kk : Nat} {tpos : Pos} (hm : X.mg "enumerate" = none) (h : GE X B E e (.rm (LS Rs))) (hg : Gl X "enumerate" := by rfl) (hs : starEach [e] X.env = (false, eval e X.env) :: starEach [] X.env := by rfl) :
    GI X B E (.Tuple elts kk tpos) (.Call (.Name "enumerate" p) [e] [] pos) (enumE X.K Rs) :=
  piI (pi_enum hg hm (acons h anil hs) hs) fun σ H R ⟨s, q⟩ => ⟨s, fun vs H1 r ov => by
    obtain ⟨v, rfl, fp, ⟨a, xs, e1, rfl, h1, h2⟩, hw⟩ := outs1 ov
    have there : ∀ H', Rel B.w B.H0 H' → H' a = some (.lst xs) := fun H' r' => r'.k a _ h1 (.inl (hw a (by rw [e1]; exact List.mem_cons_self)))
    have r1 := s.rel.trans r
    refine ⟨a, xs, rfl, .of (there H1 r1), q (Ite X.K a) H1 (fun H => SqL X.K H a xs ∧ Alls Rs xs H) r ⟨.of (there H1 r1), h2.mono r1.kp⟩ (fun H2 H3 g k r3 => ⟨.of (there H3 r3), g.2.mono k⟩) (walk_cast (walk_enum.mono (fun H g => g.1) fun i Ha x Hb hi g y => ?_) (by rw [enumE_len, Paired.length h2]))⟩
    obtain ⟨T, x1, x2, e1, n, e2, e3, e4⟩ := y
    cases e3
    subst e1 e2
    have hl := Paired.length g.2
    have hi' : i < Rs.length := by omega
    obtain ⟨x', hx, hR⟩ := prd_get g.2 (List.getElem?_eq_getElem hi')
    have e5 : xs[i]? = some x2 := e4
    rw [e5] at hx
    cases hx
    exact ⟨Rel.new n, _, enumE_get (List.getElem?_eq_getElem hi'), pair_val n rfl hR⟩⟩
/-- list(range(n)) -/
theorem glrg {n : Nat} {pr posr : Pos} (hc : X.calm = true) (hml : X.mg "list" = none) (hmr : X.mg "range" = none) (ha : GE X B E a (.rp (TI (n : Int)))) (hn : n ≤ 1000) (hg : Gl X "list" := by rfl) (hgr : Gl X "range" := by rfl)
    (na : starEach [a] X.env = (false, eval a X.env) :: starEach [] X.env := by rfl) (nb : starEach [.Call (.Name "range" pr) [a] [] posr] X.env = (false, eval (.Call (.Name "range" pr) [a] [] posr) X.env) :: starEach [] X.env := by rfl) :
    GE X B E (.Call (.Name "list" p) [.Call (.Name "range" pr) [a] [] posr] [] pos) (.mu (LS ((List.range n).map fun (k : Nat) => TI k))) :=
  peI (pe_listRg hc hg hml (prg_1 hgr hmr ha na) nb) fun σ H Q ⟨s, q⟩ => ⟨s, fun v H1 r ov => ⟨n, ov, RgOk.of_le (by omega) (by omega) (by omega) (by omega), fun t ht => q _ _ (r.trans (Rel.new ht)) ⟨[t], ⟨t, _, rfl, rfl, upd_same, by
      have e : rgV 0 (n : Int) = ((List.range n).map fun (k : Nat) => (k : Int)).map V.int := by
        unfold rgV
        rw [show ((n : Int) - 0).toNat = n by omega, List.map_map]
        exact List.map_congr_left fun i _ => by show V.int (0 + (i : Int)) = V.int i; rw [Int.zero_add]
      rw [e]
      have := ints_alls (H := upd H1 t (.lst (((List.range n).map fun (k : Nat) => (k : Int)).map V.int))) ((List.range n).map fun (k : Nat) => (k : Int))
      rw [List.map_map] at this
      exact this⟩, fun b hb => by rw [List.mem_singleton.mp hb]; exact r.free (Bs.wl1 s.rel) ht⟩⟩⟩
end
end KG
namespace KP
open PySem PySem.Spec PyProof.Rows L2 KG KJ
open KW (G Wd)
section
variable {P : Program} {w : World} {K : PySem.W.Frag} {mg : Str → Option Value} {base : Heap} {f : Addr} {fd : FuncData}
theorem sqiLw {l : Wd} : SqI K (.al (LS (l.map fun (n : Nat) => TI n))) (l.map fun (n : Nat) => (n : Int)) := by
  have := sqiL (K := K) (l.map fun (n : Nat) => (n : Int))
  rw [List.map_map] at this
  exact this
def bhd (m : Nat → Nat → Nat) (n : Nat) (ws : List Wd) : Nat → Wd
  | 0 => List.range n
  | k + 1 => KW.lowB m n ((ws[k]?).getD [])
def F_law_is_row (K : PySem.W.Frag) : Option Addr → List En → En → Prop := fun _ ins o => ∃ (n : Nat) (m : Nat → Nat → Nat) (ws : List Wd), KW.Ties m ∧ n ≤ 6 ∧ (∀ u ∈ ws, KW.okw n u ∧ u.length ≤ 24) ∧ ws.length ≤ 900 ∧ ins = [.al (ROWS (tbl n m)), .al (LS (ws.map (dW K)))] ∧ o = .rp (TBl (KW.isRow m n ws))
theorem ok_law_is_row (T : Tx K mg) (c1 : C8.Cal P w K mg base 2 "_law_low" (PM (F_law_low K)) []) (c2 : C8.Cal P w K mg base 3 "_law_state" (PM (F_law_state K)) []) (c3 : C8.Cal P w K mg base 4 "_law_fronts" (PM (F_law_fronts K)) []) (F : FnT K "_law_is_row" s__law_is_row f fd) : FnOk P w K mg base CX0 5 f fd ["_law_rows", "_law_some"] (PM (F_law_is_row K)) := by
  refine pm_ok F sc__law_is_row (fun _ _ _ ⟨_, _, _, _, _, _, _, e, _⟩ => by rw [e] <;> rfl) fun cdv A0 outer s0 Ex B ins o hF hr => ?_
  obtain ⟨n, m, ws, hm, hn, hw, hl, rfl, rfl⟩ := hF
  refine ⟨[.rm (ROWS (tbl n m)), .rm (LS (ws.map (dW K))), .no, .no, .no, .no], rfl, ?_⟩
  refine bfor (ys := enumE K (ws.map (dW K))) [2, 3] (fun k E' => KW.rowOk m n (bhd m n ws k) (ws.drop k) = KW.isRow m n ws ∧ ∃ o2 o3 o4 o5, E' = [.rm (ROWS (tbl n m)), .rm (LS (ws.map (dW K))), o2, o3, o4, o5]) rfl PassesOwn.never (gi_enumL T.enumerate (grm 1 rfl)) ⟨rfl, .no, .no, .no, .no, rfl⟩ (fun k y E' hy ⟨hk, o2, o3, o4, o5, e⟩ => ?_) fun E' ⟨hk, o2, o3, o4, o5, e⟩ => ?_
  · subst e
    cases hx : ws[k]? with
    | none =>
      rw [List.getElem?_eq_none (by rw [enumE_len, List.length_map]; exact List.getElem?_eq_none_iff.mp hx)] at hy
      cases hy
    | some u =>
      rw [enumE_get (R := dW K u) (by rw [List.getElem?_map, hx] <;> rfl)] at hy
      cases hy
      obtain ⟨hkl, hku⟩ := List.getElem?_eq_some_iff.mp hx
      have hd : ws.drop k = u :: ws.drop (k + 1) := by rw [List.drop_eq_getElem_cons hkl, hku]
      obtain ⟨hu, hu2⟩ := hw u (List.mem_of_getElem? hx)
      rw [hd] at hk
      have hk' : (if u = [] then false else if (KW.lowB m n u.reverse).filter (fun b => !(bhd m n ws k).contains b) ≠ [] then false else KW.rowOk m n (KW.lowB m n u) (ws.drop (k + 1))) = KW.isRow m n ws := hk
      refine ⟨_, tg2 rfl (tgn 2 sc__law_is_row.nd) (tgn 3 sc__law_is_row.nd), ?_⟩
      refine bifR (gct (ceqD hr.units (gr 3 rfl) (gtup anil) (dto (dp_dW _)) (dto (dp_dW [])) (shp_ok (shp_pW _) (by decide)) (shp_ok (shp_pW []) (by decide)))) (fun h => bret gbl ?_) fun h => ?_
      · rw [eqv_pW] at h
        rw [← hk', if_pos (dt h)]
      · rw [eqv_pW] at h
        rw [if_neg (df h)] at hk'
        have hbl : (bhd m n ws k).length ≤ 1000 := by
          cases k with
          | zero => simp [bhd]; omega
          | succ k =>
            have := List.length_filter_le (fun b => KW.isLow (KW.play (KW.wC m) (fun _ => 1) ((ws[k]?).getD []) b)) (List.range n)
            unfold bhd KW.lowB
            simp at this ⊢
            omega
        refine bset 4 sc__law_is_row.nd (gif (o := .mu (LS ((bhd m n ws k).map fun (n : Nat) => TI n))) (gct (cgt (gr 2 rfl) gint)) (fun h2 => ?_) fun h2 => ?_) ?_
        · have h2 := dt h2
          cases k with
          | zero => exact absurd h2 (by decide)
          | succ k =>
            have hk3 : k < ws.length := by omega
            obtain ⟨hv, hv2⟩ := hw ws[k] (List.getElem_mem hk3)
            refine geq (gcl c1 hr (acons (gcl c2 hr (acons (gm 0 rfl) (acons (gixL (R := dW K ws[k]) (gm 1 rfl) (gsub (gr 2 rfl) gint) (by
              rw [show ((k + 1 : Nat) : Int) - 1 = (k : Int) by omega]
              exact atI_nat (by rw [List.getElem?_map, List.getElem?_eq_getElem hk3] <;> rfl))) anil)) ⟨n, m, ws[k], hm, hn, hv, rfl, rfl⟩) anil) ⟨n, gst m ws[k], hn, gst_bG hv2, rfl, rfl⟩) ?_
            show _ = En.mu (LS ((KW.lowB m n ((ws[k]?).getD [])).map fun (n : Nat) => TI n))
            rw [List.getElem?_eq_getElem hk3] <;> rfl
        · have h2 := df h2
          cases k with
          | zero => exact glrg rfl T.list T.range (glen T.len (gm 0 rfl) szRR) (by omega)
          | succ k => exact absurd (show (0 : Int) < ((k + 1 : Nat) : Int) by omega) h2
        · refine bifR (gct (cneD hr.units (gal (glc [("_law_button", 5)] (items := KW.lowB m n u.reverse) (y := fun (b : Nat) => En.rp (TI b)) (bb := fun b => !(bhd m n ws k).contains b) (r := fun (b : Nat) => TI b) rfl sc__law_is_row.nd (giceq (gic_list (gal (gcl c3 hr (acons (gm 0 rfl) (acons (gr 3 rfl) anil)) ⟨n, m, u, hm, hn, hu, hu2, rfl, rfl⟩))) (by rw [List.map_map] <;> rfl)) (blkOk_by (N := N__law_is_row) (sc := defScope s__law_is_row) (by decide +kernel))
            (fun x _ _ _ _ _ _ => tgn 5 sc__law_is_row.nd) (fun _ _ i hi => hi) (fun b _ _ _ _ _ _ => pts1 (GT.to (gct (cnin (gr 5 rfl) (gM 4 rfl) (sqiLw (K := K)))) in_cast)) (fun b _ _ _ _ _ _ _ => gr 5 rfl) (by
              have := List.length_filter_le (fun b => KW.isLow (KW.play (KW.wC m) (fun _ => 1) u.reverse b)) (List.range n)
              unfold KW.lowB
              simp at this ⊢
              omega))) (glst anil) dtoLw dtoL (shp_ok (shp_li _) (by decide)) (shp_ok (shp_lst (n := 0) fun d hd => by cases hd) (by decide)))) (fun h => bret gbl ?_) fun h => ?_
          · rw [eqvL_nil] at h
            have hne : (KW.lowB m n u.reverse).filter (fun b => !(bhd m n ws k).contains b) ≠ [] := fun z => by
              rw [z] at h
              cases h
            rw [← hk', if_pos hne]
          · rw [eqvL_nil] at h
            have hne : ¬ (KW.lowB m n u.reverse).filter (fun b => !(bhd m n ws k).contains b) ≠ [] := fun z => by
              cases q : (KW.lowB m n u.reverse).filter (fun b => !(bhd m n ws k).contains b) with
              | nil => exact z q
              | cons b l =>
                rw [q] at h
                cases h
            rw [if_neg hne] at hk'
            refine bnil ⟨?_, _, _, _, _, rfl⟩
            rw [← hk']
            show KW.rowOk m n (KW.lowB m n ((ws[k]?).getD [])) _ = _
            rw [hx] <;> rfl
  · subst e
    refine bret gbl ?_
    rw [enumE_len, List.length_map, List.drop_length] at hk
    rw [← hk] <;> rfl
end
end KP
end
section
set_option maxRecDepth 100000
set_option maxHeartbeats 4000000
namespace KG
open PySem PySem.Spec PyProof.Rows L2
section
variable {X : Cx} {B : Bs} {E : List En} {a b : Expr} {Rs : List Rp} {j : Nat}
/-- a tuple of anything == () -/
theorem ceq0 (hr : Room j X.A) (ha : GE X B E a (.rp (TUP X.K Rs))) (hb : GE X B E b (.rp (TUP X.K []))) : CM X B E .Eq a b (decide (Rs.length = 0)) :=
  ⟨_, _, _, KX.op_eq0 hr, ha, hb, two fun H x y H2 Q _ _ ⟨p, xs, ex, h1, h2⟩ ⟨q', ys, ey, h3, h4⟩ q => by
    cases h4
    exact ⟨p, q', xs, ex, ey, h1, h3, by rw [← Paired.length h2]; exact q _ H2 Rel.refl rfl⟩⟩
end
end KG
namespace KP
open PySem PySem.Spec PyProof.Rows L2 KG KJ
open KW (G Wd)
section
variable {P : Program} {w : World} {K : PySem.W.Frag} {mg : Str → Option Value} {base : Heap} {f : Addr} {fd : FuncData}
theorem put_snoc {m : Nat → Nat → Nat} {n : Nat} {cs : List Wd} {c : Wd} : KW.put m (KW.wA m) n (cs ++ [c]) = KW.firstW m n (KW.put m (KW.wA m) n cs ++ KW.firstW m n (KW.wordBy (KW.wA m) n c)) := by
  unfold KW.put
  rw [List.foldl_append] <;> rfl
theorem put_len {m : Nat → Nat → Nat} (hm : KW.Ties m) {n : Nat} (cs : List Wd) (h : ∀ c ∈ cs, KW.okw n c) : ∀ k, k ≤ cs.length → (KW.put m (KW.wA m) n (cs.take k)).length ≤ (cs.take k).flatten.length
  | 0, _ => Nat.le_refl 0
  | k + 1, hk => by
    have hk' : k < cs.length := by omega
    have ih := put_len hm cs h k (by omega)
    have e : cs.take (k + 1) = cs.take k ++ [cs[k]] := by rw [List.take_succ, List.getElem?_eq_getElem hk'] <;> rfl
    have hc := h cs[k] (List.getElem_mem hk')
    obtain ⟨w1, w2, w3⟩ := KW.wordBy_ok (KW.wA_cart hm) hm (n := n) hc
    have hp := (KW.put_br hm (cs.take k) (fun c hc => h c (List.mem_of_mem_take hc))).1
    have hf := KW.firstW_ok (KW.wA_cart hm) hm w3
    rw [e, put_snoc, KW.firstW_len (KW.wA_cart hm) hm (KW.okw.app hp hf), List.length_append, KW.firstW_len (KW.wA_cart hm) hm w3, w2, List.flatten_append, List.length_append]
    have := KW.W.len_mk (m := m) cs[k]
    simp only [List.flatten_cons, List.flatten_nil, List.append_nil]
    omega
theorem flat_le {cs : List Wd} {c : Wd} (h : c ∈ cs) : c.length ≤ cs.flatten.length := by
  induction cs with
  | nil => cases h
  | cons d cs ih =>
    rw [List.flatten_cons, List.length_append]
    rcases List.mem_cons.mp h with rfl | h
    · omega
    · have := ih h
      omega
theorem flat_take {cs : List Wd} (k : Nat) : (cs.take k).flatten.length ≤ cs.flatten.length := by
  have e : cs.flatten = (cs.take k).flatten ++ (cs.drop k).flatten := by rw [← List.flatten_append, List.take_append_drop]
  rw [e, List.length_append]
  omega
def F_law_put_together (K : PySem.W.Frag) : Option Addr → List En → En → Prop := fun _ ins o => ∃ (n : Nat) (m : Nat → Nat → Nat) (cs : List Wd), okT n m ∧ (∀ c ∈ cs, KW.okw n c) ∧ cs.flatten.length ≤ 29 ∧ ins = [.rp (TAB K n m), .rp (TUP K (cs.map (CHG K n m)))] ∧ o = .rp (POS K n m (KW.put m (KW.wA m) n cs))
theorem ok_law_put_together (Z : Tc K mg) (mk1 : C8.Mak P w K mg base 7 "Positive" (cP K) (PIn (cP K) (I_Positive K)) [.bl false]) {fdm : FuncData} (FM : FnOk P w K mg base CX0 10 (He.ma K (cP K) "__mul__") fdm ["self", "other"] (PM (F_Positive_mul K))) (hb : Binds K fdm ["self", "other"] [])
    (c1 : C8.Cal P w K mg base 10 "lifted" (PM (F_lifted K)) []) (F : FnT K "_law_put_together" s__law_put_together f fd) : FnOk P w K mg base CX0 11 f fd ["_law_grid_here", "_law_some"] (PM (F_law_put_together K)) := by
  refine pm_ok F sc__law_put_together (fun _ _ _ ⟨_, _, _, _, _, _, e, _⟩ => by rw [e] <;> rfl) fun cdv A0 outer s0 Ex B ins o hF hr => ?_
  obtain ⟨n, m, cs, hT, hc, hl, rfl, rfl⟩ := hF
  have hm := hT.1
  refine ⟨[.rp (TAB K n m), .rp (TUP K (cs.map (CHG K n m))), .no, .no], rfl, ?_⟩
  refine bset 2 sc__law_put_together.nd (gmake mk1 hr (acons (gr 0 rfl) (acons (geq (gtup anil) (o1 := .rp (dW K [])) rfl) anil)) (ds := [.rp (TBl false)]) (R := POS K n m (KW.put m (KW.wA m) n [])) ⟨n, m, [], false, ⟨hT, (fun x hx => by cases hx), by simp⟩, rfl, rfl⟩ (fun B H => ⟨rfl, trivial⟩)) ?_
  refine bfor [3] (fun k E' => ∃ o, E' = [.rp (TAB K n m), .rp (TUP K (cs.map (CHG K n m))), .rp (POS K n m (KW.put m (KW.wA m) n (cs.take k))), o]) rfl PassesOwn.never (gi_tup (gr 1 rfl)) ⟨.no, rfl⟩ (fun k y E' hy ⟨o, e⟩ => ?_) fun E' ⟨o, e⟩ => ?_
  · subst e
    rw [List.getElem?_map, List.getElem?_map] at hy
    cases hx : cs[k]? with
    | none =>
      rw [hx] at hy
      cases hy
    | some c =>
      rw [hx] at hy
      cases hy
      obtain ⟨hk, hck⟩ := List.getElem?_eq_some_iff.mp hx
      have hcm := List.mem_of_getElem? hx
      have hoc := hc c hcm
      have hcl := flat_le hcm
      have hl1 := KW.W.len_mk (m := m) c
      obtain ⟨w1, w2, w3⟩ := KW.wordBy_ok (KW.wA_cart hm) hm (n := n) hoc
      have hp := (KW.put_br hm (cs.take k) (fun c h => hc c (List.mem_of_mem_take h))).1
      have hf := KW.firstW_ok (KW.wA_cart hm) hm w3
      have et : cs.take (k + 1) = cs.take k ++ [c] := by rw [List.take_succ, hx] <;> rfl
      have hpl := put_len hm cs hc k (by omega)
      have hft := flat_take (cs := cs) (k + 1)
      rw [et, List.flatten_append, List.length_append] at hft
      simp only [List.flatten_cons, List.flatten_nil, List.append_nil] at hft
      refine ⟨_, tgn 3 sc__law_put_together.nd, bset 2 sc__law_put_together.nd (gmulO FM Z.mul.1 Z.mul.2.1 Z.mul.2.2 hb hr (gr 2 rfl) (gcl c1 hr (acons (gr 3 rfl) anil) ⟨n, m, c, ⟨hT, hoc, by omega⟩, rfl, rfl⟩) pos_ins pos_ins ⟨n, m, _, _, ⟨hT, KW.okw.app hp hf, by
        rw [List.length_append, KW.firstW_len (KW.wA_cart hm) hm w3, w2]
        omega⟩, rfl, rfl⟩) (bnil ⟨.rp (CHG K n m c), ?_⟩)⟩
      rw [et, put_snoc]
  · subst e
    exact bret (gr 2 rfl) (by simp)
end
end KP
end
section
set_option maxRecDepth 100000
set_option maxHeartbeats 4000000
namespace KP
open PySem PySem.Spec PyProof.Rows L2 KG KJ
open KW (G Wd)
section
variable {P : Program} {w : World} {K : PySem.W.Frag} {mg : Str → Option Value} {base : Heap} {f : Addr} {fd : FuncData}
/-- what makes two changes equal -/
def eqC (K : PySem.W.Frag) : Addr → Addr → Hp → Prop := fun a b H => ∃ n m c d, KW.imgs (KW.wA m) n c = KW.imgs (KW.wA m) n d ∧ (CHG K n m c).p (.ref a) H ∧ (CHG K n m d).p (.ref b) H
theorem eqC_ok (F : FnOk P w K mg base CX0 3 f fd ["self", "other"] (PM (F_Change_eq K))) : FnOk P w K mg base CX0 3 f fd ["self", "other"] (spEq (eqC K)) :=
  F.imp fun vs H Q E ⟨a, b, e, ⟨n, m, c, d, h0, h1, h2⟩, q⟩ => ⟨⟨H, none, fun _ z => nomatch z⟩, _, _, rfl, ⟨n, m, c, d, h0, rfl, rfl⟩, by rw [e]; exact ⟨h1, h2, trivial⟩, fun v H' r hv => by
    rw [show v = .bl true from hv]
    exact q H' r.toExt⟩
def eqP (K : PySem.W.Frag) : Addr → Addr → Hp → Prop := fun a b H => ∃ n m u, (POS K n m u).p (.ref a) H ∧ (POS K n m u).p (.ref b) H
theorem eqP_ok (F : FnOk P w K mg base CX0 3 f fd ["self", "other"] (PM (F_Positive_eq K))) : FnOk P w K mg base CX0 3 f fd ["self", "other"] (spEq (eqP K)) :=
  F.imp fun vs H Q E ⟨a, b, e, ⟨n, m, u, h1, h2⟩, q⟩ => ⟨⟨H, none, fun _ z => nomatch z⟩, _, _, rfl, ⟨n, m, u, rfl, rfl⟩, by rw [e]; exact ⟨h1, h2, trivial⟩, fun v H' r hv => by
    rw [show v = .bl true from hv]
    exact q H' r.toExt⟩
theorem kp_ext {H H' : Hp} (e : Ext H H') : Kp H H' := fun a o h _ => e a o h
theorem monC : Mon (DIns (cC K) (eqC K)) := mon_ins fun a b H H' e ⟨n, m, c, d, h0, h1, h2⟩ => ⟨n, m, c, d, h0, Rp.mono _ (kp_ext e) h1, Rp.mono _ (kp_ext e) h2⟩
theorem dchg {n : Nat} {m : Nat → Nat → Nat} {c d : Wd} (h0 : KW.imgs (KW.wA m) n c = KW.imgs (KW.wA m) n d) {H2 : Hp} {v u : V} (h1 : (CHG K n m c).p v H2) (h2 : (CHG K n m d).p u H2) : DIns (cC K) (eqC K) v u H2 := by
  obtain ⟨a, dx, fs, rfl, i1⟩ := chg_ins v H2 h1
  obtain ⟨b, dy, gs, rfl, i2⟩ := chg_ins u H2 h2
  exact ⟨a, b, dx, dy, fs, gs, rfl, rfl, i1, i2, n, m, c, d, h0, h1, h2⟩
theorem dpos {n : Nat} {m : Nat → Nat → Nat} {c : Wd} {H2 : Hp} {v u : V} (h1 : (POS K n m c).p v H2) (h2 : (POS K n m c).p u H2) : DIns (cP K) (eqP K) v u H2 := by
  obtain ⟨a, dx, fs, rfl, i1⟩ := pos_ins v H2 h1
  obtain ⟨b, dy, gs, rfl, i2⟩ := pos_ins u H2 h2
  exact ⟨a, b, dx, dy, fs, gs, rfl, rfl, i1, i2, n, m, c, h1, h2⟩
theorem prs_chg {n : Nat} {m : Nat → Nat → Nat} {H2 : Hp} : ∀ {cs ds : List Wd} {xs ys : List V}, cs.map (KW.imgs (KW.wA m) n) = ds.map (KW.imgs (KW.wA m) n) → Alls (cs.map (CHG K n m)) xs H2 → Alls (ds.map (CHG K n m)) ys H2 → Prs (DIns (cC K) (eqC K)) xs ys H2
  | [], [], _, _, _, h1, h2 => by
    cases h1
    cases h2
    exact .nil
  | [], _ :: _, _, _, e, _, _ => by cases e
  | _ :: _, [], _, _, e, _, _ => by cases e
  | c :: cs, d :: ds, _, _, e, h1, h2 => by
    cases h1 with
    | cons q1 t1 =>
      cases h2 with
      | cons q2 t2 =>
        simp only [List.map_cons, List.cons.injEq] at e
        exact .cons (dchg e.1 q1 q2) (prs_chg e.2 t1 t2)
theorem dchgs {n : Nat} {m : Nat → Nat → Nat} {cs ds : List Wd} (e : cs.map (KW.imgs (KW.wA m) n) = ds.map (KW.imgs (KW.wA m) n)) {H2 : Hp} {v u : V} (h1 : (TUP K (cs.map (CHG K n m))).p v H2) (h2 : (TUP K (ds.map (CHG K n m))).p u H2) : DTup K (DIns (cC K) (eqC K)) v u H2 := by
  obtain ⟨a, xs, rfl, s1, a1⟩ := h1
  obtain ⟨b, ys, rfl, s2, a2⟩ := h2
  exact ⟨a, b, xs, ys, rfl, rfl, s1, s2, prs_chg e a1 a2⟩
section
variable {X : Cx} {B : Bs} {E : List En} {a b : Expr} {j n : Nat} {m : Nat → Nat → Nat} {c d : Wd} {cs ds : List Wd} {fdc : FuncData}
/-- two changes, two tuples of changes, with ==: told true by the games -/
theorem ceqC (Z : Tc X.K X.mg) (FC : FnOk X.prog X.w X.K X.mg X.base CX0 3 (He.ma X.K (cC X.K) "__eq__") fdc ["self", "other"] (PM (F_Change_eq X.K))) (hb : Binds X.K fdc ["self", "other"] []) (hr : Room j X.A) (hj : 3 ≤ j) {Ex : XK} (hx : Passes CX0 X Ex)
    (h0 : KW.imgs (KW.wA m) n c = KW.imgs (KW.wA m) n d) (ha : GE X B E a (.rp (CHG X.K n m c))) (hb2 : GE X B E b (.rp (CHG X.K n m d))) : CM X B E .Eq a b true :=
  ceqG (rcG_ins (C := cC X.K) (eqC_ok FC) Z.c.eq Z.c.eqf hb hx) hr hj ha hb2 fun H H2 v u h1 h2 => dchg h0 h1 h2
theorem ceqCs (Z : Tc X.K X.mg) (FC : FnOk X.prog X.w X.K X.mg X.base CX0 3 (He.ma X.K (cC X.K) "__eq__") fdc ["self", "other"] (PM (F_Change_eq X.K))) (hb : Binds X.K fdc ["self", "other"] []) (hr : Room j X.A) (hj : 4 + 1 ≤ j) {Ex : XK} (hx : Passes CX0 X Ex)
    (h0 : cs.map (KW.imgs (KW.wA m) n) = ds.map (KW.imgs (KW.wA m) n)) (ha : GE X B E a (.rp (TUP X.K (cs.map (CHG X.K n m))))) (hb2 : GE X B E b (.rp (TUP X.K (ds.map (CHG X.K n m))))) : CM X B E .Eq a b true :=
  ceqG (rcG_tup monC (eqG_ins (C := cC X.K) (eqC_ok FC) Z.c.eq Z.c.eqf hb hx)) hr (by omega) ha hb2 fun H H2 v u h1 h2 => dchgs h0 h1 h2
theorem cneCs (Z : Tc X.K X.mg) (FC : FnOk X.prog X.w X.K X.mg X.base CX0 3 (He.ma X.K (cC X.K) "__eq__") fdc ["self", "other"] (PM (F_Change_eq X.K))) (hb : Binds X.K fdc ["self", "other"] []) (hr : Room j X.A) (hj : 4 + 1 ≤ j) {Ex : XK} (hx : Passes CX0 X Ex)
    (h0 : cs.map (KW.imgs (KW.wA m) n) = ds.map (KW.imgs (KW.wA m) n)) (ha : GE X B E a (.rp (TUP X.K (cs.map (CHG X.K n m))))) (hb2 : GE X B E b (.rp (TUP X.K (ds.map (CHG X.K n m))))) : CM X B E .NotEq a b false :=
  cneT monC (eqG_ins (C := cC X.K) (eqC_ok FC) Z.c.eq Z.c.eqf hb hx) hr (by omega) ha hb2 fun H H2 v u h1 h2 => dchgs h0 h1 h2
end
def F_law_is_head_right (K : PySem.W.Frag) : Option Addr → List En → En → Prop := fun _ ins o => ∃ (n : Nat) (m : Nat → Nat → Nat) (x y : Wd), okT n m ∧ KW.okw n x ∧ KW.okw n y ∧ x.length + y.length ≤ 29 ∧ ins = [.rp (TAB K n m), .rp (POS K n m (KW.firstW m n x)), .rp (POS K n m (KW.firstW m n y))] ∧ o = .rp (TBl true)
theorem ok_law_is_head_right (Z : Tc K mg) {fdm fdc : FuncData} (FM : FnOk P w K mg base CX0 10 (He.ma K (cP K) "__mul__") fdm ["self", "other"] (PM (F_Positive_mul K))) (hbm : Binds K fdm ["self", "other"] [])
    (FC : FnOk P w K mg base CX0 3 (He.ma K (cC K) "__eq__") fdc ["self", "other"] (PM (F_Change_eq K))) (hbc : Binds K fdc ["self", "other"] [])
    (c1 : C8.Cal P w K mg base 11 "grains" (PM (F_grains K)) []) (c2 : C8.Cal P w K mg base 10 "lifted" (PM (F_lifted K)) []) (F : FnT K "_law_is_head_right" s__law_is_head_right f fd) : FnOk P w K mg base CX0 12 f fd ["_law_grid_here", "_law_x", "_law_y"] (PM (F_law_is_head_right K)) := by
  refine pm_ok F sc__law_is_head_right (fun _ _ _ ⟨_, _, _, _, _, _, _, _, e, _⟩ => by rw [e] <;> rfl) fun cdv A0 outer s0 Ex B ins o hF hr => ?_
  obtain ⟨n, m, x, y, hT, hx, hy, hl, rfl, rfl⟩ := hF
  have hm := hT.1
  have C := KW.wA_cart hm
  have fx := KW.firstW_ok C hm hx
  have fy := KW.firstW_ok C hm hy
  have lx := KW.firstW_len C hm hx
  have ly := KW.firstW_len C hm hy
  have oxy : okX n m (KW.firstW m n x ++ KW.firstW m n y) := ⟨hT, KW.okw.app fx fy, by rw [List.length_append]; omega⟩
  have oxy2 : okX n m (KW.firstW m n (KW.firstW m n x ++ KW.firstW m n y)) := ⟨hT, KW.firstW_ok C hm oxy.2.1, by rw [KW.firstW_len C hm oxy.2.1]; exact oxy.2.2⟩
  refine ⟨[.rp (TAB K n m), .rp (POS K n m (KW.firstW m n x)), .rp (POS K n m (KW.firstW m n y)), .no, .no], rfl, ?_⟩
  refine bpar 3 4 sc__law_is_head_right.nd rfl (gcl c1 hr (acons (gmulO FM Z.mul.1 Z.mul.2.1 Z.mul.2.2 hbm hr (gr 1 rfl) (gr 2 rfl) pos_ins pos_ins ⟨n, m, _, _, oxy, rfl, rfl⟩) anil) ⟨n, m, _, oxy2, rfl, rfl⟩) (gcl c1 hr (acons (gr 2 rfl) anil) ⟨n, m, _, ⟨hT, fy, by omega⟩, rfl, rfl⟩) ?_
  refine bifR (gct (ceq0 hr (gr 4 rfl) (gtup anil))) (fun h => ?_) fun h => ?_
  · have h := dt h
    rw [List.length_map] at h
    have hn := List.length_eq_zero_iff.mp h
    have hl := KW.law_head_nil hm hx hy hn
    exact bret (gcm (ceqCs Z FC hbc hr (by decide) pass0 (by rw [hl]) (gr 3 rfl) (gcl c1 hr (acons (gr 1 rfl) anil) ⟨n, m, _, ⟨hT, fx, by omega⟩, rfl, rfl⟩))) rfl
  · have h := df h
    rw [List.length_map] at h
    cases hg : KW.grains m (KW.wA m) n (KW.firstW m n y) with
    | nil => exact absurd (by rw [hg] <;> rfl) h
    | cons c cs =>
      obtain ⟨a, Q, b, R, e1, e2, e3⟩ := KW.law_head hm hx hy hg
      have hgr := KW.grains_gr C hm fy c (by rw [hg]; exact List.mem_cons_self)
      have hgl := KW.grains_len C hm fy
      have hcl := flat_le (cs := KW.grains m (KW.wA m) n (KW.firstW m n y)) (c := c) (by rw [hg]; exact List.mem_cons_self)
      obtain ⟨w1, w2, w3⟩ := KW.wordBy_ok C hm (n := n) hgr.1
      have fw := KW.firstW_ok C hm w3
      have lw := KW.firstW_len C hm w3
      have hl1 := KW.W.len_mk (m := m) c
      have oxc : okX n m (KW.firstW m n x ++ KW.firstW m n (KW.wordBy (KW.wA m) n c)) := ⟨hT, KW.okw.app fx fw, by rw [List.length_append]; omega⟩
      have oxc2 : okX n m (KW.firstW m n (KW.firstW m n x ++ KW.firstW m n (KW.wordBy (KW.wA m) n c))) := ⟨hT, KW.firstW_ok C hm oxc.2.1, by rw [KW.firstW_len C hm oxc.2.1]; exact oxc.2.2⟩
      rw [e1]
      refine bret (gcm (ceqC Z FC hbc hr (by decide) pass0 e3 (gixT (gr 3 rfl) gint (atI_nat (j := 0) rfl)) (gixT (R := CHG K n m b) (geq (gcl c1 hr (acons (gmulO FM Z.mul.1 Z.mul.2.1 Z.mul.2.2 hbm hr (gr 1 rfl) (gcl c2 hr (acons (gixT (R := CHG K n m c) (gr 4 rfl) gint (atI_nat (j := 0) rfl)) anil) ⟨n, m, c, ⟨hT, hgr.1, by omega⟩, rfl, rfl⟩) pos_ins pos_ins ⟨n, m, _, _, oxc, rfl, rfl⟩) anil) ⟨n, m, _, oxc2, rfl, rfl⟩) (o1 := .rp (TUP K ((b :: R).map (CHG K n m)))) (by rw [e2])) gint (atI_nat (j := 0) rfl)))) rfl
end
end KP
end
section
set_option maxRecDepth 100000
set_option maxHeartbeats 4000000
namespace KP
open PySem PySem.Spec PyProof.Rows L2 KG KJ
open KW (G Wd)
section
variable {P : Program} {w : World} {K : PySem.W.Frag} {mg : Str → Option Value} {base : Heap} {f : Addr} {fd : FuncData}
def F_law_dip : Option Addr → List En → En → Prop := fun _ ins o => ∃ top : Int, 0 < top ∧ top ≤ 1000 ∧ ins = [.wl, .rp (TI top)] ∧ o = .rp (INTS (Lt0 top))
theorem ok_law_dip (T : Tx K mg) (F : FnT K "_law_dip" s__law_dip f fd) : FnOk P w K mg base CX0 1 f fd ["_law_well_here", "_law_top"] (PM F_law_dip) := by
  refine pm_ok F sc__law_dip (fun _ _ _ ⟨_, _, _, e, _⟩ => by rw [e] <;> rfl) fun cdv A0 outer s0 Ex B ins o hF hr => ?_
  obtain ⟨top, h0, h1, rfl, rfl⟩ := hF
  refine ⟨[.wl, .rp (TI top), .no, .no], rfl, ?_⟩
  refine bifX (N1 := fun E' => E' = [.wl, .rp (TI top), .no, .no]) (gctX op_gt (gwix (gwl 0 rfl) gint (by decide)) (gTP (P := AnyI) gint trivial)) ?_ (bnil rfl) fun E' e => ?_
  · refine bwpair 2 sc__law_dip.nd rfl (gdivm T.divmod (gwix (gwl 0 rfl) gint (by decide)) (gr 1 rfl) ⟨h0, by omega⟩) (gwl 0 rfl) gint (by decide) (bret (gr 2 rfl) rfl)
  · subst e
    refine bwset (gwl 0 rfl) gint (gaddP (gwix (gwl 0 rfl) gint (by decide)) (gTP (P := AnyI) gint trivial)) (by decide) ?_
    refine bset 3 sc__law_dip.nd (gmodP (gint1P T.int (gaddP (gwix (gwl 0 rfl) gint (by decide)) (gmulP (gTP (P := fun z => z = 40487) gint rfl) (gwix (gwl 0 rfl) gint (by decide)) fun x y (hx : x = 40487) _ => by rw [hx]; exact m2 (by omega)))) gint (by decide)) ?_
    refine bwset (gwl 0 rfl) gint (gmodP (gint1P T.int (gaddP (gmulP (P := Lt0 2147483563) (gr 3 rfl) (gaddP (gmodP (gint1P T.int (gr 3 rfl)) gint (by decide)) (gTP (P := AnyI) gint trivial)) fun x y hx _ => .inl ⟨by have := hx.1; omega, by have := hx.2; omega⟩) (gmulP (gTP (P := fun z => z = 23) gint rfl) (gwix (gwl 0 rfl) gint (by decide)) fun x y (hx : x = 23) _ => by rw [hx]; exact m2 (by omega)))) gint (by decide)) (by decide) ?_
    exact bret (gmodP (gint1P T.int (gfdivP (gwix (gwl 0 rfl) gint (by decide)) gint (by decide))) (gr 1 rfl) h0) rfl
end
end KP
end
section
set_option maxRecDepth 100000
set_option maxHeartbeats 4000000
namespace KG
open PySem PySem.Spec PyProof.Rows L2
/-- one of these -/
def ONE (Rs : List Rp) : Rp := ⟨fun v H => ∃ R ∈ Rs, R.p v H, fun k ⟨R, hR, h⟩ => ⟨R, hR, R.mono k h⟩⟩
section
variable {X : Cx} {B : Bs} {E : List En} {a b c e : Expr} {es rest2 : List Expr} {ss rest : List Stmt} {pos p : Pos} {P Q : Int → Prop} {N : List En → Prop} {Rt : En → Prop} {Rs : List Rp} {d1 : Bool}
theorem bopenI {E1 : Int → List En} (k : Nat) (he : E[k]? = some (.rp (INTS P))) [hE : ∀ x, SetE E k (.rp (TI x)) (E1 x)] (h : ∀ x, P x → GB X B (E1 x) ss N Rt) : GB X B E ss N Rt :=
  pssI (pssF (α := Int) (Φ := P) (t := fun x => tB' B (E1 x) N Rt) fun x hx => h x hx) fun D σ H ⟨s, q1, q2⟩ => by
    obtain ⟨v, fp, hv, x, hx, ev⟩ := s.get he rfl
    have s1 := s.set (o := .rp (TI x)) (v := v) Rel.refl ev (hE x).l
    rw [set_self hv, (hE x).e] at s1
    exact ⟨x, hx, s1, q1, q2⟩
theorem bopenR {E1 : Rp → List En} (k : Nat) (he : E[k]? = some (.rp (ONE Rs))) [hE : ∀ x, SetE E k (.rp x) (E1 x)] (h : ∀ R ∈ Rs, GB X B (E1 R) ss N Rt) : GB X B E ss N Rt :=
  pssI (pssF (α := Rp) (Φ := fun R => R ∈ Rs) (t := fun x => tB' B (E1 x) N Rt) fun x hx => h x hx) fun D σ H ⟨s, q1, q2⟩ => by
    obtain ⟨v, fp, hv, R, hR, ev⟩ := s.get he rfl
    have s1 := s.set (o := .rp R) (v := v) Rel.refl ev (hE R).l
    rw [set_self hv, (hE R).e] at s1
    exact ⟨R, hR, s1, q1, q2⟩
theorem gw1X (h : GTX X B E a) : GWX X B E (.BoolOp .And [a] pos) := pw_and1 h
theorem gwandX (h : GT X B E a d1) (h2 : d1 = true → GWX X B E (.BoolOp .And (b :: rest2) pos)) : GWX X B E (.BoolOp .And (a :: b :: rest2) pos) :=
  pwI (pw_and h (pwP h2)) fun σ H Q ⟨s, q⟩ => ⟨s, fun H2 r => by
    cases d1 with
    | true => exact ⟨rfl, s.mono r, fun b' H3 r3 => q b' H3 (r.trans r3)⟩
    | false => exact q false H2 r⟩
theorem gtwX (h : GWX X B E e) : GTX X B E e := h.pt
/-- xs[i], at a place that is not known -/
theorem gixO (ha : GE X B E a (.al (LS Rs))) (hb : GE X B E b (.rp (INTS (Lt0 (Rs.length : Int))))) (hs : PlainIx b := by intro _ _; rfl) : GE X B E (.Subscript a b pos) (.rp (ONE Rs)) :=
  peI (pe_ix ix_list ha hb hs) (two fun H x y H2 Q _ _ ⟨fp, ⟨p, xs, e1, ep, h1, h2⟩, hw⟩ ⟨i, ⟨hi, hj⟩, oy⟩ q => by
    obtain ⟨k, rfl⟩ : ∃ k : Nat, i = (k : Int) := ⟨i.toNat, by omega⟩
    have hk : k < Rs.length := by omega
    obtain ⟨v, hv, hR⟩ := prd_atI h2 (atI_nat (List.getElem?_eq_getElem hk))
    exact ⟨p, xs, k, v, ep, oy, .of h1, hv, q v H2 Rel.refl ⟨_, List.getElem_mem hk, hR⟩⟩)
end
end KG
namespace KP
open PySem PySem.Spec PyProof.Rows L2 KG KJ
open KW (G Wd)
section
variable {P : Program} {w : World} {K : PySem.W.Frag} {mg : Str → Option Value} {base : Heap} {f : Addr} {fd : FuncData}
def F_law_pick : Option Addr → List En → En → Prop := fun _ ins o => ∃ Rs : List Rp, 0 < Rs.length ∧ Rs.length ≤ 100 ∧ ins = [.wl, .al (LS Rs)] ∧ o = .rp (ONE Rs)
theorem ok_law_pick (T : Tx K mg) (c1 : C8.Cal P w K mg base 1 "_law_dip" (PM F_law_dip) []) (F : FnT K "_law_pick" s__law_pick f fd) : FnOk P w K mg base CX0 2 f fd ["_law_well_here", "_law_some"] (PM F_law_pick) := by
  refine pm_ok F sc__law_pick (fun _ _ _ ⟨_, _, _, e, _⟩ => by rw [e] <;> rfl) fun cdv A0 outer s0 Ex B ins o hF hr => ?_
  obtain ⟨Rs, h0, h1, rfl, rfl⟩ := hF
  exact ⟨[.wl, .rm (LS Rs)], rfl, bret (gixO (gm 1 rfl) (gclw c1 hr (acons (gwl 0 rfl) (acons (glen T.len (gm 1 rfl) szL) anil)) ⟨Rs.length, by omega, by omega, rfl, rfl⟩)) rfl⟩
def exW (K : PySem.W.Frag) (n t : Nat) : Rp := exR fun u : {u : Wd // KW.okw n u ∧ u.length < t} => dW K u.1
def F_law_letters (K : PySem.W.Frag) : Option Addr → List En → En → Prop := fun _ ins o => ∃ (n t : Nat) (m : Nat → Nat → Nat), 1 ≤ n ∧ n ≤ 6 ∧ t ≤ 100 ∧ ins = [.wl, .al (ROWS (tbl n m)), .rp (INTS (Lt0 (t : Int)))] ∧ o = .rp (exW K n t)
theorem ok_law_letters (T : Tx K mg) (c1 : C8.Cal P w K mg base 1 "_law_dip" (PM F_law_dip) []) (F : FnT K "_law_letters" s__law_letters f fd) : FnOk P w K mg base CX0 2 f fd ["_law_well_here", "_law_rows", "_law_many"] (PM (F_law_letters K)) := by
  refine pm_ok F sc__law_letters (fun _ _ _ ⟨_, _, _, _, _, _, e, _⟩ => by rw [e] <;> rfl) fun cdv A0 outer s0 Ex B ins o hF hr => ?_
  obtain ⟨n, t, m, h1, h6, ht, rfl, rfl⟩ := hF
  refine ⟨[.wl, .rm (ROWS (tbl n m)), .rp (INTS (Lt0 (t : Int))), .no, .no, .no], rfl, ?_⟩
  refine bopenI 2 rfl fun z hz => ?_
  obtain ⟨k, rfl⟩ : ∃ k : Nat, z = (k : Int) := ⟨z.toNat, by have := hz.1; omega⟩
  have hk : k < t := by have := hz.2; omega
  refine bset 3 sc__law_letters.nd (glst anil) ?_
  refine bfor (ys := (List.range k).map fun (i : Nat) => En.rp (TI i)) [4] (fun i E' => ∃ (u : Wd) (o4 o5 : En), KW.okw n u ∧ u.length = i ∧ E' = [.wl, .rm (ROWS (tbl n m)), .rp (TI (k : Int)), .mu (LS (u.map fun (b : Nat) => TI b)), o4, o5]) rfl PassesOwn.never (gi_range T.range (gr 2 rfl) (by omega)) ⟨[], .no, .no, (fun x hx => by cases hx), rfl, rfl⟩ (fun i y E' hy ⟨u, o4, o5, hu, hl, e⟩ => ?_) fun E' ⟨u, o4, o5, hu, hl, e⟩ => ?_
  · subst e
    have hi : i < k := by
      have := (List.getElem?_eq_some_iff.mp hy).1
      simpa using this
    rw [List.getElem?_map, List.getElem?_range hi] at hy
    cases hy
    refine ⟨_, tgn 4 sc__law_letters.nd, ?_⟩
    refine bset 5 sc__law_letters.nd (gclw c1 hr (acons (gwl 0 rfl) (acons (glen T.len (gm 1 rfl) szRR) anil)) ⟨n, by omega, by omega, rfl, rfl⟩) ?_
    refine bopenI 5 rfl fun z hz => ?_
    obtain ⟨b, rfl⟩ : ∃ b : Nat, z = (b : Int) := ⟨z.toNat, by have := hz.1; omega⟩
    have hb : b < n := by have := hz.2; omega
    refine bifX (N1 := fun E' => ∃ b : Nat, b < n ∧ E' = [.wl, .rm (ROWS (tbl n m)), .rp (TI (k : Int)), .mu (LS (u.map fun (b : Nat) => TI b)), .rp (TI (i : Int)), .rp (TI (b : Int))]) (gtwX (gwandX (gct (cneD hr.units (gM 3 rfl) (glst anil) dtoLw dtoL (shp_ok (shp_li _) (by decide)) (shp_ok (shp_lst (n := 0) fun d hd => by cases hd) (by decide)))) fun h => ?_)) ?_ (bnil ⟨b, hb, rfl⟩) fun E' ⟨b2, hb2, e⟩ => ?_
    · rw [eqvL_nil] at h
      have hne : u ≠ [] := fun z => by
        rw [z] at h
        cases h
      have hlast : atI (u.map fun (b : Nat) => TI b) (-1) = some (TI (u.getLast hne : Nat)) := by
        have h0 := List.length_pos_iff.mpr hne
        have e : atI (u.map fun (b : Nat) => TI b) (-1) = (u.map fun (b : Nat) => TI b)[u.length - 1]? := by
          unfold atI
          have : ixN (u.map fun (b : Nat) => TI b).length (-1) = some (u.length - 1) := by
            rw [List.length_map]
            unfold ixN
            simp
            omega
          rw [this] <;> rfl
        rw [e, List.getElem?_map, ← List.getLast?_eq_getElem?, List.getLast?_eq_getLast hne] <;> rfl
      exact gwandX (gct (ceq (gixL (gM 3 rfl) (gneg gint) hlast) (gr 5 rfl))) fun _ => gw1X (gctX op_gt (gclw c1 hr (acons (gwl 0 rfl) (acons gint anil)) ⟨4, by decide, by decide, rfl, rfl⟩) (gTP (P := AnyI) gint trivial))
    · refine bset 5 sc__law_letters.nd (gmodP (gint1P T.int (gTP (P := AnyI) (gadd (gr 5 rfl) gint) trivial)) (glen T.len (gm 1 rfl) szRR) (by omega)) (bopenI 5 rfl fun z hz => ?_)
      obtain ⟨b2, rfl⟩ : ∃ b : Nat, z = (b : Int) := ⟨z.toNat, by have := hz.1; omega⟩
      exact bnil ⟨b2, by have := hz.2; omega, rfl⟩
    · subst e
      refine bapp 3 rfl (gr 5 rfl) (bnil ⟨u ++ [b2], _, _, KW.okw.app hu fun x hx => by rw [List.mem_singleton.mp hx]; exact hb2, by simp [hl], by rw [List.map_append] <;> rfl⟩) (by simp; omega)
  · subst e
    simp at hl
    refine bret (grp (R1 := exW K n t) (gtupOf T.tuple (gM 3 rfl)) fun v H h => ⟨⟨u, hu, by omega⟩, h⟩) rfl
end
end KP
end
section
set_option maxRecDepth 100000
set_option maxHeartbeats 4000000
namespace KG
open PySem PySem.Spec PyProof.Rows L2
section
variable {X : Cx} {B : Bs} {E : List En} {e tg : Expr}
/-- the rows of rows that were there -/
theorem gic_rows {rows : List (List Int)} (h : GE X B E e (.rm (ROWS rows))) : GIc X B E tg e (rows.map fun r => En.rm (LS (r.map TI))) :=
  piI (pi_list h) fun σ H R ⟨s, q⟩ => ⟨s, fun v H1 r ⟨fp, ⟨a, bs, e1, ev, h1, h2, nd⟩, hw⟩ => by
    have r1 := s.rel.trans r
    have there : ∀ H', Rel B.w B.H0 H' → H' a = some (.lst (bs.map V.ref)) := fun H' r' => r'.k a _ h1 (.inl (hw a (by rw [e1]; exact List.mem_cons_self)))
    refine ⟨a, ev, ⟨_, .of (there H1 r1)⟩, q (Itl X.K a) H1 (fun H => SqL X.K H a (bs.map V.ref)) r (fun H3 r3 => .of (there H3 (r1.trans r3))) (walk_cast (walk_list.mono (fun H g => g) fun i Ha x Hb hi g y => ?_) (by rw [List.length_map, List.length_map, Paired.length h2]))⟩
    obtain ⟨e2, e3⟩ := y
    subst e2
    refine ⟨Rel.refl, ?_⟩
    rw [List.length_map] at hi
    have hl := Paired.length h2
    have hi' : i < rows.length := by omega
    obtain ⟨b, hb, hq⟩ := prd_get h2 (List.getElem?_eq_getElem hi')
    rw [List.getElem?_map, hb] at e3
    cases e3
    exact ⟨.rm (LS (rows[i].map TI)), by rw [List.getElem?_map, List.getElem?_eq_getElem hi'] <;> rfl, [b], ⟨b, _, rfl, rfl, hq, ints_alls _⟩, fun c hc => by
      rw [List.mem_singleton.mp hc]
      exact hw b (by rw [e1]; exact List.mem_cons_of_mem _ (List.mem_of_getElem? hb))⟩⟩
end
end KG
namespace KP
open PySem PySem.Spec PyProof.Rows L2 KG KJ
open KW (G Wd)
section
variable {P : Program} {w : World} {K : PySem.W.Frag} {mg : Str → Option Value} {base : Heap} {f : Addr} {fd : FuncData}
def F_law_grid (K : PySem.W.Frag) : Option Addr → List En → En → Prop := fun _ ins o => ∃ (n : Nat) (m : Nat → Nat → Nat), okT n m ∧ ins = [.al (ROWS (tbl n m))] ∧ o = .rp (TAB K n m)
theorem ok_law_grid (T : Tx K mg) (mk1 : C8.Mak P w K mg base 4 "Table" (cT K) (PIn (cT K) (I_Table K)) []) (F : FnT K "_law_grid" s__law_grid f fd) : FnOk P w K mg base CX0 6 f fd ["_law_rows"] (PM (F_law_grid K)) := by
  refine pm_ok F sc__law_grid (fun _ _ _ ⟨_, _, _, e, _⟩ => by rw [e] <;> rfl) fun cdv A0 outer s0 Ex B ins o hF hr => ?_
  obtain ⟨n, m, hT, rfl, rfl⟩ := hF
  refine ⟨[.rm (ROWS (tbl n m)), .no], rfl, ?_⟩
  exact bret (gmake mk1 hr (acons (gtc [("_law_row", 1)] (items := tbl n m) (y := fun r => En.rm (LS (r.map TI))) (fun r => dWI K r) rfl T.tuple sc__law_grid.nd (gic_rows (grm 0 rfl)) (blkOk_by (N := N__law_grid) (sc := defScope s__law_grid) (by decide +kernel))
    (fun x _ _ _ _ _ _ => tgn 1 sc__law_grid.nd) (fun _ _ k hk => hk) (fun t _ _ _ _ _ _ => gtupOf T.tuple (gm 1 rfl)) (by rw [tbl_len]; have := hT.2.2; omega)) anil) (ds := []) (R := TAB K n m) ⟨n, m, hT, rfl, rfl⟩ (fun _ _ => trivial)) rfl
end
end KP
end
section
set_option maxRecDepth 100000
set_option maxHeartbeats 4000000
namespace KG
open PySem PySem.Spec PyProof.Rows L2
section
variable {X : Cx} {B : Bs} {E : List En} {ss : List Stmt} {pos p : Pos} {M M1 : Mu} {N : List En → Prop} {Rt : En → Prop}
/-- return a list of one's own, with less said of it -/
theorem bretW (k : Nat) {x : Str} (h : Rt (.mu M1)) (he : E[k]? = some (.mu M)) (hw : ∀ fp v H, M.p fp v H → M1.p fp v H) (hN : X.N[k]? = some x := by rfl) (hv : Vis X.env.scope x := by first | exact Or.inl rfl | exact Or.inr (Or.inl rfl) | exact Or.inr (Or.inr rfl)) (hd : (x == ("__debug__" : Str)) = false := by decide)
    (hcd : (x == ("__classdict__" : Str)) = false := by decide) : GB X B E [.Return (some (.Name x p)) pos] N Rt :=
  pssI (pss_one (ps_ret (pe_var hN hv hd hcd))) fun D σ H ⟨s, _, q2⟩ => by
    obtain ⟨v, fp, h1, h2, h3⟩ := s.get he rfl
    exact ⟨v, h1, q2 _ v H h s.rel ⟨fp, hw fp v H h2, h3⟩⟩
/-- a list of one's own, of which one of many things is known -/
def exM {α : Type} (F : α → Mu) : Mu := ⟨fun fp v H => ∃ x, (F x).p fp v H, fun ⟨x, h⟩ k kp => ⟨x, (F x).stab h k kp⟩, fun ⟨x, h⟩ => (F x).there h⟩
theorem bopenM {α : Type} {F : α → Mu} {E1 : α → List En} (k : Nat) (he : E[k]? = some (.mu (exM F))) [hE : ∀ x, SetE E k (.mu (F x)) (E1 x)] (h : ∀ x, GB X B (E1 x) ss N Rt) : GB X B E ss N Rt :=
  pssI (pssF (α := α) (Φ := fun _ => True) (t := fun x => tB' B (E1 x) N Rt) fun x _ => h x) fun D σ H ⟨s, q1, q2⟩ => by
    obtain ⟨fp, v, hv, ⟨x, hx⟩, h0, k1⟩ := s.chg he
    have s1 := k1 H H (F x) Rel.refl (fun _ _ => rfl) Kp.refl hx
    rw [(hE x).e] at s1
    exact ⟨x, trivial, s1, q1, q2⟩
end
end KG
namespace KP
open PySem PySem.Spec PyProof.Rows L2 KG KJ
open KW (G Wd)
section
variable {P : Program} {w : World} {K : PySem.W.Frag} {mg : Str → Option Value} {base : Heap} {f : Addr} {fd : FuncData}
def mat (n : Nat) (r : Nat → Nat → Int) : List (List Int) := (List.range n).map fun i => (List.range n).map (r i)
def put2 (r : Nat → Nat → Int) (i j : Nat) (v : Int) : Nat → Nat → Int := fun a b => if a = i ∧ b = j then v else r a b
theorem rg_set {α : Type} {n i : Nat} (g : Nat → α) (v : α) : ((List.range n).map g).set i v = (List.range n).map fun a => if a = i then v else g a := by
  apply List.ext_getElem?
  intro k
  by_cases h : k < n
  · rw [List.getElem?_map, List.getElem?_range h]
    by_cases z : i = k
    · subst z
      rw [List.getElem?_set_self (by simpa using h)]
      simp
    · rw [List.getElem?_set_ne z, List.getElem?_map, List.getElem?_range h]
      simp [show k ≠ i from fun q => z q.symm]
  · rw [List.getElem?_eq_none (by simp; omega), List.getElem?_eq_none (by simp; omega)]
theorem mat_set {n i j : Nat} {r : Nat → Nat → Int} {v : Int} : (mat n r).set i (((List.range n).map (r i)).set j v) = mat n (put2 r i j v) := by
  unfold mat
  rw [rg_set, rg_set]
  refine List.map_congr_left fun a _ => ?_
  by_cases h : a = i
  · subst h
    rw [if_pos rfl]
    refine List.map_congr_left fun b _ => ?_
    unfold put2
    by_cases h2 : b = j
    · rw [if_pos h2, if_pos ⟨rfl, h2⟩]
    · rw [if_neg h2, if_neg fun z => h2 z.2]
  · rw [if_neg h]
    refine List.map_congr_left fun b _ => ?_
    unfold put2
    rw [if_neg fun z => h z.1]
theorem mat_get {n i : Nat} {r : Nat → Nat → Int} (h : i < n) : (mat n r)[i]? = some ((List.range n).map (r i)) := by
  unfold mat
  rw [List.getElem?_map, List.getElem?_range h] <;> rfl
def tieOk (z : Int) : Prop := z = 0 ∨ z = 2 ∨ z = 3 ∨ z = 4 ∨ z = 5 ∨ z = 6
/-- a right table of n buttons -/
def good (n : Nat) (r : Nat → Nat → Int) : Prop := (∀ s, s < n → r s s = 1) ∧ ∀ s t, s < n → t < n → s ≠ t → r s t = r t s ∧ tieOk (r s t)
theorem good_tbl {n : Nat} {r : Nat → Nat → Int} (h : good n r) : ∃ m, KW.Ties m ∧ mat n r = tbl n m := by
  refine ⟨fun s t => if s < n ∧ t < n ∧ s ≠ t then (r s t).toNat else 2, ⟨fun s t => ?_, fun s t hst => ?_⟩, ?_⟩
  · by_cases c : s < n ∧ t < n ∧ s ≠ t
    · rw [if_pos c, if_pos ⟨c.2.1, c.1, c.2.2.symm⟩, (h.2 s t c.1 c.2.1 c.2.2).1]
    · rw [if_neg c, if_neg fun z => c ⟨z.2.1, z.1, z.2.2.symm⟩]
  · by_cases c : s < n ∧ t < n ∧ s ≠ t
    · simp only [if_pos c]
      rcases (h.2 s t c.1 c.2.1 c.2.2).2 with z | z | z | z | z | z <;> rw [z] <;> simp
    · simp only [if_neg c]
      simp
  · unfold mat tbl rowT
    refine List.map_congr_left fun s hs => List.map_congr_left fun t ht => ?_
    have hs := List.mem_range.mp hs
    have ht := List.mem_range.mp ht
    unfold tr
    by_cases c : s = t
    · subst c
      rw [if_pos rfl]
      exact h.1 s hs
    · rw [if_neg c]
      show r s t = ((if s < n ∧ t < n ∧ s ≠ t then (r s t).toNat else 2 : Nat) : Int)
      rw [if_pos ⟨hs, ht, c⟩]
      rcases (h.2 s t hs ht c).2 with z | z | z | z | z | z <;> rw [z] <;> rfl
/-- the tables drawn -/
def TBLX : Mu := exM fun q : {q : Nat × (Nat → Nat → Nat) // okT q.1 q.2} => ROWS (tbl q.1.1 q.1.2)
theorem tblx {n : Nat} {r : Nat → Nat → Int} (h : good n r) (h1 : 1 ≤ n) (h6 : n ≤ 6) : ∀ fp v H, (ROWS (mat n r)).p fp v H → TBLX.p fp v H := fun fp v H hp => by
  obtain ⟨m, hm, e⟩ := good_tbl h
  rw [e] at hp
  exact ⟨⟨(n, m), hm, h1, h6⟩, hp⟩
end
end KP
end
section
set_option maxRecDepth 100000
set_option maxHeartbeats 4000000
namespace KP
open PySem PySem.Spec PyProof.Rows L2 KG KJ
open KW (G Wd)
section
variable {P : Program} {w : World} {K : PySem.W.Frag} {mg : Str → Option Value} {base : Heap} {f : Addr} {fd : FuncData}
/-- .. so far filled: the rows before i, and of row i what is before j -/
def part (n i j : Nat) (r : Nat → Nat → Int) : Prop := (∀ s, r s s = 1) ∧ ∀ s t, s < n → t < s → (s < i ∨ (s = i ∧ t < j)) → r s t = r t s ∧ tieOk (r s t)
theorem part_step {n i j : Nat} {r : Nat → Nat → Int} {v : Int} (h : part n i j r) (hj : j < i) (hv : tieOk v) : part n i (j + 1) (put2 (put2 r i j v) j i v) := by
  refine ⟨fun s => ?_, fun s t hs ht hc => ?_⟩
  · unfold put2
    rw [if_neg fun z => by omega, if_neg fun z => by omega]
    exact h.1 s
  · by_cases c : s = i ∧ t = j
    · obtain ⟨rfl, rfl⟩ := c
      have e1 : put2 (put2 r s t v) t s v s t = v := by
        unfold put2
        rw [if_neg fun z => by omega, if_pos ⟨rfl, rfl⟩]
      have e2 : put2 (put2 r s t v) t s v t s = v := by
        unfold put2
        rw [if_pos ⟨rfl, rfl⟩]
      rw [e1, e2]
      exact ⟨rfl, hv⟩
    · have e1 : put2 (put2 r i j v) j i v s t = r s t := by
        unfold put2
        rw [if_neg fun z => by omega, if_neg c]
      have e2 : put2 (put2 r i j v) j i v t s = r t s := by
        unfold put2
        rw [if_neg fun z => c ⟨z.2, z.1⟩, if_neg fun z => by omega]
      rw [e1, e2]
      exact h.2 s t hs ht (by omega)
theorem part_good {n : Nat} {r : Nat → Nat → Int} (h : part n n 0 r) : good n r := by
  refine ⟨fun s _ => h.1 s, fun s t hs ht hst => ?_⟩
  by_cases c : t < s
  · exact h.2 s t hs c (.inl hs)
  · obtain ⟨h1, h2⟩ := h.2 t s ht (by omega) (.inl ht)
    exact ⟨h1.symm, by rw [← h1]; exact h2⟩
def F_law_any : Option Addr → List En → En → Prop := fun _ ins o => ins = [.wl, .rp (INTS fun z => 1 ≤ z ∧ z ≤ 6)] ∧ o = .mu TBLX
theorem ok_law_any (T : Tx K mg) (c1 : C8.Cal P w K mg base 2 "_law_pick" (PM F_law_pick) []) (F : FnT K "_law_any" s__law_any f fd) : FnOk P w K mg base CX0 3 f fd ["_law_well_here", "_law_size"] (PM F_law_any) := by
  refine pm_ok F sc__law_any (fun _ _ _ ⟨e, _⟩ => by rw [e] <;> rfl) fun cdv A0 outer s0 Ex B ins o hF hr => ?_
  obtain ⟨rfl, rfl⟩ := hF
  refine ⟨[.wl, .rp (INTS fun z => 1 ≤ z ∧ z ≤ 6), .no, .no, .no, .no], rfl, ?_⟩
  refine bopenI 1 rfl fun z hz => ?_
  obtain ⟨n, rfl⟩ : ∃ n : Nat, z = (n : Int) := ⟨z.toNat, by have := hz.1; omega⟩
  have h1 : 1 ≤ n := by have := hz.1; omega
  have h6 : n ≤ 6 := by have := hz.2; omega
  refine bsetLcR 2 [("_law_one", 3)] (items := List.range n) (y := fun (i : Nat) => En.rp (TI i)) (r := fun i => (List.range n).map fun _ => (1 : Int)) ?_ rfl sc__law_any.nd (gic (gi_range T.range (gr 1 rfl) (by omega))) (blkOk_by (N := N__law_any) (sc := defScope s__law_any) (by decide +kernel))
    (fun x _ _ _ _ _ _ => tgn 3 sc__law_any.nd) (fun _ _ i hi => hi) (fun i _ _ _ _ _ _ => geq (grep (gal (glst (acons gint anil))) (gr 1 rfl) (by omega)) (by
      congr 2
      rw [List.map_map]
      apply List.ext_getElem?
      intro k
      by_cases h : k < n
      · rw [List.getElem?_replicate_of_lt h, List.getElem?_map, List.getElem?_range h] <;> rfl
      · rw [List.getElem?_eq_none (by simp; omega), List.getElem?_eq_none (by simp; omega)])) (by simp; omega)
  refine bfor (ys := (List.range n).map fun (i : Nat) => En.rp (TI i)) [3] (fun i E' => ∃ (r : Nat → Nat → Int) (o3 o4 o5 : En), part n i 0 r ∧ E' = [.wl, .rp (TI (n : Int)), .mu (ROWS (mat n r)), o3, o4, o5]) rfl PassesOwn.never (gi_range T.range (gr 1 rfl) (by omega)) ⟨fun _ _ => 1, .no, .no, .no, ⟨fun _ => rfl, fun s t _ _ h => by omega⟩, rfl⟩ (fun i y E' hy ⟨r, o3, o4, o5, hp, e⟩ => ?_) fun E' ⟨r, o3, o4, o5, hp, e⟩ => ?_
  · subst e
    have hi : i < n := by
      have := (List.getElem?_eq_some_iff.mp hy).1
      simpa using this
    rw [List.getElem?_map, List.getElem?_range hi] at hy
    cases hy
    refine ⟨_, tgn 3 sc__law_any.nd, ?_⟩
    refine bfor (ys := (List.range i).map fun (j : Nat) => En.rp (TI j)) [4] (fun j E' => ∃ (r : Nat → Nat → Int) (o4 o5 : En), part n i j r ∧ E' = [.wl, .rp (TI (n : Int)), .mu (ROWS (mat n r)), .rp (TI (i : Int)), o4, o5]) rfl PassesOwn.never (gi_range T.range (gr 3 rfl) (by omega)) ⟨r, _, _, hp, rfl⟩ (fun j y E' hy ⟨r, o4, o5, hp, e⟩ => ?_) fun E' ⟨r, o4, o5, hp, e⟩ => ?_
    · subst e
      have hj : j < i := by
        have := (List.getElem?_eq_some_iff.mp hy).1
        simpa using this
      rw [List.getElem?_map, List.getElem?_range hj] at hy
      cases hy
      refine ⟨_, tgn 4 sc__law_any.nd, ?_⟩
      refine bset 5 sc__law_any.nd (o := .rp (INTS tieOk)) (grp (gclw c1 hr (acons (gwl 0 rfl) (acons (gal (glst (acons gint (acons gint (acons gint (acons gint (acons gint (acons gint (acons gint (acons gint anil)))))))))) anil)) ⟨[3, 2, 0, 4, 3, 5, 6, 3].map TI, by decide, by decide, rfl, rfl⟩) fun v H ⟨R, hR, hv⟩ => ?_) ?_
      · obtain ⟨z, hz, rfl⟩ := List.mem_map.mp hR
        refine ⟨z, ?_, hv⟩
        unfold tieOk
        simp only [List.mem_cons, List.not_mem_nil, or_false] at hz
        omega
      refine bopenI 5 rfl fun v hv => ?_
      refine brset 2 rfl (gr 3 rfl) (gr 4 rfl) (gr 5 rfl) (mat_get hi) (by simp; omega) ?_
      rw [mat_set]
      refine brset 2 rfl (gr 4 rfl) (gr 3 rfl) (gr 5 rfl) (mat_get (by omega)) (by simp; omega) ?_
      rw [mat_set]
      exact bnil ⟨_, _, _, part_step hp hj hv, rfl⟩
    · subst e
      rw [List.length_map, List.length_range] at hp
      exact bnil ⟨r, _, _, _, ⟨hp.1, fun s t hs ht hc => hp.2 s t hs ht (by omega)⟩, rfl⟩
  · subst e
    rw [List.length_map, List.length_range] at hp
    exact bretW 2 rfl rfl (tblx (part_good hp) h1 h6)
end
end KP
end
section
set_option maxRecDepth 100000
set_option maxHeartbeats 4000000
namespace KP
open PySem PySem.Spec PyProof.Rows L2 KG KJ
open KW (G Wd)
section
variable {P : Program} {w : World} {K : PySem.W.Frag} {mg : Str → Option Value} {base : Heap} {f : Addr} {fd : FuncData}
def PERM (k : Nat) : Mu := exM fun q : {l : Wd // l.Perm (List.range k)} => LS (q.1.map fun (n : Nat) => TI n)
theorem erase_perm {l : Wd} {i : Nat} {x : Nat} (h : l[i]? = some x) : (l.eraseIdx i ++ [x]).Perm l := by
  induction l generalizing i with
  | nil => simp at h
  | cons a l ih =>
    cases i with
    | zero =>
      simp at h
      subst h
      exact List.perm_append_comm
    | succ i =>
      simp at h
      exact (ih h).cons a
theorem erase_map {α β : Type} (g : α → β) : ∀ (l : List α) (i : Nat), (l.map g).eraseIdx i = (l.eraseIdx i).map g
  | [], _ => rfl
  | _ :: _, 0 => rfl
  | a :: l, i + 1 => congrArg (g a :: ·) (erase_map g l i)
def F_law_mixed : Option Addr → List En → En → Prop := fun _ ins o => ∃ k : Nat, k ≤ 100 ∧ ins = [.wl, .rp (TI (k : Int))] ∧ o = .mu (PERM k)
theorem ok_law_mixed (T : Tx K mg) (c1 : C8.Cal P w K mg base 1 "_law_dip" (PM F_law_dip) []) (F : FnT K "_law_mixed" s__law_mixed f fd) : FnOk P w K mg base CX0 2 f fd ["_law_well_here", "_law_many"] (PM F_law_mixed) := by
  refine pm_ok F sc__law_mixed (fun _ _ _ ⟨_, _, e, _⟩ => by rw [e] <;> rfl) fun cdv A0 outer s0 Ex B ins o hF hr => ?_
  obtain ⟨k, hk, rfl, rfl⟩ := hF
  refine ⟨[.wl, .rp (TI (k : Int)), .no, .no, .no], rfl, ?_⟩
  refine bpar 2 3 sc__law_mixed.nd rfl (glrg rfl T.list T.range (gr 1 rfl) (by omega)) (glst anil) ?_
  refine bfor (ys := (List.range k).map fun (i : Nat) => En.rp (TI i)) [4] (fun i E' => ∃ (a b : Wd) (o4 : En), (a ++ b).Perm (List.range k) ∧ b.length = i ∧ E' = [.wl, .rp (TI (k : Int)), .mu (LS (a.map fun (n : Nat) => TI n)), .mu (LS (b.map fun (n : Nat) => TI n)), o4]) rfl PassesOwn.never (gi_range T.range (gr 1 rfl) (by omega)) ⟨List.range k, [], .no, by rw [List.append_nil], rfl, rfl⟩ (fun i y E' hy ⟨a, b, o4, hp, hl, e⟩ => ?_) fun E' ⟨a, b, o4, hp, hl, e⟩ => ?_
  · subst e
    have hi : i < k := by
      have := (List.getElem?_eq_some_iff.mp hy).1
      simpa using this
    rw [List.getElem?_map, List.getElem?_range hi] at hy
    cases hy
    have hla := hp.length_eq
    rw [List.length_append, List.length_range] at hla
    refine ⟨_, tgn 4 sc__law_mixed.nd, ?_⟩
    refine bappPop 3 2 (by decide) rfl rfl (geq (gclw c1 hr (acons (gwl 0 rfl) (acons (glen T.len (gM 2 rfl) szL) anil)) ⟨(a.map fun (n : Nat) => TI n).length, by rw [List.length_map]; omega, by rw [List.length_map]; omega, rfl, rfl⟩) rfl) (fun j R hj => ?_) (by simp; omega) (by simp; omega)
    rw [List.getElem?_map] at hj
    cases hx : a[j]? with
    | none =>
      rw [hx] at hj
      cases hj
    | some x =>
      rw [hx] at hj
      cases hj
      refine bnil ⟨a.eraseIdx j, b ++ [x], .rp (TI (i : Int)), ?_, by simp [hl], ?_⟩
      · refine List.Perm.trans ?_ hp
        have h1 : (a.eraseIdx j ++ (b ++ [x])).Perm (a.eraseIdx j ++ ([x] ++ b)) := List.Perm.append_left _ List.perm_append_comm
        have h2 : (a.eraseIdx j ++ ([x] ++ b)) = (a.eraseIdx j ++ [x]) ++ b := (List.append_assoc _ _ _).symm
        rw [h2] at h1
        exact h1.trans (List.Perm.append_right _ (erase_perm hx))
      · rw [List.map_append, erase_map] <;> rfl
  · subst e
    rw [List.length_map, List.length_range] at hl
    have hla := hp.length_eq
    rw [List.length_append, List.length_range] at hla
    have ha : a = [] := List.length_eq_zero_iff.mp (by omega)
    subst ha
    exact bretW 3 rfl rfl fun fp v H h => ⟨⟨b, hp⟩, h⟩
end
end KP
end
section
set_option maxRecDepth 100000
set_option maxHeartbeats 4000000
namespace KG
open PySem PySem.Spec PyProof.Rows L2
section
variable {X : Cx} {B : Bs} {E : List En} {a b : Expr} {pos : Pos} {P Q : Int → Prop}
/-- a == b, of ints that are not known -/
theorem gceX (ha : GE X B E a (.rp (INTS P))) (hb : GE X B E b (.rp (INTS Q))) (hm : behindInMarks .Eq b = false := by first | exact nomark _ | rfl) : GTX X B E (.Compare a [.Eq] [b] pos) :=
  ptI (pt_cmpR op_eq ha hb hm) fun σ H Q ⟨s, q⟩ => two (o := .rp ANYB) (fun H x y H2 Q _ _ ⟨i, _, ox⟩ ⟨j, _, oy⟩ q => by
    subst ox oy
    exact ⟨rfl, q _ H2 Rel.refl ⟨_, rfl⟩⟩) σ H _ ⟨s, fun v H2 r ⟨b, eb⟩ => ⟨b, eb, q b H2 r⟩⟩
end
end KG
namespace KP
open PySem PySem.Spec PyProof.Rows L2 KG KJ
open KW (G Wd)
section
variable {P : Program} {w : World} {K : PySem.W.Frag} {mg : Str → Option Value} {base : Heap} {f : Addr} {fd : FuncData}
def dg (s t : Nat) : Int := if s = t then 1 else 2
theorem good_dg (n : Nat) : good n dg := by
  refine ⟨fun s _ => ?_, fun s t _ _ h => ?_⟩
  · unfold dg
    rw [if_pos rfl]
  · unfold dg
    rw [if_neg h, if_neg fun z => h z.symm]
    exact ⟨rfl, .inr (.inl rfl)⟩
theorem good_put {n i j : Nat} {v : Int} {r : Nat → Nat → Int} (h : good n r) (hij : i ≠ j) (hv : tieOk v) : good n (put2 (put2 r i j v) j i v) := by
  refine ⟨fun s hs => ?_, fun s t hs ht hst => ?_⟩
  · unfold put2
    rw [if_neg fun z => hij (z.2.symm.trans z.1), if_neg fun z => hij (z.1.symm.trans z.2)]
    exact h.1 s hs
  · unfold put2
    by_cases c1 : s = j ∧ t = i
    · obtain ⟨rfl, rfl⟩ := c1
      rw [if_pos ⟨rfl, rfl⟩, if_neg fun z => hst z.2, if_pos ⟨rfl, rfl⟩]
      exact ⟨rfl, hv⟩
    · by_cases c2 : s = i ∧ t = j
      · obtain ⟨rfl, rfl⟩ := c2
        rw [if_neg c1, if_pos ⟨rfl, rfl⟩, if_pos ⟨rfl, rfl⟩]
        exact ⟨rfl, hv⟩
      · rw [if_neg c1, if_neg c2, if_neg fun z => c2 ⟨z.2, z.1⟩, if_neg fun z => c1 ⟨z.2, z.1⟩]
        exact h.2 s t hs ht hst
def chS : Scope := match defBody s__law_chained with
  | _ :: .Assign _ (.ListComp _ _ s _) _ :: _ => s
  | _ => defScope s__law_chained
/-- some ties -/
def exT (K : PySem.W.Frag) : Rp := exR fun q : {l : List Int // (∀ z ∈ l, tieOk z) ∧ l.length ≤ 5} => dWI K q.1
def F_law_chained (K : PySem.W.Frag) : Option Addr → List En → En → Prop := fun _ ins o => ins = [.wl, .rp (exT K)] ∧ o = .mu TBLX
theorem ok_law_chained (T : Tx K mg) (c1 : C8.Cal P w K mg base 2 "_law_mixed" (PM F_law_mixed) []) (F : FnT K "_law_chained" s__law_chained f fd) : FnOk P w K mg base CX0 3 f fd ["_law_well_here", "_law_ties"] (PM (F_law_chained K)) := by
  refine pm_ok F sc__law_chained (fun _ _ _ ⟨e, _⟩ => by rw [e] <;> rfl) fun cdv A0 outer s0 Ex B ins o hF hr => ?_
  obtain ⟨rfl, rfl⟩ := hF
  refine ⟨[.wl, .rp (exT K), .no, .no, .no, .no, .no, .no], rfl, ?_⟩
  refine bopen 1 rfl fun ⟨ts, hts, hlen⟩ => ?_
  refine bset 2 sc__law_chained.nd (gclw c1 hr (acons (gwl 0 rfl) (acons (geq (gadd (glen T.len (gr 1 rfl) szT) gint) (o1 := .rp (TI ((ts.length + 1 : Nat) : Int))) (by rw [List.length_map] <;> rfl)) anil)) ⟨ts.length + 1, by omega, rfl, rfl⟩) ?_
  refine bopenM 2 rfl fun ⟨p, hp⟩ => ?_
  have hpl : p.length = ts.length + 1 := by
    have := hp.length_eq
    rwa [List.length_range] at this
  have hnd : p.Nodup := hp.nodup_iff.mpr List.nodup_range
  obtain ⟨n, hn⟩ : ∃ n, n = ts.length + 1 := ⟨_, rfl⟩
  rw [← hn] at hpl
  have hpi : ∀ k (h : k < p.length), p[k] < n := fun k h => by
    have := hp.mem_iff.mp (List.getElem_mem h)
    rw [List.mem_range] at this
    omega
  refine bsetLcR 3 [("_law_one", 6)] (items := List.range n) (y := fun (i : Nat) => En.rp (TI i)) (r := fun i => (List.range n).map (dg i)) ?_ rfl sc__law_chained.nd (gic (gi_range T.range (geq (glen T.len (gM 2 rfl) szL) (o1 := .rp (TI (n : Int))) (by rw [List.length_map, hpl])) (by omega))) (blkOk_by (N := N__law_chained) (sc := defScope s__law_chained) (by decide +kernel))
    (fun x _ _ _ _ _ _ => tgn 6 sc__law_chained.nd) (fun _ _ i hi => hi) (fun i _ _ _ _ _ _ => geq (glc [("_law_two", 7)] (items := List.range n) (y := fun (t : Nat) => En.rp (TI t)) (bb := fun _ => true) (ifs := []) (r := fun t => TI (dg i t)) rfl sc__law_chained.nd (gic (gi_range T.range (geq (glen T.len (gM 2 rfl) szL) (o1 := .rp (TI (n : Int))) (by rw [List.length_map, hpl])) (by omega))) (blkOk_by (N := N__law_chained) (sc := relS chS (defScope s__law_chained)) (by decide +kernel))
      (fun x _ _ _ _ _ _ => tgn 7 sc__law_chained.nd) (fun _ _ i hi => hi) (fun _ _ _ _ _ _ _ => pts0) (fun t _ _ _ _ _ _ _ => gif (gct (ceq (gr 6 rfl) (gr 7 rfl))) (fun h => geq gint (by
        have h := dt h
        unfold dg
        rw [if_pos (by omega)])) (fun h => geq gint (by
        have h := df h
        unfold dg
        rw [if_neg (by omega)]))) (by simp; omega)) (by
        rw [show (List.range n).filter (fun _ => true) = List.range n by simp, List.map_map] <;> rfl)) (by simp; omega)
  refine bfor (ys := enumE K (ts.map TI)) [4, 5] (fun k E' => ∃ (r : Nat → Nat → Int) (o4 o5 : En), good n r ∧ E' = [.wl, .rp (dWI K ts), .mu (LS (p.map fun (n : Nat) => TI n)), .mu (ROWS (mat n r)), o4, o5, .no, .no]) rfl PassesOwn.never (gi_enumT T.enumerate (gr 1 rfl)) ⟨dg, .no, .no, good_dg n, rfl⟩ (fun k y E' hy ⟨r, o4, o5, hg, e⟩ => ?_) fun E' ⟨r, o4, o5, hg, e⟩ => ?_
  · subst e
    cases hx : ts[k]? with
    | none =>
      rw [List.getElem?_eq_none (by rw [enumE_len, List.length_map]; exact List.getElem?_eq_none_iff.mp hx)] at hy
      cases hy
    | some v =>
      rw [enumE_get (R := TI v) (by rw [List.getElem?_map, hx] <;> rfl)] at hy
      cases hy
      have hk := (List.getElem?_eq_some_iff.mp hx).1
      have hv := hts v (List.mem_of_getElem? hx)
      have k0 : k < p.length := by omega
      have k1 : k + 1 < p.length := by omega
      have i0 : atI (p.map fun (n : Nat) => TI n) (k : Int) = some (TI (p[k] : Nat)) := atI_nat (by rw [List.getElem?_map, List.getElem?_eq_getElem k0] <;> rfl)
      have i1 : atI (p.map fun (n : Nat) => TI n) ((k : Int) + 1) = some (TI (p[k + 1] : Nat)) := atI_nat (j := k + 1) (by rw [List.getElem?_map, List.getElem?_eq_getElem k1] <;> rfl)
      have hne : p[k] ≠ p[k + 1] := fun z => by
        exact List.pairwise_iff_getElem.mp hnd k (k + 1) k0 k1 (by omega) z
      refine ⟨_, tg2 rfl (tgn 4 sc__law_chained.nd) (tgn 5 sc__law_chained.nd), ?_⟩
      refine brset 3 rfl (gixL (gM 2 rfl) (gr 4 rfl) i0) (gixL (gM 2 rfl) (gadd (gr 4 rfl) gint) i1) (gr 5 rfl) (mat_get (hpi k k0)) (by simp; exact hpi (k + 1) k1) ?_
      rw [mat_set]
      refine brset 3 rfl (gixL (gM 2 rfl) (gadd (gr 4 rfl) gint) i1) (gixL (gM 2 rfl) (gr 4 rfl) i0) (gr 5 rfl) (mat_get (hpi (k + 1) k1)) (by simp; exact hpi k k0) ?_
      rw [mat_set]
      exact bnil ⟨_, _, _, good_put hg hne hv, rfl⟩
  · subst e
    exact bretW 3 rfl rfl (tblx hg (by omega) (by omega))
/-! ### the rows drawn -/
def F_law_drawn : Option Addr → List En → En → Prop := fun _ ins o => ins = [.wl] ∧ o = .mu TBLX
def chn : List (List Int) := [[3, 3], [3, 4], [3], [5], [3, 3, 3], [6], [4], []]
theorem chn_ok : ∀ l ∈ chn, (∀ z ∈ l, tieOk z) ∧ l.length ≤ 5 := by
  intro l hl
  simp only [chn, List.mem_cons, List.not_mem_nil, or_false] at hl
  rcases hl with rfl | rfl | rfl | rfl | rfl | rfl | rfl | rfl <;> simp [tieOk]
theorem ok_law_drawn (T : Tx K mg) (c1 : C8.Cal P w K mg base 1 "_law_dip" (PM F_law_dip) []) (c2 : C8.Cal P w K mg base 2 "_law_pick" (PM F_law_pick) []) (c3 : C8.Cal P w K mg base 3 "_law_chained" (PM (F_law_chained K)) []) (c4 : C8.Cal P w K mg base 3 "_law_any" (PM F_law_any) [])
    (F : FnT K "_law_drawn" s__law_drawn f fd) : FnOk P w K mg base CX0 4 f fd ["_law_well_here"] (PM F_law_drawn) := by
  refine pm_ok F sc__law_drawn (fun _ _ _ ⟨e, _⟩ => by rw [e] <;> rfl) fun cdv A0 outer s0 Ex B ins o hF hr => ?_
  obtain ⟨rfl, rfl⟩ := hF
  refine ⟨[.wl], rfl, ?_⟩
  refine bifX (N1 := fun E' => E' = [.wl]) (gceX (gclw c1 hr (acons (gwl 0 rfl) (acons gint anil)) ⟨3, by decide, by decide, rfl, rfl⟩) (gTP (P := AnyI) gint trivial)) ?_ (bnil rfl) fun E' e => ?_
  · refine bret (gclw c3 hr (acons (gwl 0 rfl) (acons (grp (R1 := exT K) (gclw c2 hr (acons (gwl 0 rfl) (acons (gal (glst (acons (gtup (acons gint (acons gint anil))) (acons (gtup (acons gint (acons gint anil))) (acons (gtup (acons gint anil)) (acons (gtup (acons gint anil)) (acons (gtup (acons gint (acons gint (acons gint anil)))) (acons (gtup (acons gint anil)) (acons (gtup (acons gint anil)) (acons (gtup anil) anil)))))))))) anil)) ⟨chn.map (dWI K), by simp [chn], by simp [chn], rfl, rfl⟩) fun v H ⟨R, hR, hv⟩ => ?_) anil)) ⟨rfl, rfl⟩) rfl
    obtain ⟨l, hl, rfl⟩ := List.mem_map.mp hR
    exact ⟨⟨l, chn_ok l hl⟩, hv⟩
  · subst e
    refine bret (gclw c4 hr (acons (gwl 0 rfl) (acons (grp (R1 := INTS fun z => 1 ≤ z ∧ z ≤ 6) (gclw c2 hr (acons (gwl 0 rfl) (acons (gal (glst (acons gint (acons gint (acons gint (acons gint (acons gint (acons gint (acons gint (acons gint anil)))))))))) anil)) ⟨[3, 2, 3, 4, 3, 2, 3, 1].map TI, by decide, by decide, rfl, rfl⟩) fun v H ⟨R, hR, hv⟩ => ?_) anil)) ⟨rfl, rfl⟩) rfl
    obtain ⟨z, hz, rfl⟩ := List.mem_map.mp hR
    refine ⟨z, ?_, hv⟩
    simp only [List.mem_cons, List.not_mem_nil, or_false] at hz
    omega
end
end KP
end
section
set_option maxRecDepth 100000
set_option maxHeartbeats 4000000
namespace KP
open PySem PySem.Spec PyProof.Rows L2 KG KJ
open KW (G Wd)
section
variable {P : Program} {w : World} {K : PySem.W.Frag} {mg : Str → Option Value} {base : Heap} {f : Addr} {fd : FuncData}
def F_law_well (K : PySem.W.Frag) : Option Addr → List En → En → Prop := fun _ ins o => ∃ (ns : List Int) (t : Nat), ins = [.rp (SCR K ns), .rp (TI (t : Int))] ∧ o = .mu WELL
theorem ok_law_well (T : Tx K mg) (F : FnT K "_law_well" s__law_well f fd) : FnOk P w K mg base CX0 1 f fd ["_law_script", "_law_turn"] (PM (F_law_well K)) := by
  refine pm_ok F sc__law_well (fun _ _ _ ⟨_, _, e, _⟩ => by rw [e] <;> rfl) fun cdv A0 outer s0 Ex B ins o hF hr => ?_
  obtain ⟨ns, t, rfl, rfl⟩ := hF
  refine ⟨[.rp (SCR K ns), .rp (TI (t : Int)), .no, .no, .no, .no], rfl, ?_⟩
  refine bset 2 sc__law_well.nd (gif (o := .rp (INTS AnyI)) (gct (clt (gr 1 rfl) (glen T.len (gr 0 rfl) szS))) (fun h => ?_) fun _ => gTP gint trivial) ?_
  · have h := dt h
    have ht : t < ns.length := by omega
    exact gint1P T.int (gTP (gixS (gr 0 rfl) (gr 1 rfl) (atI_nat (List.getElem?_eq_getElem ht))) trivial)
  refine bset 3 sc__law_well.nd (gaddP (gTP (P := AnyI) gint trivial) (gmulP (gTP (P := fun z => z = 7919) gint rfl) (gTP (P := AnyI) (gr 1 rfl) trivial) fun x y (hx : x = 7919) _ => by rw [hx]; exact m2 (by omega))) ?_
  refine bforT [4] (E0 := [.rp (SCR K ns), .rp (TI (t : Int)), .rp (INTS AnyI), .rp (INTS AnyI), .no, .no]) (fun k E' => ∃ o4 : En, o4.flat = true ∧ E' = [.rp (SCR K ns), .rp (TI (t : Int)), .rp (INTS AnyI), .rp (INTS AnyI), o4, .no]) rfl PassesOwn.never (gslS (gr 0 rfl) on (oi gint)) (fun _ _ e _ => e) rfl ⟨.no, rfl, rfl⟩ (fun k E' ⟨o4, h, e⟩ => by
      subst e
      show (true && (true && (true && (true && (o4.flat && (true && true)))))) = true
      rw [h]
      rfl) (fun B' k R E' hR ⟨o4, h, e⟩ => ?_) fun E' ⟨o4, h, e⟩ => ?_
  · subst e
    rw [List.getElem?_map] at hR
    cases hx : (cutR ns none (some 9))[k]? with
    | none =>
      rw [hx] at hR
      cases hR
    | some z =>
      rw [hx] at hR
      cases hR
      exact ⟨_, tgn 4 sc__law_well.nd, bset 3 sc__law_well.nd (gPP (gmodP (gint1P T.int (gaddP (gaddP (gmulP (gr 3 rfl) (gTP (P := fun z => z = 69691) gint rfl) fun x y _ (hy : y = 69691) => by rw [hy]; exact mr (by omega)) (gmodP (gint1P T.int (gTP (P := AnyI) (gr 4 rfl) trivial)) gint (by decide))) (gTP (P := AnyI) gint trivial))) gint (by decide)) (Q := AnyI) fun _ _ => trivial) (bnil ⟨_, rfl, rfl⟩)⟩
  · subst e
    refine bset 5 sc__law_well.nd (gmodP (gint1P T.int (gaddP (gaddP (gmulP (gr 3 rfl) (gTP (P := fun z => z = 31) gint rfl) fun x y _ (hy : y = 31) => by rw [hy]; exact mr (by omega)) (gmulP (gmodP (gint1P T.int (gr 2 rfl)) gint (by decide)) (gTP (P := fun z => z = 40487) gint rfl) fun x y _ (hy : y = 40487) => by rw [hy]; exact mr (by omega))) (gTP (P := AnyI) gint trivial))) gint (by decide)) ?_
    refine bret (o := .mu WELL) (gimp (o := .mu (LS [INTS AnyI, INTS (Lt0 2147483563), TI 0])) (glst (acons (gifX (o := .rp (INTS AnyI)) (gtwX (gworX (gctX op_lt (gr 2 rfl) (gTP (P := AnyI) gint trivial)) (gwo1X (gctX op_ge (gr 2 rfl) (gTP (P := AnyI) (gpow gint gint (show CPow 10 15 from ⟨by decide, by decide, by decide⟩)) trivial))))) (gabsP T.abs (gr 2 rfl)) (gTP gint trivial)) (acons (gr 5 rfl) (acons gint anil)))) fun H v H2 _ _ ⟨fp, ⟨a, xs, e1, e2, h1, h2⟩, h3⟩ => ⟨fp, ?_, h3⟩) rfl
    cases h2 with
    | cons q1 t1 =>
      cases t1 with
      | cons q2 t2 =>
        cases t2 with
        | cons q3 t3 =>
          cases t3
          obtain ⟨x, _, rfl⟩ := q1
          obtain ⟨y, _, rfl⟩ := q2
          obtain rfl := q3
          exact ⟨a, x, y, 0, e1, e2, h1⟩
end
end KP
end
section
set_option maxRecDepth 100000
set_option maxHeartbeats 8000000
namespace KP
open PySem PySem.Spec PyProof.Rows L2 KG KJ
open KW (G Wd)
section
variable {P : Program} {w : World} {K : PySem.W.Frag} {mg : Str → Option Value} {base : Heap} {f : Addr} {fd : FuncData}
def exP (K : PySem.W.Frag) (n t : Nat) (m : Nat → Nat → Nat) : Rp := exR fun u : {u : Wd // KW.okw n u ∧ u.length < t} => POS K n m (KW.firstW m n u.1)
def exC (K : PySem.W.Frag) (n t : Nat) (m : Nat → Nat → Nat) : Rp := exR fun u : {u : Wd // KW.okw n u ∧ u.length < t} => CHG K n m u.1
theorem len_flat : ∀ {cs : List Wd}, (∀ c ∈ cs, c ≠ []) → cs.length ≤ cs.flatten.length
  | [], _ => Nat.le_refl 0
  | c :: cs, h => by
    have ih := len_flat (cs := cs) fun d hd => h d (List.mem_cons_of_mem _ hd)
    have h1 := List.length_pos_iff.mpr (h c List.mem_cons_self)
    rw [List.flatten_cons, List.length_append, List.length_cons]
    omega
theorem flat_tail (cs : List Wd) : cs.tail.flatten.length ≤ cs.flatten.length := by
  cases cs with
  | nil => exact Nat.le_refl 0
  | cons c cs =>
    rw [List.flatten_cons, List.length_append, List.tail_cons]
    omega
theorem map_wd {cs : List Wd} {g : Wd → Wd} {t : Wd → Rp} : (cs.filter fun _ => true).map (fun c => t (g c)) = (cs.map g).map t := by
  rw [List.map_map, show cs.filter (fun _ => true) = cs by simp] <;> rfl
def F_law_right : Option Addr → List En → En → Prop := fun _ ins o => ins = [.wl] ∧ o = .rp (TBl true)
theorem ok_law_right (T : Tx K mg) (Z : Tc K mg) {fdm fdc fdp : FuncData} (FM : FnOk P w K mg base CX0 10 (He.ma K (cP K) "__mul__") fdm ["self", "other"] (PM (F_Positive_mul K))) (hbm : Binds K fdm ["self", "other"] [])
    (FC : FnOk P w K mg base CX0 3 (He.ma K (cC K) "__eq__") fdc ["self", "other"] (PM (F_Change_eq K))) (hbc : Binds K fdc ["self", "other"] [])
    (FP : FnOk P w K mg base CX0 3 (He.ma K (cP K) "__eq__") fdp ["self", "other"] (PM (F_Positive_eq K))) (hbp : Binds K fdp ["self", "other"] [])
    (mkP : C8.Mak P w K mg base 7 "Positive" (cP K) (PIn (cP K) (I_Positive K)) [.bl false]) (mkC : C8.Mak P w K mg base 5 "Change" (cC K) (PIn (cC K) (I_Change K)) [.non]) (pw : Prp P w K mg base 5 (cC K) "word" (PM (F_Change_word K)))
    (cdr : C8.Cal P w K mg base 4 "_law_drawn" (PM F_law_drawn) []) (cgd : C8.Cal P w K mg base 6 "_law_grid" (PM (F_law_grid K)) []) (clt' : C8.Cal P w K mg base 2 "_law_letters" (PM (F_law_letters K)) []) (cdp : C8.Cal P w K mg base 1 "_law_dip" (PM F_law_dip) [])
    (cgr : C8.Cal P w K mg base 11 "grains" (PM (F_grains K)) []) (clf : C8.Cal P w K mg base 10 "lifted" (PM (F_lifted K)) []) (crw : C8.Cal P w K mg base 5 "_law_is_row" (PM (F_law_is_row K)) [])
    (cpt : C8.Cal P w K mg base 11 "_law_put_together" (PM (F_law_put_together K)) []) (chd : C8.Cal P w K mg base 12 "_law_is_head_right" (PM (F_law_is_head_right K)) []) (F : FnT K "_law_right" s__law_right f fd) : FnOk P w K mg base CX0 13 f fd ["_law_well_here"] (PM F_law_right) := by
  refine pm_ok F sc__law_right (fun _ _ _ ⟨e, _⟩ => by rw [e] <;> rfl) fun cdv A0 outer s0 Ex B ins o hF hr => ?_
  obtain ⟨rfl, rfl⟩ := hF
  refine ⟨[.wl, .no, .no, .no, .no, .no, .no, .no, .no, .no], rfl, ?_⟩
  refine bset 1 sc__law_right.nd (gclw cdr hr (acons (gwl 0 rfl) anil) ⟨rfl, rfl⟩) ?_
  refine bopenM 1 rfl fun ⟨⟨n, m⟩, hT⟩ => ?_
  have hT : okT n m := hT
  have hm := hT.1
  have h1 := hT.2.1
  have h6 := hT.2.2
  have C := KW.wA_cart hm
  refine bset 2 sc__law_right.nd (gcl cgd hr (acons (gM 1 rfl) anil) ⟨n, m, hT, rfl, rfl⟩) ?_
  refine basL2 (R1 := exP K n 9 m) (R2 := exP K n 9 m) rfl (geq (glc [("_law_turn", 9)] (items := List.range 2) (y := fun (i : Nat) => En.rp (TI i)) (bb := fun _ => true) (ifs := []) (r := fun _ => exP K n 9 m) rfl sc__law_right.nd (gic (gi_range (n := 2) T.range gint (by decide))) (blkOk_by (N := N__law_right) (sc := defScope s__law_right) (by decide +kernel))
    (fun x _ _ _ _ _ _ => tgn 9 sc__law_right.nd) (fun _ _ i hi => hi) (fun _ _ _ _ _ _ _ => pts0) (fun i _ _ _ _ _ _ _ => gmakeX (G := fun u : {u : Wd // KW.okw n u ∧ u.length < 9} => POS K n m (KW.firstW m n u.1)) mkP hr (acons (gr 2 rfl) (acons (gclw clt' hr (acons (gwl 0 rfl) (acons (gM 1 rfl) (acons (gclw cdp hr (acons (gwl 0 rfl) (acons gint anil)) ⟨9, by decide, by decide, rfl, rfl⟩) anil))) ⟨n, 9, m, h1, h6, by decide, rfl, rfl⟩) anil)) (ds := [.rp (TBl false)]) (fun y => ⟨n, m, y.1, false, ⟨hT, y.2.1, by have := y.2.2; omega⟩, rfl, rfl⟩) (fun B H => ⟨rfl, trivial⟩)) (by simp)) (o1 := .mu (LS [exP K n 9 m, exP K n 9 m])) rfl) (tgn 3 sc__law_right.nd) (tgn 4 sc__law_right.nd) ?_
  refine bopen 3 rfl fun ⟨x, hx, lx⟩ => bopen 4 rfl fun ⟨y, hy, ly⟩ => ?_
  have fx := KW.firstW_ok C hm hx
  have fy := KW.firstW_ok C hm hy
  have lfx := KW.firstW_len C hm hx
  have lfy := KW.firstW_len C hm hy
  obtain ⟨r, hrd⟩ : ∃ r, r = KW.firstW m n x ++ KW.firstW m n y := ⟨_, rfl⟩
  have or : okX n m r := by
    rw [hrd]
    exact ⟨hT, KW.okw.app fx fy, by rw [List.length_append]; omega⟩
  have lr : r.length ≤ 16 := by
    rw [hrd, List.length_append]
    omega
  have lfr := KW.firstW_len C hm or.2.1
  have ofr : okX n m (KW.firstW m n r) := ⟨hT, KW.firstW_ok C hm or.2.1, by omega⟩
  refine bset 5 sc__law_right.nd (geq (gmulO FM Z.mul.1 Z.mul.2.1 Z.mul.2.2 hbm hr (gr 3 rfl) (gr 4 rfl) pos_ins pos_ins (o := .rp (POS K n m (KW.firstW m n (KW.firstW m n x ++ KW.firstW m n y)))) ⟨n, m, _, _, by rw [← hrd]; exact or, rfl, rfl⟩) (o1 := .rp (POS K n m (KW.firstW m n r))) (by rw [← hrd])) ?_
  obtain ⟨Gs, hGs⟩ : ∃ Gs, Gs = KW.grains m (KW.wA m) n (KW.firstW m n r) := ⟨_, rfl⟩
  have ggr : KW.Gr m n Gs := by
    rw [hGs]
    exact KW.grains_gr C hm ofr.2.1
  have glen' : Gs.flatten.length = r.length := by
    rw [hGs, KW.grains_len C hm ofr.2.1, lfr]
  have gok : ∀ c ∈ Gs, KW.okw n c := fun c hc => (ggr c hc).1
  have gne : ∀ c ∈ Gs, c ≠ [] := fun c hc => (ggr c hc).2.2
  have gll := len_flat gne
  have gcc : ∀ c ∈ Gs, okC n m c := fun c hc => ⟨hT, gok c hc, by
    have a1 := KW.W.len_mk (m := m) c
    have a2 := flat_le hc
    omega⟩
  have gws : ∀ u ∈ Gs.map (KW.wordBy (KW.wA m) n), KW.okw n u ∧ u.length ≤ 24 := fun u hu => by
    obtain ⟨c, hc, rfl⟩ := List.mem_map.mp hu
    obtain ⟨w1, w2, w3⟩ := KW.wordBy_ok C hm (n := n) (gok c hc)
    have a1 := KW.W.len_mk (m := m) c
    have a2 := flat_le hc
    exact ⟨w3, by omega⟩
  refine bset 6 sc__law_right.nd (geq (gcl cgr hr (acons (gr 5 rfl) anil) ⟨n, m, _, ofr, rfl, rfl⟩) (o1 := .rp (TUP K (Gs.map (CHG K n m)))) (by rw [hGs])) ?_
  refine bifR (GT.to (d1 := false) (gtw (gwor (gnot (gval (gisi T.isinstance (gr 6 rfl) (gbt T.tuple boot_tuple) (fun B H v H2 h => ty_tup (tup_any h)) (d := true) (by decide +kernel)))) fun _ => gwo1 (gnot (gval (gcl crw hr (acons (gM 1 rfl) (acons (gal (geq (glc [("_law_each", 7)] (items := Gs) (y := fun c => En.rp (CHG K n m c)) (bb := fun _ => true) (ifs := []) (r := fun c => dW K (KW.wordBy (KW.wA m) n c)) rfl sc__law_right.nd (giceq (gic (gi_tup (gr 6 rfl))) (by rw [List.map_map] <;> rfl)) (blkOk_by (N := N__law_right) (sc := defScope s__law_right) (by decide +kernel))
    (fun x _ _ _ _ _ _ => tgn 7 sc__law_right.nd) (fun _ _ i hi => hi) (fun _ _ _ _ _ _ _ => pts0) (fun c hc _ _ _ _ _ _ => gprop pw hr (gr 7 rfl) chg_ins ⟨n, m, c, gcc c hc, rfl, rfl⟩) (by omega)) (o1 := .mu (LS ((Gs.map (KW.wordBy (KW.wA m) n)).map (dW K)))) (by rw [map_wd]))) anil)) ⟨n, m, Gs.map (KW.wordBy (KW.wA m) n), hm, h6, gws, by rw [List.length_map]; omega, rfl, rfl⟩))))) (by rw [hGs, KW.law_row hm ofr.2.1] <;> rfl)) (fun h => by cases h) fun _ => ?_
  have hput := KW.law_put hm or.2.1
  rw [← hGs] at hput
  refine bifR (GT.to (d1 := false) (gtw (gwor (gct (cneO (C := cP K) (eqP_ok FP) Z.p.ne Z.p.ob Z.p.eq Z.p.eqf hbp pass0 hr (by decide) (geq (gcl cpt hr (acons (gr 2 rfl) (acons (gr 6 rfl) anil)) ⟨n, m, Gs, hT, gok, by omega, rfl, rfl⟩) (o1 := .rp (POS K n m (KW.firstW m n r))) (by rw [hput])) (gr 5 rfl) fun H H2 v u h1 h2 => dpos h1 h2)) fun _ => gwor (gnot (gval (gcl chd hr (acons (gr 2 rfl) (acons (gr 3 rfl) (acons (gr 4 rfl) anil))) ⟨n, m, x, y, hT, hx, hy, by omega, rfl, rfl⟩))) fun _ => gwo1 (gnot (gval (gcl chd hr (acons (gr 2 rfl) (acons (gr 4 rfl) (acons (gr 3 rfl) anil))) ⟨n, m, y, x, hT, hy, hx, by omega, rfl, rfl⟩))))) rfl) (fun h => by cases h) fun _ => ?_
  refine bset 7 sc__law_right.nd (o := .rp (exC K n 7 m)) (gmakeX (G := fun u : {u : Wd // KW.okw n u ∧ u.length < 7} => CHG K n m u.1) mkC hr (acons (gr 2 rfl) (acons (gclw clt' hr (acons (gwl 0 rfl) (acons (gM 1 rfl) (acons (gclw cdp hr (acons (gwl 0 rfl) (acons gint anil)) ⟨7, by decide, by decide, rfl, rfl⟩) anil))) ⟨n, 7, m, h1, h6, by decide, rfl, rfl⟩) anil)) (ds := [.rp TN]) (fun y => ⟨n, m, y.1, hT, y.2.1, rfl, .inl ⟨by have := y.2.2; omega, rfl⟩⟩) (fun B H => ⟨rfl, trivial⟩)) ?_
  refine bopen 7 rfl fun ⟨e, he, le⟩ => ?_
  obtain ⟨w1, w2, w3⟩ := KW.wordBy_ok C hm (n := n) he
  have lme := KW.W.len_mk (m := m) e
  have oc : okC n m e := ⟨hT, he, by omega⟩
  have fw := KW.firstW_ok C hm w3
  have lfw := KW.firstW_len C hm w3
  refine bifR (gct (cneCs Z FC hbc hr (by decide) pass0 (KW.law_lift hm he) (gcl cgr hr (acons (gcl clf hr (acons (gr 7 rfl) anil) ⟨n, m, e, oc, rfl, rfl⟩) anil) ⟨n, m, _, ⟨hT, fw, by omega⟩, rfl, rfl⟩)
    (gif (o := .rp (TUP K ((if KW.wordBy (KW.wA m) n e ≠ [] then [e] else []).map (CHG K n m)))) (gct (cneD hr.units (gprop pw hr (gr 7 rfl) chg_ins ⟨n, m, e, oc, rfl, rfl⟩) (gtup anil) (dto (dp_dW _)) (dto (dp_dW [])) (shp_ok (shp_pW _) (by decide)) (shp_ok (shp_pW []) (by decide)))) (fun h => geq (gtup (acons (gr 7 rfl) anil)) (by
      rw [eqv_pW] at h
      rw [if_pos fun z => by
        rw [z] at h
        cases h] <;> rfl)) (fun h => geq (gtup anil) (by
      rw [eqv_pW] at h
      rw [if_neg fun z => by
        rw [decide_eq_false z] at h
        cases h] <;> rfl))))) (fun h => by cases h) fun _ => ?_
  refine bset 8 sc__law_right.nd (geq (gcatL (gal (geq (glc [("_law_each", 7)] (items := Gs) (y := fun c => En.rp (CHG K n m c)) (bb := fun _ => true) (ifs := []) (r := fun c => dW K (KW.wordBy (KW.wA m) n c)) rfl sc__law_right.nd (giceq (gic (gi_tup (gr 6 rfl))) (by rw [List.map_map] <;> rfl)) (blkOk_by (N := N__law_right) (sc := defScope s__law_right) (by decide +kernel))
    (fun x _ _ _ _ _ _ => tgn 7 sc__law_right.nd) (fun _ _ i hi => hi) (fun _ _ _ _ _ _ _ => pts0) (fun c hc _ _ _ _ _ _ => gprop pw hr (gr 7 rfl) chg_ins ⟨n, m, c, gcc c hc, rfl, rfl⟩) (by omega)) (o1 := .mu (LS ((Gs.map (KW.wordBy (KW.wA m) n)).map (dW K)))) (by rw [map_wd]))) (gal (glst (acons (gprop pw hr (gr 7 rfl) chg_ins ⟨n, m, e, oc, rfl, rfl⟩) anil))) (by simp; omega)) (o1 := .mu (LS ((Gs.map (KW.wordBy (KW.wA m) n) ++ [KW.wordBy (KW.wA m) n e]).map (dW K)))) (by rw [List.map_append] <;> rfl)) ?_
  refine bifR (gval (gcl crw hr (acons (gM 1 rfl) (acons (gM 8 rfl) anil)) ⟨n, m, Gs.map (KW.wordBy (KW.wA m) n) ++ [KW.wordBy (KW.wA m) n e], hm, h6, fun u hu => by
    rcases List.mem_append.mp hu with hu | hu
    · exact gws u hu
    · rw [List.mem_singleton.mp hu]
      exact ⟨w3, by omega⟩, by simp; omega, rfl, rfl⟩)) (fun h => ?_) fun _ => ?_
  · have hon := KW.law_on hm or.2.1 he (by rw [← hGs]; exact h)
    rw [← hGs] at hon
    have ob : okX n m (KW.firstW m n r ++ KW.firstW m n (KW.wordBy (KW.wA m) n e)) := ⟨hT, KW.okw.app ofr.2.1 fw, by rw [List.length_append]; omega⟩
    exact bret (gcm (ceqCs Z FC hbc hr (by decide) pass0 hon (gcl cgr hr (acons (gmulO FM Z.mul.1 Z.mul.2.1 Z.mul.2.2 hbm hr (gr 5 rfl) (gcl clf hr (acons (gr 7 rfl) anil) ⟨n, m, e, oc, rfl, rfl⟩) pos_ins pos_ins ⟨n, m, _, _, ob, rfl, rfl⟩) anil) ⟨n, m, _, ⟨hT, KW.firstW_ok C hm ob.2.1, by rw [KW.firstW_len C hm ob.2.1]; exact ob.2.2⟩, rfl, rfl⟩) (geq (gcatT (gr 6 rfl) (gtup (acons (gr 7 rfl) anil)) (by simp; omega)) (by rw [List.map_append] <;> rfl)))) rfl
  · have htl := KW.law_tail hm ofr.2.1
    rw [← hGs] at htl
    have tok : ∀ c ∈ Gs.tail, KW.okw n c := fun c hc => gok c (List.mem_of_mem_tail hc)
    have ft := flat_tail Gs
    have pl := put_len hm Gs.tail tok Gs.tail.length (Nat.le_refl _)
    rw [List.take_length] at pl
    have hcut : cutR (Gs.map (CHG K n m)) (some 1) none = Gs.tail.map (CHG K n m) := by
      refine (cut_drop _ 1).trans ?_
      rw [← List.map_drop, List.drop_one]
    exact bret (geq (gworV (gcm (ceq0 hr (gr 6 rfl) (gtup anil))) fun _ => gone (gcm (ceqCs Z FC hbc hr (by decide) pass0 htl (gcl cgr hr (acons (gcl cpt hr (acons (gr 2 rfl) (acons (gslT (gr 6 rfl) (oi gint) on hcut) anil)) ⟨n, m, Gs.tail, hT, tok, by omega, rfl, rfl⟩) anil) ⟨n, m, _, ⟨hT, (KW.put_br hm Gs.tail tok).1, by omega⟩, rfl, rfl⟩) (gslT (gr 6 rfl) (oi gint) on hcut)))) (o1 := .rp (TBl true)) (by rw [Bool.or_true])) rfl
end
end KP
end
section
set_option maxRecDepth 100000
set_option maxHeartbeats 4000000
namespace KG
open PySem PySem.Spec PyProof.Rows L2
section
variable {X : Cx} {B : Bs} {E : List En} {a b e : Expr} {pos p : Pos} {i j : Int}
theorem gmin2 (hc : X.calm = true) (hm : X.mg "min" = none) (ha : GE X B E a (.rp (TI i))) (hb : GE X B E b (.rp (TI j))) (hg : Gl X "min" := by rfl) (hs : starEach [a, b] X.env = (false, eval a X.env) :: starEach [b] X.env := by rfl)
    (hs2 : starEach [b] X.env = (false, eval b X.env) :: starEach [] X.env := by rfl) (hp : (backTo pos (starEach [b] X.env)).any (·.1) = false := by rfl) : GE X B E (.Call (.Name "min" p) [a, b] [] pos) (.rp (TI (if j < i then j else i))) :=
  peI (pe_callB (call_min2 hc) hg hm boot_min (acons ha (acons hb anil hs2) hs) (by decide) (by decide) hs hp) (callI fun H vs H2 Q _ _ ov q => by
    obtain ⟨v, u, rfl, hv, hu⟩ := outs2 ov
    obtain rfl : v = .int i := hv
    obtain rfl : u = .int j := hu
    exact ⟨i, j, rfl, q _ H2 Rel.refl rfl⟩)
theorem gmax2 (hc : X.calm = true) (hm : X.mg "max" = none) (ha : GE X B E a (.rp (TI i))) (hb : GE X B E b (.rp (TI j))) (hg : Gl X "max" := by rfl) (hs : starEach [a, b] X.env = (false, eval a X.env) :: starEach [b] X.env := by rfl)
    (hs2 : starEach [b] X.env = (false, eval b X.env) :: starEach [] X.env := by rfl) (hp : (backTo pos (starEach [b] X.env)).any (·.1) = false := by rfl) : GE X B E (.Call (.Name "max" p) [a, b] [] pos) (.rp (TI (if j > i then j else i))) :=
  peI (pe_callB (call_max2 hc) hg hm boot_max (acons ha (acons hb anil hs2) hs) (by decide) (by decide) hs hp) (callI fun H vs H2 Q _ _ ov q => by
    obtain ⟨v, u, rfl, hv, hu⟩ := outs2 ov
    obtain rfl : v = .int i := hv
    obtain rfl : u = .int j := hu
    exact ⟨i, j, rfl, q _ H2 Rel.refl rfl⟩)
theorem alls_bls {bs : List Bool} {xs : List V} {H : Hp} (h : Alls (bs.map TBl) xs H) : xs = bs.map V.bl := by
  induction bs generalizing xs with
  | nil => cases h; rfl
  | cons n ns ih =>
    cases h with
    | cons q t => rw [List.map_cons, ih t, show _ = V.bl n from q]
theorem gall {bs : List Bool} (hc : X.calm = true) (hm : X.mg "all" = none) (ha : GE X B E e (.al (LS (bs.map TBl)))) (hg : Gl X "all" := by rfl) (hs : starEach [e] X.env = (false, eval e X.env) :: starEach [] X.env := by rfl) : GE X B E (.Call (.Name "all" p) [e] [] pos) (.rp (TBl (bs.all id))) :=
  peI (pe_callB (cr_all hc) hg hm boot_all (acons ha anil hs) (by decide) (by decide) hs rfl) (callI fun H vs H2 Q _ _ ov q => by
    obtain ⟨v, rfl, fp, ⟨a, xs, e1, rfl, h1, h2⟩, hw⟩ := outs1 ov
    rw [alls_bls h2] at h1
    exact ⟨a, bs, rfl, .of h1, q _ H2 Rel.refl rfl⟩)
end
end KG
namespace KP
open PySem PySem.Spec PyProof.Rows L2 KG KJ
open KW (G Wd)
section
variable {P : Program} {w : World} {K : PySem.W.Frag} {mg : Str → Option Value} {base : Heap} {f : Addr} {fd : FuncData}
def F_law (K : PySem.W.Frag) : Option Addr → List En → En → Prop := fun _ ins o => ∃ ns : List Int, ins = [.rp (SCR K ns)] ∧ o = .rp (TBl true)
theorem ok_law (T : Tx K mg) (cw : C8.Cal P w K mg base 1 "_law_well" (PM (F_law_well K)) []) (cr : C8.Cal P w K mg base 13 "_law_right" (PM F_law_right) []) (F : FnT K "law" s_law f fd) : FnOk P w K mg base CX0 14 f fd ["_law_script"] (PM (F_law K)) := by
  refine pm_ok F sc_law (fun _ _ _ ⟨_, e, _⟩ => by rw [e] <;> rfl) fun cdv A0 outer s0 Ex B ins o hF hr => ?_
  obtain ⟨ns, rfl, rfl⟩ := hF
  refine ⟨[.rp (SCR K ns), .no], rfl, ?_⟩
  obtain ⟨n, hn, hn3⟩ : ∃ n : Nat, (if (if (3 : Int) < (ns.length : Int) then (3 : Int) else (ns.length : Int)) > 2 then (if (3 : Int) < (ns.length : Int) then (3 : Int) else (ns.length : Int)) else 2) = (n : Int) ∧ n ≤ 3 := by
    by_cases c : (3 : Int) < (ns.length : Int)
    · rw [if_pos c]
      exact ⟨3, by decide, by decide⟩
    · rw [if_neg c]
      by_cases d : (ns.length : Int) > 2
      · rw [if_pos d]
        exact ⟨ns.length, rfl, by omega⟩
      · rw [if_neg d]
        exact ⟨2, rfl, by decide⟩
  refine bret (geq (gall (bs := (List.range n).map fun _ => true) rfl T.all (gal (geq (glc [("_law_turn", 1)] (items := List.range n) (y := fun (i : Nat) => En.rp (TI i)) (bb := fun _ => true) (ifs := []) (r := fun _ => TBl true) rfl sc_law.nd (gic (gi_range T.range (geq (gmax2 rfl T.max gint (gmin2 rfl T.min (glen T.len (gr 0 rfl) szS) gint)) (congrArg (fun z => En.rp (TI z)) hn)) (by omega))) (blkOk_by (N := N_law) (sc := defScope s_law) (by decide +kernel))
    (fun x _ _ _ _ _ _ => tgn 1 sc_law.nd) (fun _ _ i hi => hi) (fun _ _ _ _ _ _ _ => pts0) (fun i _ _ _ _ _ _ _ => gclN cr hr (gcl cw hr (acons (gr 0 rfl) (acons (gr 1 rfl) anil)) ⟨ns, i, rfl, rfl⟩) fun _ => ⟨rfl, rfl⟩) (by simp; omega)) (by
      rw [show (List.range n).filter (fun _ => true) = List.range n by simp, List.map_map] <;> rfl)))) (o1 := .rp (TBl true)) (by
      congr 2
      rw [List.all_map]
      exact List.all_eq_true.mpr fun _ _ => rfl)) rfl
end
end KP
end
section
set_option maxRecDepth 100000
set_option maxHeartbeats 8000000
/-! the head's facts put together -/
namespace KP
open PySem PySem.Spec PyProof.Rows L2 KG KJ KH
section
variable {P : Program} {w : World} {K : PySem.W.Frag} {h : Heap} {mg : Str → Option Value}
theorem tx_of (X : K.In h) (G : h.Ns mainGlobals mg) (c : SaysG fa fn ex K) : Tx K mg := by
  have z : ex K = true := c.more
  unfold ex at z
  obtain ⟨e1, z⟩ := He.ba z
  obtain ⟨e2, z⟩ := He.ba z
  obtain ⟨e3, z⟩ := He.ba z
  obtain ⟨e4, z⟩ := He.ba z
  obtain ⟨e5, z⟩ := He.ba z
  obtain ⟨e6, z⟩ := He.ba z
  obtain ⟨e7, z⟩ := He.ba z
  obtain ⟨e8, z⟩ := He.ba z
  obtain ⟨e9, z⟩ := He.ba z
  obtain ⟨e10, z⟩ := He.ba z
  exact ⟨He.free_ok X G (c.facts (List.mem_of_getElem? (i := 66) rfl)), He.free_ok X G (c.facts (List.mem_of_getElem? (i := 67) rfl)), He.free_ok X G (c.facts (List.mem_of_getElem? (i := 68) rfl)), He.free_ok X G (c.facts (List.mem_of_getElem? (i := 69) rfl)), He.free_ok X G (c.facts (List.mem_of_getElem? (i := 70) rfl)), He.free_ok X G (c.facts (List.mem_of_getElem? (i := 71) rfl)), He.free_ok X G (c.facts (List.mem_of_getElem? (i := 72) rfl)), He.free_ok X G (c.facts (List.mem_of_getElem? (i := 73) rfl)), He.free_ok X G (c.facts (List.mem_of_getElem? (i := 74) rfl)), He.free_ok X G (c.facts (List.mem_of_getElem? (i := 75) rfl)), He.free_ok X G (c.facts (List.mem_of_getElem? (i := 76) rfl)), He.free_ok X G (c.facts (List.mem_of_getElem? (i := 77) rfl)), He.free_ok X G (c.facts (List.mem_of_getElem? (i := 78) rfl)), He.free_ok X G (c.facts (List.mem_of_getElem? (i := 79) rfl)), He.free_ok X G (c.facts (List.mem_of_getElem? (i := 80) rfl)), He.int_ok X G (c.facts (List.mem_of_getElem? (i := 81) rfl)), He.int_ok X G (c.facts (List.mem_of_getElem? (i := 82) rfl)), (He.glo_ok X G (c.facts (List.mem_of_getElem? (i := 59) rfl))), fun H => He.tupB_ok e8 H, (He.glo_ok X G (c.facts (List.mem_of_getElem? (i := 60) rfl))), fun H => He.tupB_ok e9 H, (He.glo_ok X G (c.facts (List.mem_of_getElem? (i := 61) rfl))), fun k a b hm => dicB_ok e10 hm, (He.glo_ok X G (c.facts (List.mem_of_getElem? (i := 62) rfl))), fun k a b hm => dicB_ok z hm⟩
theorem tk_Table (X : K.In h) (G : h.Ns mainGlobals mg) (c : SaysG fa fn ex K) (e : insB K "Table" = true) : Tk K mg "Table" ["ties", "size", "pairs", "pieces"] := by
  have cl : Cls K (He.ga K "Table") := He.cls_ok (c.facts (List.mem_of_getElem? (i := 83) rfl))
  obtain ⟨i1, i2, i3, i4, i5⟩ := ins_ok cl e
  refine ⟨(He.glo_ok X G (c.facts (List.mem_of_getElem? (i := 63) rfl))), cl, fun f hf => ?_, i1, i2, i3, i4, i5, He.mkr_ok (c.facts (List.mem_of_getElem? (i := 84) rfl))⟩
  simp only [List.mem_cons, List.not_mem_nil, or_false] at hf
  rcases hf with rfl | rfl | rfl | rfl
  · exact He.noat_ok (c.facts (List.mem_of_getElem? (i := 89) rfl))
  · exact He.noat_ok (c.facts (List.mem_of_getElem? (i := 90) rfl))
  · exact He.noat_ok (c.facts (List.mem_of_getElem? (i := 91) rfl))
  · exact He.noat_ok (c.facts (List.mem_of_getElem? (i := 92) rfl))
theorem tk_Change (X : K.In h) (G : h.Ns mainGlobals mg) (c : SaysG fa fn ex K) (e : insB K "Change" = true) : Tk K mg "Change" ["table", "_ahead", "_back"] := by
  have cl : Cls K (He.ga K "Change") := He.cls_ok (c.facts (List.mem_of_getElem? (i := 85) rfl))
  obtain ⟨i1, i2, i3, i4, i5⟩ := ins_ok cl e
  refine ⟨(He.glo_ok X G (c.facts (List.mem_of_getElem? (i := 64) rfl))), cl, fun f hf => ?_, i1, i2, i3, i4, i5, He.mkr_ok (c.facts (List.mem_of_getElem? (i := 86) rfl))⟩
  simp only [List.mem_cons, List.not_mem_nil, or_false] at hf
  rcases hf with rfl | rfl | rfl
  · exact He.noat_ok (c.facts (List.mem_of_getElem? (i := 93) rfl))
  · exact He.noat_ok (c.facts (List.mem_of_getElem? (i := 94) rfl))
  · exact He.noat_ok (c.facts (List.mem_of_getElem? (i := 95) rfl))
theorem tk_Positive (X : K.In h) (G : h.Ns mainGlobals mg) (c : SaysG fa fn ex K) (e : insB K "Positive" = true) : Tk K mg "Positive" ["table", "_word"] := by
  have cl : Cls K (He.ga K "Positive") := He.cls_ok (c.facts (List.mem_of_getElem? (i := 87) rfl))
  obtain ⟨i1, i2, i3, i4, i5⟩ := ins_ok cl e
  refine ⟨(He.glo_ok X G (c.facts (List.mem_of_getElem? (i := 65) rfl))), cl, fun f hf => ?_, i1, i2, i3, i4, i5, He.mkr_ok (c.facts (List.mem_of_getElem? (i := 88) rfl))⟩
  simp only [List.mem_cons, List.not_mem_nil, or_false] at hf
  rcases hf with rfl | rfl
  · exact He.noat_ok (c.facts (List.mem_of_getElem? (i := 96) rfl))
  · exact He.noat_ok (c.facts (List.mem_of_getElem? (i := 97) rfl))
theorem tc_of (X : K.In h) (G : h.Ns mainGlobals mg) (c : SaysG fa fn ex K) : Tc K mg := by
  have z : ex K = true := c.more
  unfold ex at z
  obtain ⟨e1, z⟩ := He.ba z
  obtain ⟨e2, z⟩ := He.ba z
  obtain ⟨e3, z⟩ := He.ba z
  obtain ⟨e4, z⟩ := He.ba z
  obtain ⟨e5, z⟩ := He.ba z
  obtain ⟨e6, z⟩ := He.ba z
  obtain ⟨e7, z⟩ := He.ba z
  exact ⟨tk_Table X G c e1, tk_Change X G c e2, tk_Positive X G c e3, mul_ok e4, prp_ok e5, prp_ok e6, prp_ok e7⟩
theorem bindsI {K : PySem.W.Frag} {st : Stmt} {x q : Str} {f : Addr} {fd : FuncData} {a b c d : Str} {v : V} (F : FnM K x q st [v] f fd)
    (h : ∀ (T : Addr) (kV doc pm : Value) (an : Option Addr) (cdv ct : Value) (us its : List Value), us.length = 3 → its.length = 1 → ∃ k, bindArgs (PySem.W.fnOf x q (defArgs st) (defBody st) (defScope st) (.ref T) kV doc pm an cdv ct) ⟨us, []⟩ = seqItems? (.ref T) >>= k ∧ k (some its.toArray) = pure ([a, b, c, d].zip (us ++ its.drop 0))) : ∃ ds, Vals [v] ds ∧ Binds K fd [a, b, c, d] ds :=
  FunD.binds1 F 3 0 (by simp) rfl h
theorem kbindsI {K : PySem.W.Frag} {st : Stmt} {x q : Str} {f : Addr} {fd : FuncData} {a b c d : Str} {v : V} (F : FnM K x q st [v] f fd)
    (h : ∀ (T : Addr) (kV doc pm : Value) (an : Option Addr) (cdv ct : Value) (us its ws : List Value), us.length = 3 → its.length = 1 → ws.length = 1 → ∃ k, bindArgs (PySem.W.fnOf x q (defArgs st) (defBody st) (defScope st) (.ref T) kV doc pm an cdv ct) ⟨us, [d].zip ws⟩ = seqItems? (.ref T) >>= k ∧ k (some its.toArray) = pure ([a, b, c, d].zip (us ++ ws))) : ∃ its : List Value, KBn K fd [a, b, c, d] 3 [d] (fun us ws => us ++ ws) (fun vs zs => vs ++ zs) :=
  FunD.kbindsD F 3 [d] (fun us _ ws => us ++ ws) (by simp) (fun r1 _ r3 => Vals.append r1 r3) h
theorem facts {f : Addr} (X : K.In h) (G : h.Ns mainGlobals mg) (hfa : mg ("law" : Str) = some (.ref f)) (c : SaysG fa fn ex K) :
    ∃ fd : FuncData, (∀ (s : Shared) (v : Value), BindsTo s fd ⟨[v], []⟩ [("_law_script", v)]) ∧ ∀ base : Heap, K.In base → base.Ns mainGlobals mg → FnOk P w K mg base CX0 14 f fd ["_law_script"] (PM (F_law K)) := by
  have T := tx_of X G c
  have Z := tc_of X G c
  obtain ⟨fd_is_whole, q_is_whole⟩ := c.def_ 0 (d := d_is_whole) rfl
  have q_is_whole : FnT K "is_whole" s_is_whole (He.ga K "is_whole") fd_is_whole := q_is_whole
  obtain ⟨fd_pair_sign, q_pair_sign⟩ := c.def_ 1 (d := d_pair_sign) rfl
  have q_pair_sign : FnT K "pair_sign" s_pair_sign (He.ga K "pair_sign") fd_pair_sign := q_pair_sign
  obtain ⟨fd_axis_of, q_axis_of⟩ := c.def_ 2 (d := d_axis_of) rfl
  have q_axis_of : FnT K "axis_of" s_axis_of (He.ga K "axis_of") fd_axis_of := q_axis_of
  obtain ⟨fd_all_axes, q_all_axes⟩ := c.def_ 3 (d := d_all_axes) rfl
  have q_all_axes : FnT K "all_axes" s_all_axes (He.ga K "all_axes") fd_all_axes := q_all_axes
  obtain ⟨fd_is_down, q_is_down⟩ := c.def_ 4 (d := d_is_down) rfl
  have q_is_down : FnT K "is_down" s_is_down (He.ga K "is_down") fd_is_down := q_is_down
  obtain ⟨fd_level_at, q_level_at⟩ := c.def_ 5 (d := d_level_at) rfl
  have q_level_at : FnT K "level_at" s_level_at (He.ga K "level_at") fd_level_at := q_level_at
  obtain ⟨fd_turned, q_turned⟩ := c.def_ 6 (d := d_turned) rfl
  have q_turned : FnT K "turned" s_turned (He.ga K "turned") fd_turned := q_turned
  obtain ⟨fd_vector_less, q_vector_less⟩ := c.def_ 7 (d := d_vector_less) rfl
  have q_vector_less : FnT K "vector_less" s_vector_less (He.ga K "vector_less") fd_vector_less := q_vector_less
  obtain ⟨fd_pressed_behind, q_pressed_behind⟩ := c.def_ 8 (d := d_pressed_behind) rfl
  have q_pressed_behind : FnT K "pressed_behind" s_pressed_behind (He.ga K "pressed_behind") fd_pressed_behind := q_pressed_behind
  obtain ⟨fd_pressed_front, q_pressed_front⟩ := c.def_ 9 (d := d_pressed_front) rfl
  have q_pressed_front : FnT K "pressed_front" s_pressed_front (He.ga K "pressed_front") fd_pressed_front := q_pressed_front
  obtain ⟨fd_images_of, q_images_of⟩ := c.def_ 10 (d := d_images_of) rfl
  have q_images_of : FnT K "images_of" s_images_of (He.ga K "images_of") fd_images_of := q_images_of
  obtain ⟨fd_down_buttons, q_down_buttons⟩ := c.def_ 11 (d := d_down_buttons) rfl
  have q_down_buttons : FnT K "down_buttons" s_down_buttons (He.ga K "down_buttons") fd_down_buttons := q_down_buttons
  obtain ⟨fd_word_by, q_word_by⟩ := c.def_ 12 (d := d_word_by) rfl
  have q_word_by : FnT K "word_by" s_word_by (He.ga K "word_by") fd_word_by := q_word_by
  obtain ⟨fd_is_button, q_is_button⟩ := c.def_ 13 (d := d_is_button) rfl
  have q_is_button : FnT K "is_button" s_is_button (He.ga K "is_button") fd_is_button := q_is_button
  obtain ⟨fd_is_right_row, q_is_right_row⟩ := c.def_ 14 (d := d_is_right_row) rfl
  have q_is_right_row : FnT K "is_right_row" s_is_right_row (He.ga K "is_right_row") fd_is_right_row := q_is_right_row
  obtain ⟨fd_first_wrong_row, q_first_wrong_row⟩ := c.def_ 15 (d := d_first_wrong_row) rfl
  have q_first_wrong_row : FnT K "first_wrong_row" s_first_wrong_row (He.ga K "first_wrong_row") fd_first_wrong_row := q_first_wrong_row
  obtain ⟨fd_weight_pairs, q_weight_pairs⟩ := c.def_ 16 (d := d_weight_pairs) rfl
  have q_weight_pairs : FnT K "weight_pairs" s_weight_pairs (He.ga K "weight_pairs") fd_weight_pairs := q_weight_pairs
  obtain ⟨fd_piece_from, q_piece_from⟩ := c.def_ 17 (d := d_piece_from) rfl
  have q_piece_from : FnT K "piece_from" s_piece_from (He.ga K "piece_from") fd_piece_from := q_piece_from
  obtain ⟨fd_pieces_of, q_pieces_of⟩ := c.def_ 18 (d := d_pieces_of) rfl
  have q_pieces_of : FnT K "pieces_of" s_pieces_of (He.ga K "pieces_of") fd_pieces_of := q_pieces_of
  obtain ⟨fd_check_table, q_check_table⟩ := c.def_ 19 (d := d_check_table) rfl
  have q_check_table : FnT K "check_table" s_check_table (He.ga K "check_table") fd_check_table := q_check_table
  obtain ⟨fd_wrong_in_word, q_wrong_in_word⟩ := c.def_ 20 (d := d_wrong_in_word) rfl
  have q_wrong_in_word : FnT K "wrong_in_word" s_wrong_in_word (He.ga K "wrong_in_word") fd_wrong_in_word := q_wrong_in_word
  obtain ⟨fd_check_word, q_check_word⟩ := c.def_ 21 (d := d_check_word) rfl
  have q_check_word : FnT K "check_word" s_check_word (He.ga K "check_word") fd_check_word := q_check_word
  obtain ⟨fd_check_same_table, q_check_same_table⟩ := c.def_ 22 (d := d_check_same_table) rfl
  have q_check_same_table : FnT K "check_same_table" s_check_same_table (He.ga K "check_same_table") fd_check_same_table := q_check_same_table
  obtain ⟨fd_change_made, q_change_made⟩ := c.def_ 23 (d := d_change_made) rfl
  have q_change_made : FnT K "change_made" s_change_made (He.ga K "change_made") fd_change_made := q_change_made
  obtain ⟨fd_check_change, q_check_change⟩ := c.def_ 24 (d := d_check_change) rfl
  have q_check_change : FnT K "check_change" s_check_change (He.ga K "check_change") fd_check_change := q_check_change
  obtain ⟨fd_led_behind, q_led_behind⟩ := c.def_ 25 (d := d_led_behind) rfl
  have q_led_behind : FnT K "led_behind" s_led_behind (He.ga K "led_behind") fd_led_behind := q_led_behind
  obtain ⟨fd_plain, q_plain⟩ := c.def_ 26 (d := d_plain) rfl
  have q_plain : FnT K "plain" s_plain (He.ga K "plain") fd_plain := q_plain
  obtain ⟨fd_stretch, q_stretch⟩ := c.def_ 27 (d := d_stretch) rfl
  have q_stretch : FnT K "stretch" s_stretch (He.ga K "stretch") fd_stretch := q_stretch
  obtain ⟨fd_tokens_for, q_tokens_for⟩ := c.def_ 28 (d := d_tokens_for) rfl
  have q_tokens_for : FnT K "tokens_for" s_tokens_for (He.ga K "tokens_for") fd_tokens_for := q_tokens_for
  obtain ⟨fd_completions, q_completions⟩ := c.def_ 29 (d := d_completions) rfl
  have q_completions : FnT K "completions" s_completions (He.ga K "completions") fd_completions := q_completions
  obtain ⟨fd_taken, q_taken⟩ := c.def_ 30 (d := d_taken) rfl
  have q_taken : FnT K "taken" s_taken (He.ga K "taken") fd_taken := q_taken
  obtain ⟨fd_front_buttons, q_front_buttons⟩ := c.def_ 31 (d := d_front_buttons) rfl
  have q_front_buttons : FnT K "front_buttons" s_front_buttons (He.ga K "front_buttons") fd_front_buttons := q_front_buttons
  obtain ⟨fd_first_word, q_first_word⟩ := c.def_ 32 (d := d_first_word) rfl
  have q_first_word : FnT K "first_word" s_first_word (He.ga K "first_word") fd_first_word := q_first_word
  obtain ⟨fd_positive_made, q_positive_made⟩ := c.def_ 33 (d := d_positive_made) rfl
  have q_positive_made : FnT K "positive_made" s_positive_made (He.ga K "positive_made") fd_positive_made := q_positive_made
  obtain ⟨fd_check_positive, q_check_positive⟩ := c.def_ 34 (d := d_check_positive) rfl
  have q_check_positive : FnT K "check_positive" s_check_positive (He.ga K "check_positive") fd_check_positive := q_check_positive
  obtain ⟨fd_lifted, q_lifted⟩ := c.def_ 35 (d := d_lifted) rfl
  have q_lifted : FnT K "lifted" s_lifted (He.ga K "lifted") fd_lifted := q_lifted
  obtain ⟨fd_head_of, q_head_of⟩ := c.def_ 36 (d := d_head_of) rfl
  have q_head_of : FnT K "head_of" s_head_of (He.ga K "head_of") fd_head_of := q_head_of
  obtain ⟨fd_grains_of, q_grains_of⟩ := c.def_ 37 (d := d_grains_of) rfl
  have q_grains_of : FnT K "grains_of" s_grains_of (He.ga K "grains_of") fd_grains_of := q_grains_of
  obtain ⟨fd_grains, q_grains⟩ := c.def_ 38 (d := d_grains) rfl
  have q_grains : FnT K "grains" s_grains (He.ga K "grains") fd_grains := q_grains
  obtain ⟨fd__law_well, q__law_well⟩ := c.def_ 39 (d := d__law_well) rfl
  have q__law_well : FnT K "_law_well" s__law_well (He.ga K "_law_well") fd__law_well := q__law_well
  obtain ⟨fd__law_dip, q__law_dip⟩ := c.def_ 40 (d := d__law_dip) rfl
  have q__law_dip : FnT K "_law_dip" s__law_dip (He.ga K "_law_dip") fd__law_dip := q__law_dip
  obtain ⟨fd__law_pick, q__law_pick⟩ := c.def_ 41 (d := d__law_pick) rfl
  have q__law_pick : FnT K "_law_pick" s__law_pick (He.ga K "_law_pick") fd__law_pick := q__law_pick
  obtain ⟨fd__law_any, q__law_any⟩ := c.def_ 42 (d := d__law_any) rfl
  have q__law_any : FnT K "_law_any" s__law_any (He.ga K "_law_any") fd__law_any := q__law_any
  obtain ⟨fd__law_mixed, q__law_mixed⟩ := c.def_ 43 (d := d__law_mixed) rfl
  have q__law_mixed : FnT K "_law_mixed" s__law_mixed (He.ga K "_law_mixed") fd__law_mixed := q__law_mixed
  obtain ⟨fd__law_chained, q__law_chained⟩ := c.def_ 44 (d := d__law_chained) rfl
  have q__law_chained : FnT K "_law_chained" s__law_chained (He.ga K "_law_chained") fd__law_chained := q__law_chained
  obtain ⟨fd__law_drawn, q__law_drawn⟩ := c.def_ 45 (d := d__law_drawn) rfl
  have q__law_drawn : FnT K "_law_drawn" s__law_drawn (He.ga K "_law_drawn") fd__law_drawn := q__law_drawn
  obtain ⟨fd__law_grid, q__law_grid⟩ := c.def_ 46 (d := d__law_grid) rfl
  have q__law_grid : FnT K "_law_grid" s__law_grid (He.ga K "_law_grid") fd__law_grid := q__law_grid
  obtain ⟨fd__law_letters, q__law_letters⟩ := c.def_ 47 (d := d__law_letters) rfl
  have q__law_letters : FnT K "_law_letters" s__law_letters (He.ga K "_law_letters") fd__law_letters := q__law_letters
  obtain ⟨fd__law_times, q__law_times⟩ := c.def_ 48 (d := d__law_times) rfl
  have q__law_times : FnT K "_law_times" s__law_times (He.ga K "_law_times") fd__law_times := q__law_times
  obtain ⟨fd__law_press, q__law_press⟩ := c.def_ 49 (d := d__law_press) rfl
  have q__law_press : FnT K "_law_press" s__law_press (He.ga K "_law_press") fd__law_press := q__law_press
  obtain ⟨fd__law_state, q__law_state⟩ := c.def_ 50 (d := d__law_state) rfl
  have q__law_state : FnT K "_law_state" s__law_state (He.ga K "_law_state") fd__law_state := q__law_state
  obtain ⟨fd__law_is_low, q__law_is_low⟩ := c.def_ 51 (d := d__law_is_low) rfl
  have q__law_is_low : FnT K "_law_is_low" s__law_is_low (He.ga K "_law_is_low") fd__law_is_low := q__law_is_low
  obtain ⟨fd__law_low, q__law_low⟩ := c.def_ 52 (d := d__law_low) rfl
  have q__law_low : FnT K "_law_low" s__law_low (He.ga K "_law_low") fd__law_low := q__law_low
  obtain ⟨fd__law_fronts, q__law_fronts⟩ := c.def_ 53 (d := d__law_fronts) rfl
  have q__law_fronts : FnT K "_law_fronts" s__law_fronts (He.ga K "_law_fronts") fd__law_fronts := q__law_fronts
  obtain ⟨fd__law_is_row, q__law_is_row⟩ := c.def_ 54 (d := d__law_is_row) rfl
  have q__law_is_row : FnT K "_law_is_row" s__law_is_row (He.ga K "_law_is_row") fd__law_is_row := q__law_is_row
  obtain ⟨fd__law_put_together, q__law_put_together⟩ := c.def_ 55 (d := d__law_put_together) rfl
  have q__law_put_together : FnT K "_law_put_together" s__law_put_together (He.ga K "_law_put_together") fd__law_put_together := q__law_put_together
  obtain ⟨fd__law_is_head_right, q__law_is_head_right⟩ := c.def_ 56 (d := d__law_is_head_right) rfl
  have q__law_is_head_right : FnT K "_law_is_head_right" s__law_is_head_right (He.ga K "_law_is_head_right") fd__law_is_head_right := q__law_is_head_right
  obtain ⟨fd__law_right, q__law_right⟩ := c.def_ 57 (d := d__law_right) rfl
  have q__law_right : FnT K "_law_right" s__law_right (He.ga K "_law_right") fd__law_right := q__law_right
  obtain ⟨fd_law, q_law⟩ := c.def_ 58 (d := d_law) rfl
  have q_law : FnT K "law" s_law (He.ga K "law") fd_law := q_law
  obtain ⟨fd_Table_init, q_Table_init⟩ := c.def_ 59 (d := d_Table_init) rfl
  have q_Table_init : FnM K "__init__" "Table.__init__" s_Table_init [] (He.ma K (cT K) "__init__") fd_Table_init := q_Table_init
  obtain ⟨fd_Table_eq, q_Table_eq⟩ := c.def_ 60 (d := d_Table_eq) rfl
  have q_Table_eq : FnM K "__eq__" "Table.__eq__" s_Table_eq [] (He.ma K (cT K) "__eq__") fd_Table_eq := q_Table_eq
  obtain ⟨fd_Change_init, q_Change_init⟩ := c.def_ 61 (d := d_Change_init) rfl
  have q_Change_init : FnM K "__init__" "Change.__init__" s_Change_init [.non] (He.ma K (cC K) "__init__") fd_Change_init := q_Change_init
  obtain ⟨fd_Change_word, q_Change_word⟩ := c.def_ 62 (d := d_Change_word) rfl
  have q_Change_word : FnM K "word" "Change.word" s_Change_word [] (KH.gA K "Change" "word") fd_Change_word := q_Change_word
  obtain ⟨fd_Change_backs, q_Change_backs⟩ := c.def_ 63 (d := d_Change_backs) rfl
  have q_Change_backs : FnM K "backs" "Change.backs" s_Change_backs [] (KH.gA K "Change" "backs") fd_Change_backs := q_Change_backs
  obtain ⟨fd_Change_eq, q_Change_eq⟩ := c.def_ 64 (d := d_Change_eq) rfl
  have q_Change_eq : FnM K "__eq__" "Change.__eq__" s_Change_eq [] (He.ma K (cC K) "__eq__") fd_Change_eq := q_Change_eq
  obtain ⟨fd_Positive_init, q_Positive_init⟩ := c.def_ 65 (d := d_Positive_init) rfl
  have q_Positive_init : FnM K "__init__" "Positive.__init__" s_Positive_init [.bl false] (He.ma K (cP K) "__init__") fd_Positive_init := q_Positive_init
  obtain ⟨fd_Positive_word, q_Positive_word⟩ := c.def_ 66 (d := d_Positive_word) rfl
  have q_Positive_word : FnM K "word" "Positive.word" s_Positive_word [] (KH.gA K "Positive" "word") fd_Positive_word := q_Positive_word
  obtain ⟨fd_Positive_eq, q_Positive_eq⟩ := c.def_ 67 (d := d_Positive_eq) rfl
  have q_Positive_eq : FnM K "__eq__" "Positive.__eq__" s_Positive_eq [] (He.ma K (cP K) "__eq__") fd_Positive_eq := q_Positive_eq
  obtain ⟨fd_Positive_mul, q_Positive_mul⟩ := c.def_ 68 (d := d_Positive_mul) rfl
  have q_Positive_mul : FnM K "__mul__" "Positive.__mul__" s_Positive_mul [] (He.ma K (cP K) "__mul__") fd_Positive_mul := q_Positive_mul
  have e := hfa.symm.trans (He.glo_ok X G (c.facts (List.mem_of_getElem? (i := 58) rfl)))
  cases e
  have bl := FunD.bindsA (ps := ["_law_script"]) q_law fun _ _ _ _ _ _ us hl => match us, hl with | [_], _ => rfl
  have bTe : Binds K fd_Table_eq ["self", "other"] [] := FunD.bindsN q_Table_eq fun _ _ _ _ _ _ us hl => match us, hl with | [_, _], _ => rfl
  have bCe : Binds K fd_Change_eq ["self", "other"] [] := FunD.bindsN q_Change_eq fun _ _ _ _ _ _ us hl => match us, hl with | [_, _], _ => rfl
  have bPe : Binds K fd_Positive_eq ["self", "other"] [] := FunD.bindsN q_Positive_eq fun _ _ _ _ _ _ us hl => match us, hl with | [_, _], _ => rfl
  have bPm : Binds K fd_Positive_mul ["self", "other"] [] := FunD.bindsN q_Positive_mul fun _ _ _ _ _ _ us hl => match us, hl with | [_, _], _ => rfl
  have b_Change_word : Binds K fd_Change_word ["self"] [] := FunD.bindsN q_Change_word fun _ _ _ _ _ _ us hl => match us, hl with | [_], _ => rfl
  have b_Change_backs : Binds K fd_Change_backs ["self"] [] := FunD.bindsN q_Change_backs fun _ _ _ _ _ _ us hl => match us, hl with | [_], _ => rfl
  have b_Positive_word : Binds K fd_Positive_word ["self"] [] := FunD.bindsN q_Positive_word fun _ _ _ _ _ _ us hl => match us, hl with | [_], _ => rfl
  have bTi : Binds K fd_Table_init ["self", "ties"] [] := FunD.bindsN q_Table_init fun _ _ _ _ _ _ us hl => match us, hl with | [_, _], _ => rfl
  obtain ⟨dsC, dvC, bCi⟩ := bindsI (a := "self") (b := "table") (c := "word") (d := "_parts") q_Change_init fun _ _ _ _ _ _ _ us its l1 l2 => match us, its, l1, l2 with | [_, _, _], [_], _, _ => ⟨_, rfl, rfl⟩
  obtain ⟨ksC, kCi⟩ := kbindsI (a := "self") (b := "table") (c := "word") (d := "_parts") q_Change_init fun _ _ _ _ _ _ _ us its ws l1 l2 l3 => match us, its, ws, l1, l2, l3 with | [_, _, _], [_], [_], _, _, _ => ⟨_, rfl, rfl⟩
  obtain ⟨dsP, dvP, bPi⟩ := bindsI (a := "self") (b := "table") (c := "word") (d := "_made") q_Positive_init fun _ _ _ _ _ _ _ us its l1 l2 => match us, its, l1, l2 with | [_, _, _], [_], _, _ => ⟨_, rfl, rfl⟩
  obtain ⟨ksP, kPi⟩ := kbindsI (a := "self") (b := "table") (c := "word") (d := "_made") q_Positive_init fun _ _ _ _ _ _ _ us its ws l1 l2 l3 => match us, its, ws, l1, l2, l3 with | [_, _, _], [_], [_], _, _, _ => ⟨_, rfl, rfl⟩
  refine ⟨fd_law, fun s v => bl s [v] rfl, fun base hK hN => ?_⟩
  have c_is_whole := cal_is_whole q_is_whole (ok_is_whole (P := P) (w := w) (base := base) T q_is_whole) (He.glo_ok X G (c.facts (List.mem_of_getElem? (i := 0) rfl)))
  have c_pair_sign := cal_pair_sign q_pair_sign (ok_pair_sign (P := P) (w := w) (base := base) q_pair_sign) (He.glo_ok X G (c.facts (List.mem_of_getElem? (i := 1) rfl)))
  have c_axis_of := cal_axis_of q_axis_of (ok_axis_of (P := P) (w := w) (base := base) T q_axis_of) (He.glo_ok X G (c.facts (List.mem_of_getElem? (i := 2) rfl)))
  have c_all_axes := cal_all_axes q_all_axes (ok_all_axes (P := P) (w := w) (base := base) T c_axis_of q_all_axes) (He.glo_ok X G (c.facts (List.mem_of_getElem? (i := 3) rfl)))
  have c_is_down := cal_is_down q_is_down (ok_is_down (P := P) (w := w) (base := base) T c_pair_sign q_is_down) (He.glo_ok X G (c.facts (List.mem_of_getElem? (i := 4) rfl)))
  have c_vector_less := cal_vector_less q_vector_less (ok_vector_less (P := P) (w := w) (base := base) T q_vector_less) (He.glo_ok X G (c.facts (List.mem_of_getElem? (i := 7) rfl)))
  have c_pressed_behind := cal_pressed_behind q_pressed_behind (ok_pressed_behind (P := P) (w := w) (base := base) T c_vector_less q_pressed_behind) (He.glo_ok X G (c.facts (List.mem_of_getElem? (i := 8) rfl)))
  have c_images_of := cal_images_of q_images_of (ok_images_of (P := P) (w := w) (base := base) T c_all_axes c_pressed_behind q_images_of) (He.glo_ok X G (c.facts (List.mem_of_getElem? (i := 10) rfl)))
  have c_down_buttons := cal_down_buttons q_down_buttons (ok_down_buttons (P := P) (w := w) (base := base) T c_is_down q_down_buttons) (He.glo_ok X G (c.facts (List.mem_of_getElem? (i := 11) rfl)))
  have c_level_at := cal_level_at q_level_at (ok_level_at (P := P) (w := w) (base := base) T q_level_at) (He.glo_ok X G (c.facts (List.mem_of_getElem? (i := 5) rfl)))
  have c_turned := cal_turned q_turned (ok_turned (P := P) (w := w) (base := base) T c_level_at q_turned) (He.glo_ok X G (c.facts (List.mem_of_getElem? (i := 6) rfl)))
  have c_pressed_front := cal_pressed_front q_pressed_front (ok_pressed_front (P := P) (w := w) (base := base) T c_turned q_pressed_front) (He.glo_ok X G (c.facts (List.mem_of_getElem? (i := 9) rfl)))
  have c_word_by := cal_word_by q_word_by (ok_word_by (P := P) (w := w) (base := base) T c_down_buttons c_pressed_behind q_word_by) (He.glo_ok X G (c.facts (List.mem_of_getElem? (i := 12) rfl)))
  have c_is_button := cal_is_button q_is_button (ok_is_button (P := P) (w := w) (base := base) c_is_whole q_is_button) (He.glo_ok X G (c.facts (List.mem_of_getElem? (i := 13) rfl)))
  have c_is_right_row := cal_is_right_row q_is_right_row (ok_is_right_row (P := P) (w := w) (base := base) T c_is_whole q_is_right_row) (He.glo_ok X G (c.facts (List.mem_of_getElem? (i := 14) rfl)))
  have c_first_wrong_row := cal_first_wrong_row q_first_wrong_row (ok_first_wrong_row (P := P) (w := w) (base := base) T c_is_right_row q_first_wrong_row) (He.glo_ok X G (c.facts (List.mem_of_getElem? (i := 15) rfl)))
  have c_weight_pairs := cal_weight_pairs q_weight_pairs (ok_weight_pairs (P := P) (w := w) (base := base) T q_weight_pairs) (He.glo_ok X G (c.facts (List.mem_of_getElem? (i := 16) rfl)))
  have c_piece_from := cal_piece_from q_piece_from (ok_piece_from (P := P) (w := w) (base := base) T q_piece_from) (He.glo_ok X G (c.facts (List.mem_of_getElem? (i := 17) rfl)))
  have c_pieces_of := cal_pieces_of q_pieces_of (ok_pieces_of (P := P) (w := w) (base := base) T c_piece_from q_pieces_of) (He.glo_ok X G (c.facts (List.mem_of_getElem? (i := 18) rfl)))
  have oTi := ok_Table_init (P := P) (w := w) (base := base) T Z c_first_wrong_row c_weight_pairs c_pieces_of q_Table_init
  have mkT : C8.Mak P w K mg base 4 "Table" (cT K) (PIn (cT K) (I_Table K)) [] := ⟨_, _, _, _, Z.t.mkr, oTi, Z.t.m, bTi, .nil⟩
  have oTe := ok_Table_eq (P := P) (w := w) (base := base) T Z q_Table_eq
  have c_check_table := cal_check_table q_check_table (ok_check_table (P := P) (w := w) (base := base) T Z q_check_table) (He.glo_ok X G (c.facts (List.mem_of_getElem? (i := 19) rfl)))
  have c_wrong_in_word := cal_wrong_in_word q_wrong_in_word (ok_wrong_in_word (P := P) (w := w) (base := base) T Z c_is_button q_wrong_in_word) (He.glo_ok X G (c.facts (List.mem_of_getElem? (i := 20) rfl)))
  have c_check_word := cal_check_word q_check_word (ok_check_word (P := P) (w := w) (base := base) T c_wrong_in_word q_check_word) (He.glo_ok X G (c.facts (List.mem_of_getElem? (i := 21) rfl)))
  have c_check_same_table := cal_check_same_table q_check_same_table (ok_check_same_table (P := P) (w := w) (base := base) (fe := He.ga K "Table") Z oTe bTe q_check_same_table) (He.glo_ok X G (c.facts (List.mem_of_getElem? (i := 22) rfl)))
  have oCi := ok_Change_init (P := P) (w := w) (base := base) T Z c_check_table c_check_word c_images_of q_Change_init
  have mkC : C8.Mak P w K mg base 5 "Change" (cC K) (PIn (cC K) (I_Change K)) [.non] := ⟨_, _, _, _, Z.c.mkr, oCi, Z.c.m, bCi, dvC⟩
  have mnC : MakN P w K mg base 5 "Change" (cC K) (PIn (cC K) (I_Change K)) 2 "_parts" := ⟨_, _, _, _, _, Z.c.mkr, oCi, Z.c.m, kCi, fun _ _ => rfl⟩
  have pCw : Prp P w K mg base 5 (cC K) "word" (PM (F_Change_word K)) := ⟨_, _, _, _, Z.c.cl, Z.word, ok_Change_word (P := P) (w := w) (base := base) Z c_word_by q_Change_word, b_Change_word⟩
  have pCb : Prp P w K mg base 4 (cC K) "backs" (PM (F_Change_backs K)) := ⟨_, _, _, _, Z.c.cl, Z.backs, ok_Change_backs (P := P) (w := w) (base := base) Z c_down_buttons q_Change_backs, b_Change_backs⟩
  have oCe := ok_Change_eq (P := P) (w := w) (base := base) T Z oTe bTe q_Change_eq
  have c_change_made := cal_change_made q_change_made (ok_change_made (P := P) (w := w) (base := base) mnC q_change_made) (He.glo_ok X G (c.facts (List.mem_of_getElem? (i := 23) rfl)))
  have c_check_change := cal_check_change q_check_change (ok_check_change (P := P) (w := w) (base := base) T Z q_check_change) (He.glo_ok X G (c.facts (List.mem_of_getElem? (i := 24) rfl)))
  have c_led_behind := cal_led_behind q_led_behind (ok_led_behind (P := P) (w := w) (base := base) Z c_pressed_front c_pressed_behind c_change_made q_led_behind) (He.glo_ok X G (c.facts (List.mem_of_getElem? (i := 25) rfl)))
  have c_plain := cal_plain q_plain (ok_plain (P := P) (w := w) (base := base) c_check_table mkC q_plain) (He.glo_ok X G (c.facts (List.mem_of_getElem? (i := 26) rfl)))
  have c_stretch := cal_stretch q_stretch (ok_stretch (P := P) (w := w) (base := base) T q_stretch) (He.glo_ok X G (c.facts (List.mem_of_getElem? (i := 27) rfl)))
  have c_tokens_for := cal_tokens_for q_tokens_for (ok_tokens_for (P := P) (w := w) (base := base) T c_stretch q_tokens_for) (He.glo_ok X G (c.facts (List.mem_of_getElem? (i := 28) rfl)))
  have c_completions := cal_completions q_completions (ok_completions (P := P) (w := w) (base := base) T c_tokens_for q_completions) (He.glo_ok X G (c.facts (List.mem_of_getElem? (i := 29) rfl)))
  have c_taken := cal_taken q_taken (ok_taken (P := P) (w := w) (base := base) T c_completions q_taken) (He.glo_ok X G (c.facts (List.mem_of_getElem? (i := 30) rfl)))
  have c_front_buttons := cal_front_buttons q_front_buttons (ok_front_buttons (P := P) (w := w) (base := base) T c_taken q_front_buttons) (He.glo_ok X G (c.facts (List.mem_of_getElem? (i := 31) rfl)))
  have c_first_word := cal_first_word q_first_word (ok_first_word (P := P) (w := w) (base := base) T c_front_buttons c_taken q_first_word) (He.glo_ok X G (c.facts (List.mem_of_getElem? (i := 32) rfl)))
  have oPi := ok_Positive_init (P := P) (w := w) (base := base) Z c_check_table c_check_word c_first_word q_Positive_init
  have mkP : C8.Mak P w K mg base 7 "Positive" (cP K) (PIn (cP K) (I_Positive K)) [.bl false] := ⟨_, _, _, _, Z.p.mkr, oPi, Z.p.m, bPi, dvP⟩
  have mnP : MakN P w K mg base 7 "Positive" (cP K) (PIn (cP K) (I_Positive K)) 2 "_made" := ⟨_, _, _, _, _, Z.p.mkr, oPi, Z.p.m, kPi, fun _ _ => rfl⟩
  have pPw : Prp P w K mg base 1 (cP K) "word" (PM (F_Positive_word K)) := ⟨_, _, _, _, Z.p.cl, Z.wordP, ok_Positive_word (P := P) (w := w) (base := base) Z q_Positive_word, b_Positive_word⟩
  have oPe := ok_Positive_eq (P := P) (w := w) (base := base) T Z oTe bTe q_Positive_eq
  have c_positive_made := cal_positive_made q_positive_made (ok_positive_made (P := P) (w := w) (base := base) mnP q_positive_made) (He.glo_ok X G (c.facts (List.mem_of_getElem? (i := 33) rfl)))
  have oPm := ok_Positive_mul (P := P) (w := w) (base := base) T Z c_check_same_table c_positive_made q_Positive_mul
  have c_check_positive := cal_check_positive q_check_positive (ok_check_positive (P := P) (w := w) (base := base) T Z q_check_positive) (He.glo_ok X G (c.facts (List.mem_of_getElem? (i := 34) rfl)))
  have c_lifted := cal_lifted q_lifted (ok_lifted (P := P) (w := w) (base := base) Z c_check_change c_positive_made pCw q_lifted) (He.glo_ok X G (c.facts (List.mem_of_getElem? (i := 35) rfl)))
  have c_head_of := cal_head_of q_head_of (ok_head_of (P := P) (w := w) (base := base) Z c_plain c_front_buttons c_led_behind c_taken pCb q_head_of) (He.glo_ok X G (c.facts (List.mem_of_getElem? (i := 36) rfl)))
  have c_grains_of := cal_grains_of q_grains_of (ok_grains_of (P := P) (w := w) (base := base) T c_head_of q_grains_of) (He.glo_ok X G (c.facts (List.mem_of_getElem? (i := 37) rfl)))
  have c_grains := cal_grains q_grains (ok_grains (P := P) (w := w) (base := base) Z c_check_positive c_grains_of pPw q_grains) (He.glo_ok X G (c.facts (List.mem_of_getElem? (i := 38) rfl)))
  have c__law_times := cal__law_times q__law_times (ok_law_times (P := P) (w := w) (base := base) q__law_times) (He.glo_ok X G (c.facts (List.mem_of_getElem? (i := 48) rfl)))
  have c__law_press := cal__law_press q__law_press (ok_law_press (P := P) (w := w) (base := base) T c__law_times q__law_press) (He.glo_ok X G (c.facts (List.mem_of_getElem? (i := 49) rfl)))
  have c__law_state := cal__law_state q__law_state (ok_law_state (P := P) (w := w) (base := base) T c__law_press q__law_state) (He.glo_ok X G (c.facts (List.mem_of_getElem? (i := 50) rfl)))
  have c__law_is_low := cal__law_is_low q__law_is_low (ok_law_is_low (P := P) (w := w) (base := base) q__law_is_low) (He.glo_ok X G (c.facts (List.mem_of_getElem? (i := 51) rfl)))
  have c__law_low := cal__law_low q__law_low (ok_law_low (P := P) (w := w) (base := base) T c__law_is_low q__law_low) (He.glo_ok X G (c.facts (List.mem_of_getElem? (i := 52) rfl)))
  have c__law_fronts := cal__law_fronts q__law_fronts (ok_law_fronts (P := P) (w := w) (base := base) T c__law_low c__law_state q__law_fronts) (He.glo_ok X G (c.facts (List.mem_of_getElem? (i := 53) rfl)))
  have c__law_is_row := cal__law_is_row q__law_is_row (ok_law_is_row (P := P) (w := w) (base := base) T c__law_low c__law_state c__law_fronts q__law_is_row) (He.glo_ok X G (c.facts (List.mem_of_getElem? (i := 54) rfl)))
  have c__law_put_together := cal__law_put_together q__law_put_together (ok_law_put_together (P := P) (w := w) (base := base) Z mkP oPm bPm c_lifted q__law_put_together) (He.glo_ok X G (c.facts (List.mem_of_getElem? (i := 55) rfl)))
  have c__law_is_head_right := cal__law_is_head_right q__law_is_head_right (ok_law_is_head_right (P := P) (w := w) (base := base) Z oPm bPm oCe bCe c_grains c_lifted q__law_is_head_right) (He.glo_ok X G (c.facts (List.mem_of_getElem? (i := 56) rfl)))
  have c__law_dip := cal__law_dip q__law_dip (ok_law_dip (P := P) (w := w) (base := base) T q__law_dip) (He.glo_ok X G (c.facts (List.mem_of_getElem? (i := 40) rfl)))
  have c__law_pick := cal__law_pick q__law_pick (ok_law_pick (P := P) (w := w) (base := base) T c__law_dip q__law_pick) (He.glo_ok X G (c.facts (List.mem_of_getElem? (i := 41) rfl)))
  have c__law_letters := cal__law_letters q__law_letters (ok_law_letters (P := P) (w := w) (base := base) T c__law_dip q__law_letters) (He.glo_ok X G (c.facts (List.mem_of_getElem? (i := 47) rfl)))
  have c__law_grid := cal__law_grid q__law_grid (ok_law_grid (P := P) (w := w) (base := base) T mkT q__law_grid) (He.glo_ok X G (c.facts (List.mem_of_getElem? (i := 46) rfl)))
  have c__law_any := cal__law_any q__law_any (ok_law_any (P := P) (w := w) (base := base) T c__law_pick q__law_any) (He.glo_ok X G (c.facts (List.mem_of_getElem? (i := 42) rfl)))
  have c__law_mixed := cal__law_mixed q__law_mixed (ok_law_mixed (P := P) (w := w) (base := base) T c__law_dip q__law_mixed) (He.glo_ok X G (c.facts (List.mem_of_getElem? (i := 43) rfl)))
  have c__law_chained := cal__law_chained q__law_chained (ok_law_chained (P := P) (w := w) (base := base) T c__law_mixed q__law_chained) (He.glo_ok X G (c.facts (List.mem_of_getElem? (i := 44) rfl)))
  have c__law_drawn := cal__law_drawn q__law_drawn (ok_law_drawn (P := P) (w := w) (base := base) T c__law_dip c__law_pick c__law_chained c__law_any q__law_drawn) (He.glo_ok X G (c.facts (List.mem_of_getElem? (i := 45) rfl)))
  have c__law_well := cal__law_well q__law_well (ok_law_well (P := P) (w := w) (base := base) T q__law_well) (He.glo_ok X G (c.facts (List.mem_of_getElem? (i := 39) rfl)))
  have c__law_right := cal__law_right q__law_right (ok_law_right (P := P) (w := w) (base := base) T Z oPm bPm oCe bCe oPe bPe mkP mkC pCw c__law_drawn c__law_grid c__law_letters c__law_dip c_grains c_lifted c__law_is_row c__law_put_together c__law_is_head_right q__law_right) (He.glo_ok X G (c.facts (List.mem_of_getElem? (i := 57) rfl)))
  exact ok_law (P := P) (w := w) (base := base) T c__law_well c__law_right q_law
theorem scr_of {H : Hp} {a : Addr} {ns : List Int} (hO : Only H) (hS : SqL K H a (ns.map V.int)) : (SCR K ns).p (.ref a) H := by
  refine ⟨a, rfl, ?_⟩
  rcases hS with hS | hS
  · rcases hS with hS | ⟨o, hS⟩
    · rcases hO a with z | ⟨o, xs, z⟩
      · rw [z] at hS
        cases hS
      · rw [z] at hS
        cases hS
    · exact .inl ⟨o, hS⟩
  · exact .inr fun H' => .inr hS
end
end KP
end
set_option maxRecDepth 100000
set_option maxHeartbeats 0
open PySem PySem.W PySem.Calls PyProof.Rows
theorem PySem.Challenge.cw_wallwalks_k74_whole_heads_of_products_holds : PySem.Challenge.rw_wallwalks_k74_whole_heads_of_products.Holds := by
  w_on; o_law
  refine HandSHeadRun.head_any (r := KJ.R) (q := view KJ.R.prog [103]) (H := KJ.hk) (ob := KJ.ob) (M := 12000) (loose := KJ.ls) (d := HandSHeadRun.topDef KJ.R.prog 103) (kwd := []) KJ.ob_eq
    (by kernel_rfl) (fun s => by kernel_rfl) KJ.run (by kernel_rfl) (by kernel_rfl) (by kernel_rfl) (by rfl) (by first | assumption | decide +kernel) (by decide +kernel) ⟨rfl, rfl, rfl, rfl, rfl, by decide +kernel⟩ ?hw ?hc
  case hw => w_witness2
  case hc =>
    refine L2.walk_ofE (l := PySem.Challenge.rw_wallwalks_k74_whole_heads_of_products) (n := 63) (k := 14) (x := "_law_script") (CX := L2.CX0) rfl (by decide) (by kernel_rfl) ⟨rfl, by decide, by decide⟩ ?F (fun _ _ _ _ z => z)
    intro w mg fa h Y G hmg0
    obtain ⟨K, KX, c⟩ := Y
    have hmg : mg ("law" : PySem.Str) = some (.ref fa) := by
      have e : (HandSHeadRun.topDef KJ.R.prog 103).name = ("law" : PySem.Str) := by kernel_rfl
      rw [← e]
      exact hmg0
    obtain ⟨fd, hb, hF⟩ := KP.facts (P := (PySem.Challenge.rw_wallwalks_k74_whole_heads_of_products).prog) (w := w) KX G hmg c
    refine ⟨K, fd, KG.PM (KP.F_law K), KX, hb, fun H a ns hl hO hS => ?_, hF⟩
    exact ⟨⟨H, none, fun _ z => nomatch z⟩, [.rp (KG.SCR K ns)], .rp (KG.TBl true), rfl, ⟨ns, rfl, rfl⟩, ⟨KP.scr_of hO hS, trivial⟩, fun v H' _ hv => hv⟩
