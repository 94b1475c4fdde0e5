import PyProof.Rows.All
import Wide.All
import OpenK.AllK
import Wide.FinOn
import KE.KStateDown
import Lean
import HandS.Base
import HandS.Call
import HandS.Ends
import HandS.More
import HandS.Words
import HandS.WordsExc
import HandS.Defaults
import HandS.Head0
import HandS.Head1
import HandS.Head2
import HandS.HeadEnd
import HandS.HeadHook1
import HandS.HeadHook2
import HandS.ForExc
import HandS.ExcInit
import HandS.ExcValue
import HandS.IsInst
import HandS.Codes
import KE.KExcIs
import KE.KIsAll
import HandS.ForMost
import PySem.Challenge.RW_tiedproofs_k95_errors_of_what_is_asked
import HandS.Zip
import HandS.Walk
import HandS.HotCalls
import HandS.ExcCtx
import HandS.ExcInitHot
import Open.Pieces
set_option Elab.async false
set_option linter.all false
set_option maxRecDepth 100000
set_option maxHeartbeats 4000000
/-! A head's facts with a further truth value of one's own over what the top has left. -/
namespace HkX
open PySem PySem.Spec PyProof.Rows L2 He
def obsX (fa : List Fa) (fn : List DefD) (chk : PySem.W.Frag → Bool) (K : PySem.W.Frag) : AlD := ((fa.all fun f => f.ok K) && ((fn.all fun d => d.ok K) && chk K), fn.map fun d => fnW K d.at_)
def SaysX (fa : List Fa) (fn : List DefD) (chk : PySem.W.Frag → Bool) (K : PySem.W.Frag) : Prop := obsX fa fn chk K = valD fn
def obsXG (n : Nat) (fa : List Fa) (fn : List DefD) (chk : PySem.W.Frag → Bool) (g : Addr → Option Obj) : AlD := obsX fa fn chk (frG g (asD g n))
def hookX (n : Nat) (fa : List Fa) (fn : List DefD) (chk : PySem.W.Frag → Bool) : PySem.W.Hook where
  α := AlD
  obs := fun s => obsXG n fa fn chk s.heap.get?
  val := fun _ => valD fn
  says := fun _ h => ∃ K : PySem.W.Frag, K.In h ∧ SaysX fa fn chk K
  of := fun _ _ e => ⟨_, frG_in, e⟩
  keeps := fun _ _ _ ⟨K, hK, c⟩ k => ⟨K, PySem.W.Frag.In.keeps hK k, c⟩
theorem obsXG_eq {n : Nat} {fa : List Fa} {fn : List DefD} {chk : PySem.W.Frag → Bool} {g : Addr → Option Obj} {s : Shared} (h : ∀ a, g a = s.heap.get? a) : obsXG n fa fn chk g = (hookX n fa fn chk).obs s := by
  have e : g = s.heap.get? := funext h
  rw [e] <;> rfl
section
variable {fa : List Fa} {fn : List DefD} {chk : PySem.W.Frag → Bool} {K : PySem.W.Frag}
theorem SaysX.all (c : SaysX fa fn chk K) : (fa.all fun f => f.ok K) = true ∧ (fn.all fun d => d.ok K) = true ∧ chk K = true := by
  have h := ba (show ((fa.all fun f => f.ok K) && ((fn.all fun d => d.ok K) && chk K)) = true from congrArg (fun z : AlD => z.1) c)
  exact ⟨h.1, ba h.2⟩
theorem SaysX.fact (c : SaysX fa fn chk K) {f : Fa} (h : f ∈ fa) : f.ok K = true := List.all_eq_true.mp c.all.1 f h
theorem SaysX.def_ (c : SaysX fa fn chk K) (i : Nat) {d : DefD} (h : fn[i]? = some d := by rfl) : ∃ fd, FunD K d.name d.qual d.params d.body d.scope (d.dvs K) (d.kws K) (fAd K d.at_) fd := by
  have c2 := c.all.2.1
  have e : fn.map (fun d => fnW K d.at_) = fn.map DefD.val := congrArg (fun z : AlD => z.2) c
  have e2 : (fn.map fun d => fnW K d.at_)[i]? = (fn.map DefD.val)[i]? := by rw [e]
  rw [List.getElem?_map, List.getElem?_map, h] at e2
  exact DefD.funD (Option.some.inj e2) (List.all_eq_true.mp c2 d (List.mem_of_getElem? h))
end
end HkX

set_option Elab.async false
set_option linter.all false
set_option maxRecDepth 100000
set_option maxHeartbeats 4000000
/-! Errors of own classes as values: made by position and by keyword, their fields read, isinstance. -/
namespace PySem
namespace Exk
open PySem.W PySem.Calls PyProof.Rows PySem.HandSPX
section
variable {M : Model} {A : Around} {E : Value → Shared → Prop} {h : Heap} {g : Array GenState} {d : Drawn} {t : Nat} {os : OsState}
variable {nm q : Str} {C N : Addr} {bs bm bmB : List Value} {hdct : Bool} {sn : List Str} {sub : List Value} {ab : Bool} {col : Option Bool} {dd : Option Addr} {k0 k1 k2 k3 k5 : Option Value} {B newId initId : String}

theorem check_new_kw (F : ExcBaseFacts B newId initId bmB) (hT : ∀ X : String, bm.contains (.type X) = bmB.contains (.type X)) {rest : List Value} {kw : List (Str × Value)} {Q : Unit → Shared → Prop}
    (hC : h.get? C = some (excClassObj nm q C N bs bm hdct sn sub ab col dd k0 k1 k2 k3 k5 newId)) (hq : Q () ⟨h, g, d, t, os⟩) : wpAny M A (checkBuiltinCall newId ⟨.ref C :: rest, kw⟩) Q E ⟨h, g, d, t, os⟩ := by
  have hcont : (Value.ref C :: bm).contains (.type B) = true := by rw [List.contains_cons, hT, F.hasB, Bool.or_true]
  have hstar := F.noStar
  simp only [checkBuiltinCall, F.newKind, F.newSplit, F.newRow]
  repeat (first | refine wpAny_loadPart_at hC ?_ | (refine wpAny_isSubtype_exc hC ?_; rw [hcont]) | refine wpAny_staticBase_exc hC ?_ | refine wpAny_madeBy_exc hC ?_ | simp only [bne_self_eq_false, Bool.false_eq_true, if_false] | wp_step)
  exact hq
end

section
variable {prog : Program} {w : World} {A : Around} {E : Value → Shared → Prop} {R : Result → Shared → Prop} {h : Heap} {g : Array GenState} {d : Drawn} {t : Nat} {os : OsState}
variable {nm q : Str} {C N : Addr} {bs bm bmB : List Value} {hdct : Bool} {sn : List Str} {sub : List Value} {ab : Bool} {col : Option Bool} {dd : Option Addr} {k0 k1 k2 k3 k5 : Option Value} {B newId initId : String}

theorem new_kw (F : ExcBaseFacts B newId initId bmB) (hT : ∀ X : String, bm.contains (.type X) = bmB.contains (.type X)) {rest : List Value} {kw : List (Str × Value)}
    (hC : h.get? C = some (excClassObj nm q C N bs bm hdct sn sub ab col dd k0 k1 k2 k3 k5 newId))
    (hq : R (.ok (.ret (.ref (h.objs.size + 1)))) ⟨(h.push { cls := .type "tuple", data := .seq rest.toArray }).push
      { cls := .ref C, data := .fields #[.ref h.objs.size, .none, .none, .none, .bool false, .none] }, g, d, t, os⟩) (hrest : rest.length ≤ sizeLine) :
    codeAny (model prog w) A (.builtin newId ⟨.ref C :: rest, kw⟩) R ⟨h, g, d, t, os⟩ := by
  have hends := F.ends
  have hcB : (Value.ref C :: bm).contains (.type B) = true := by rw [List.contains_cons, hT, F.hasB, Bool.or_true]
  have hcA : (Value.ref C :: bm).contains (.type "AttributeError") = false := by rw [List.contains_cons, hT, F.noAttr]; rfl
  have hcN : (Value.ref C :: bm).contains (.type "NameError") = false := by rw [List.contains_cons, hT, F.noName]; rfl
  refine codeAny_builtinAt F.entry ?_
  unfold Builtin.«BaseException.__new__»
  refine wpAt_bind ?_
  show wpAt _ _ _ (stack >>= _) _ _ _
  refine wpAt_bind (wpAt_stack fun p below => wpAt_of_wpAny ?_)
  wp_walk
  refine wpAt_of_wpAny ?_
  rw [F.owner]
  repeat (first | with_reducible refine wpAny_madeHere_exc F.canon hC ?_ | with_reducible refine wpAny_loadPart_at hC ?_ | (with_reducible refine wpAny_isSubtype_exc hC ?_; first | rw [hcB] | rw [hcA] | rw [hcN]) | wp_step)
  show R _ _
  rw [Heap.size_push]
  exact hq

theorem type_call_kw (F : ExcBaseFacts B newId initId bmB) (hT : ∀ X : String, bm.contains (.type X) = bmB.contains (.type X)) {rest : List Value} {kw : List (Str × Value)} {fI : Addr} {Q : Fin → Shared → Prop}
    (hC : h.get? C = some (excClassObj nm q C N bs bm hdct sn sub ab col dd k0 k1 k2 k3 k5 newId))
    (hi : W.Looks (model prog w) h (typeLookup (.ref C) "__init__") (some (.ref fI))) (hb : ∀ self, W.Looks (model prog w) h (bindSpecial (.ref fI) self) (.ref fI, [self])) (hrest : rest.length ≤ sizeLine)
    (hq : codeAny (model prog w) A (.call (.ref fI) ⟨.ref (h.objs.size + 1) :: rest, kw⟩)
      (fun r s' => match r with | .ok (.ret v) => v = .none ∧ Q (.done (.ret (.ref (h.objs.size + 1)))) s' | .ok _ => False | .error e => E e s')
      ⟨(h.push (W.kdv_tup rest)).push (excO C h.objs.size), g, d, t, os⟩) :
    wpAny (model prog w) A (Builtin.«type.__call__» ⟨.ref C :: rest, kw⟩) Q E ⟨h, g, d, t, os⟩ := by
  repeat (first | with_reducible refine wpAny_loadPart_at hC ?_ | with_reducible refine wpAny_madeBy_exc hC ?_ | wp_step)
  refine codeAny_call_builtin_code (Code.quiet_builtin _ F.quiet) (check_new_kw F hT hC ?_)
  refine new_kw F hT hC ?_ hrest
  show wpAny _ _ _ _ _ _
  have k : ∀ b o, h.get? b = some o → ((h.push (W.kdv_tup rest)).push (excO C h.objs.size)).get? b = some o := fun b o e => Heap.get?_push_of_some _ (Heap.get?_push_of_some _ e)
  have hC₁ := k _ _ hC
  have hget : ((h.push (W.kdv_tup rest)).push (excO C h.objs.size)).get? (h.objs.size + 1) = some (excO C h.objs.size) := by heap_get
  have hcC : (Value.ref C :: bm).contains (.ref C) = true := by simp
  have i1 := hi.keeps k
  have b1 := (hb (.ref (h.objs.size + 1))).keeps k
  unfold isInstance
  repeat (first | with_reducible refine wpAny_loadPart_at hget ?_ | (with_reducible refine wpAny_isSubtype_exc hC₁ ?_; rw [hcC]) | wp_step)
  show wpAny _ _ (typeLookup (.ref C) _) _ _ _
  refine i1.at ?_
  refine wpAny_holding (wpAny_bind (b1.at ?_))
  refine wpAny_bind (wpAny_call (codeAny_mono hq fun r s' z => ?_))
  rcases r with e | (v | _ | _ | _) <;> first | exact z | exact z.elim | skip
  obtain ⟨rfl, z⟩ := z
  first
    | exact wpAny_pure (wpAny_pure z)
    | (wp_walk; exact z)

theorem call_kw (F : ExcBaseFacts B newId initId bmB) (hT : ∀ X : String, bm.contains (.type X) = bmB.contains (.type X)) {rest : List Value} {kw : List (Str × Value)} {fI : Addr}
    (hC : h.get? C = some (excClassObj nm q C N bs bm hdct sn sub ab col dd k0 k1 k2 k3 k5 newId))
    (hi : W.Looks (model prog w) h (typeLookup (.ref C) "__init__") (some (.ref fI))) (hb : ∀ self, W.Looks (model prog w) h (bindSpecial (.ref fI) self) (.ref fI, [self])) (hrest : rest.length ≤ sizeLine)
    (hq : codeAny (model prog w) (A.under (.builtin "type.__call__" ⟨.ref C :: rest, kw⟩)) (.call (.ref fI) ⟨.ref (h.objs.size + 1) :: rest, kw⟩) (W.InitBack (h.objs.size + 1) R)
      ⟨(h.push (W.kdv_tup rest)).push (excO C h.objs.size), g, d, t, os⟩) :
    codeAny (model prog w) A (.call (.ref C) ⟨rest, kw⟩) R ⟨h, g, d, t, os⟩ := by
  have f1 := tc_lookup
  have f2 := tc_bind (.ref C)
  have hTy : (⟨h, g, d, t, os⟩ : Shared).TypeIs (.ref C) "type" := ⟨_, hC, rfl⟩
  refine codeAny_of_tree ?_
  show wpAny _ _ (callAny (.ref C) _) _ _ _
  repeat (any_goals (first | assumption | with_reducible refine wpAny_loadPart_at hC ?_ | wp_step))
  refine ⟨rfl, ?_⟩
  refine codeAny_call_builtin_at (Code.quiet_builtin _ (by decide +kernel)) entry_typeCall (wpAny_check_type_call_sub hC (type_call_kw F hT hC hi hb hrest ?_))
  refine codeAny_mono hq fun r s' z => ?_
  rcases r with e | (v | _ | _ | _) <;> exact z
end
end Exk
end PySem

namespace L2
open PySem PySem.Spec PyProof.Rows
/-! ### the facts of an error's class, as truth values -/
def clsB (K : PySem.W.Frag) (C : Addr) : Bool := match K.lookup C with
  | some ⟨.type "type", _, .cls cd, sl⟩ => (match cd.mro, sl.toList with
    | .ref C' :: bm, [_, _, _, _, some (.builtin n), _] => C' == C && (n == "ValueError.__new__" && (!cd.hasDel && (cd.hasDict && PySem.HandSPX.refsVE bm)))
    | _, _ => false)
  | _ => false
theorem clsB_ok {K : PySem.W.Frag} {C : Addr} (h : clsB K C = true) :
    ∃ nm q N bs bm sn sub ab col dd k0 k1 k2 k3 k5, K.lookup C = some (excClassObj nm q C N bs bm true sn sub ab col dd k0 k1 k2 k3 k5 "ValueError.__new__") ∧ PySem.HandSPX.refsVE bm = true := by
  unfold clsB at h
  split at h
  · rename_i dd cd sl ho
    split at h
    · rename_i C' bm k0 k1 k2 k3 n k5 hm hs
      simp only [Bool.and_eq_true, beq_iff_eq, Bool.not_eq_true'] at h
      obtain ⟨rfl, rfl, hdel, hdict, ht⟩ := h
      obtain ⟨nm, bs, mro, ns, qn, hd, sn, sub, ab, col, del⟩ := cd
      dsimp only at hm hdel hdict
      subst hm hdel hdict
      have hsl : sl = #[k0, k1, k2, k3, some (.builtin "ValueError.__new__"), k5] := by
        obtain ⟨l⟩ := sl
        simp only at hs
        rw [hs]
      subst hsl
      exact ⟨nm, qn, ns, bs, bm, sn, sub, ab, col, dd, k0, k1, k2, k3, k5, ho, ht⟩
    · cases h
  · cases h
/-- an error's class -/
structure EC (K : PySem.W.Frag) (C : Addr) : Prop where
  ox : OexC K C
  ga : PySem.W.findIn K (.ref C) "__getattribute__" = some (some (.builtin "BaseException.__getattribute__"))
  gg : PySem.W.findIn K (.ref C) "__getattr__" = some none
  hd : PySem.W.hasDictIn K C = true
  ha : PySem.W.findIn K (.ref C) "__class__" = some (some (.builtin "object.__class__"))
  hn : PySem.W.specialIn K (.builtin "object.__class__") "__get__" = some (some (.builtin "getset_descriptor.__get__"))
  ht : PySem.W.takesIn K (.builtin "object.__class__") = some true
  hm : PySem.W.mroIn K C (.type "object") = some true
def ecB (K : PySem.W.Frag) (C : Addr) : Bool := clsB K C && (decide (PySem.W.findIn K (.ref C) "__setattr__" = some (some (.builtin "object.__setattr__"))) &&
  (decide (PySem.W.subIn K (.ref C) (.type "BaseException") = some true) && (decide (PySem.W.typeIn K (.ref C) = some (.type "type")) && (PySem.W.keepIn K (.ref C) &&
  (decide (PySem.W.findIn K (.ref C) "__getattribute__" = some (some (.builtin "BaseException.__getattribute__"))) && (decide (PySem.W.findIn K (.ref C) "__getattr__" = some none) && (PySem.W.hasDictIn K C &&
  (decide (PySem.W.findIn K (.ref C) "__class__" = some (some (.builtin "object.__class__"))) && (decide (PySem.W.specialIn K (.builtin "object.__class__") "__get__" = some (some (.builtin "getset_descriptor.__get__"))) &&
  (decide (PySem.W.takesIn K (.builtin "object.__class__") = some true) && decide (PySem.W.mroIn K C (.type "object") = some true)))))))))))
theorem ecB_ok {K : PySem.W.Frag} {C : Addr} (h : ecB K C = true) : EC K C := by
  unfold ecB at h
  simp only [Bool.and_eq_true, decide_eq_true_eq] at h
  obtain ⟨h1, h2, h3, h4, h5, h6, h7, h8, h9, h10, h11, h12⟩ := h
  exact ⟨⟨clsB_ok h1, h2, h3, h4, h5⟩, h6, h7, h8, h9, h10, h11, h12⟩

section
variable {X : Cx} {pins : List (Addr × Obj)} {σ : St} {H : Hp} {s : Shared} {a C : Addr}
/-- an error at a, of the class at C, its dict d -/
theorem exo_inst {d : Option Addr} {fs : List (Str × V)} (I : Inv X pins σ H s) (e : H a = some (exo a C d)) (ed : ∀ x, d = some x → H x = some (exd x fs)) :
    ∃ (ox : Obj) (od : Option Obj), PySem.W.InstAt s.heap a ox C od ∧ (∀ x, d = some x → ∃ (o : Obj) (mA : Str → Option Value), od = some o ∧ (∀ name, PySem.W.lookIn name o = some (mA name)) ∧ ∀ f, RelO (fs.lookup f) (mA f)) := by
  obtain ⟨t1, ho⟩ := exo_at I.hok e
  cases d with
  | none => exact ⟨_, none, ⟨ho, rfl, rfl, trivial⟩, fun x z => nomatch z⟩
  | some x =>
    obtain ⟨mA, hns, hr⟩ := exd_at I.hok (ed x rfl)
    obtain ⟨od, h1, h2⟩ := lookIn_ns hns
    exact ⟨_, some od, ⟨ho, rfl, rfl, h1⟩, fun y z => ⟨od, mA, rfl, h2, hr⟩⟩
end

/-! ### e.f of an error -/
def tEf (K : PySem.W.Frag) (f : Str) (te : TE) : TE := fun σ H Q => te σ H fun x H1 => ∃ (a C d : Addr) (fs : List (Str × V)) (v : V), x = .ref a ∧ EC K C ∧ PySem.W.findIn K (.ref C) f = some none ∧
  H1 a = some (exo a C (some d)) ∧ H1 d = some (exd d fs) ∧ fs.lookup f = some v ∧ Q v H1
theorem pe_ef {X : Cx} {e : Expr} {te : TE} {pos : Pos} {n : Str} (he : PE X e te) (hb : attributeBase e n X.env (eval e X.env) = eval e X.env := by rfl) : PE X (.Attribute e n pos) (tEf X.K n te) := by
  refine ⟨fun pins s σ H Q I h => ?_⟩
  refine attr_of hb (thn (he.run pins s σ H _ I h) fun u s1 hh => ?_)
  obtain ⟨x, H1, I1, rx, a, C, d, fs, v, ex, T, hno, ea, ed, l, q⟩ := hh
  subst ex
  obtain rfl : u = Value.ref a := rx
  obtain ⟨ox, od, J, hod⟩ := exo_inst I1 ea (fs := fs) (fun x z => by cases z; exact ed)
  obtain ⟨o, mA, rfl, hl, hr⟩ := hod d rfl
  obtain ⟨u, hu, ru⟩ := RelO.some_of (v := v) (o := mA n) (by rw [← l]; exact hr n)
  exact HandSPX.exc_get I1.kIn J T.ga T.gg T.ox.exC (PySem.W.findObj_own T.hd hno rfl (by rw [hl, hu])) (handed_of ru) ⟨v, H1, I1.tok _, ru, q⟩

/-! ### isinstance(e, c), isinstance(e, (c, ..)) of an error -/
def rIsX (K : PySem.W.Frag) : List V → Hp → VK → Prop := fun xs H Q => ∃ (a C : Addr) (d : Option Addr) (fs : List (Str × V)) (c : V) (u : Value) (b : Bool), xs = [.ref a, c] ∧ EC K C ∧ H a = some (exo a C d) ∧ (∀ x, d = some x → H x = some (exd x fs)) ∧
  ClsV c u ∧ PySem.W.kitOne K (.ref C) u = some b ∧ Q (.bl b) H
def rIsXT (K : PySem.W.Frag) : List V → Hp → VK → Prop := fun xs H Q => ∃ (a C : Addr) (d : Option Addr) (fs : List (Str × V)) (tp : Addr) (cs : List V) (us : List Value) (b : Bool), xs = [.ref a, .ref tp] ∧ EC K C ∧ H a = some (exo a C d) ∧ (∀ x, d = some x → H x = some (exd x fs)) ∧
  H tp = some (.tup cs) ∧ Paired ClsV cs us ∧ PySem.W.kitAny K (.ref C) us = some b ∧ Q (.bl b) H
section
variable {X : Cx}
theorem EC.kit {K : PySem.W.Frag} {C a : Addr} {ox : Obj} {od : Option Obj} (T : EC K C) : PySem.W.KitX K (.ref a) (.ref C) (fun h => PySem.W.InstAt h a ox C od) := by
  obtain ⟨cd, hc, _⟩ := PySem.W.any_some T.hd
  exact PySem.W.kitx_exc (by rw [hc]; rfl) T.ga T.gg T.ox.exC T.ha T.hn T.ht T.hm
theorem call_isX : CallR X (.builtin "isinstance") (rIsX X.K) := by
  intro pins s σ H xs us Q I r h
  obtain ⟨a, C, d, fs, c, u, b, rfl, T, ea, ed, k, e, q⟩ := h
  obtain ⟨u1, u2, rfl, r1, r2⟩ := vals2 r
  obtain rfl : u1 = Value.ref a := r1
  have e2 := k.eq r2
  subst e2
  obtain ⟨ox, od, J, _⟩ := exo_inst I ea ed
  exact PySem.W.kia_one T.kit I.kIn J e (fun z => nomatch z) fun tk => ⟨.bl b, H, I.tok tk, rfl, q⟩
theorem call_isXT : CallR X (.builtin "isinstance") (rIsXT X.K) := by
  intro pins s σ H xs us Q I r h
  obtain ⟨a, C, d, fs, tp, cs, ws, b, rfl, T, ea, ed, hT, k, e, q⟩ := h
  obtain ⟨u1, u2, rfl, r1, r2⟩ := vals2 r
  obtain rfl : u1 = Value.ref a := r1
  cases (show u2 = Value.ref tp from r2)
  obtain ⟨ox, od, J, _⟩ := exo_inst I ea ed
  obtain ⟨_, its, rv, o, h1, h2, n, h3⟩ := (show ObjOk X.prog X.w H s.heap tp (.tup cs) from I.hok tp _ hT)
  have e3 := ClsV.all k rv
  subst e3
  obtain ⟨oc, odd, dt, sl⟩ := o
  simp only at h2 h3
  subst h2 h3
  exact PySem.W.kia_tup T.kit I.kIn J h1 e (fun z => nomatch z) fun tk => ⟨.bl b, H, I.tok tk, rfl, q⟩
end

/-! ### C(e), C(k = e) as values -/
/-- C's own __init__ keeps sp -/
def tMkV (C : Addr) (sp : Sp) (t : TA) : TE := fun σ H Q => t σ H fun vs H1 => vs.length ≤ 1000 ∧ ∀ a, H1 a = none → sp (.ref a :: vs) (upd H1 a (exo a C none)) (fun v H2 => v = .non ∧ Q (.ref a) H2) (fun _ _ _ => False)
section
variable {X : Cx} {pins : List (Addr × Obj)} {σ : St} {H : Hp} {s : Shared} {e : Expr} {es : List Expr} {ta : TA} {x : Str} {p pos : Pos} {C fI : Addr} {k : Nat} {fd : FuncData} {ps : List Str} {sp : Sp}
/-- bound: how the arguments, by position or by keyword, come to the parameters -/
theorem run_mkV {vs : List V} {us rest : List Value} {kw : List (Str × Value)} {Q : VK} (T : OexC X.K C) (iC : PySem.W.findIn X.K (.ref C) "__init__" = some (some (.ref fI))) (tI : PySem.W.typeIn X.K (.ref fI) = some (.type "function"))
    (F1 : FnOk X.prog X.w X.K X.mg X.base CX0 k fI fd ps sp) (hr : Room (k + 1) X.A) (I : Inv X pins σ H s) (r : Vals vs us) (hz : rest.length ≤ sizeLine)
    (hb : ∀ (s' : Shared) (self : Value), X.K.In s'.heap → BindsTo s' fd ⟨self :: rest, kw⟩ (ps.zip (self :: us)))
    (h : ∀ a, H a = none → sp (.ref a :: vs) (upd H a (exo a C none)) (fun v H2 => v = .non ∧ Q (.ref a) H2) (fun _ _ _ => False)) :
    wpAny (model X.prog X.w) X.A (call (.ref C) rest kw) (EP X pins σ Q) X.xe s := by
  obtain ⟨nm, q, N, bs, bm, sn, sub, ab, col, dd, k0, k1, k2, k3, k5, hC, hbm⟩ := T.cls
  obtain ⟨hp, g, dr, tk, os⟩ := s
  have hsz : hp.objs.size ≤ hp.objs.size + 1 := Nat.le_succ _
  have hn : H (hp.objs.size + 1) = none := I.hok.fresh hsz
  have hq := h (hp.objs.size + 1) hn
  have kk : ∀ b o, hp.get? b = some o → ((hp.push (PySem.W.kdv_tup rest)).push (PySem.HandSPX.excO C hp.objs.size)).get? b = some o := fun b o e => Heap.get?_push_of_some _ (Heap.get?_push_of_some _ e)
  have hget : ((hp.push (PySem.W.kdv_tup rest)).push (PySem.HandSPX.excO C hp.objs.size)).get? (hp.objs.size + 1) = some (PySem.HandSPX.excO C hp.objs.size) := by heap_get
  have I2 : Inv X pins σ (upd H (hp.objs.size + 1) (exo (hp.objs.size + 1) C none)) ⟨(hp.push (PySem.W.kdv_tup rest)).push (PySem.HandSPX.excO C hp.objs.size), g, dr, tk, os⟩ :=
    I.laid (t' := tk) (a := hp.objs.size + 1) (o := exo (hp.objs.size + 1) C none) (h' := (hp.push (PySem.W.kdv_tup rest)).push (PySem.HandSPX.excO C hp.objs.size)) kk hsz (exo_ok hget)
  have r2 : Vals (V.ref (hp.objs.size + 1) :: vs) (Value.ref (hp.objs.size + 1) :: us) := .cons rfl r
  refine wpAny_call (PySem.Exk.call_kw F.excBase_ValueError (fun Y => PySem.HandSPX.refsVE_contains Y bm hbm) (I.kIn _ _ hC) (PySem.W.looks_findIn I.kIn iC) (fun self => PySem.W.bind_fn I.kIn self tI) hz
    (codeAny_mono (F1.run _ X.stack _ _ ⟨Value.ref (hp.objs.size + 1) :: rest, kw⟩ (Value.ref (hp.objs.size + 1) :: us) _ _ (fun _ _ _ => False) (hr.make C rest kw) (I2.env0.make C rest kw) (hb _ (Value.ref (hp.objs.size + 1)) I2.kIn) r2 hq) fun r s' hq' => ?_))
  cases r with
  | error er => exact (pass0 (X := X)) pins σ _ _ er s' I2 hq'
  | ok fl =>
    cases fl with
    | ret u =>
      obtain ⟨v, H', I3, rv, ev, q3⟩ := I2.after hq'
      subst ev
      exact ⟨rv, ⟨V.ref (hp.objs.size + 1), H', I3, rfl, q3⟩⟩
    | next => exact False.elim hq'
    | brk => exact False.elim hq'
    | cont => exact False.elim hq'

theorem pe_exC (T : OexC X.K C) (iC : PySem.W.findIn X.K (.ref C) "__init__" = some (some (.ref fI))) (tI : PySem.W.typeIn X.K (.ref fI) = some (.type "function"))
    (F1 : FnOk X.prog X.w X.K X.mg X.base CX0 k fI fd ps sp) (hr : Room (k + 1) X.A) (hb : Binds X.K fd ps []) (hg : Gl X x) (hm : X.mg x = some (.ref C)) (ha : PA X (e :: es) ta)
    (hdb : (x == ("__debug__" : Str)) = false := by decide) (he : starEach (e :: es) X.env = (false, eval e X.env) :: starEach es X.env := by rfl) (hpl : (backTo pos (starEach es X.env)).any (·.1) = false := by rfl) :
    PE X (.Call (.Name x p) (e :: es) [] pos) (tMkV C sp ta) := by
  refine ⟨fun pins s σ H Q I h => ?_⟩
  refine wpAny_Call_Name_kw (ld_glob I hg hm ?_ hdb)
  refine PySem.W.callWith_K (h₀ := X.base) I.ok.mod.kin T.kC (thn (ha.run pos pins s σ H _ I h) fun us s1 ⟨vs, H1, I1, r1, hz, q1⟩ => ⟨I1.kIn, ?_⟩) he hpl
  show wpAny _ _ (call (.ref C) us) _ _ _
  have hl : us.length ≤ sizeLine := by
    rw [← Paired.length r1, sizeLine_eq]
    omega
  refine run_mkV (us := us) (vs := vs) T iC tI F1 hr I1 r1 hl (fun s' self hk => ?_) q1
  have hq := q1 s1.heap.objs.size (I1.hok.fresh (Nat.le_refl _))
  have e1 := F1.len _ _ _ _ hq
  have e2 := Paired.length r1
  have q := hb s' (self :: us) hk (by rw [List.append_nil]; simp only [List.length_cons] at e1 ⊢; omega)
  rw [List.append_nil] at q
  exact q
/-- C(k = e) -/
def tMkK (C : Addr) (sp : Sp) (te : TE) : TE := fun σ H Q => te σ H fun y H1 => ∃ z, [y] = [z] ∧ ∀ a, H1 a = none → sp [.ref a, z] (upd H1 a (exo a C none)) (fun v H2 => v = .non ∧ Q (.ref a) H2) (fun _ _ _ => False)
theorem pe_exK {nm : Str} {te : TE} {kp : Pos} (T : OexC X.K C) (iC : PySem.W.findIn X.K (.ref C) "__init__" = some (some (.ref fI))) (tI : PySem.W.typeIn X.K (.ref fI) = some (.type "function"))
    (F1 : FnOk X.prog X.w X.K X.mg X.base CX0 k fI fd ps sp) (hr : Room (k + 1) X.A) (hb : ∀ (s' : Shared) (self v : Value), X.K.In s'.heap → BindsTo s' fd ⟨[self], [(nm, v)]⟩ (ps.zip [self, v])) (hg : Gl X x) (hm : X.mg x = some (.ref C)) (ha : PE X e te)
    (hdb : (x == ("__debug__" : Str)) = false := by decide) :
    PE X (.Call (.Name x p) [] [⟨some nm, e, kp⟩] pos) (tMkK C sp te) := by
  refine ⟨fun pins s σ H Q I h => ?_⟩
  refine wpAny_Call_Name_kw (ld_glob I hg hm ?_ hdb)
  have h' : tCons te tNil σ H (fun vs H1 => ∃ z, vs = [z] ∧ ∀ a, H1 a = none → sp [.ref a, z] (upd H1 a (exo a C none)) (fun v H2 => v = .non ∧ Q (.ref a) H2) (fun _ _ _ => False)) := h
  refine PySem.W.callWith_KW0 (h₀ := X.base) I.ok.mod.kin T.kC (by rfl) (thn ((pk_cons (nm := some nm) (kpos := kp) ha pk_nil).run pos pins s σ H _ I h') fun us s1 ⟨vs, H1, I1, r1, z, ez, q1⟩ => ⟨I1.kIn, ?_⟩) (by rfl)
  subst ez
  have e3 : ((backToKw pos (keywordEach [⟨some nm, e, kp⟩] X.env)).filterMap (·.1)) = [nm] := rfl
  rw [e3]
  cases r1 with
  | cons ra rr =>
    cases rr with
    | nil => exact run_mkV (us := [_]) (vs := [_]) (rest := []) (kw := [(nm, _)]) T iC tI F1 hr I1 (.cons ra .nil) (Nat.zero_le _) (fun s' self hk => hb s' self _ hk) q1
/-- C(), a class without an own __init__ -/
theorem pe_ex0 {bm : List Value} (q : PySem.W.excIn X.K C bm "ValueError.__new__" = true) (F : ExcBaseFacts "ValueError" "ValueError.__new__" "ValueError.__init__" bm) (kC : PySem.W.keepIn X.K (.ref C) = true) (hg : Gl X x) (hm : X.mg x = some (.ref C))
    (hdb : (x == ("__debug__" : Str)) = false := by decide) :
    PE X (.Call (.Name x p) [] [] pos) (fun _ H Q => ∀ a, H a = none → Q (.ref a) (upd H a (exo a C none))) := by
  refine ⟨fun pins s σ H Q I h => ?_⟩
  refine wpAny_Call_Name_kw (ld_glob I hg hm ?_ hdb)
  refine PySem.W.callWith_K0 I.kIn kC ?_
  show wpAny _ _ (call (.ref C) []) _ _ _
  obtain ⟨hp, g, dr, tk, os⟩ := s
  obtain ⟨bm, N, nm, qn, bs, hdct, sn, sub, ab, col, dd, k0, k1, k2, k3, k5, mN, hC, hN, hni, T⟩ := exc_obj I.kIn q
  refine wpAny_call_exc_subT F T hC hN hni (fun h' a hm => ?_) (by show 0 ≤ sizeLine; exact Nat.zero_le _)
  have hn : H a = none := I.hok.gone hm.new
  obtain ⟨t, ht, _, _⟩ := hm.there
  exact ⟨.ref a, upd H a (exo a C none), I.laidN hm.keeps hm.new hn (exo_ok ht), rfl, h a hn⟩

/-! ### the __init__ of such a class: self.f = f -/
/-- an error that is being made: its one field is stored -/
def spXI (K : PySem.W.Frag) (f : Str) : Sp := fun vs H Q _ => ∃ (p C : Addr) (y : V), vs = [.ref p, y] ∧ OexC K C ∧ PySem.W.findIn K (.ref C) f = some none ∧ H p = some (exo p C none) ∧
  ∀ d, H d = none → d ≠ p → Q .non (upd (upd H d (exd d [(f, y)])) p (exo p C (some d)))
end
section
variable {P : Program} {w : World} {K : PySem.W.Frag} {mg : Str → Option Value} {base : Heap} {fI : Addr} {fd : FuncData} {f qual : Str} {p1 p2 p3 p4 : Pos} {args : Arguments} {sc : Scope}
theorem ok_xinit (F : FunD K "__init__" qual args [.Assign [.Attribute (.Name "self" p1) f p2] (.Name f p3) p4] sc [] [] fI fd) (S : FnScope ["self", f] ["self", f] sc) (hf : (f == ("__debug__" : Str)) = false) (hf2 : (f == ("__classdict__" : Str)) = false) :
    FnOk P w K mg base CX0 1 fI fd ["self", f] (spXI K f) := by
  refine F.ok S (fun vs H Q E h => ?_) (fun cdv A outer s H vs Q E hr h => ?_)
  · obtain ⟨p, C, y, rfl, _⟩ := h
    rfl
  · obtain ⟨p, C, y, rfl, T, hno, hp, k⟩ := h
    refine ⟨_, pss_one (ps_ost (pe_var (i := 0) rfl (by first | exact (S.par _ (by simp)).elim .inl (fun z => .inr (.inl z))) (by decide) (by decide)) (pe_var (i := 1) rfl ((S.par _ (by simp)).elim .inl (fun z => .inr (.inl z))) hf hf2)), ?_⟩
    refine ⟨_, rfl, _, rfl, p, C, rfl, T, hno, .inl ⟨hp, fun d hd ne => ?_⟩⟩
    exact k d hd ne
end
end L2

set_option Elab.async false
set_option linter.all false
set_option maxRecDepth 100000
set_option maxHeartbeats 4000000
namespace H89
open PySem PySem.Spec PyProof.Rows L2
def top (i : Nat) : Stmt := PySem.Challenge.pw_tiedproofs_k95_errors_of_what_is_asked.main.body.getD i (.Pass ⟨0, 0, 0, 0⟩)
abbrev sStart : Stmt := top 54
abbrev sPick : Stmt := top 55
abbrev sBetween : Stmt := top 56
abbrev FnP (K : PySem.W.Frag) (x : Str) (st : Stmt) (f : Addr) (fd : FuncData) : Prop := FunD K x x (defArgs st) (defBody st) (defScope st) [] [] f fd
/-! ### the draws -/
structure LS where
  ns : List Int
  a : Int
  b : Int
  c : Int
structure LS.Ok (S : LS) : Prop where
  a0 : 0 ≤ S.a
  b0 : 0 ≤ S.b
  b1 : S.b ≤ 1000000
  c0 : 0 ≤ S.c
  c1 : S.c < 2147483647
structure StAt (H : Hp) (p q : Addr) (S : LS) : Prop where
  hp : H p = some (.lst [.ref q, .int S.a, .int S.b, .int S.c])
  hq : H q = some (.lst (S.ns.map V.int))
  ne : p ≠ q
theorem dpInts {K : PySem.W.Frag} {H : Hp} : ∀ ns : List Int, DpAll K H (ns.map V.int) (ns.map PyData.int)
  | [] => .nil
  | n :: r => .cons (.int n) (dpInts r)
theorem layInts : ∀ ns : List Int, PyData.canLayAll0 (ns.map PyData.int) = true
  | [] => rfl
  | n :: r => by
    show (PyData.canLay0 (.int n) && PyData.canLayAll0 (r.map PyData.int)) = true
    rw [layInts r]
    rfl
theorem depInts : ∀ ns : List Int, PyData.depthAll (ns.map PyData.int) ≤ 1
  | [] => by simp [PyData.depthAll]
  | n :: r => by
    have h := depInts r
    simp [PyData.depthAll, PyData.depth] at h ⊢
    try omega
theorem shInts (ns : List Int) : SeqAt.shaped (.list (ns.map PyData.int)) = true := by
  unfold SeqAt.shaped
  have h := depInts ns
  have e : (PyData.list (ns.map PyData.int)).canLay0 = true := layInts ns
  rw [e]
  simp [PyData.depth]
  omega
theorem eqvInts : ∀ ns : List Int, PyData.eqv (.list (ns.map PyData.int)) (.list []) = ns.isEmpty
  | [] => rfl
  | n :: r => rfl
end H89
namespace H89
open PySem PySem.Spec PyProof.Rows L2
theorem ifT {c : Bool} {A B : Prop} (h : c = true) (x : A) : if c = true then A else B := by rw [if_pos h]; exact x
theorem ifF {c : Bool} {A B : Prop} (h : c = false) (x : B) : if c = true then A else B := by rw [h, if_neg Bool.false_ne_true]; exact x
/-- while, by a word, a measure, and a word behind it -/
theorem while_inv {c : TT} {tb : TS} {D : Ends} {σ : L2.St} {H : Hp} (Pv Pd : L2.St → Hp → Prop) (μ : L2.St → Hp → Nat) (h0 : Pv σ H)
    (hs : ∀ σ H, Pv σ H → c σ H fun b H1 => if b = true then tb { D with nx := fun σ' H' => Pv σ' H' ∧ μ σ' H' < μ σ H, ct := fun σ' H' => Pv σ' H' ∧ μ σ' H' < μ σ H, bk := D.nx } σ H1 else Pd σ H1)
    (hd : ∀ σ H, Pd σ H → D.nx σ H)
    (mono : ∀ σ H Q Q', (∀ b H1, Q b H1 → Q' b H1) → c σ H Q → c σ H Q') : tWhile c tb D σ H :=
  while_by Pv μ h0 (fun σ H p => mono σ H _ _ (fun b H1 q => by cases b with
    | true => exact q
    | false => exact hd σ H1 q) (hs σ H p)) mono
/-- a first cell of the draws' list is taken: its place in the list -/
theorem seq0 {n : Nat} (h : 0 < n) : seqIndex? 0 n = some 0 := by
  have e : ixN n 0 = some 0 := by
    unfold ixN
    rw [if_pos (by decide), if_pos (by omega)]
    rfl
  exact (ixN_seq e).1
/-- an int handed to _law_pick, a drawn number from 0 to many - 1 -/
def spPick : Sp := fun vs H Q _ => ∃ (p q : Addr) (S : LS) (many : Int), vs = [.ref p, .int many] ∧ StAt H p q S ∧ S.Ok ∧ S.b < 1000000 ∧ 0 < many ∧ many < 1073741824 ∧
  ∀ (r : Int) (S' : LS) (H' : Hp), 0 ≤ r → r < many → StAt H' p q S' → S'.Ok → S'.b = S.b + 1 → (∀ a o, H a = some o → a ≠ p → a ≠ q → H' a = some o) → Q (.int r) H'
structure FrP (mg : Str → Option Value) : Prop where
  abs : mg "abs" = none
  int : mg "int" = none
theorem nz1 : (2147483647 : Int) ≠ 0 := by decide
theorem nz2 : (2147483629 : Int) ≠ 0 := by decide
theorem nz3 : (1000000007 : Int) ≠ 0 := by decide
section
variable {P : Program} {w : World} {K : PySem.W.Frag} {mg : Str → Option Value} {base : Heap} {f : Addr} {fd : FuncData}
theorem scP : FnScope ["state", "many", "cell", "digit", "mixed"] ["state", "many"] (defScope sPick) := ⟨rfl, rfl, rfl, by decide +kernel, rfl, by decide +kernel, by decide +kernel⟩
theorem ok_pick (F : FnP K "_law_pick" sPick f fd) (T : FrP mg) : FnOk P w K mg base CX0 1 f fd ["state", "many"] spPick := by
  refine F.ok scP (fun vs H Q E h => ?_) (fun cdv A outer s H vs Q E hr h => ?_)
  · obtain ⟨p, q, S, many, rfl, _⟩ := h
    rfl
  · obtain ⟨p, q, S, many, rfl, I, O, hb, hm0, hm1, k⟩ := h
    have hu : _ + 64 < cLine := hr.units
    refine ⟨_, PSs.nox (pss_cons (ps_asg (pe_op op_add (pe_ix ix_list (pv 0) pe_int (fun _ _ => rfl)) pe_int) (pg_sub (pv 0) pe_int set_list))
      (pss_cons (ps_while PassesOwn.never (PW.pt (pw_and (pt_cmpR op_eq (pe_ix ix_list (pv 0) pe_int (fun _ _ => rfl)) pe_int (nomark _)) (pw_and1 (pt_cmpR (op_neD hu) (pe_ix ix_list (pv 0) pe_int (fun _ _ => rfl)) (pe_lst pa_nil) (nomark _)))))
        (pss_cons (ps_set (i := 2) scP.nd rfl (Or.inl rfl) (pe_callB call_abs (by rfl) T.abs (by decide +kernel) (pa_cons (pe_bm PySem.F.plainAttrs_list PySem.F.slot_list_pop PySem.F.type_list_pop mt_popAt (pe_ix ix_list (pv 0) pe_int (fun _ _ => rfl)) (pa_cons pe_int pa_nil)) pa_nil)))
        (pss_cons (ps_asg (pe_op op_modN (pe_callTy call_int1 (by rfl) T.int (by decide +kernel) (pa_cons (pe_op op_add (pe_op op_add (pe_op op_mul (pe_ix ix_list (pv 0) pe_int (fun _ _ => rfl)) pe_int) (pv 2)) pe_int) pa_nil)) pe_int) (pg_sub (pv 0) pe_int set_list))
        (pss_one (ps_asg (pe_ifExp (pt_cmpR op_ge (pv 2) (pe_op op_pow pe_int pe_int) (nomark _)) (pv 2) pe_int) (pg_sub (pv 0) pe_int set_list))))))
      (pss_cons (ps_if (pt_cmpR op_gt (pe_ix ix_list (pv 0) pe_int (fun _ _ => rfl)) pe_int (nomark _))
        (pss_cons (ps_set (i := 3) scP.nd rfl (Or.inl rfl) (pe_op op_modN (pe_callTy call_int1 (by rfl) T.int (by decide +kernel) (pa_cons (pe_ix ix_list (pv 0) pe_int (fun _ _ => rfl)) pa_nil)) (pv 1)))
        (pss_cons (ps_asg (pe_op op_fdivN (pe_ix ix_list (pv 0) pe_int (fun _ _ => rfl)) (pv 1)) (pg_sub (pv 0) pe_int set_list))
        (pss_one (ps_ret (pv 3))))) pss_nil)
      (pss_cons (ps_set (i := 4) scP.nd rfl (Or.inl rfl) (pe_op op_modN (pe_callTy call_int1 (by rfl) T.int (by decide +kernel) (pa_cons (pe_op op_pow (pe_op op_add (pe_op op_add (pe_ix ix_list (pv 0) pe_int (fun _ _ => rfl)) (pe_op op_mul pe_int (pe_ix ix_list (pv 0) pe_int (fun _ _ => rfl)))) pe_int) pe_int) pa_nil)) pe_int))
      (pss_one (ps_ret (pe_op op_modN (pe_op op_modN (pe_callTy call_int1 (by rfl) T.int (by decide +kernel) (pa_cons (pe_op op_pow (pe_op op_add (pe_op op_add (pe_op op_mul (pv 4) pe_int) (pe_op op_mul pe_int (pe_ix ix_list (pv 0) pe_int (fun _ _ => rfl)))) pe_int) pe_int) pa_nil)) pe_int) (pv 1)))))))), ?_⟩
    refine ⟨_, rfl, p, _, _, _, rfl, rfl, SqL.of I.hp, rfl, _, _, rfl, rfl, _, rfl, p, _, _, 2, rfl, rfl, I.hp, rfl, ?_⟩
    -- the loop: the cells are taken up to the first great one
    have same : ∀ {H' : Hp} {S1 S2 : LS} {o : HO}, StAt H' p q S1 → o = .lst [.ref q, .int S2.a, .int S2.b, .int S2.c] → S1.ns = S2.ns → StAt (upd H' p o) p q S2 := fun {H' S1 S2 o} J e en =>
      ⟨by rw [upd_same, e], by rw [upd_ne J.ne.symm, J.hq, en], J.ne⟩
    have I1 : StAt (upd H p (.lst [.ref q, .int S.a, .int (S.b + 1), .int S.c])) p q ⟨S.ns, S.a, S.b + 1, S.c⟩ := same I rfl rfl
    refine while_inv (fun σ H' => ∃ (S' : LS) (v : Option V), σ = [some (.ref p), some (.int many), v, none, none] ∧ StAt H' p q S' ∧ S'.Ok ∧ S'.b = S.b + 1 ∧ (∀ a o, H a = some o → a ≠ p → a ≠ q → H' a = some o))
      (fun σ H' => ∃ (S' : LS) (v : Option V), σ = [some (.ref p), some (.int many), v, none, none] ∧ StAt H' p q S' ∧ S'.Ok ∧ S'.b = S.b + 1 ∧ (∀ a o, H a = some o → a ≠ p → a ≠ q → H' a = some o))
      (fun σ H' => match H' q with
        | some (.lst xs) => xs.length
        | _ => 0) ⟨_, none, rfl, I1, ⟨O.a0, by have := O.b0; show 0 ≤ S.b + 1; omega, by show S.b + 1 ≤ 1000000; omega, O.c0, O.c1⟩, rfl, fun a o e h1 _ => by rw [upd_ne h1]; exact e⟩ ?_ ?_ ?_
    · rintro σ H' ⟨S', v, rfl, J, O', eb, kp⟩
      refine ⟨_, rfl, p, _, _, _, rfl, rfl, SqL.of J.hp, rfl, rfl, _, rfl, ?_⟩
      by_cases ha : S'.a = 0
      · refine ifT (decide_eq_true (by rw [ha])) ?_
        refine ⟨_, rfl, p, _, _, _, rfl, rfl, SqL.of J.hp, rfl, Nat.zero_le _, fun l hl => ?_⟩
        have lp : p ≠ l := ne_of_none J.hp hl
        have lq : q ≠ l := ne_of_none J.hq hl
        refine ⟨.list (S'.ns.map PyData.int), .list [], .lst (SqL.of (by rw [upd_ne lq]; exact J.hq)) (dpInts _), .lst (SqL.of upd_same) .nil, shInts _, rfl, _, rfl, ?_⟩
        have J' : StAt (upd H' l (.lst [])) p q S' := ⟨by rw [upd_ne lp]; exact J.hp, by rw [upd_ne lq]; exact J.hq, J.ne⟩
        have kp' : ∀ a o, H a = some o → a ≠ p → a ≠ q → upd H' l (.lst []) a = some o := fun a o e h1 h2 => by
          have e' := kp a o e h1 h2
          rw [upd_ne (ne_of_none e' hl)]
          exact e'
        have hμ : (match H' q with
          | some (HO.lst xs) => xs.length
          | _ => 0) = S'.ns.length := by rw [J.hq]; exact List.length_map ..
        generalize hM : (match H' q with
          | some (HO.lst xs) => xs.length
          | _ => 0) = M at hμ ⊢
        generalize hH : upd H' l (.lst []) = H2 at J' kp'
        rw [eqvInts]
        obtain ⟨ns, a, b, c⟩ := S'
        cases ns with
        | nil => exact iteF ⟨_, v, rfl, J', O', eb, kp'⟩
        | cons n r =>
          refine iteT ?_
          refine ⟨_, rfl, p, _, _, _, rfl, rfl, SqL.of J'.hp, rfl, .inl ⟨rfl, _, .inl (.inl J'.hq)⟩, q, _, 0, 0, _, rfl, rfl, J'.hq, by decide, by decide, seq0 (Nat.succ_pos _), rfl, _, rfl, ?_⟩
          show tSeq _ _ _ _ _
          have K1 : StAt (upd H2 q (.lst (r.map V.int))) p q ⟨r, a, b, c⟩ := ⟨by rw [upd_ne J'.ne]; exact J'.hp, upd_same, J'.ne⟩
          have kp1 : ∀ a o, H a = some o → a ≠ p → a ≠ q → upd H2 q (.lst (r.map V.int)) a = some o := fun a o e h1 h2 => by rw [upd_ne h2]; exact kp' a o e h1 h2
          have e1 : (((n :: r).map V.int).eraseIdx 0) = r.map V.int := rfl
          rw [e1]
          generalize upd H2 q (.lst (r.map V.int)) = H3 at K1 kp1 ⊢
          have hc0 : 0 ≤ c := O'.c0
          have hc1 : c < 2147483647 := O'.c1
          refine ⟨_, rfl, p, _, _, _, rfl, rfl, SqL.of K1.hp, rfl, _, _, rfl, rfl, .inl ⟨by show -(2 ^ 64) < c; omega, by show c < 2 ^ 64; omega⟩, _, rfl, _, _, rfl, rfl, _, _, rfl, rfl, .inl ⟨_, rfl, _, _, rfl, rfl, nz1, _, rfl, p, _, _, 3, rfl, rfl, K1.hp, rfl, ?_⟩⟩
          have q0 : 0 ≤ (c * 6151 + (if n < 0 then -n else n) + 5).fmod 2147483647 := Int.fmod_nonneg_of_pos _ (by decide)
          have q1 : (c * 6151 + (if n < 0 then -n else n) + 5).fmod 2147483647 < 2147483647 := Int.fmod_lt_of_pos _ (by decide)
          have K2 := same (S2 := ⟨r, a, b, (c * 6151 + (if n < 0 then -n else n) + 5).fmod 2147483647⟩) K1 rfl rfl
          refine ⟨_, rfl, _, _, rfl, rfl, ⟨by decide, by decide, by decide⟩, _, _, rfl, rfl, _, rfl, ?_⟩
          have hcell : 0 ≤ (if n < 0 then -n else n) := by split <;> omega
          have fin : ∀ z : Int, 0 ≤ z → ∀ H4 : Hp, StAt H4 p q ⟨r, z, b, (c * 6151 + (if n < 0 then -n else n) + 5).fmod 2147483647⟩ → (∀ a o, H a = some o → a ≠ p → a ≠ q → H4 a = some o) → ∀ v' : Option V,
            (∃ (S' : LS) (v : Option V), ([some (.ref p), some (.int many), v', none, none] : L2.St) = [some (.ref p), some (.int many), v, none, none] ∧ StAt H4 p q S' ∧ S'.Ok ∧ S'.b = S.b + 1 ∧ (∀ a o, H a = some o → a ≠ p → a ≠ q → H4 a = some o)) ∧
              (match H4 q with
                | some (HO.lst xs) => xs.length
                | _ => 0) < M := fun z hz H4 K4 k4 v' => ⟨⟨_, v', rfl, K4, ⟨hz, O'.b0, O'.b1, q0, q1⟩, eb, k4⟩, by
                  rw [K4.hq, hμ]
                  show (r.map V.int).length < r.length + 1
                  rw [List.length_map]
                  exact Nat.lt_succ_self _⟩
          refine ite2 (fun _ => ?_) (fun _ => ?_)
          · refine ⟨_, rfl, _, rfl, p, _, _, 1, rfl, rfl, K2.hp, rfl, ?_⟩
            exact fin _ hcell _ (same K2 rfl rfl) (fun a o e h1 h2 => by rw [upd_ne h1, upd_ne h1]; exact kp1 a o e h1 h2) _
          · refine ⟨_, rfl, p, _, _, 1, rfl, rfl, K2.hp, rfl, ?_⟩
            exact fin 0 (Int.le_refl 0) _ (same K2 rfl rfl) (fun a o e h1 h2 => by rw [upd_ne h1, upd_ne h1]; exact kp1 a o e h1 h2) _
      · exact ifF (decide_eq_false (by intro z; exact ha (V.int.inj z))) ⟨S', v, rfl, J, O', eb, kp⟩
    · rintro σ H' ⟨S', v, rfl, J, O', eb, kp⟩
      refine ⟨_, rfl, p, _, _, _, rfl, rfl, SqL.of J.hp, rfl, _, _, rfl, rfl, _, rfl, ?_⟩
      have hc0 := O'.c0
      have hc1 := O'.c1
      have hb0 := O'.b0
      have hb1 := O'.b1
      refine ite2 (fun hpos => ?_) (fun hneg => ?_)
      · have ha : 0 < S'.a := of_decide_eq_true hpos
        refine ⟨_, rfl, p, _, _, _, rfl, rfl, SqL.of J.hp, rfl, .inl ⟨_, rfl, _, rfl, _, _, rfl, rfl, by omega, ?_⟩⟩
        refine ⟨_, rfl, p, _, _, _, rfl, rfl, SqL.of J.hp, rfl, _, rfl, _, _, rfl, rfl, ⟨by omega, by omega⟩, _, rfl, p, _, _, 1, rfl, rfl, J.hp, rfl, _, rfl, ?_⟩
        exact k _ ⟨S'.ns, S'.a.fdiv many, S'.b, S'.c⟩ _ (Int.fmod_nonneg_of_pos _ hm0) (Int.fmod_lt_of_pos _ hm0) (same J rfl rfl) ⟨Int.fdiv_nonneg O'.a0 (by omega), O'.b0, O'.b1, O'.c0, O'.c1⟩ eb (fun a o e h1 h2 => by rw [upd_ne h1]; exact kp a o e h1 h2)
      · refine ⟨_, rfl, p, _, _, _, rfl, rfl, SqL.of J.hp, rfl, _, rfl, p, _, _, _, rfl, rfl, SqL.of J.hp, rfl, _, _, rfl, rfl, .inl ⟨by decide, by decide⟩, _, _, rfl, rfl, _, _, rfl, rfl, _, _, rfl, rfl, ⟨by decide, by decide, ?_⟩, .inl ⟨_, rfl, _, _, rfl, rfl, nz2, ?_⟩⟩
        · omega
        · have z0 : 0 ≤ ((S'.c + 7907 * S'.b + 104723) ^ Int.toNat 5).fmod 2147483629 := Int.fmod_nonneg_of_pos _ (by decide)
          have z1 : ((S'.c + 7907 * S'.b + 104723) ^ Int.toNat 5).fmod 2147483629 < 2147483629 := Int.fmod_lt_of_pos _ (by decide)
          generalize hz : ((S'.c + 7907 * S'.b + 104723) ^ Int.toNat 5).fmod 2147483629 = z at z0 z1 ⊢
          refine ⟨_, rfl, _, _, rfl, rfl, .inl ⟨by omega, by omega⟩, _, rfl, p, _, _, _, rfl, rfl, SqL.of J.hp, rfl, _, _, rfl, rfl, .inl ⟨by decide, by decide⟩, _, _, rfl, rfl, _, _, rfl, rfl, _, _, rfl, rfl, ⟨by decide, by decide, ?_⟩, .inl ⟨_, rfl, _, _, rfl, rfl, nz3, _, rfl, _, _, rfl, rfl, by omega, ?_⟩⟩
          · omega
          · exact k _ S' _ (Int.fmod_nonneg_of_pos _ hm0) (Int.fmod_lt_of_pos _ hm0) J O' eb kp
    · intro σ H' Q1 Q2 hq h
      obtain ⟨v, e1, p', xs, i, x, e2, e3, e4, e5, e6, k, e7, h⟩ := h
      refine ⟨v, e1, p', xs, i, x, e2, e3, e4, e5, e6, k, e7, ?_⟩
      cases k with
      | false => exact hq _ _ h
      | true =>
        obtain ⟨v2, f1, p2, xs2, i2, x2, f2, f3, f4, f5, f6, h⟩ := h
        refine ⟨v2, f1, p2, xs2, i2, x2, f2, f3, f4, f5, f6, fun l hl => ?_⟩
        obtain ⟨d, e, g1, g2, g3, g4, k2, g5, h⟩ := h l hl
        exact ⟨d, e, g1, g2, g3, g4, k2, g5, hq _ _ h⟩
end
end H89

set_option Elab.async false
set_option linter.all false
set_option maxRecDepth 100000
set_option maxHeartbeats 4000000
namespace H89
open PySem PySem.Spec PyProof.Rows L2
abbrev sSame : Stmt := top 57
/-- a value that stands by itself -/
inductive Sc : V → Prop where
  | non : Sc .non
  | bl (b : Bool) : Sc (.bl b)
  | int (i : Int) : Sc (.int i)
  | str (x : Str) : Sc (.str x)
/-- two values of one content, n deep -/
inductive Sm (H : Hp) : Nat → V → V → Prop where
  | sc {n : Nat} {v : V} : Sc v → Sm H n v v
  | lst {n : Nat} {a b : Addr} {xs ys : List V} : H a = some (.lst xs) → H b = some (.lst ys) → xs.length = ys.length → xs.length ≤ 1000 → (∀ (i : Nat) (x y : V), xs[i]? = some x → ys[i]? = some y → Sm H n x y) → Sm H (n + 1) (.ref a) (.ref b)
  | tup {n : Nat} {a b : Addr} {xs ys : List V} : H a = some (.tup xs) → H b = some (.tup ys) → xs.length = ys.length → xs.length ≤ 1000 → (∀ (i : Nat) (x y : V), xs[i]? = some x → ys[i]? = some y → Sm H n x y) → Sm H (n + 1) (.ref a) (.ref b)
  | dct {n : Nat} {a : Addr} {kvs : List (Key × V)} : H a = some (.dK kvs) → kvs.length ≤ 1000 → (∀ kv ∈ kvs, (∃ x : Str, kv.1 = Sum.inr x) ∧ Sc kv.2) → Sm H (n + 2) (.ref a) (.ref a)
/-- nothing that stood has gone -/
def Kp (H H' : Hp) : Prop := ∀ a o, H a = some o → H' a = some o
theorem Kp.rfl {H : Hp} : Kp H H := fun _ _ e => e
theorem Kp.trans {H1 H2 H3 : Hp} (a : Kp H1 H2) (b : Kp H2 H3) : Kp H1 H3 := fun x o e => b x o (a x o e)
theorem Kp.new {H : Hp} {a : Addr} {o : HO} (h : H a = none) : Kp H (upd H a o) := fun x o e => by rw [upd_ne (ne_of_none e h)]; exact e
theorem Sm.kp {H H' : Hp} (k : Kp H H') : ∀ {n : Nat} {u v : V}, Sm H n u v → Sm H' n u v := by
  intro n u v h
  induction h with
  | sc s => exact .sc s
  | lst a b c d _ ih => exact .lst (k _ _ a) (k _ _ b) c d ih
  | tup a b c d _ ih => exact .tup (k _ _ a) (k _ _ b) c d ih
  | dct a b c => exact .dct (k _ _ a) b c
def spSame : Nat → Sp
  | 0 => fun _ _ _ _ => False
  | n + 1 => fun vs H Q _ => ∃ u v, vs = [u, v] ∧ Sm H n u v ∧ ∀ H', Kp H H' → Q (.bl true) H'
structure FrS (mg : Str → Option Value) : Prop where
  isinstance : mg "isinstance" = none
  len : mg "len" = none
  all : mg "all" = none
  zip : mg "zip" = none
  list : mg "list" = none
  tuple : mg "tuple" = none
  dict : mg "dict" = none
  bool : mg "bool" = none
  int : mg "int" = none
  str : mg "str" = none
theorem scS : FnScope ["found", "due", "mine", "theirs", "key"] ["found", "due"] (defScope sSame) := ⟨rfl, rfl, rfl, by decide +kernel, rfl, by decide +kernel, by decide +kernel⟩
/-! ### readings -/
theorem rdI {K : PySem.W.Frag} {i : Nat} {n t : String} {v : V} {b : Bool} {σ : L2.St} {H : Hp} {Q : VK} (h : σ[i]? = some (some v)) (ty : TyX K H v (.type t)) (k : kitB t n = some b) (q : Q (.bl b) H) :
    tCB (rIsi K) (tCons (tVar i) (tCons (tC (.ty n)) tNil)) σ H Q := ⟨v, h, v, .ty n, .type t, .type n, b, rfl, .ty n, ty, kit_ty k, q⟩
theorem kit2 {K : PySem.W.Frag} {t n m : String} {a b : Bool} (h : kitB t n = some a) (g : kitB t m = some b) : PySem.W.kitAny K (.type t) [.type n, .type m] = some (a || b) := by
  refine kitAny_cons (kit_ty h) (fun e => ?_) (fun e => by rw [e]; rfl)
  rw [e]
  refine kitAny_cons (kit_ty g) (fun e => ?_) (fun e => by rw [e]; rfl)
  rw [e]
  exact kitAny_nil
theorem rdIT {K : PySem.W.Frag} {i : Nat} {n m t : String} {v : V} {a b : Bool} {σ : L2.St} {H : Hp} {Q : VK} (h : σ[i]? = some (some v)) (ty : ∀ H', Kp H H' → TyX K H' v (.type t)) (k1 : kitB t n = some a) (k2 : kitB t m = some b)
    (q : ∀ H', Kp H H' → Q (.bl (a || b)) H') :
    tCB (rIsiT K) (tCons (tVar i) (tCons (tTup (tCons (tC (.ty n)) (tCons (tC (.ty m)) tNil))) tNil)) σ H Q :=
  ⟨v, h, by show 2 ≤ sizeLine; decide, fun p hp => ⟨v, p, [.ty n, .ty m], .type t, [.type n, .type m], a || b, rfl, upd_same, .cons (.ty n) (.cons (.ty m) .nil), ty _ (Kp.new hp), kit2 k1 k2, q _ (Kp.new hp)⟩⟩
theorem rdEq {i j : Nat} {v : V} {σ : L2.St} {H : Hp} {Q : VK} (h : σ[i]? = some (some v)) (g : σ[j]? = some (some v)) (s : scal v v = true) (q : Q (.bl true) H) : tOp rEq (tVar i) (tVar j) σ H Q :=
  ⟨v, h, v, g, s, by rw [decide_eq_true rfl]; exact q⟩
theorem Kp.at {H H' : Hp} {D : Addr} {o : HO} (k : Kp H H') (h : H D = none) : Kp H (upd H' D o) := fun x p e => by rw [upd_ne (ne_of_none e h)]; exact k x p e
theorem walk_zipT {K : PySem.W.Frag} {a b : Addr} {xs ys : List V} {n : Nat} (hn : n = min xs.length ys.length) : Walk (RZ.ItzT K a b) n (fun H => SqT K H a xs ∧ SqT K H b ys) (YPair (fun i => xs[i]?) (fun i => ys[i]?)) := by
  subst hn
  refine ⟨fun i _ hi q => ?_, fun _ q => ⟨xs, ys, q.1, q.2, by omega⟩, fun i H v H' _ q y => ?_⟩
  · have h1 : i < xs.length := by omega
    have h2 : i < ys.length := by omega
    exact ⟨xs, ys, xs[i], ys[i], q.1, q.2, by simp [h1], by simp [h2]⟩
  · obtain ⟨T, x, z, h1, h2, h3, h4, h5⟩ := y
    exact ⟨T, x, z, h1, h2, h3, h4 xs q.1, h5 ys q.2⟩
theorem valV_mem {kvs : List (Key × V)} {k : Key} {v : V} (h : ∀ kv ∈ kvs, Sc kv.2) (m : (k, v) ∈ kvs) : ∃ v', valV kvs k = some v' ∧ Sc v' := by
  have h1 : (kvs.find? fun kv => decide (kv.1 = k)).isSome = true := List.find?_isSome.mpr ⟨(k, v), m, by simp⟩
  obtain ⟨kv, e⟩ := Option.isSome_iff_exists.mp h1
  exact ⟨kv.2, by unfold valV; rw [e]; rfl, h kv (List.mem_of_find?_eq_some e)⟩
section
variable {P : Program} {w : World} {K : PySem.W.Frag} {mg : Str → Option Value} {base : Heap} {f : Addr} {fd : FuncData}
theorem ok_same (F : FnP K "_law_same" sSame f fd) (gF : mg "_law_same" = some (.ref f)) (T : FrS mg) : ∀ n : Nat, FnOk P w K mg base CX0 n f fd ["found", "due"] (spSame n)
  | 0 => ⟨fun _ _ _ _ h => h.elim, fun _ _ _ _ _ _ _ _ _ _ _ _ _ h => h.elim⟩
  | n + 1 => by
    have G := ok_same F gF T n
    have bF : Binds K fd ["found", "due"] [] := F.bindsN fun _ _ _ _ _ _ us hl => match us, hl with | [_, _], _ => rfl
    refine F.ok scS (fun vs H Q E h => ?_) (fun cdv A outer s H vs Q E hr h => ?_)
    · obtain ⟨u, v, rfl, _⟩ := h
      rfl
    · have hu : _ + 64 < cLine := hr.units
      have hu1 : (A.deeper (envOfC (Str.ofString "_law_same") (defScope sSame) s.heap.objs.size f cdv)).units + 1 < cLine := by omega
      refine ⟨_, PSs.nox (pss_cons (ps_if (pt_val (pe_callB call_isiT (by rfl) T.isinstance (by decide +kernel) (pa_cons (pv 1) (pa_cons (pe_tup (pa_cons (pe_bltn (v := .ty "list") (by rfl) T.list (by decide +kernel) rfl) (pa_cons (pe_bltn (v := .ty "tuple") (by rfl) T.tuple (by decide +kernel) rfl) pa_nil))) pa_nil))))
        (pss_cons (ps_if (PW.pt (pw_or (pt_cmpR op_ne (pe_callB call_isi (by rfl) T.isinstance (by decide +kernel) (pa_cons (pv 0) (pa_cons (pe_bltn (v := .ty "list") (by rfl) T.list (by decide +kernel) rfl) pa_nil))) (pe_callB call_isi (by rfl) T.isinstance (by decide +kernel) (pa_cons (pv 1) (pa_cons (pe_bltn (v := .ty "list") (by rfl) T.list (by decide +kernel) rfl) pa_nil))) (nomark _))
            (pw_or1 (pt_cmpR op_ne (pe_callB call_isi (by rfl) T.isinstance (by decide +kernel) (pa_cons (pv 0) (pa_cons (pe_bltn (v := .ty "tuple") (by rfl) T.tuple (by decide +kernel) rfl) pa_nil))) (pe_callB call_isi (by rfl) T.isinstance (by decide +kernel) (pa_cons (pv 1) (pa_cons (pe_bltn (v := .ty "tuple") (by rfl) T.tuple (by decide +kernel) rfl) pa_nil))) (nomark _)))))
            (pss_one (ps_ret pe_bl)) pss_nil)
          (pss_one (ps_ret (pe_and (pe_cmpR op_eq (pe_callB call_len_seq (by rfl) T.len (by decide +kernel) (pa_cons (pv 0) pa_nil)) (pe_callB call_len_seq (by rfl) T.len (by decide +kernel) (pa_cons (pv 1) pa_nil)) (nomark _))
            (pe_one (pe_callB (cr_all rfl) (by rfl) T.all (by decide +kernel) (pa_cons
              (pe_lc (own := [("mine", 2), ("theirs", 3)]) (g := gTup _ 2 (gCons (gName 2) (gCons (gName 3) gNil))) (tt := tYes) rfl scS.nd (RZ.pi_zipA (by rfl) T.zip (pa_cons (pv 0) (pa_cons (pv 1) pa_nil))) (blkOk_by (N := ["found", "due", "mine", "theirs", "key"]) (sc := defScope sSame) (by decide +kernel))
                (fun _ _ _ _ _ => pg_tup (by rfl) (pgs_cons (pg_name (i := 2) scS.nd rfl (Or.inl rfl)) (pgs_cons (pg_name (i := 3) scS.nd rfl (Or.inl rfl)) pgs_nil))) (fun _ _ _ _ _ => pts_nil)
                (fun _ _ _ _ _ => pe_call G hr (by rfl) gF F.kp bF .nil pass0 (pa_cons (pv 2) (pa_cons (pv 3) pa_nil)))) pa_nil))))))) pss_nil)
        (pss_cons (ps_if (pt_val (pe_callB call_isi (by rfl) T.isinstance (by decide +kernel) (pa_cons (pv 1) (pa_cons (pe_bltn (v := .ty "dict") (by rfl) T.dict (by decide +kernel) rfl) pa_nil))))
          (pss_cons (ps_if (PW.pt (pw_or (pt_not (pt_val (pe_callB call_isi (by rfl) T.isinstance (by decide +kernel) (pa_cons (pv 0) (pa_cons (pe_bltn (v := .ty "dict") (by rfl) T.dict (by decide +kernel) rfl) pa_nil)))))
              (pw_or1 (pt_not (pt_val (pe_call G hr (by rfl) gF F.kp bF .nil pass0 (pa_cons (pe_callTy (call_listD rfl) (by rfl) T.list (by decide +kernel) (pa_cons (pv 0) pa_nil)) (pa_cons (pe_callTy (call_listD rfl) (by rfl) T.list (by decide +kernel) (pa_cons (pv 1) pa_nil)) pa_nil))))))))
              (pss_one (ps_ret pe_bl)) pss_nil)
            (pss_one (ps_ret (pe_callB (cr_all rfl) (by rfl) T.all (by decide +kernel) (pa_cons
              (pe_lock (pe_lc (own := [("key", 4)]) (g := gName 4) (tt := tYes) rfl scS.nd (pi_keys (pv 1)) (blkOk_by (N := ["found", "due", "mine", "theirs", "key"]) (sc := defScope sSame) (by decide +kernel))
                (fun _ _ _ _ _ => pg_name (i := 4) scS.nd rfl (Or.inl rfl)) (fun _ _ _ _ _ => pts_nil)
                (fun _ _ _ _ _ => pe_call G hr (by rfl) gF F.kp bF .nil pass0 (pa_cons (pe_dget hu1 (pv 0) (pv 4) (fun _ _ => rfl)) (pa_cons (pe_dget hu1 (pv 1) (pv 4) (fun _ _ => rfl)) pa_nil))))) pa_nil))))) pss_nil)
        (pss_cons (ps_if (pt_cmpR op_isN (pv 1) pe_non (nomark _)) (pss_one (ps_ret (pe_cmpR op_isN (pv 0) pe_non (nomark _)))) pss_nil)
        (pss_cons (ps_if (pt_val (pe_callB call_isi (by rfl) T.isinstance (by decide +kernel) (pa_cons (pv 1) (pa_cons (pe_bltn (v := .ty "bool") (by rfl) T.bool (by decide +kernel) rfl) pa_nil))))
          (pss_one (ps_ret (pe_and (pe_callB call_isi (by rfl) T.isinstance (by decide +kernel) (pa_cons (pv 0) (pa_cons (pe_bltn (v := .ty "bool") (by rfl) T.bool (by decide +kernel) rfl) pa_nil))) (pe_one (pe_cmpR op_eq (pv 0) (pv 1) (nomark _)))))) pss_nil)
        (pss_cons (ps_if (pt_val (pe_callB call_isi (by rfl) T.isinstance (by decide +kernel) (pa_cons (pv 1) (pa_cons (pe_bltn (v := .ty "int") (by rfl) T.int (by decide +kernel) rfl) pa_nil))))
          (pss_one (ps_ret (pe_and (pe_callB call_isi (by rfl) T.isinstance (by decide +kernel) (pa_cons (pv 0) (pa_cons (pe_bltn (v := .ty "int") (by rfl) T.int (by decide +kernel) rfl) pa_nil))) (pe_and (pe_not (pe_callB call_isi (by rfl) T.isinstance (by decide +kernel) (pa_cons (pv 0) (pa_cons (pe_bltn (v := .ty "bool") (by rfl) T.bool (by decide +kernel) rfl) pa_nil)))) (pe_one (pe_cmpR op_eq (pv 0) (pv 1) (nomark _))))))) pss_nil)
        (pss_one (ps_ret (pe_and (pe_callB call_isi (by rfl) T.isinstance (by decide +kernel) (pa_cons (pv 0) (pa_cons (pe_bltn (v := .ty "str") (by rfl) T.str (by decide +kernel) rfl) pa_nil))) (pe_one (pe_cmpR op_eq (pv 0) (pv 1) (nomark _))))))))))), ?_⟩
      obtain ⟨u, v, rfl, hs, q⟩ := h
      cases hs with
      | sc hsc =>
        cases hsc with
        | non =>
          refine rdIT (a := false) (b := false) rfl (fun _ _ => .base .non) (by decide +kernel) (by decide +kernel) fun H1 k1 => ⟨_, rfl, ifF rfl ?_⟩
          refine rdI rfl (.base .non) (by decide +kernel) ⟨_, rfl, ifF rfl ?_⟩
          refine ⟨_, rfl, rfl, _, rfl, ifT rfl ?_⟩
          exact ⟨_, rfl, rfl, q _ k1⟩
        | bl b =>
          refine rdIT (a := false) (b := false) rfl (fun _ _ => .base (.bl b)) (by decide +kernel) (by decide +kernel) fun H1 k1 => ⟨_, rfl, ifF rfl ?_⟩
          refine rdI rfl (.base (.bl b)) (by decide +kernel) ⟨_, rfl, ifF rfl ?_⟩
          refine ⟨_, rfl, rfl, _, rfl, ifF rfl ?_⟩
          refine rdI rfl (.base (.bl b)) (by decide +kernel) ⟨_, rfl, ifT rfl ?_⟩
          refine rdI rfl (.base (.bl b)) (by decide +kernel) ⟨_, rfl, ifT rfl ?_⟩
          exact rdEq rfl rfl rfl (q _ k1)
        | int z =>
          refine rdIT (a := false) (b := false) rfl (fun _ _ => .base (.int z)) (by decide +kernel) (by decide +kernel) fun H1 k1 => ⟨_, rfl, ifF rfl ?_⟩
          refine rdI rfl (.base (.int z)) (by decide +kernel) ⟨_, rfl, ifF rfl ?_⟩
          refine ⟨_, rfl, rfl, _, rfl, ifF rfl ?_⟩
          refine rdI rfl (.base (.int z)) (by decide +kernel) ⟨_, rfl, ifF rfl ?_⟩
          refine rdI rfl (.base (.int z)) (by decide +kernel) ⟨_, rfl, ifT rfl ?_⟩
          refine rdI rfl (.base (.int z)) (by decide +kernel) ⟨_, rfl, ifT rfl ?_⟩
          refine rdI (b := false) rfl (.base (.int z)) (by decide +kernel) ⟨_, rfl, _, rfl, ifT rfl ?_⟩
          exact rdEq rfl rfl rfl (q _ k1)
        | str x =>
          refine rdIT (a := false) (b := false) rfl (fun _ _ => .base (.str x)) (by decide +kernel) (by decide +kernel) fun H1 k1 => ⟨_, rfl, ifF rfl ?_⟩
          refine rdI rfl (.base (.str x)) (by decide +kernel) ⟨_, rfl, ifF rfl ?_⟩
          refine ⟨_, rfl, rfl, _, rfl, ifF rfl ?_⟩
          refine rdI rfl (.base (.str x)) (by decide +kernel) ⟨_, rfl, ifF rfl ?_⟩
          refine rdI rfl (.base (.str x)) (by decide +kernel) ⟨_, rfl, ifF rfl ?_⟩
          refine rdI rfl (.base (.str x)) (by decide +kernel) ⟨_, rfl, ifT rfl ?_⟩
          exact rdEq rfl rfl rfl (q _ k1)
      | @lst n a b xs ys ea eb hl hz hs =>
        refine rdIT (a := true) (b := false) rfl (fun H1 k1 => .base (.lst (k1 _ _ eb))) (by decide +kernel) (by decide +kernel) fun H1 k1 => ⟨_, rfl, ifT rfl ?_⟩
        have e1 := k1 _ _ ea
        have e2 := k1 _ _ eb
        refine rdI (b := true) rfl (.base (.lst e1)) (by decide +kernel) (rdI (b := true) rfl (.base (.lst e2)) (by decide +kernel) ⟨rfl, _, rfl, ifF rfl ?_⟩)
        refine rdI (b := false) rfl (.base (.lst e1)) (by decide +kernel) (rdI (b := false) rfl (.base (.lst e2)) (by decide +kernel) ⟨rfl, _, rfl, ifF rfl ?_⟩)
        refine ⟨_, rfl, a, xs, rfl, .inl (SqL.of e1), _, rfl, b, ys, rfl, .inl (SqL.of e2), rfl, _, rfl, ifT (decide_eq_true (by rw [hl])) ?_⟩
        refine ⟨_, rfl, _, rfl, a, b, xs, ys, rfl, .inl ⟨SqL.of e1, SqL.of e2, fun D hD => ?_⟩⟩
        refine lc_it (walk_zip (n := xs.length) (xs := xs) (ys := ys) (by omega)) (fun i H' => Kp H1 H' ∧ H' D = some (.lst ((List.replicate i true).map V.bl))) ⟨Kp.new hD, upd_same⟩ (fun i H' _ p => ⟨SqL.of (p.1 _ _ e1), SqL.of (p.1 _ _ e2)⟩) ?_ ?_
        · rintro i x H2 H3 hi ⟨k2, d2⟩ ⟨T, x, y, rfl, hT, rfl, ex, ey⟩
          refine ⟨T, [x, y], rfl, SqT.of upd_same, rfl, x, [y], rfl, y, [], rfl, rfl, rfl, ?_⟩
          unfold tYes
          refine iteT ?_
          refine ⟨x, rfl, y, rfl, x, y, rfl, ((hs i x y ex ey).kp k1).kp (k2.trans (Kp.new hT)), fun H4 k4 => ?_⟩
          have d4 := k4 _ _ (Kp.new hT _ _ d2)
          refine ⟨_, d4, by rw [List.length_map, List.length_replicate, sizeLine_eq]; omega, ?_, ?_⟩
          · exact Kp.at ((k2.trans (Kp.new hT)).trans k4) hD
          · rw [upd_same, List.replicate_succ', List.map_append]; rfl
        · rintro H2 ⟨k2, d2⟩
          refine ⟨D, _, rfl, SqL.of d2, ?_⟩
          rw [show (List.replicate xs.length true).all id = true by simp]
          exact q _ (k1.trans k2)
      | @tup n a b xs ys ea eb hl hz hs =>
        refine rdIT (a := false) (b := true) rfl (fun H1 k1 => .base (.tup (k1 _ _ eb))) (by decide +kernel) (by decide +kernel) fun H1 k1 => ⟨_, rfl, ifT rfl ?_⟩
        have e1 := k1 _ _ ea
        have e2 := k1 _ _ eb
        refine rdI (b := false) rfl (.base (.tup e1)) (by decide +kernel) (rdI (b := false) rfl (.base (.tup e2)) (by decide +kernel) ⟨rfl, _, rfl, ifF rfl ?_⟩)
        refine rdI (b := true) rfl (.base (.tup e1)) (by decide +kernel) (rdI (b := true) rfl (.base (.tup e2)) (by decide +kernel) ⟨rfl, _, rfl, ifF rfl ?_⟩)
        refine ⟨_, rfl, a, xs, rfl, .inr (SqT.of e1), _, rfl, b, ys, rfl, .inr (SqT.of e2), rfl, _, rfl, ifT (decide_eq_true (by rw [hl])) ?_⟩
        refine ⟨_, rfl, _, rfl, a, b, xs, ys, rfl, .inr ⟨SqT.of e1, SqT.of e2, fun D hD => ?_⟩⟩
        refine lc_it (walk_zipT (n := xs.length) (xs := xs) (ys := ys) (by omega)) (fun i H' => Kp H1 H' ∧ H' D = some (.lst ((List.replicate i true).map V.bl))) ⟨Kp.new hD, upd_same⟩ (fun i H' _ p => ⟨SqT.of (p.1 _ _ e1), SqT.of (p.1 _ _ e2)⟩) ?_ ?_
        · rintro i x H2 H3 hi ⟨k2, d2⟩ ⟨T, x, y, rfl, hT, rfl, ex, ey⟩
          refine ⟨T, [x, y], rfl, SqT.of upd_same, rfl, x, [y], rfl, y, [], rfl, rfl, rfl, ?_⟩
          unfold tYes
          refine iteT ?_
          refine ⟨x, rfl, y, rfl, x, y, rfl, ((hs i x y ex ey).kp k1).kp (k2.trans (Kp.new hT)), fun H4 k4 => ?_⟩
          have d4 := k4 _ _ (Kp.new hT _ _ d2)
          refine ⟨_, d4, by rw [List.length_map, List.length_replicate, sizeLine_eq]; omega, ?_, ?_⟩
          · exact Kp.at ((k2.trans (Kp.new hT)).trans k4) hD
          · rw [upd_same, List.replicate_succ', List.map_append]; rfl
        · rintro H2 ⟨k2, d2⟩
          refine ⟨D, _, rfl, SqL.of d2, ?_⟩
          rw [show (List.replicate xs.length true).all id = true by simp]
          exact q _ (k1.trans k2)
      | @dct n a kvs ea hz hk =>
        refine rdIT (a := false) (b := false) rfl (fun H1 k1 => .base (.dK (k1 _ _ ea))) (by decide +kernel) (by decide +kernel) fun H1 k1 => ⟨_, rfl, ifF rfl ?_⟩
        have e1 := k1 _ _ ea
        refine rdI rfl (.base (.dK e1)) (by decide +kernel) ⟨_, rfl, ifT rfl ?_⟩
        refine rdI (b := true) rfl (.base (.dK e1)) (by decide +kernel) ⟨_, rfl, ifF rfl ?_⟩
        refine ⟨_, rfl, a, kvs, rfl, .inl e1, fun p1 h1 => ?_⟩
        refine ⟨_, rfl, a, kvs, rfl, .inl (Kp.new h1 _ _ e1), fun p2 h2 => ?_⟩
        have k2 : Kp H1 (upd (upd H1 p1 (.lst (kvs.map fun kv => kV kv.1))) p2 (.lst (kvs.map fun kv => kV kv.1))) := (Kp.new h1).trans (Kp.new h2)
        refine ⟨_, _, rfl, .lst (Kp.new h2 _ _ upd_same) upd_same rfl (by rw [List.length_map]; exact hz) (fun i x y ex ey => ?_), fun H2 k3 => ⟨_, rfl, ifF rfl ?_⟩⟩
        · rw [ex] at ey
          cases ey
          rw [List.getElem?_map] at ex
          obtain ⟨kv, h3, rfl⟩ := Option.map_eq_some_iff.mp ex
          obtain ⟨⟨z, hz⟩, _⟩ := hk kv (List.mem_of_getElem? h3)
          rw [hz]
          exact .sc (.str z)
        · have k4 : Kp H1 H2 := k2.trans k3
          have e2 := k4 _ _ e1
          refine ⟨a, _, e2, trivial, fun od => ?_⟩
          refine ⟨_, rfl, a, od, rfl, .inl ⟨kvs, upd_same, fun D hD => ?_⟩⟩
          have hDa : D ≠ a := fun z => by
            subst z
            rw [upd_same] at hD
            cases hD
          have hD2 : H2 D = none := by rw [upd_ne hDa] at hD; exact hD
          refine lc_it (walk_keys (kvs := kvs) (o := od) (d := a)) (fun i H' => Kp (upd H2 a (.frz od (.dK kvs))) H' ∧ H' D = some (.lst ((List.replicate i true).map V.bl))) ⟨Kp.new hD, upd_same⟩ (fun i H' _ p => p.1 _ _ upd_same) ?_ ?_
          · rintro i x H3 H4 hi ⟨k5, d5⟩ ⟨rfl, k, v, ekv, rfl⟩
            obtain ⟨_, hsc⟩ := hk _ (List.mem_of_getElem? ekv)
            obtain ⟨v', ev', hv'⟩ : ∃ v', valV kvs k = some v' ∧ Sc v' := valV_mem (fun kv h => (hk kv h).2) (List.mem_of_getElem? ekv)
            refine ⟨rfl, ?_⟩
            unfold tYes
            refine iteT ?_
            have hf : Rd H4 a (.dK kvs) := .inr ⟨od, k5 _ _ upd_same⟩
            refine ⟨_, rfl, _, rfl, a, v', rfl, .inl ⟨kvs, k, hf, rfl, ev'.symm⟩, _, rfl, _, rfl, a, v', rfl, .inl ⟨kvs, k, hf, rfl, ev'.symm⟩, v', v', rfl, .sc hv', fun H5 k6 => ?_⟩
            refine ⟨_, k6 _ _ d5, by rw [List.length_map, List.length_replicate, sizeLine_eq]; omega, ?_, ?_⟩
            · exact Kp.at (k5.trans k6) hD
            · rw [upd_same, List.replicate_succ', List.map_append]; rfl
          · rintro H3 ⟨k5, d5⟩
            refine ⟨k5 _ _ upd_same, ?_⟩
            refine ⟨D, _, rfl, SqL.of (by rw [upd_ne hDa]; exact d5), ?_⟩
            rw [show (List.replicate kvs.length true).all id = true by simp]
            refine q _ (k1.trans (k4.trans fun x o e => ?_))
            by_cases hx : x = a
            · subst hx
              rw [upd_same]
              rw [e2] at e
              exact e
            · rw [upd_ne hx]
              exact k5 _ _ (by rw [upd_ne hx]; exact e)
end
end H89

set_option Elab.async false
set_option linter.all false
set_option maxRecDepth 100000
set_option maxHeartbeats 4000000
namespace H89
open PySem PySem.Spec PyProof.Rows L2
/-- the errors of this law, in its order -/
def mine : List Str := ["BadMix", "HasRing", "BadPlaces", "BadPrices", "BadSome", "BadTyings", "BadStrategy", "BadEdit", "BadDesk", "BadDeskText", "NothingToUndo", "NothingToRedo"]
def others0 : List Str := ["BadOther", "BadSwitching", "BadProof", "NoProof", "BadLast", "BadNet", "NotSplitting", "BadCuts", "BadStart", "BadAnswer", "BadWholeText", "BadGoal", "BadRing", "BadMatching", "BadFormula", "BadPart", "BadSequent", "BadPlace", "BadTies", "BadFormulaText"]
def others1 : List Str := ["BadSequentText", "BadTyingText", "BadIndex", "NotElse", "BadMoves", "BadWords", "BadMany", "BadNumber", "BadTold", "BadOrder", "NotParted", "BadValues", "BadOthers", "BadMore", "NotTurned", "NothingLeft", "BadPlaceOf"]
def others : List Str := others0 ++ others1
def withF0 : List (Str × Str) := [("BadOther", "other"), ("BadSwitching", "switching"), ("BadProof", "proof"), ("NoProof", "ties"), ("BadLast", "place"), ("BadNet", "net"), ("NotSplitting", "place"), ("BadCuts", "index"), ("BadStart", "place"), ("BadAnswer", "answer"), ("BadWholeText", "line"), ("BadGoal", "goal"), ("BadRing", "ring"), ("BadMatching", "matching"), ("BadMix", "proof"), ("HasRing", "ties"), ("BadPlaces", "index"), ("BadPrices", "prices"), ("BadSome", "index"), ("BadTyings", "index")]
def withF1 : List (Str × Str) := [("BadStrategy", "strategy"), ("BadEdit", "edit"), ("BadDesk", "desk"), ("BadDeskText", "line"), ("BadFormula", "formula"), ("BadPart", "part"), ("BadSequent", "index"), ("BadPlace", "place"), ("BadTies", "index"), ("BadFormulaText", "place"), ("BadSequentText", "line"), ("BadTyingText", "line"), ("BadIndex", "index"), ("NotElse", "index"), ("BadMoves", "index"), ("BadWords", "index"), ("BadMany", "many"), ("BadNumber", "number"), ("BadTold", "told"), ("BadOrder", "order")]
def withF2 : List (Str × Str) := [("NotParted", "place"), ("BadValues", "told"), ("BadOthers", "index"), ("BadMore", "index"), ("NotTurned", "place"), ("NothingLeft", "place"), ("BadPlaceOf", "place")]
def withF : List (Str × Str) := withF0 ++ withF1 ++ withF2
def withN : List Str := ["ProofError", "NothingToUndo", "NothingToRedo"]
def every : List Str := withF.map (·.1) ++ withN
/-- those of which it is asked whether they are others -/
def asked : List Str := mine ++ (["ProofError"] : List Str)
/-- what is known of an error's class -/
structure Kit (K : PySem.W.Frag) (x : Str) : Prop where
  ec : EC K (He.ga K x)
  pe : PySem.W.kitOne K (.ref (He.ga K x)) (.ref (He.ga K "ProofError")) = some true
  ve : PySem.W.kitOne K (.ref (He.ga K x)) (.type "ValueError") = some true
  mine : ∀ y ∈ mine, PySem.W.kitOne K (.ref (He.ga K x)) (.ref (He.ga K y)) = some (x == y)
  oth : x ∈ asked → ∀ y ∈ others, PySem.W.kitOne K (.ref (He.ga K x)) (.ref (He.ga K y)) = some false
/-- an error of the class x at a -/
def ErN (K : PySem.W.Frag) (x : Str) (H : Hp) (a : Addr) : Prop := ∃ (d : Option Addr) (fs : List (Str × V)), Kit K x ∧ H a = some (exo a (He.ga K x) d) ∧ ∀ z, d = some z → H z = some (exd z fs)
/-- nothing but lists has gone -/
def KpX (H H' : Hp) : Prop := ∀ a o, H a = some o → (∀ xs, o ≠ .lst xs) → H' a = some o
theorem KpX.rfl {H : Hp} : KpX H H := fun _ _ e _ => e
theorem KpX.trans {H1 H2 H3 : Hp} (a : KpX H1 H2) (b : KpX H2 H3) : KpX H1 H3 := fun x o e n => b x o (a x o e n) n
theorem Kp.x {H H' : Hp} (k : Kp H H') : KpX H H' := fun a o e _ => k a o e
theorem KpX.lst {H : Hp} {p : Addr} {xs ys : List V} (h : H p = some (.lst xs)) : KpX H (upd H p (.lst ys)) := fun a o e n => by
  by_cases q : a = p
  · subst q
    rw [h] at e
    exact absurd (Option.some.inj e).symm (n xs)
  · rw [upd_ne q]
    exact e
theorem ErN.kpx {K : PySem.W.Frag} {x : Str} {H H' : Hp} {a : Addr} (k : KpX H H') : ErN K x H a → ErN K x H' a := fun ⟨d, fs, c, e, f⟩ =>
  ⟨d, fs, c, k _ _ e (fun _ z => nomatch z), fun z q => k _ _ (f z q) (fun _ z => nomatch z)⟩
structure FrE (K : PySem.W.Frag) (mg : Str → Option Value) : Prop where
  glo : ∀ y ∈ every, mg y = some (.ref (He.ga K y))
  isinstance : mg "isinstance" = none
  range : mg "range" = none
  all : mg "all" = none
  valueError : mg "ValueError" = none
/-! ### readings -/
theorem rdX {K : PySem.W.Frag} {i : Nat} {x y : Str} {a : Addr} {σ : L2.St} {H : Hp} {Q : VK} (h : σ[i]? = some (some (.ref a))) (e : ErN K x H a) (m : y ∈ mine) (q : Q (.bl (x == y)) H) :
    tCB (rIsX K) (tCons (tVar i) (tCons (tC (.ref (He.ga K y))) tNil)) σ H Q := by
  obtain ⟨d, fs, c, e, f⟩ := e
  exact ⟨_, h, a, _, d, fs, .ref (He.ga K y), .ref (He.ga K y), (x == y), rfl, c.ec, e, f, .own _, c.mine y m, q⟩
/-- told = [..], no change of the heap in it -/
theorem rdSetL {j : Nat} {t : TA} {zs : List V} {D : Ends} {σ : L2.St} {H : Hp} (ht : ∀ Q : List V → Hp → Prop, Q zs H → t σ H Q) (hz : zs.length ≤ 1000) (q : ∀ H' p, Kp H H' → H p = none → H' p = some (.lst zs) → D.nx (σ.set j (some (.ref p))) H') :
    tAsg (tLst t) (gName j) D σ H := ht _ ⟨by rw [sizeLine_eq]; omega, fun p hp => q _ p (Kp.new hp) hp upd_same⟩
/-- told.extend([..]), told.append(..) -/
theorem rdExt {K : PySem.W.Frag} {j : Nat} {t : TA} {p : Addr} {xs zs : List V} {D : Ends} {σ : L2.St} {H0 H : Hp} (hj : σ[j]? = some (some (.ref p))) (h0 : H0 p = none) (k : Kp H0 H) (hp : H p = some (.lst xs))
    (ht : ∀ Q : List V → Hp → Prop, Q zs H → t σ H Q) (hz : zs.length ≤ 1000) (hx : xs.length ≤ 1000) (q : ∀ H', Kp H0 H' → H' p = some (.lst (xs ++ zs)) → D.nx σ H') :
    tDrop (tBM K "list" rExtend (tVar j) (tCons (tLst t) tNil)) D σ H := by
  refine ⟨_, hj, .inl ⟨rfl, _, SqL.of hp⟩, ht _ ⟨by rw [sizeLine_eq]; omega, fun p2 h2 => ?_⟩⟩
  refine ⟨p, p2, xs, zs, rfl, rfl, Kp.new h2 _ _ hp, upd_same, by rw [sizeLine_eq]; omega, ?_⟩
  exact q _ (Kp.at (k.trans (Kp.new h2)) h0) upd_same
theorem rdApp {K : PySem.W.Frag} {j : Nat} {t : TE} {p : Addr} {xs : List V} {z : V} {D : Ends} {σ : L2.St} {H0 H : Hp} (hj : σ[j]? = some (some (.ref p))) (h0 : H0 p = none) (k : Kp H0 H) (hp : H p = some (.lst xs))
    (ht : ∀ Q : VK, (∀ H', Kp H H' → Q z H') → t σ H Q) (hx : xs.length ≤ 1000) (q : ∀ H', Kp H0 H' → H' p = some (.lst (xs ++ [z])) → D.nx σ H') :
    tDrop (tBM K "list" rAppend (tVar j) (tCons t tNil)) D σ H := by
  refine ⟨_, hj, .inl ⟨rfl, _, SqL.of hp⟩, ht _ fun H' k' => ?_⟩
  exact ⟨p, xs, z, rfl, rfl, k' _ _ hp, by rw [sizeLine_eq]; omega, q _ (Kp.at (k.trans k') h0) upd_same⟩
theorem filt_succ (g : Nat → Bool) (i : Nat) : (List.range (i + 1)).filter g = (List.range i).filter g ++ if g i = true then [i] else [] := by
  rw [List.range_succ, List.filter_append]
  congr 1
  cases h : g i <;> simp [h]
def told (x : Str) : List Bool := mine.map fun y => (x == y)
def kindsOf (x : Str) : List V := ((List.range 12).filter fun j => (told x).getD j false).map fun (j : Nat) => V.int j
def spKinds (K : PySem.W.Frag) : Sp := fun vs H Q _ => ∃ (a : Addr) (x : Str), vs = [.ref a] ∧ ErN K x H a ∧ ∀ H' r, Kp H H' → H r = none → H' r = some (.lst (kindsOf x)) → Q (.ref r) H'

abbrev sKinds : Stmt := top 58
abbrev sIsOther : Stmt := top 60
theorem scK : FnScope ["e", "told", "k"] ["e"] (defScope sKinds) := ⟨rfl, rfl, rfl, by decide +kernel, rfl, by decide +kernel, by decide +kernel⟩
section
variable {P : Program} {w : World} {K : PySem.W.Frag} {mg : Str → Option Value} {base : Heap} {f : Addr} {fd : FuncData}
theorem ok_kinds (F : FnP K "_law_kinds_of" sKinds f fd) (T : FrE K mg) : FnOk P w K mg base CX0 1 f fd ["e"] (spKinds K) := by
  refine F.ok scK (fun vs H Q E h => ?_) (fun cdv A outer s H vs Q E hr h => ?_)
  · obtain ⟨a, x, rfl, _⟩ := h
    rfl
  · refine ⟨_, PSs.nox (pss_cons (ps_set (i := 1) scK.nd rfl (Or.inr rfl) (pe_lst (pa_cons (pe_callB call_isX (by rfl) T.isinstance (by decide +kernel) (pa_cons (pv 0) (pa_cons (pe_glob (v := .ref (He.ga K "BadMix")) (by rfl) (T.glo "BadMix" (by decide +kernel)) rfl) pa_nil))) (pa_cons (pe_callB call_isX (by rfl) T.isinstance (by decide +kernel) (pa_cons (pv 0) (pa_cons (pe_glob (v := .ref (He.ga K "HasRing")) (by rfl) (T.glo "HasRing" (by decide +kernel)) rfl) pa_nil))) (pa_cons (pe_callB call_isX (by rfl) T.isinstance (by decide +kernel) (pa_cons (pv 0) (pa_cons (pe_glob (v := .ref (He.ga K "BadPlaces")) (by rfl) (T.glo "BadPlaces" (by decide +kernel)) rfl) pa_nil))) (pa_cons (pe_callB call_isX (by rfl) T.isinstance (by decide +kernel) (pa_cons (pv 0) (pa_cons (pe_glob (v := .ref (He.ga K "BadPrices")) (by rfl) (T.glo "BadPrices" (by decide +kernel)) rfl) pa_nil))) pa_nil))))))
      (pss_cons (ps_expr (pe_bm PySem.F.plainAttrs_list PySem.F.slot_list_extend PySem.F.type_list_extend mt_extend (pv 1) (pa_cons (pe_lst (pa_cons (pe_callB call_isX (by rfl) T.isinstance (by decide +kernel) (pa_cons (pv 0) (pa_cons (pe_glob (v := .ref (He.ga K "BadSome")) (by rfl) (T.glo "BadSome" (by decide +kernel)) rfl) pa_nil))) (pa_cons (pe_callB call_isX (by rfl) T.isinstance (by decide +kernel) (pa_cons (pv 0) (pa_cons (pe_glob (v := .ref (He.ga K "BadTyings")) (by rfl) (T.glo "BadTyings" (by decide +kernel)) rfl) pa_nil))) (pa_cons (pe_callB call_isX (by rfl) T.isinstance (by decide +kernel) (pa_cons (pv 0) (pa_cons (pe_glob (v := .ref (He.ga K "BadStrategy")) (by rfl) (T.glo "BadStrategy" (by decide +kernel)) rfl) pa_nil))) (pa_cons (pe_callB call_isX (by rfl) T.isinstance (by decide +kernel) (pa_cons (pv 0) (pa_cons (pe_glob (v := .ref (He.ga K "BadEdit")) (by rfl) (T.glo "BadEdit" (by decide +kernel)) rfl) pa_nil))) pa_nil))))) pa_nil)))
      (pss_cons (ps_expr (pe_bm PySem.F.plainAttrs_list PySem.F.slot_list_extend PySem.F.type_list_extend mt_extend (pv 1) (pa_cons (pe_lst (pa_cons (pe_callB call_isX (by rfl) T.isinstance (by decide +kernel) (pa_cons (pv 0) (pa_cons (pe_glob (v := .ref (He.ga K "BadDesk")) (by rfl) (T.glo "BadDesk" (by decide +kernel)) rfl) pa_nil))) (pa_cons (pe_callB call_isX (by rfl) T.isinstance (by decide +kernel) (pa_cons (pv 0) (pa_cons (pe_glob (v := .ref (He.ga K "BadDeskText")) (by rfl) (T.glo "BadDeskText" (by decide +kernel)) rfl) pa_nil))) (pa_cons (pe_callB call_isX (by rfl) T.isinstance (by decide +kernel) (pa_cons (pv 0) (pa_cons (pe_glob (v := .ref (He.ga K "NothingToUndo")) (by rfl) (T.glo "NothingToUndo" (by decide +kernel)) rfl) pa_nil))) (pa_cons (pe_callB call_isX (by rfl) T.isinstance (by decide +kernel) (pa_cons (pv 0) (pa_cons (pe_glob (v := .ref (He.ga K "NothingToRedo")) (by rfl) (T.glo "NothingToRedo" (by decide +kernel)) rfl) pa_nil))) pa_nil))))) pa_nil)))
      (pss_one (ps_ret (pe_lc (own := [("k", 2)]) (g := gName 2) (tt := tB (tOp (rIxL K) (tVar 1) (tVar 2))) rfl scK.nd (pi_range1 (by rfl) T.range (pa_cons pe_int pa_nil)) (blkOk_by (N := ["e", "told", "k"]) (sc := defScope sKinds) (by decide +kernel))
        (fun _ _ _ _ _ => pg_name (i := 2) scK.nd rfl (Or.inl rfl)) (fun _ _ _ _ _ => pts_one (pt_val (pe_ix ix_list (pv 1) (pv 2) (fun _ _ => rfl)))) (fun _ _ _ _ _ => pv 2))))))), ?_⟩
    obtain ⟨a, x, rfl, e, q⟩ := h
    refine rdSetL (fun Q q => rdX rfl e (y := "BadMix") (by decide +kernel) (rdX rfl e (y := "HasRing") (by decide +kernel) (rdX rfl e (y := "BadPlaces") (by decide +kernel) (rdX rfl e (y := "BadPrices") (by decide +kernel) (q))))) (by show 4 ≤ 1000; decide) fun H1 p k1 hp d1 => ?_
    refine rdExt rfl hp k1 d1 (fun Q q => rdX rfl (e.kpx k1.x) (y := "BadSome") (by decide +kernel) (rdX rfl (e.kpx k1.x) (y := "BadTyings") (by decide +kernel) (rdX rfl (e.kpx k1.x) (y := "BadStrategy") (by decide +kernel) (rdX rfl (e.kpx k1.x) (y := "BadEdit") (by decide +kernel) (q))))) (by show 4 ≤ 1000; decide) (by show 4 ≤ 1000; decide) fun H2 k2 d2 => ?_
    refine rdExt rfl hp k2 d2 (fun Q q => rdX rfl (e.kpx k2.x) (y := "BadDesk") (by decide +kernel) (rdX rfl (e.kpx k2.x) (y := "BadDeskText") (by decide +kernel) (rdX rfl (e.kpx k2.x) (y := "NothingToUndo") (by decide +kernel) (rdX rfl (e.kpx k2.x) (y := "NothingToRedo") (by decide +kernel) (q))))) (by show 4 ≤ 1000; decide) (by show 8 ≤ 1000; decide) fun H3 k3 d3 => ?_
    have d4 : H3 p = some (.lst ((told x).map V.bl)) := d3
    clear d3 d2 d1
    have hl : (told x).length = 12 := rfl
    generalize hb : told x = bs at d4 hl
    have hq : ∀ H' r, Kp H H' → H r = none → H' r = some (.lst (((List.range 12).filter fun j => bs.getD j false).map fun (j : Nat) => V.int j)) → Q (.ref r) H' := by
      rw [← hb]
      exact q
    refine ⟨12, rfl, by decide, by decide, fun D hD => ?_⟩
    have hD0 : H D = none := by
      cases z : H D with
      | none => rfl
      | some o => exact absurd (k3 _ _ z) (by rw [hD]; exact fun q => nomatch q)
    refine lc_it (walk_range (lo := 0) (n := 12)) (fun i H' => Kp H3 H' ∧ H' D = some (.lst (((List.range i).filter fun j => bs.getD j false).map fun (j : Nat) => V.int j))) ⟨Kp.new hD, upd_same⟩ (fun _ _ _ _ => trivial) ?_ ?_
    · rintro i v H4 H5 hi ⟨k4, d5⟩ ⟨e5, rfl⟩
      subst e5
      refine ⟨rfl, ?_⟩
      have hi2 : i < bs.length := by rw [hl]; exact hi
      have hget : (bs.map V.bl)[i]? = some (V.bl (bs.getD i false)) := by
        rw [List.getElem?_map, List.getElem?_eq_getElem hi2, List.getD_eq_getElem?_getD, List.getElem?_eq_getElem hi2]
        rfl
      have hz : (0 + (i : Int)) = ((i : Nat) : Int) := by omega
      have hv : ((fun i : Nat => V.int (0 + (i : Nat))) i) = V.int (i : Nat) := by show V.int (0 + (i : Int)) = _; rw [hz]
      rw [hv]
      refine ⟨_, rfl, _, rfl, p, _, _, _, rfl, rfl, SqL.of (k4 _ _ d4), atI_nat hget, _, rfl, ?_⟩
      have hr' := filt_succ (fun j => bs.getD j false) i
      by_cases hbi : bs.getD i false = true
      · rw [hr', if_pos hbi]
        refine ifT hbi ?_
        refine ⟨_, rfl, _, d5, ?_, Kp.at k4 hD, ?_⟩
        · rw [List.length_map, sizeLine_eq]
          have := List.length_filter_le (fun j => bs.getD j false) (List.range i)
          rw [List.length_range] at this
          omega
        · rw [upd_same, List.map_append]
          rfl
      · rw [hr', if_neg hbi, List.append_nil]
        refine ifF (Bool.eq_false_iff.mpr hbi) ?_
        exact ⟨k4, d5⟩
    · rintro H4 ⟨k4, d5⟩
      exact hq _ _ (k3.trans k4) hD0 d5
end
end H89

set_option Elab.async false
set_option linter.all false
set_option maxRecDepth 100000
set_option maxHeartbeats 400000
namespace H89
open PySem PySem.Spec PyProof.Rows L2
/-! ### isinstance with many classes -/
theorem rdXT {K : PySem.W.Frag} {i : Nat} {x : Str} {ys : List Str} {a : Addr} {T : TA} {σ : L2.St} {H : Hp} {Q : VK} (h : σ[i]? = some (some (.ref a))) (e : ErN K x H a) (hx : x ∈ asked) (hy : ∀ y ∈ ys, y ∈ others)
    (ht : ∀ Q : List V → Hp → Prop, Q (ys.map fun y => V.ref (He.ga K y)) H → T σ H Q) (hl : ys.length ≤ 1000) (q : ∀ H', Kp H H' → Q (.bl false) H') :
    tCB (rIsXT K) (tCons (tVar i) (tCons (tTup T) tNil)) σ H Q := by
  obtain ⟨d, fs, c, e, f⟩ := e
  refine ⟨_, h, ht _ ⟨by rw [List.length_map, sizeLine_eq]; omega, fun p hp => ?_⟩⟩
  have k := Kp.new (o := .tup (ys.map fun y => V.ref (He.ga K y))) hp
  refine ⟨a, _, d, fs, p, _, ys.map fun y => Value.ref (He.ga K y), false, rfl, c.ec, k _ _ e, fun z hz => k _ _ (f z hz), upd_same, ?_, ?_, q _ k⟩
  · clear k ht hl hy
    induction ys with
    | nil => exact .nil
    | cons y ys ih => exact .cons (.own _) ih
  · have g := c.oth hx
    clear k ht hl
    induction ys with
    | nil => exact kitAny_nil
    | cons y ys ih => exact kitAny_cons (g y (hy y (List.mem_cons_self ..))) (fun _ => ih fun y m => hy y (List.mem_cons_of_mem _ m)) (fun z => nomatch z)
theorem rdSetM {j : Nat} {t : TA} {zs : List V} {D : Ends} {σ : L2.St} {H : Hp} (ht : ∀ Q : List V → Hp → Prop, (∀ H', Kp H H' → Q zs H') → t σ H Q) (hz : zs.length ≤ 1000) (q : ∀ H' p, Kp H H' → H p = none → H' p = some (.lst zs) → D.nx (σ.set j (some (.ref p))) H') :
    tAsg (tLst t) (gName j) D σ H := ht _ fun H' k => ⟨by rw [sizeLine_eq]; omega, fun p hp => q _ p (k.trans (Kp.new hp)) (by
      cases z : H p with
      | none => rfl
      | some o => exact absurd (k _ _ z) (by rw [hp]; exact fun q => nomatch q)) upd_same⟩
def spIsOther (K : PySem.W.Frag) : Sp := fun vs H Q _ => ∃ (a : Addr) (x : Str), vs = [.ref a] ∧ ErN K x H a ∧ x ∈ asked ∧ ∀ H', Kp H H' → Q (.bl false) H'
theorem scIO : FnScope ["e", "told"] ["e"] (defScope sIsOther) := ⟨rfl, rfl, rfl, by decide +kernel, rfl, by decide +kernel, by decide +kernel⟩
/-! ### errors are made -/
structure MkX (P : Program) (w : World) (K : PySem.W.Frag) (mg : Str → Option Value) (base : Heap) (x f : Str) : Prop where
  kit : Kit K x
  no : PySem.W.findIn K (.ref (He.ga K x)) f = some none
  gm : mg x = some (.ref (He.ga K x))
  ini : ∃ (fI : Addr) (fd : FuncData), PySem.W.findIn K (.ref (He.ga K x)) "__init__" = some (some (.ref fI)) ∧ PySem.W.typeIn K (.ref fI) = some (.type "function") ∧ FnOk P w K mg base CX0 1 fI fd ["self", f] (spXI K f) ∧ Binds K fd ["self", f] [] ∧
    ∀ (s' : Shared) (self v : Value), K.In s'.heap → BindsTo s' fd ⟨[self], [(f, v)]⟩ ((["self", f] : List Str).zip [self, v])
structure MkN (K : PySem.W.Frag) (mg : Str → Option Value) (x : Str) : Prop where
  kit : Kit K x
  gm : mg x = some (.ref (He.ga K x))
  exc : PySem.W.excIn K (He.ga K x) He.veBase "ValueError.__new__" = true
structure FrM (P : Program) (w : World) (K : PySem.W.Frag) (mg : Str → Option Value) (base : Heap) : Prop where
  mx : ∀ p ∈ withF, MkX P w K mg base p.1 p.2
  mn : ∀ x ∈ withN, MkN K mg x
section
variable {X : Cx} {e : Expr} {es : List Expr} {ta : TA} {te : TE} {x f : Str} {p pos kp : Pos}
theorem pe_mkX (M : MkX X.prog X.w X.K X.mg X.base x f) (hr : Room 2 X.A) (hg : Gl X x) (ha : PA X (e :: es) ta) (hdb : (x == ("__debug__" : Str)) = false := by decide)
    (he : starEach (e :: es) X.env = (false, eval e X.env) :: starEach es X.env := by rfl) (hpl : (backTo pos (starEach es X.env)).any (·.1) = false := by rfl) :
    PE X (.Call (.Name x p) (e :: es) [] pos) (tMkV (He.ga X.K x) (spXI X.K f) ta) := by
  obtain ⟨fI, fd, i1, i2, i3, i4, i5⟩ := M.ini
  exact pe_exC M.kit.ec.ox i1 i2 i3 hr i4 hg M.gm ha hdb he hpl
theorem pe_mkK (M : MkX X.prog X.w X.K X.mg X.base x f) (hr : Room 2 X.A) (hg : Gl X x) (ha : PE X e te) (hdb : (x == ("__debug__" : Str)) = false := by decide) :
    PE X (.Call (.Name x p) [] [⟨some f, e, kp⟩] pos) (tMkK (He.ga X.K x) (spXI X.K f) te) := by
  obtain ⟨fI, fd, i1, i2, i3, i4, i5⟩ := M.ini
  exact pe_exK M.kit.ec.ox i1 i2 i3 hr i5 hg M.gm ha hdb
theorem pe_mk0 (M : MkN X.K X.mg x) (hg : Gl X x) (hdb : (x == ("__debug__" : Str)) = false := by decide) :
    PE X (.Call (.Name x p) [] [] pos) (fun _ H Q => ∀ a, H a = none → Q (.ref a) (upd H a (exo a (He.ga X.K x) none))) := pe_ex0 M.exc PySem.F.excBase_ValueError M.kit.ec.ox.kC hg M.gm hdb
end
section
variable {P : Program} {w : World} {K : PySem.W.Frag} {mg : Str → Option Value} {base : Heap} {x f : Str} {σ : L2.St} {H : Hp} {Q : VK} {i : Nat} {y : V}
theorem rdXI {a : Addr} (M : MkX P w K mg base x f) (ha : H a = none) (q : ∀ H' d, Kp H H' → H' a = some (exo a (He.ga K x) (some d)) → H' d = some (exd d [(f, y)]) → Q (.ref a) H') :
    spXI K f [.ref a, y] (upd H a (exo a (He.ga K x) none)) (fun v H2 => v = .non ∧ Q (.ref a) H2) (fun _ _ _ => False) := by
  refine ⟨a, _, y, rfl, M.kit.ec.ox, M.no, upd_same, fun d hd ne => ⟨rfl, ?_⟩⟩
  rw [upd_ne ne] at hd
  refine q _ d (fun z o e => ?_) upd_same (by rw [upd_ne ne, upd_same])
  have h1 : z ≠ a := ne_of_none e ha
  have h2 : z ≠ d := ne_of_none e hd
  rw [upd_ne h1, upd_ne h2, upd_ne h1]
  exact e
theorem rdMkX (M : MkX P w K mg base x f) (h : σ[i]? = some (some y)) (q : ∀ H' a d, Kp H H' → H' a = some (exo a (He.ga K x) (some d)) → H' d = some (exd d [(f, y)]) → Q (.ref a) H') :
    tMkV (He.ga K x) (spXI K f) (tCons (tVar i) tNil) σ H Q := ⟨_, h, by show 1 ≤ 1000; decide, fun a ha => rdXI M ha fun H' d => q H' a d⟩
theorem rdMkK (M : MkX P w K mg base x f) (h : σ[i]? = some (some y)) (q : ∀ H' a d, Kp H H' → H' a = some (exo a (He.ga K x) (some d)) → H' d = some (exd d [(f, y)]) → Q (.ref a) H') :
    tMkK (He.ga K x) (spXI K f) (tVar i) σ H Q := ⟨_, h, y, rfl, fun a ha => rdXI M ha fun H' d => q H' a d⟩
/-- an element of a list of errors -/
def Mk1 (K : PySem.W.Frag) (σ : L2.St) (t : TE) (x : Str) : Prop := ∀ (H : Hp) (Q : VK), (∀ H' a, Kp H H' → ErN K x H' a → Q (.ref a) H') → t σ H Q
abbrev ErA (K : PySem.W.Frag) (H : Hp) : List Str → List Addr → Prop := Paired fun x a => ErN K x H a
theorem ErA.kpx {H H' : Hp} (k : KpX H H') : ∀ {xs : List Str} {as : List Addr}, ErA K H xs as → ErA K H' xs as
  | _, _, .nil => .nil
  | _, _, .cons h r => .cons (h.kpx k) (ErA.kpx k r)
theorem ErA.app {H : Hp} : ∀ {xs ys : List Str} {as bs : List Addr}, ErA K H xs as → ErA K H ys bs → ErA K H (xs ++ ys) (as ++ bs)
  | _, _, _, _, .nil, g => g
  | _, _, _, _, .cons h r, g => .cons h (ErA.app r g)
def MkA (K : PySem.W.Frag) (σ : L2.St) (t : TA) (xs : List Str) : Prop := ∀ (H : Hp) (Q : List V → Hp → Prop), (∀ H' as, Kp H H' → ErA K H' xs as → Q (as.map V.ref) H') → t σ H Q
theorem MkA.nil : MkA K σ tNil [] := fun H Q q => q H [] Kp.rfl .nil
theorem MkA.cons {t : TE} {tr : TA} {xs : List Str} (h : Mk1 K σ t x) (r : MkA K σ tr xs) : MkA K σ (tCons t tr) (x :: xs) := fun H Q q => h H _ fun H1 a k1 e1 => r H1 _ fun H2 as k2 e2 => q H2 (a :: as) (k1.trans k2) (.cons (e1.kpx k2.x) e2)
theorem Mk1.pos (M : MkX P w K mg base x f) (h : σ[i]? = some (some y)) : Mk1 K σ (tMkV (He.ga K x) (spXI K f) (tCons (tVar i) tNil)) x := fun H Q q => rdMkX M h fun H' a d k e1 e2 => q H' a k ⟨some d, _, M.kit, e1, fun z hz => by cases hz; exact e2⟩
theorem Mk1.kw (M : MkX P w K mg base x f) (h : σ[i]? = some (some y)) : Mk1 K σ (tMkK (He.ga K x) (spXI K f) (tVar i)) x := fun H Q q => rdMkK M h fun H' a d k e1 e2 => q H' a k ⟨some d, _, M.kit, e1, fun z hz => by cases hz; exact e2⟩
theorem Mk1.non (M : MkN K mg x) : Mk1 K σ (fun _ H Q => ∀ a, H a = none → Q (.ref a) (upd H a (exo a (He.ga K x) none))) x := fun H Q q a ha => q _ a (Kp.new ha) ⟨none, [], M.kit, upd_same, fun z hz => nomatch hz⟩
theorem ErA.len {H : Hp} {xs : List Str} {as : List Addr} (h : ErA K H xs as) : as.length = xs.length := (Paired.length h).symm
def tMk1 (K : PySem.W.Frag) (q : Str × Option Str) : TE := match q.2 with
  | some f => tMkV (He.ga K q.1) (spXI K f) (tCons (tVar 0) tNil)
  | none => fun _ H Q => ∀ a, H a = none → Q (.ref a) (upd H a (exo a (He.ga K q.1) none))
def tMks (K : PySem.W.Frag) : List (Str × Option Str) → TA
  | [] => tNil
  | q :: r => tCons (tMk1 K q) (tMks K r)
def inW (q : Str × Option Str) : Prop := match q.2 with
  | some f => (q.1, f) ∈ withF
  | none => q.1 ∈ withN
theorem mkA_all (M : FrM P w K mg base) (h : σ[0]? = some (some y)) : ∀ qs : List (Str × Option Str), (∀ q ∈ qs, inW q) → MkA K σ (tMks K qs) (qs.map (·.1))
  | [], _ => MkA.nil
  | (x, some f) :: r, g => MkA.cons (Mk1.pos (M.mx (x, f) (g (x, some f) (List.mem_cons_self ..))) h) (mkA_all M h r fun q m => g q (List.mem_cons_of_mem _ m))
  | (x, none) :: r, g => MkA.cons (Mk1.non (M.mn x (g (x, none) (List.mem_cons_self ..)))) (mkA_all M h r fun q m => g q (List.mem_cons_of_mem _ m))
def inWB (q : Str × Option Str) : Bool := match q.2 with
  | some f => decide ((q.1, f) ∈ withF)
  | none => decide (q.1 ∈ withN)
theorem inW_all {qs : List (Str × Option Str)} (h : qs.all inWB = true) : ∀ q ∈ qs, inW q := fun q m => by
  have g := List.all_eq_true.mp h q m
  unfold inWB at g
  unfold inW
  split <;> simp_all
theorem none_back {H H' : Hp} {p : Addr} (k : Kp H H') (h : H' p = none) : H p = none := by
  cases z : H p with
  | none => rfl
  | some o => exact absurd (k _ _ z) (by rw [h]; exact fun q => nomatch q)
theorem rdSetE {j : Nat} {t : TA} {zs : List Str} {D : Ends} (ht : MkA K σ t zs) (hz : zs.length ≤ 1000) (q : ∀ H' p bs, Kp H H' → H p = none → H' p = some (.lst (bs.map V.ref)) → ErA K H' zs bs → D.nx (σ.set j (some (.ref p))) H') :
    tAsg (tLst t) (gName j) D σ H := ht H _ fun H1 as k1 e1 => ⟨by rw [List.length_map, e1.len, sizeLine_eq]; omega, fun p hp => q _ p as (k1.trans (Kp.new hp)) (none_back k1 hp) upd_same (e1.kpx (Kp.new hp).x)⟩
theorem rdRetE {t : TA} {p : Addr} {ys : List Str} {as : List Addr} {zs : List Str} {D : Ends} (hj : σ[1]? = some (some (.ref p))) (hp : H p = some (.lst (as.map V.ref))) (ea : ErA K H ys as) (ht : MkA K σ t zs) (hz : zs.length ≤ 1000) (hx : ys.length ≤ 1000)
    (q : ∀ H' r bs, Kp H H' → H' r = some (.lst (bs.map V.ref)) → ErA K H' (ys ++ zs) bs → D.rt (.ref r) H') : tRet (tOp rCat (tVar 1) (tLst t)) D σ H := by
  refine ⟨_, hj, ht H _ fun H7 bs k7 e7 => ⟨by rw [List.length_map, e7.len, sizeLine_eq]; omega, fun p2 h2 => ?_⟩⟩
  have k8 := Kp.new (o := .lst (bs.map V.ref)) h2
  refine ⟨p, p2, _, _, rfl, rfl, k8 _ _ (k7 _ _ hp), upd_same, by rw [List.length_map, List.length_map, ea.len, e7.len, sizeLine_eq]; omega, fun p3 h3 => ?_⟩
  have k9 := k8.trans (Kp.new (o := .lst (as.map V.ref ++ bs.map V.ref)) h3)
  exact q _ p3 (as ++ bs) (k7.trans k9) (by rw [upd_same, List.map_append]) (ErA.app ((ea.kpx k7.x).kpx k9.x) (e7.kpx k9.x))
/-- told.extend([errors]) -/
theorem rdExtE {j : Nat} {t : TA} {p : Addr} {ys : List Str} {as : List Addr} {zs : List Str} {D : Ends} {H0 : Hp} (hj : σ[j]? = some (some (.ref p))) (h0 : H0 p = none) (k : Kp H0 H) (hp : H p = some (.lst (as.map V.ref))) (ea : ErA K H ys as)
    (ht : MkA K σ t zs) (hz : zs.length ≤ 1000) (hx : ys.length ≤ 1000) (q : ∀ H' bs, Kp H0 H' → H' p = some (.lst (bs.map V.ref)) → ErA K H' (ys ++ zs) bs → D.nx σ H') :
    tDrop (tBM K "list" rExtend (tVar j) (tCons (tLst t) tNil)) D σ H := by
  refine ⟨_, hj, .inl ⟨rfl, _, SqL.of hp⟩, ht H _ fun H1 bs k1 e1 => ⟨by rw [List.length_map, e1.len, sizeLine_eq]; omega, fun p2 h2 => ?_⟩⟩
  have hp2 := Kp.new (o := .lst (bs.map V.ref)) h2 _ _ (k1 _ _ hp)
  refine ⟨p, p2, _, _, rfl, rfl, hp2, upd_same, by rw [List.length_map, List.length_map, ea.len, e1.len, sizeLine_eq]; omega, ?_⟩
  have kx := ((Kp.new (o := .lst (bs.map V.ref)) h2).x).trans (KpX.lst (ys := as.map V.ref ++ bs.map V.ref) hp2)
  refine q _ (as ++ bs) (Kp.at ((k.trans k1).trans (Kp.new h2)) h0) (by rw [upd_same, List.map_append]) (ErA.app ((ea.kpx k1.x).kpx kx) (e1.kpx kx))
end
abbrev sOthers : Stmt := top 59
def spOthers (K : PySem.W.Frag) : Sp := fun vs H Q _ => ∃ y, vs = [y] ∧ ∀ H' r as xs, Kp H H' → H' r = some (.lst (as.map V.ref)) → ErA K H' xs as → (∀ x ∈ xs, x ∉ mine) → xs.length ≤ 100 → Q (.ref r) H'
theorem scO : FnScope ["x", "told"] ["x"] (defScope sOthers) := ⟨rfl, rfl, rfl, by decide +kernel, rfl, by decide +kernel, by decide +kernel⟩
section
variable {P : Program} {w : World} {K : PySem.W.Frag} {mg : Str → Option Value} {base : Heap} {f : Addr} {fd : FuncData}
theorem ok_isOther (F : FnP K "_law_is_other" sIsOther f fd) (T : FrE K mg) : FnOk P w K mg base CX0 1 f fd ["e"] (spIsOther K) := by
  refine F.ok scIO (fun vs H Q E h => ?_) (fun cdv A outer s H vs Q E hr h => ?_)
  · obtain ⟨a, x, rfl, _⟩ := h
    rfl
  · refine ⟨_, PSs.nox (pss_cons (ps_set (i := 1) scIO.nd rfl (Or.inl rfl) (pe_lst (pa_cons (pe_callB call_isXT (by rfl) T.isinstance (by decide +kernel) (pa_cons (pv 0) (pa_cons (pe_tup (pa_cons (pe_glob (v := .ref (He.ga K "BadOther")) (by rfl) (T.glo "BadOther" (by decide +kernel)) rfl) (pa_cons (pe_glob (v := .ref (He.ga K "BadSwitching")) (by rfl) (T.glo "BadSwitching" (by decide +kernel)) rfl) (pa_cons (pe_glob (v := .ref (He.ga K "BadProof")) (by rfl) (T.glo "BadProof" (by decide +kernel)) rfl) (pa_cons (pe_glob (v := .ref (He.ga K "NoProof")) (by rfl) (T.glo "NoProof" (by decide +kernel)) rfl) (pa_cons (pe_glob (v := .ref (He.ga K "BadLast")) (by rfl) (T.glo "BadLast" (by decide +kernel)) rfl) (pa_cons (pe_glob (v := .ref (He.ga K "BadNet")) (by rfl) (T.glo "BadNet" (by decide +kernel)) rfl) (pa_cons (pe_glob (v := .ref (He.ga K "NotSplitting")) (by rfl) (T.glo "NotSplitting" (by decide +kernel)) rfl) (pa_cons (pe_glob (v := .ref (He.ga K "BadCuts")) (by rfl) (T.glo "BadCuts" (by decide +kernel)) rfl) (pa_cons (pe_glob (v := .ref (He.ga K "BadStart")) (by rfl) (T.glo "BadStart" (by decide +kernel)) rfl) pa_nil)))))))))) pa_nil))) pa_nil)))
      (pss_cons (ps_expr (pe_bm PySem.F.plainAttrs_list PySem.F.slot_list_append PySem.F.type_list_append mt_append (pv 1) (pa_cons (pe_callB call_isXT (by rfl) T.isinstance (by decide +kernel) (pa_cons (pv 0) (pa_cons (pe_tup (pa_cons (pe_glob (v := .ref (He.ga K "BadAnswer")) (by rfl) (T.glo "BadAnswer" (by decide +kernel)) rfl) (pa_cons (pe_glob (v := .ref (He.ga K "BadWholeText")) (by rfl) (T.glo "BadWholeText" (by decide +kernel)) rfl) (pa_cons (pe_glob (v := .ref (He.ga K "BadGoal")) (by rfl) (T.glo "BadGoal" (by decide +kernel)) rfl) (pa_cons (pe_glob (v := .ref (He.ga K "BadRing")) (by rfl) (T.glo "BadRing" (by decide +kernel)) rfl) (pa_cons (pe_glob (v := .ref (He.ga K "BadMatching")) (by rfl) (T.glo "BadMatching" (by decide +kernel)) rfl) (pa_cons (pe_glob (v := .ref (He.ga K "BadFormula")) (by rfl) (T.glo "BadFormula" (by decide +kernel)) rfl) (pa_cons (pe_glob (v := .ref (He.ga K "BadPart")) (by rfl) (T.glo "BadPart" (by decide +kernel)) rfl) (pa_cons (pe_glob (v := .ref (He.ga K "BadSequent")) (by rfl) (T.glo "BadSequent" (by decide +kernel)) rfl) (pa_cons (pe_glob (v := .ref (He.ga K "BadPlace")) (by rfl) (T.glo "BadPlace" (by decide +kernel)) rfl) pa_nil)))))))))) pa_nil))) pa_nil)))
      (pss_cons (ps_expr (pe_bm PySem.F.plainAttrs_list PySem.F.slot_list_append PySem.F.type_list_append mt_append (pv 1) (pa_cons (pe_callB call_isXT (by rfl) T.isinstance (by decide +kernel) (pa_cons (pv 0) (pa_cons (pe_tup (pa_cons (pe_glob (v := .ref (He.ga K "BadTies")) (by rfl) (T.glo "BadTies" (by decide +kernel)) rfl) (pa_cons (pe_glob (v := .ref (He.ga K "BadFormulaText")) (by rfl) (T.glo "BadFormulaText" (by decide +kernel)) rfl) (pa_cons (pe_glob (v := .ref (He.ga K "BadSequentText")) (by rfl) (T.glo "BadSequentText" (by decide +kernel)) rfl) (pa_cons (pe_glob (v := .ref (He.ga K "BadTyingText")) (by rfl) (T.glo "BadTyingText" (by decide +kernel)) rfl) (pa_cons (pe_glob (v := .ref (He.ga K "BadIndex")) (by rfl) (T.glo "BadIndex" (by decide +kernel)) rfl) (pa_cons (pe_glob (v := .ref (He.ga K "NotElse")) (by rfl) (T.glo "NotElse" (by decide +kernel)) rfl) (pa_cons (pe_glob (v := .ref (He.ga K "BadMoves")) (by rfl) (T.glo "BadMoves" (by decide +kernel)) rfl) (pa_cons (pe_glob (v := .ref (He.ga K "BadWords")) (by rfl) (T.glo "BadWords" (by decide +kernel)) rfl) (pa_cons (pe_glob (v := .ref (He.ga K "BadMany")) (by rfl) (T.glo "BadMany" (by decide +kernel)) rfl) pa_nil)))))))))) pa_nil))) pa_nil)))
      (pss_cons (ps_expr (pe_bm PySem.F.plainAttrs_list PySem.F.slot_list_append PySem.F.type_list_append mt_append (pv 1) (pa_cons (pe_callB call_isXT (by rfl) T.isinstance (by decide +kernel) (pa_cons (pv 0) (pa_cons (pe_tup (pa_cons (pe_glob (v := .ref (He.ga K "BadNumber")) (by rfl) (T.glo "BadNumber" (by decide +kernel)) rfl) (pa_cons (pe_glob (v := .ref (He.ga K "BadTold")) (by rfl) (T.glo "BadTold" (by decide +kernel)) rfl) (pa_cons (pe_glob (v := .ref (He.ga K "BadOrder")) (by rfl) (T.glo "BadOrder" (by decide +kernel)) rfl) (pa_cons (pe_glob (v := .ref (He.ga K "NotParted")) (by rfl) (T.glo "NotParted" (by decide +kernel)) rfl) (pa_cons (pe_glob (v := .ref (He.ga K "BadValues")) (by rfl) (T.glo "BadValues" (by decide +kernel)) rfl) (pa_cons (pe_glob (v := .ref (He.ga K "BadOthers")) (by rfl) (T.glo "BadOthers" (by decide +kernel)) rfl) (pa_cons (pe_glob (v := .ref (He.ga K "BadMore")) (by rfl) (T.glo "BadMore" (by decide +kernel)) rfl) (pa_cons (pe_glob (v := .ref (He.ga K "NotTurned")) (by rfl) (T.glo "NotTurned" (by decide +kernel)) rfl) (pa_cons (pe_glob (v := .ref (He.ga K "NothingLeft")) (by rfl) (T.glo "NothingLeft" (by decide +kernel)) rfl) pa_nil)))))))))) pa_nil))) pa_nil)))
      (pss_cons (ps_expr (pe_bm PySem.F.plainAttrs_list PySem.F.slot_list_append PySem.F.type_list_append mt_append (pv 1) (pa_cons (pe_callB call_isXT (by rfl) T.isinstance (by decide +kernel) (pa_cons (pv 0) (pa_cons (pe_tup (pa_cons (pe_glob (v := .ref (He.ga K "BadPlaceOf")) (by rfl) (T.glo "BadPlaceOf" (by decide +kernel)) rfl) pa_nil)) pa_nil))) pa_nil)))
      (pss_one (ps_ret (pe_cmpR op_in_seq pe_bl (pv 1) (by rfl))))))))), ?_⟩
    obtain ⟨a, x, rfl, e, hx, q⟩ := h
    refine rdSetM (zs := [.bl false]) (fun Q q => rdXT (ys := ["BadOther", "BadSwitching", "BadProof", "NoProof", "BadLast", "BadNet", "NotSplitting", "BadCuts", "BadStart"]) rfl e hx (by decide +kernel) (fun Q q => q) (by decide) fun H' k => q H' k) (by decide) fun H1 p k1 hp d1 => ?_
    refine rdApp (z := .bl false) rfl hp k1 d1 (fun Q q => rdXT (ys := ["BadAnswer", "BadWholeText", "BadGoal", "BadRing", "BadMatching", "BadFormula", "BadPart", "BadSequent", "BadPlace"]) rfl (e.kpx k1.x) hx (by decide +kernel) (fun Q q => q) (by decide) fun H' k => q H' k) (by simp) fun H2 k2 d2 => ?_
    refine rdApp (z := .bl false) rfl hp k2 d2 (fun Q q => rdXT (ys := ["BadTies", "BadFormulaText", "BadSequentText", "BadTyingText", "BadIndex", "NotElse", "BadMoves", "BadWords", "BadMany"]) rfl (e.kpx k2.x) hx (by decide +kernel) (fun Q q => q) (by decide) fun H' k => q H' k) (by simp) fun H3 k3 d3 => ?_
    refine rdApp (z := .bl false) rfl hp k3 d3 (fun Q q => rdXT (ys := ["BadNumber", "BadTold", "BadOrder", "NotParted", "BadValues", "BadOthers", "BadMore", "NotTurned", "NothingLeft"]) rfl (e.kpx k3.x) hx (by decide +kernel) (fun Q q => q) (by decide) fun H' k => q H' k) (by simp) fun H4 k4 d4 => ?_
    refine rdApp (z := .bl false) rfl hp k4 d4 (fun Q q => rdXT (ys := ["BadPlaceOf"]) rfl (e.kpx k4.x) hx (by decide +kernel) (fun Q q => q) (by decide) fun H' k => q H' k) (by simp) fun H5 k5 d5 => ?_
    exact ⟨_, rfl, p, _, rfl, .inl (SqL.of d5), rfl, rfl, q _ k5⟩
theorem ok_others (F : FnP K "_law_others" sOthers f fd) (M : FrM P w K mg base) : FnOk P w K mg base CX0 3 f fd ["x"] (spOthers K) := by
  refine F.ok scO (fun vs H Q E h => ?_) (fun cdv A outer s H vs Q E hr h => ?_)
  · obtain ⟨y, rfl, _⟩ := h
    rfl
  · refine ⟨_, PSs.nox (pss_cons (ps_set (i := 1) scO.nd rfl (Or.inl rfl) (pe_lst (t := tMks K [("BadOther", some "other"), ("BadSwitching", some "switching"), ("BadProof", some "proof"), ("NoProof", some "ties"), ("BadLast", some "place"), ("BadNet", some "net"), ("NotSplitting", some "place"), ("BadCuts", some "index")]) (pa_cons (pe_mkX (M.mx ("BadOther", "other") (by decide +kernel)) hr (by rfl) (pa_cons (pv 0) pa_nil)) (pa_cons (pe_mkX (M.mx ("BadSwitching", "switching") (by decide +kernel)) hr (by rfl) (pa_cons (pv 0) pa_nil)) (pa_cons (pe_mkX (M.mx ("BadProof", "proof") (by decide +kernel)) hr (by rfl) (pa_cons (pv 0) pa_nil)) (pa_cons (pe_mkX (M.mx ("NoProof", "ties") (by decide +kernel)) hr (by rfl) (pa_cons (pv 0) pa_nil)) (pa_cons (pe_mkX (M.mx ("BadLast", "place") (by decide +kernel)) hr (by rfl) (pa_cons (pv 0) pa_nil)) (pa_cons (pe_mkX (M.mx ("BadNet", "net") (by decide +kernel)) hr (by rfl) (pa_cons (pv 0) pa_nil)) (pa_cons (pe_mkX (M.mx ("NotSplitting", "place") (by decide +kernel)) hr (by rfl) (pa_cons (pv 0) pa_nil)) (pa_cons (pe_mkX (M.mx ("BadCuts", "index") (by decide +kernel)) hr (by rfl) (pa_cons (pv 0) pa_nil)) pa_nil))))))))))
      (pss_cons (ps_expr (pe_bm PySem.F.plainAttrs_list PySem.F.slot_list_extend PySem.F.type_list_extend mt_extend (pv 1) (pa_cons (pe_lst (t := tMks K [("BadStart", some "place"), ("BadAnswer", some "answer"), ("BadWholeText", some "line"), ("BadGoal", some "goal"), ("BadRing", some "ring"), ("BadMatching", some "matching"), ("BadFormula", some "formula"), ("BadPart", some "part")]) (pa_cons (pe_mkX (M.mx ("BadStart", "place") (by decide +kernel)) hr (by rfl) (pa_cons (pv 0) pa_nil)) (pa_cons (pe_mkX (M.mx ("BadAnswer", "answer") (by decide +kernel)) hr (by rfl) (pa_cons (pv 0) pa_nil)) (pa_cons (pe_mkX (M.mx ("BadWholeText", "line") (by decide +kernel)) hr (by rfl) (pa_cons (pv 0) pa_nil)) (pa_cons (pe_mkX (M.mx ("BadGoal", "goal") (by decide +kernel)) hr (by rfl) (pa_cons (pv 0) pa_nil)) (pa_cons (pe_mkX (M.mx ("BadRing", "ring") (by decide +kernel)) hr (by rfl) (pa_cons (pv 0) pa_nil)) (pa_cons (pe_mkX (M.mx ("BadMatching", "matching") (by decide +kernel)) hr (by rfl) (pa_cons (pv 0) pa_nil)) (pa_cons (pe_mkX (M.mx ("BadFormula", "formula") (by decide +kernel)) hr (by rfl) (pa_cons (pv 0) pa_nil)) (pa_cons (pe_mkX (M.mx ("BadPart", "part") (by decide +kernel)) hr (by rfl) (pa_cons (pv 0) pa_nil)) pa_nil))))))))) pa_nil)))
      (pss_cons (ps_expr (pe_bm PySem.F.plainAttrs_list PySem.F.slot_list_extend PySem.F.type_list_extend mt_extend (pv 1) (pa_cons (pe_lst (t := tMks K [("BadSequent", some "index"), ("BadPlace", some "place"), ("BadTies", some "index"), ("BadFormulaText", some "place"), ("BadSequentText", some "line"), ("BadTyingText", some "line"), ("BadIndex", some "index"), ("NotElse", some "index")]) (pa_cons (pe_mkX (M.mx ("BadSequent", "index") (by decide +kernel)) hr (by rfl) (pa_cons (pv 0) pa_nil)) (pa_cons (pe_mkX (M.mx ("BadPlace", "place") (by decide +kernel)) hr (by rfl) (pa_cons (pv 0) pa_nil)) (pa_cons (pe_mkX (M.mx ("BadTies", "index") (by decide +kernel)) hr (by rfl) (pa_cons (pv 0) pa_nil)) (pa_cons (pe_mkX (M.mx ("BadFormulaText", "place") (by decide +kernel)) hr (by rfl) (pa_cons (pv 0) pa_nil)) (pa_cons (pe_mkX (M.mx ("BadSequentText", "line") (by decide +kernel)) hr (by rfl) (pa_cons (pv 0) pa_nil)) (pa_cons (pe_mkX (M.mx ("BadTyingText", "line") (by decide +kernel)) hr (by rfl) (pa_cons (pv 0) pa_nil)) (pa_cons (pe_mkX (M.mx ("BadIndex", "index") (by decide +kernel)) hr (by rfl) (pa_cons (pv 0) pa_nil)) (pa_cons (pe_mkX (M.mx ("NotElse", "index") (by decide +kernel)) hr (by rfl) (pa_cons (pv 0) pa_nil)) pa_nil))))))))) pa_nil)))
      (pss_cons (ps_expr (pe_bm PySem.F.plainAttrs_list PySem.F.slot_list_extend PySem.F.type_list_extend mt_extend (pv 1) (pa_cons (pe_lst (t := tMks K [("BadMoves", some "index"), ("BadWords", some "index"), ("BadMany", some "many"), ("BadNumber", some "number"), ("BadTold", some "told"), ("BadOrder", some "order"), ("NotParted", some "place"), ("BadValues", some "told")]) (pa_cons (pe_mkX (M.mx ("BadMoves", "index") (by decide +kernel)) hr (by rfl) (pa_cons (pv 0) pa_nil)) (pa_cons (pe_mkX (M.mx ("BadWords", "index") (by decide +kernel)) hr (by rfl) (pa_cons (pv 0) pa_nil)) (pa_cons (pe_mkX (M.mx ("BadMany", "many") (by decide +kernel)) hr (by rfl) (pa_cons (pv 0) pa_nil)) (pa_cons (pe_mkX (M.mx ("BadNumber", "number") (by decide +kernel)) hr (by rfl) (pa_cons (pv 0) pa_nil)) (pa_cons (pe_mkX (M.mx ("BadTold", "told") (by decide +kernel)) hr (by rfl) (pa_cons (pv 0) pa_nil)) (pa_cons (pe_mkX (M.mx ("BadOrder", "order") (by decide +kernel)) hr (by rfl) (pa_cons (pv 0) pa_nil)) (pa_cons (pe_mkX (M.mx ("NotParted", "place") (by decide +kernel)) hr (by rfl) (pa_cons (pv 0) pa_nil)) (pa_cons (pe_mkX (M.mx ("BadValues", "told") (by decide +kernel)) hr (by rfl) (pa_cons (pv 0) pa_nil)) pa_nil))))))))) pa_nil)))
      (pss_cons (ps_expr (pe_bm PySem.F.plainAttrs_list PySem.F.slot_list_extend PySem.F.type_list_extend mt_extend (pv 1) (pa_cons (pe_lst (t := tMks K [("BadOthers", some "index"), ("BadMore", some "index"), ("NotTurned", some "place"), ("NothingLeft", some "place"), ("BadPlaceOf", some "place")]) (pa_cons (pe_mkX (M.mx ("BadOthers", "index") (by decide +kernel)) hr (by rfl) (pa_cons (pv 0) pa_nil)) (pa_cons (pe_mkX (M.mx ("BadMore", "index") (by decide +kernel)) hr (by rfl) (pa_cons (pv 0) pa_nil)) (pa_cons (pe_mkX (M.mx ("NotTurned", "place") (by decide +kernel)) hr (by rfl) (pa_cons (pv 0) pa_nil)) (pa_cons (pe_mkX (M.mx ("NothingLeft", "place") (by decide +kernel)) hr (by rfl) (pa_cons (pv 0) pa_nil)) (pa_cons (pe_mkX (M.mx ("BadPlaceOf", "place") (by decide +kernel)) hr (by rfl) (pa_cons (pv 0) pa_nil)) pa_nil)))))) pa_nil)))
      (pss_one (ps_ret (pv 1)))))))), ?_⟩
    obtain ⟨y, rfl, q⟩ := h
    refine rdSetE (mkA_all M rfl _ (inW_all (by decide +kernel))) (by decide) fun H1 p as1 k1 hp0 d1 e1 => ?_
    refine rdExtE rfl hp0 k1 d1 e1 (mkA_all M rfl _ (inW_all (by decide +kernel))) (by decide) (by decide) fun H2 as2 k2 d2 e2 => ?_
    refine rdExtE rfl hp0 k2 d2 e2 (mkA_all M rfl _ (inW_all (by decide +kernel))) (by decide) (by decide) fun H3 as3 k3 d3 e3 => ?_
    refine rdExtE rfl hp0 k3 d3 e3 (mkA_all M rfl _ (inW_all (by decide +kernel))) (by decide) (by decide) fun H4 as4 k4 d4 e4 => ?_
    refine rdExtE rfl hp0 k4 d4 e4 (mkA_all M rfl _ (inW_all (by decide +kernel))) (by decide) (by decide) fun H5 as5 k5 d5 e5 => ?_
    exact ⟨_, rfl, q _ p as5 _ k5 d5 e5 (by decide +kernel) (by decide)⟩
end
end H89

set_option Elab.async false
set_option linter.all false
set_option maxRecDepth 100000
set_option maxHeartbeats 400000
namespace H89
open PySem PySem.Spec PyProof.Rows L2
/-- what a made pair is -/
def Made (K : PySem.W.Frag) (x : Str) (y : V) (H : Hp) (t : Addr) : Prop := ∃ a : Addr, H t = some (.tup [.ref a, y]) ∧ ErN K x H a
def tMade (K : PySem.W.Frag) (x f : Str) (kw : Bool) : TS := tSeq (tAsg (match kw with | true => tMkK (He.ga K x) (spXI K f) (tVar 1) | false => tMkV (He.ga K x) (spXI K f) (tCons (tVar 1) tNil)) (gName 2))
  (tRet (tTup (tCons (tVar 2) (tCons (tEf K f (tVar 2)) tNil))))
section
variable {P : Program} {w : World} {K : PySem.W.Frag} {mg : Str → Option Value} {base : Heap} {x f : Str} {D : Ends} {n : V} {y : V} {H : Hp}
theorem rdMade (M : MkX P w K mg base x f) (kw : Bool) (q : ∀ H' t, Kp H H' → Made K x y H' t → D.rt (.ref t) H') : tMade K x f kw D [some n, some y, none] H := by
  have fin : ∀ H1 a d, Kp H H1 → H1 a = some (exo a (He.ga K x) (some d)) → H1 d = some (exd d [(f, y)]) → tRet (tTup (tCons (tVar 2) (tCons (tEf K f (tVar 2)) tNil))) D [some n, some y, some (.ref a)] H1 := fun H1 a d k1 e1 f1 => by
    refine ⟨_, rfl, _, rfl, a, _, d, _, y, rfl, M.kit.ec, M.no, e1, f1, by simp [List.lookup], by show 2 ≤ sizeLine; decide, fun t ht => ?_⟩
    have k2 := Kp.new (o := .tup [.ref a, y]) ht
    exact q _ t (k1.trans k2) ⟨a, upd_same, some d, _, M.kit, k2 _ _ e1, fun z hz => by cases hz; exact k2 _ _ f1⟩
  cases kw with
  | true =>
    unfold tMade tSeq tAsg
    show tMkK (He.ga K x) (spXI K f) (tVar 1) _ H _
    exact rdMkK (σ := [some n, some y, none]) (i := 1) (y := y) M rfl fun H1 a d k1 e1 f1 => fin H1 a d k1 e1 f1
  | false =>
    unfold tMade tSeq tAsg
    show tMkV (He.ga K x) (spXI K f) (tCons (tVar 1) tNil) _ H _
    exact rdMkX (σ := [some n, some y, none]) (i := 1) (y := y) M rfl fun H1 a d k1 e1 f1 => fin H1 a d k1 e1 f1
end
def spMade (K : PySem.W.Frag) (lo hi : Nat) : Sp := fun vs H Q _ => ∃ (n : Nat) (y : V) (x : Str), vs = [.int n, y] ∧ lo ≤ n ∧ n < hi ∧ mine[n]? = some x ∧ ∀ H' t, Kp H H' → Made K x y H' t → Q (.ref t) H'
theorem dF {a b : Int} (h : a ≠ b) : decide (V.int a = V.int b) = false := decide_eq_false fun z => h (V.int.inj z)
theorem dT {a : Int} : decide (V.int a = V.int a) = true := decide_eq_true rfl
abbrev sSmadea : Stmt := top 61
theorem scSmadea : FnScope ["at", "x", "made"] ["at", "x"] (defScope sSmadea) := ⟨rfl, rfl, rfl, by decide +kernel, rfl, by decide +kernel, by decide +kernel⟩
theorem ok_made_a {P : Program} {w : World} {K : PySem.W.Frag} {mg : Str → Option Value} {base : Heap} {f : Addr} {fd : FuncData} (F : FnP K "_law_made_a" sSmadea f fd) (M : FrM P w K mg base) : FnOk P w K mg base CX0 3 f fd ["at", "x"] (spMade K 0 8) := by
  refine F.ok scSmadea (fun vs H Q E h => ?_) (fun cdv A outer s H vs Q E hr h => ?_)
  · obtain ⟨n, y, x, rfl, _⟩ := h
    rfl
  · refine ⟨_, PSs.nox (pss_cons (ps_if (t := tMade K "BadMix" "proof" false) (pt_cmpR op_eq (pv 0) pe_int (nomark _)) (pss_cons (ps_set (i := 2) scSmadea.nd rfl (Or.inl rfl) (pe_mkX (M.mx ("BadMix", "proof") (by decide +kernel)) hr (by rfl) (pa_cons (pv 1) pa_nil))) (pss_one (ps_ret (pe_tup (pa_cons (pv 2) (pa_cons (pe_ef (pv 2)) pa_nil)))))) pss_nil)
      (pss_cons (ps_if (t := tMade K "HasRing" "ties" true) (pt_cmpR op_eq (pv 0) pe_int (nomark _)) (pss_cons (ps_set (i := 2) scSmadea.nd rfl (Or.inl rfl) (pe_mkK (M.mx ("HasRing", "ties") (by decide +kernel)) hr (by rfl) (pv 1))) (pss_one (ps_ret (pe_tup (pa_cons (pv 2) (pa_cons (pe_ef (pv 2)) pa_nil)))))) pss_nil)
      (pss_cons (ps_if (t := tMade K "BadPlaces" "index" false) (pt_cmpR op_eq (pv 0) pe_int (nomark _)) (pss_cons (ps_set (i := 2) scSmadea.nd rfl (Or.inl rfl) (pe_mkX (M.mx ("BadPlaces", "index") (by decide +kernel)) hr (by rfl) (pa_cons (pv 1) pa_nil))) (pss_one (ps_ret (pe_tup (pa_cons (pv 2) (pa_cons (pe_ef (pv 2)) pa_nil)))))) pss_nil)
      (pss_cons (ps_if (t := tMade K "BadPrices" "prices" false) (pt_cmpR op_eq (pv 0) pe_int (nomark _)) (pss_cons (ps_set (i := 2) scSmadea.nd rfl (Or.inl rfl) (pe_mkX (M.mx ("BadPrices", "prices") (by decide +kernel)) hr (by rfl) (pa_cons (pv 1) pa_nil))) (pss_one (ps_ret (pe_tup (pa_cons (pv 2) (pa_cons (pe_ef (pv 2)) pa_nil)))))) pss_nil)
      (pss_cons (ps_if (t := tMade K "BadSome" "index" true) (pt_cmpR op_eq (pv 0) pe_int (nomark _)) (pss_cons (ps_set (i := 2) scSmadea.nd rfl (Or.inl rfl) (pe_mkK (M.mx ("BadSome", "index") (by decide +kernel)) hr (by rfl) (pv 1))) (pss_one (ps_ret (pe_tup (pa_cons (pv 2) (pa_cons (pe_ef (pv 2)) pa_nil)))))) pss_nil)
      (pss_cons (ps_if (t := tMade K "BadTyings" "index" false) (pt_cmpR op_eq (pv 0) pe_int (nomark _)) (pss_cons (ps_set (i := 2) scSmadea.nd rfl (Or.inl rfl) (pe_mkX (M.mx ("BadTyings", "index") (by decide +kernel)) hr (by rfl) (pa_cons (pv 1) pa_nil))) (pss_one (ps_ret (pe_tup (pa_cons (pv 2) (pa_cons (pe_ef (pv 2)) pa_nil)))))) pss_nil)
      (pss_cons (ps_if (t := tMade K "BadStrategy" "strategy" false) (pt_cmpR op_eq (pv 0) pe_int (nomark _)) (pss_cons (ps_set (i := 2) scSmadea.nd rfl (Or.inl rfl) (pe_mkX (M.mx ("BadStrategy", "strategy") (by decide +kernel)) hr (by rfl) (pa_cons (pv 1) pa_nil))) (pss_one (ps_ret (pe_tup (pa_cons (pv 2) (pa_cons (pe_ef (pv 2)) pa_nil)))))) pss_nil)
      (pss_cons (ps_set (i := 2) scSmadea.nd rfl (Or.inl rfl) (pe_mkK (M.mx ("BadEdit", "edit") (by decide +kernel)) hr (by rfl) (pv 1))) (pss_one (ps_ret (pe_tup (pa_cons (pv 2) (pa_cons (pe_ef (pv 2)) pa_nil))))))))))))), ?_⟩
    obtain ⟨n, y, x, rfl, h1, h2, hx, q⟩ := h
    match n, h1, h2, hx with
    | 0, h1, h2, hx =>
      cases hx
      exact ⟨_, rfl, rfl, _, rfl, ifT dT (rdMade (M.mx ("BadMix", "proof") (by decide +kernel)) false q)⟩
    | 1, h1, h2, hx =>
      cases hx
      exact ⟨_, rfl, rfl, _, rfl, ifF (dF (by decide)) ⟨_, rfl, rfl, _, rfl, ifT dT (rdMade (M.mx ("HasRing", "ties") (by decide +kernel)) true q)⟩⟩
    | 2, h1, h2, hx =>
      cases hx
      exact ⟨_, rfl, rfl, _, rfl, ifF (dF (by decide)) ⟨_, rfl, rfl, _, rfl, ifF (dF (by decide)) ⟨_, rfl, rfl, _, rfl, ifT dT (rdMade (M.mx ("BadPlaces", "index") (by decide +kernel)) false q)⟩⟩⟩
    | 3, h1, h2, hx =>
      cases hx
      exact ⟨_, rfl, rfl, _, rfl, ifF (dF (by decide)) ⟨_, rfl, rfl, _, rfl, ifF (dF (by decide)) ⟨_, rfl, rfl, _, rfl, ifF (dF (by decide)) ⟨_, rfl, rfl, _, rfl, ifT dT (rdMade (M.mx ("BadPrices", "prices") (by decide +kernel)) false q)⟩⟩⟩⟩
    | 4, h1, h2, hx =>
      cases hx
      exact ⟨_, rfl, rfl, _, rfl, ifF (dF (by decide)) ⟨_, rfl, rfl, _, rfl, ifF (dF (by decide)) ⟨_, rfl, rfl, _, rfl, ifF (dF (by decide)) ⟨_, rfl, rfl, _, rfl, ifF (dF (by decide)) ⟨_, rfl, rfl, _, rfl, ifT dT (rdMade (M.mx ("BadSome", "index") (by decide +kernel)) true q)⟩⟩⟩⟩⟩
    | 5, h1, h2, hx =>
      cases hx
      exact ⟨_, rfl, rfl, _, rfl, ifF (dF (by decide)) ⟨_, rfl, rfl, _, rfl, ifF (dF (by decide)) ⟨_, rfl, rfl, _, rfl, ifF (dF (by decide)) ⟨_, rfl, rfl, _, rfl, ifF (dF (by decide)) ⟨_, rfl, rfl, _, rfl, ifF (dF (by decide)) ⟨_, rfl, rfl, _, rfl, ifT dT (rdMade (M.mx ("BadTyings", "index") (by decide +kernel)) false q)⟩⟩⟩⟩⟩⟩
    | 6, h1, h2, hx =>
      cases hx
      exact ⟨_, rfl, rfl, _, rfl, ifF (dF (by decide)) ⟨_, rfl, rfl, _, rfl, ifF (dF (by decide)) ⟨_, rfl, rfl, _, rfl, ifF (dF (by decide)) ⟨_, rfl, rfl, _, rfl, ifF (dF (by decide)) ⟨_, rfl, rfl, _, rfl, ifF (dF (by decide)) ⟨_, rfl, rfl, _, rfl, ifF (dF (by decide)) ⟨_, rfl, rfl, _, rfl, ifT dT (rdMade (M.mx ("BadStrategy", "strategy") (by decide +kernel)) false q)⟩⟩⟩⟩⟩⟩⟩
    | 7, h1, h2, hx =>
      cases hx
      exact ⟨_, rfl, rfl, _, rfl, ifF (dF (by decide)) ⟨_, rfl, rfl, _, rfl, ifF (dF (by decide)) ⟨_, rfl, rfl, _, rfl, ifF (dF (by decide)) ⟨_, rfl, rfl, _, rfl, ifF (dF (by decide)) ⟨_, rfl, rfl, _, rfl, ifF (dF (by decide)) ⟨_, rfl, rfl, _, rfl, ifF (dF (by decide)) ⟨_, rfl, rfl, _, rfl, ifF (dF (by decide)) (rdMade (M.mx ("BadEdit", "edit") (by decide +kernel)) true q)⟩⟩⟩⟩⟩⟩⟩
abbrev sSmadeb : Stmt := top 62
theorem scSmadeb : FnScope ["at", "x", "made"] ["at", "x"] (defScope sSmadeb) := ⟨rfl, rfl, rfl, by decide +kernel, rfl, by decide +kernel, by decide +kernel⟩
theorem ok_made_b {P : Program} {w : World} {K : PySem.W.Frag} {mg : Str → Option Value} {base : Heap} {f : Addr} {fd : FuncData} (F : FnP K "_law_made_b" sSmadeb f fd) (M : FrM P w K mg base) : FnOk P w K mg base CX0 3 f fd ["at", "x"] (spMade K 8 10) := by
  refine F.ok scSmadeb (fun vs H Q E h => ?_) (fun cdv A outer s H vs Q E hr h => ?_)
  · obtain ⟨n, y, x, rfl, _⟩ := h
    rfl
  · refine ⟨_, PSs.nox (pss_cons (ps_if (t := tMade K "BadDesk" "desk" false) (pt_cmpR op_eq (pv 0) pe_int (nomark _)) (pss_cons (ps_set (i := 2) scSmadeb.nd rfl (Or.inl rfl) (pe_mkX (M.mx ("BadDesk", "desk") (by decide +kernel)) hr (by rfl) (pa_cons (pv 1) pa_nil))) (pss_one (ps_ret (pe_tup (pa_cons (pv 2) (pa_cons (pe_ef (pv 2)) pa_nil)))))) pss_nil)
      (pss_cons (ps_set (i := 2) scSmadeb.nd rfl (Or.inl rfl) (pe_mkX (M.mx ("BadDeskText", "line") (by decide +kernel)) hr (by rfl) (pa_cons (pv 1) pa_nil))) (pss_one (ps_ret (pe_tup (pa_cons (pv 2) (pa_cons (pe_ef (pv 2)) pa_nil))))))), ?_⟩
    obtain ⟨n, y, x, rfl, h1, h2, hx, q⟩ := h
    match n, h1, h2, hx with
    | 8, h1, h2, hx =>
      cases hx
      exact ⟨_, rfl, rfl, _, rfl, ifT dT (rdMade (M.mx ("BadDesk", "desk") (by decide +kernel)) false q)⟩
    | 9, h1, h2, hx =>
      cases hx
      exact ⟨_, rfl, rfl, _, rfl, ifF (dF (by decide)) (rdMade (M.mx ("BadDeskText", "line") (by decide +kernel)) false q)⟩
end H89

set_option Elab.async false
set_option linter.all false
set_option maxRecDepth 100000
set_option maxHeartbeats 400000
namespace H89
open PySem PySem.Spec PyProof.Rows L2
abbrev sMadeAt : Stmt := top 63
abbrev sObject : Stmt := top 64
abbrev sVery : Stmt := top 65
structure FrL (mg : Str → Option Value) : Prop where
  list : mg "list" = none
  max : mg "max" = none
  str : mg "str" = none
  dict : mg "dict" = none
  isinstance : mg "isinstance" = none
section
variable {P : Program} {w : World} {K : PySem.W.Frag} {mg : Str → Option Value} {base : Heap} {f f1 f2 f3 : Addr} {fd fd1 fd2 fd3 : FuncData}
/-! ### _law_start -/
def spStart (K : PySem.W.Frag) : Sp := fun vs H Q _ => ∃ (a : Addr) (ns : List Int), vs = [.ref a] ∧ SqL K H a (ns.map V.int) ∧ ∀ H' p q, Kp H H' → StAt H' p q ⟨ns, 0, 0, 29⟩ → Q (.ref p) H'
theorem scStart : FnScope ["script"] ["script"] (defScope sStart) := ⟨rfl, rfl, rfl, by decide +kernel, rfl, by decide +kernel, by decide +kernel⟩
theorem ok_start (F : FnP K "_law_start" sStart f fd) (T : FrL mg) : FnOk P w K mg base CX0 1 f fd ["script"] (spStart K) := by
  refine F.ok scStart (fun vs H Q E h => ?_) (fun cdv A outer s H vs Q E hr h => ?_)
  · obtain ⟨a, ns, rfl, _⟩ := h
    rfl
  · refine ⟨_, PSs.nox (pss_one (ps_ret (pe_lst (pa_cons (pe_callTy call_list_of (by rfl) T.list (by decide +kernel) (pa_cons (pv 0) pa_nil)) (pa_cons pe_int (pa_cons pe_int (pa_cons pe_int pa_nil))))))), ?_⟩
    obtain ⟨a, ns, rfl, hS, q⟩ := h
    refine ⟨_, rfl, a, _, rfl, .inl hS, fun l hl => ⟨by show 4 ≤ sizeLine; decide, fun p hp => ?_⟩⟩
    have ne : p ≠ l := fun z => by
      subst z
      rw [upd_same] at hp
      cases hp
    exact q _ p l ((Kp.new hl).trans (Kp.new hp)) ⟨upd_same, by rw [upd_ne ne.symm, upd_same], ne⟩
/-! ### _law_made_at -/
theorem scMadeAt : FnScope ["at", "x"] ["at", "x"] (defScope sMadeAt) := ⟨rfl, rfl, rfl, by decide +kernel, rfl, by decide +kernel, by decide +kernel⟩
theorem ok_madeAt (F : FnP K "_law_made_at" sMadeAt f fd) (M : FrM P w K mg base) (F1 : FnP K "_law_made_a" sSmadea f1 fd1) (F2 : FnP K "_law_made_b" sSmadeb f2 fd2)
    (g1 : mg "_law_made_a" = some (.ref f1)) (g2 : mg "_law_made_b" = some (.ref f2)) : FnOk P w K mg base CX0 4 f fd ["at", "x"] (spMade K 0 12) := by
  have G1 : FnOk P w K mg base CX0 3 f1 fd1 ["at", "x"] _ := ok_made_a F1 M
  have G2 : FnOk P w K mg base CX0 3 f2 fd2 ["at", "x"] _ := ok_made_b F2 M
  have b1 : Binds K fd1 ["at", "x"] [] := F1.bindsN fun _ _ _ _ _ _ us hl => match us, hl with | [_, _], _ => rfl
  have b2 : Binds K fd2 ["at", "x"] [] := F2.bindsN fun _ _ _ _ _ _ us hl => match us, hl with | [_, _], _ => rfl
  have MU := M.mn "NothingToUndo" (by decide +kernel)
  have MR := M.mn "NothingToRedo" (by decide +kernel)
  refine F.ok scMadeAt (fun vs H Q E h => ?_) (fun cdv A outer s H vs Q E hr h => ?_)
  · obtain ⟨n, y, x, rfl, _⟩ := h
    rfl
  · refine ⟨_, PSs.nox (pss_cons (ps_if (pt_cmpR op_lt (pv 0) pe_int (nomark _)) (pss_one (ps_ret (pe_ifExp (pt_cmpR op_lt (pv 0) pe_int (nomark _)) (pe_call G1 hr (by rfl) g1 F1.kp b1 .nil pass0 (pa_cons (pv 0) (pa_cons (pv 1) pa_nil))) (pe_call G2 hr (by rfl) g2 F2.kp b2 .nil pass0 (pa_cons (pv 0) (pa_cons (pv 1) pa_nil)))))) pss_nil)
      (pss_one (ps_ret (pe_tup (pa_cons (pe_ix ix_list (pe_lst (pa_cons (pe_mk0 MU (by rfl)) (pa_cons (pe_mk0 MR (by rfl)) pa_nil))) (pe_op op_sub (pv 0) pe_int) (fun _ _ => rfl)) (pa_cons (pv 1) pa_nil)))))), ?_⟩
    obtain ⟨n, y, x, rfl, h1, h2, hx, q⟩ := h
    refine ⟨_, rfl, _, _, rfl, rfl, _, rfl, ite2 (fun h5 => ?_) (fun h5 => ?_)⟩
    · have := of_decide_eq_true h5
      refine ⟨_, rfl, _, _, rfl, rfl, _, rfl, ite2 (fun h10 => ?_) (fun h10 => ?_)⟩
      · have := of_decide_eq_true h10
        exact ⟨_, rfl, _, rfl, n, y, x, rfl, by omega, by omega, hx, q⟩
      · have h10 := of_decide_eq_false (Bool.eq_false_iff.mpr h10)
        exact ⟨_, rfl, _, rfl, n, y, x, rfl, by omega, by omega, hx, q⟩
    · have h5 := of_decide_eq_false (Bool.eq_false_iff.mpr h5)
      intro a ha b hb
      have ka := Kp.new (o := exo a (He.ga K "NothingToUndo") none) ha
      have kb := Kp.new (o := exo b (He.ga K "NothingToRedo") none) hb
      refine ⟨by show 2 ≤ sizeLine; decide, fun l hl => ?_⟩
      have kl := Kp.new (o := .lst [.ref a, .ref b]) hl
      have ea := kl _ _ (kb _ _ (upd_same (H := H) (a := a) (o := exo a (He.ga K "NothingToUndo") none)))
      have eb := kl _ _ (upd_same (H := upd H a (exo a (He.ga K "NothingToUndo") none)) (a := b) (o := exo b (He.ga K "NothingToRedo") none))
      have dl := upd_same (H := upd (upd H a (exo a (He.ga K "NothingToUndo") none)) b (exo b (He.ga K "NothingToRedo") none)) (a := l) (o := .lst [.ref a, .ref b])
      have k0 := (ka.trans kb).trans kl
      have fin : ∀ (c : Addr) (C : Str), ErN K C _ c → mine[n]? = some C → ([V.ref a, V.ref b] : List V)[n - 10]? = some (.ref c) → _ := fun c C ec hc hi => by
        have en : ((n : Nat) : Int) - 10 = ((n - 10 : Nat) : Int) := by omega
        have ex : x = C := Option.some.inj (hx.symm.trans hc)
        subst ex
        refine (show tTup (tCons (tOp (rIxL K) (tC (.ref l)) (tOp (rI0 fun i j => .int (i - j)) (tVar 0) (tC (.int 10)))) (tCons (tVar 1) tNil)) [some (.int (n : Nat)), some y] (upd (upd (upd H a (exo a (He.ga K "NothingToUndo") none)) b (exo b (He.ga K "NothingToRedo") none)) l (.lst [.ref a, .ref b])) Q from ?_)
        refine ⟨_, rfl, _, _, rfl, rfl, l, _, _, .ref c, rfl, rfl, SqL.of dl, by rw [en]; exact atI_nat hi, _, rfl, by show 2 ≤ sizeLine; decide, fun t ht => ?_⟩
        have kt := Kp.new (o := .tup [.ref c, y]) ht
        exact q _ t (k0.trans kt) ⟨c, upd_same, ec.kpx kt.x⟩
      match n, h2, h5, fin with
      | 10, _, _, fin => exact fin a "NothingToUndo" ⟨none, [], MU.kit, ea, fun z hz => nomatch hz⟩ (by decide +kernel) rfl
      | 11, _, _, fin => exact fin b "NothingToRedo" ⟨none, [], MR.kit, eb, fun z hz => nomatch hz⟩ (by decide +kernel) rfl
      | n + 12, h2, _, _ => omega
/-! ### the draws -/
/-- but for the draws' own lists -/
def KpD (p q : Addr) (H H' : Hp) : Prop := ∀ a o, H a = some o → a ≠ p → a ≠ q → H' a = some o
theorem KpD.rfl {p q : Addr} {H : Hp} : KpD p q H H := fun _ _ e _ _ => e
theorem KpD.trans {p q : Addr} {H1 H2 H3 : Hp} (a : KpD p q H1 H2) (b : KpD p q H2 H3) : KpD p q H1 H3 := fun x o e n m => b x o (a x o e n m) n m
theorem Kp.d {p q : Addr} {H H' : Hp} (k : Kp H H') : KpD p q H H' := fun a o e _ _ => k a o e
theorem StAt.kp {H H' : Hp} {p q : Addr} {S : LS} (k : Kp H H') (J : StAt H p q S) : StAt H' p q S := ⟨k _ _ J.hp, k _ _ J.hq, J.ne⟩
def spBetween : Sp := fun vs H Q _ => ∃ (p q : Addr) (S : LS) (lo hi : Int), vs = [.ref p, .int lo, .int hi] ∧ StAt H p q S ∧ S.Ok ∧ S.b < 1000000 ∧ lo ≤ hi ∧ hi - lo < 1000000 ∧
  ∀ (r : Int) (S' : LS) (H' : Hp), lo ≤ r → r ≤ hi → StAt H' p q S' → S'.Ok → S'.b = S.b + 1 → KpD p q H H' → Q (.int r) H'
theorem scBetween : FnScope ["state", "low", "high"] ["state", "low", "high"] (defScope sBetween) := ⟨rfl, rfl, rfl, by decide +kernel, rfl, by decide +kernel, by decide +kernel⟩
theorem ok_between (F : FnP K "_law_between" sBetween f fd) (FP : FnP K "_law_pick" sPick f1 fd1) (gP : mg "_law_pick" = some (.ref f1)) (T : FrP mg) (L : FrL mg) : FnOk P w K mg base CX0 2 f fd ["state", "low", "high"] spBetween := by
  have G1 : FnOk P w K mg base CX0 1 f1 fd1 ["state", "many"] _ := ok_pick FP T
  have b1 : Binds K fd1 ["state", "many"] [] := FP.bindsN fun _ _ _ _ _ _ us hl => match us, hl with | [_, _], _ => rfl
  refine F.ok scBetween (fun vs H Q E h => ?_) (fun cdv A outer s H vs Q E hr h => ?_)
  · obtain ⟨p, q, S, lo, hi, rfl, _⟩ := h
    rfl
  · refine ⟨_, PSs.nox (pss_one (ps_ret (pe_op op_add (pv 1) (pe_call G1 hr (by rfl) gP FP.kp b1 .nil pass0 (pa_cons (pv 0) (pa_cons (pe_op op_add (pe_callB (call_max2 rfl) (by rfl) L.max (by decide +kernel) (pa_cons (pe_op op_sub (pv 2) (pv 1)) (pa_cons pe_int pa_nil))) pe_int) pa_nil)))))), ?_⟩
    obtain ⟨p, q, S, lo, hi, rfl, J, O, hb, hle, hd, k⟩ := h
    refine ⟨_, rfl, _, rfl, _, rfl, _, rfl, _, _, rfl, rfl, _, _, rfl, _, _, rfl, rfl, ?_⟩
    have e : (if (0 : Int) > hi - lo then 0 else hi - lo) = hi - lo := if_neg (by omega)
    rw [e]
    exact ⟨p, q, S, hi - lo + 1, rfl, J, O, hb, by omega, by omega, fun r S' H' h0 h1 J' O' eb kp => ⟨_, _, rfl, rfl, k _ S' H' (by omega) (by omega) J' O' eb kp⟩⟩
/-! ### _law_object -/
def aKv (n : Int) : List (Key × V) := [(Sum.inr "a", .int n)]
/-- a thing -/
inductive Thg (q : Addr) (H : Hp) : V → Prop where
  | sc {v : V} : Sc v → Thg q H v
  | tup {t : Addr} {n : Int} : H t = some (.tup [.int 1, .int n]) → Thg q H (.ref t)
  | lst {l m : Addr} {n : Int} : H l = some (.lst [.int n, .ref m]) → H m = some (.lst [.int 1]) → m ≠ q → Thg q H (.ref l)
  | dct {d : Addr} {n : Int} : H d = some (.dK (aKv n)) → Thg q H (.ref d)
theorem Thg.sm {q : Addr} {H : Hp} {v : V} (h : Thg q H v) : Sm H 2 v v := by
  cases h with
  | sc s => exact .sc s
  | tup e =>
    refine .tup e e rfl (by show 2 ≤ 1000; decide) fun i x y ex ey => ?_
    rw [ex] at ey
    cases ey
    match i, ex with
    | 0, ex => cases ex; exact .sc (.int _)
    | 1, ex => cases ex; exact .sc (.int _)
  | lst e g _ =>
    refine .lst e e rfl (by show 2 ≤ 1000; decide) fun i x y ex ey => ?_
    rw [ex] at ey
    cases ey
    match i, ex with
    | 0, ex => cases ex; exact .sc (.int _)
    | 1, ex =>
      cases ex
      refine .lst g g rfl (by show 1 ≤ 1000; decide) fun i x y ex ey => ?_
      rw [ex] at ey
      cases ey
      match i, ex with
      | 0, ex => cases ex; exact .sc (.int _)
  | dct e =>
    refine .dct e (by show 1 ≤ 1000; decide) ?_
    intro kv m
    obtain rfl := List.mem_singleton.mp m
    exact ⟨⟨_, rfl⟩, .int _⟩
theorem Thg.kp {q : Addr} {H H' : Hp} {v : V} (c : Kp H H') (h : Thg q H v) : Thg q H' v := by
  cases h with
  | sc s => exact .sc s
  | tup e => exact .tup (c _ _ e)
  | lst e g n => exact .lst (c _ _ e) (c _ _ g) n
  | dct e => exact .dct (c _ _ e)
theorem wBound : ∀ n : Nat, n < 99 → (n : Int).natAbs.log2 < 1920 ∧ (Str.ofString "w").length + (Str.ofString (toString (n : Int))).length ≤ sizeLine := by decide +kernel
def spObject : Sp := fun vs H Q _ => ∃ (p q : Addr) (S : LS), vs = [.ref p] ∧ StAt H p q S ∧ S.Ok ∧ S.b < 900000 ∧
  ∀ (v : V) (S' : LS) (H' : Hp), StAt H' p q S' → S'.Ok → S'.b ≤ S.b + 6 → KpD p q H H' → Thg q H' v → Q v H'
theorem scObject : FnScope ["state", "way"] ["state"] (defScope sObject) := ⟨rfl, rfl, rfl, by decide +kernel, rfl, by decide +kernel, by decide +kernel⟩
theorem ok_object (F : FnP K "_law_object" sObject f fd) (FP : FnP K "_law_pick" sPick f1 fd1) (gP : mg "_law_pick" = some (.ref f1)) (FB : FnP K "_law_between" sBetween f2 fd2) (gB : mg "_law_between" = some (.ref f2)) (T : FrP mg) (L : FrL mg) :
    FnOk P w K mg base CX0 3 f fd ["state"] spObject := by
  have G1 : FnOk P w K mg base CX0 2 f1 fd1 ["state", "many"] _ := (ok_pick FP T).mono (by decide)
  have b1 : Binds K fd1 ["state", "many"] [] := FP.bindsN fun _ _ _ _ _ _ us hl => match us, hl with | [_, _], _ => rfl
  have G2 : FnOk P w K mg base CX0 2 f2 fd2 ["state", "low", "high"] _ := ok_between FB FP gP T L
  have b2 : Binds K fd2 ["state", "low", "high"] [] := FB.bindsN fun _ _ _ _ _ _ us hl => match us, hl with | [_, _, _], _ => rfl
  refine F.ok scObject (fun vs H Q E h => ?_) (fun cdv A outer s H vs Q E hr h => ?_)
  · obtain ⟨p, q, S, rfl, _⟩ := h
    rfl
  · refine ⟨_, PSs.nox (pss_cons (ps_set (i := 1) scObject.nd rfl (Or.inl rfl) (pe_call G1 hr (by rfl) gP FP.kp b1 .nil pass0 (pa_cons (pv 0) (pa_cons pe_int pa_nil))))
      (pss_cons (ps_if (pt_cmpR op_lt (pv 1) pe_int (nomark _)) (pss_one (ps_ret (pe_ix ix_list (pe_lst (pa_cons (pe_call G2 hr (by rfl) gB FB.kp b2 .nil pass0 (pa_cons (pv 0) (pa_cons (pe_un un_neg pe_int) (pa_cons pe_int pa_nil))))
        (pa_cons (pe_op op_add_str pe_str (pe_callTy call_str_int (by rfl) L.str (by decide +kernel) (pa_cons (pe_call G1 hr (by rfl) gP FP.kp b1 .nil pass0 (pa_cons (pv 0) (pa_cons pe_int pa_nil))) pa_nil))) pa_nil))) (pv 1) (fun _ _ => rfl)))) pss_nil)
      (pss_cons (ps_if (pt_cmpR op_lt (pv 1) pe_int (nomark _)) (pss_one (ps_ret (pe_ix ix_list (pe_lst (pa_cons pe_non (pa_cons (pe_cmpR op_eq (pe_call G1 hr (by rfl) gP FP.kp b1 .nil pass0 (pa_cons (pv 0) (pa_cons pe_int pa_nil))) pe_int (nomark _))
        (pa_cons (pe_tup (pa_cons pe_int (pa_cons (pe_call G1 hr (by rfl) gP FP.kp b1 .nil pass0 (pa_cons (pv 0) (pa_cons pe_int pa_nil))) pa_nil))) pa_nil)))) (pe_op op_sub (pv 1) pe_int) (fun _ _ => rfl)))) pss_nil)
      (pss_one (ps_ret (pe_ifExp (pt_cmpR op_eq (pv 1) pe_int (nomark _)) (pe_lst (pa_cons (pe_call G1 hr (by rfl) gP FP.kp b1 .nil pass0 (pa_cons (pv 0) (pa_cons pe_int pa_nil))) (pa_cons (pe_lst (pa_cons pe_int pa_nil)) pa_nil)))
        (pe_disp (pps_cons pe_str (pe_call G1 hr (by rfl) gP FP.kp b1 .nil pass0 (pa_cons (pv 0) (pa_cons pe_int pa_nil))) pps_nil) rfl rfl (by decide) (by decide)))))))), ?_⟩
    obtain ⟨p, q, S, rfl, J, O, hb, k⟩ := h
    refine ⟨_, rfl, p, q, S, 7, rfl, J, O, by omega, by decide, by decide, fun r6 S6 H6 i0 i1 J6 O6 e6 k7 => ?_⟩
    have k7 : KpD p q H H6 := k7
    obtain ⟨n6, rfl⟩ := Int.eq_ofNat_of_zero_le i0
    refine ⟨_, rfl, _, _, rfl, rfl, _, rfl, ite2 (fun h5 => ?_) (fun h5 => ?_)⟩
    · have h5 := of_decide_eq_true h5
      refine ⟨_, rfl, _, rfl, p, q, S6, -9, 9, rfl, J6, O6, by omega, by decide, by decide, fun r1 S1 H1 _ _ J1 O1 e1 k1 => ?_⟩
      refine ⟨_, rfl, p, q, S1, 99, rfl, J1, O1, by omega, by decide, by decide, fun r2 S2 H2 g0 g1 J2 O2 e2 k2 => ?_⟩
      have k1 : KpD p q H6 H1 := k1
      have k2 : KpD p q H1 H2 := k2
      obtain ⟨n2, rfl⟩ := Int.eq_ofNat_of_zero_le g0
      have w2 := wBound n2 (by omega)
      refine ⟨_, rfl, w2.1, _, _, rfl, rfl, w2.2, ?_⟩
      refine ⟨by show 2 ≤ sizeLine; decide, fun l hl => ?_⟩
      have kl := Kp.new (o := .lst [.int r1, .str (Str.ofString "w" ++ Str.ofString (toString (n2 : Int)))]) hl
      have dl := upd_same (H := H2) (a := l) (o := .lst [.int r1, .str (Str.ofString "w" ++ Str.ofString (toString (n2 : Int)))])
      match n6, h5 with
      | 0, _ => exact ⟨_, rfl, l, _, _, _, rfl, rfl, SqL.of dl, atI_nat (j := 0) rfl, k _ S2 _ (J2.kp kl) O2 (by omega) (k7.trans (k1.trans (k2.trans kl.d))) (.sc (.int _))⟩
      | 1, _ => exact ⟨_, rfl, l, _, _, _, rfl, rfl, SqL.of dl, atI_nat (j := 1) rfl, k _ S2 _ (J2.kp kl) O2 (by omega) (k7.trans (k1.trans (k2.trans kl.d))) (.sc (.str _))⟩
      | n + 2, h5 => omega
    · have h5 := of_decide_eq_false (Bool.eq_false_iff.mpr h5)
      refine ⟨_, rfl, _, _, rfl, rfl, _, rfl, ite2 (fun h6 => ?_) (fun h6 => ?_)⟩
      · have h6 := of_decide_eq_true h6
        refine ⟨_, rfl, p, q, S6, 2, rfl, J6, O6, by omega, by decide, by decide, fun r3 S3 H3 _ _ J3 O3 e3 k3 => ?_⟩
        refine ⟨rfl, ?_⟩
        refine ⟨_, rfl, p, q, S3, 9, rfl, J3, O3, by omega, by decide, by decide, fun r4 S4 H4 _ _ J4 O4 e4 k4 => ?_⟩
        refine ⟨by show 2 ≤ sizeLine; decide, fun t ht => ⟨by show 3 ≤ sizeLine; decide, fun l hl => ?_⟩⟩
        have kt := Kp.new (o := .tup [.int 1, .int r4]) ht
        have kl := Kp.new (o := .lst [.non, .bl (decide (V.int r3 = V.int 0)), .ref t]) hl
        have k3 : KpD p q H6 H3 := k3
        have k4 : KpD p q H3 H4 := k4
        have k5 := k7.trans ((k3.trans k4).trans (kt.d.trans kl.d))
        have dt := kl _ _ (upd_same (H := H4) (a := t) (o := .tup [.int 1, .int r4]))
        have dl := upd_same (H := upd H4 t (.tup [.int 1, .int r4])) (a := l) (o := .lst [.non, .bl (decide (V.int r3 = V.int 0)), .ref t])
        have J5 := (J4.kp kt).kp kl
        have en : ((n6 : Nat) : Int) - 2 = ((n6 - 2 : Nat) : Int) := by omega
        match n6, h5, h6, en with
        | 2, _, _, en => exact ⟨_, rfl, _, _, rfl, rfl, l, _, _, _, rfl, rfl, SqL.of dl, by rw [en]; exact atI_nat (j := 0) rfl, k _ S4 _ J5 O4 (by omega) k5 (.sc .non)⟩
        | 3, _, _, en => exact ⟨_, rfl, _, _, rfl, rfl, l, _, _, _, rfl, rfl, SqL.of dl, by rw [en]; exact atI_nat (j := 1) rfl, k _ S4 _ J5 O4 (by omega) k5 (.sc (.bl _))⟩
        | 4, _, _, en => exact ⟨_, rfl, _, _, rfl, rfl, l, _, _, _, rfl, rfl, SqL.of dl, by rw [en]; exact atI_nat (j := 2) rfl, k _ S4 _ J5 O4 (by omega) k5 (.tup dt)⟩
        | n + 5, _, h6, _ => omega
      · refine ⟨_, rfl, rfl, _, rfl, ite2 (fun h6 => ?_) (fun h6 => ?_)⟩
        · refine ⟨_, rfl, p, q, S6, 9, rfl, J6, O6, by omega, by decide, by decide, fun r7 S7 H7 _ _ J7 O7 e7 k8 => ?_⟩
          refine ⟨by show 1 ≤ sizeLine; decide, fun m hm => ⟨by show 2 ≤ sizeLine; decide, fun z hz => ?_⟩⟩
          have km := Kp.new (o := .lst [.int 1]) hm
          have kz := Kp.new (o := .lst [.int r7, .ref m]) hz
          exact k _ S7 _ ((J7.kp km).kp kz) O7 (by omega) ((k7.trans k8).trans (km.d.trans kz.d)) (.lst upd_same (kz _ _ upd_same) (ne_of_none J7.hq hm).symm)
        · intro d hd
          have kd := Kp.new (o := .dK []) hd
          refine ⟨_, rfl, p, q, S6, 9, rfl, J6.kp kd, O6, by omega, by decide, by decide, fun r7 S7 H7 _ _ J7 O7 e7 k8 => ?_⟩
          have dd := k8 _ _ upd_same (ne_of_none J6.hp hd).symm (ne_of_none J6.hq hd).symm
          refine ⟨dd, [(Sum.inr "a", .int r7)], rfl, by show 1 ≤ 15; decide, ?_⟩
          have kd2 : KpD p q H6 (upd H7 d (.dK (mergeK [] [(Sum.inr "a", .int r7)]))) := fun a o e n1 n2 => by
            have hne : a ≠ d := ne_of_none e hd
            rw [upd_ne hne]
            exact k8 _ _ (by rw [upd_ne hne]; exact e) n1 n2
          exact k _ S7 _ ⟨by rw [upd_ne (ne_of_none J6.hp hd)]; exact J7.hp, by rw [upd_ne (ne_of_none J6.hq hd)]; exact J7.hq, J7.ne⟩ O7 (by omega) (k7.trans kd2) (.dct upd_same)
end
end H89

set_option Elab.async false
set_option linter.all false
set_option maxRecDepth 100000
set_option maxHeartbeats 1000000
namespace H89
open PySem PySem.Spec PyProof.Rows L2
section
variable {P : Program} {w : World} {K : PySem.W.Frag} {mg : Str → Option Value} {base : Heap} {f f1 f2 f3 : Addr} {fd fd1 fd2 fd3 : FuncData}
def spVery : Sp := fun vs H Q _ => ∃ (v : V) (q0 : Addr), vs = [v, v] ∧ Thg q0 H v ∧ ∀ H', Kp H H' → Q (.bl true) H'
theorem scVery : FnScope ["found", "due", "same"] ["found", "due"] (defScope sVery) := ⟨rfl, rfl, rfl, by decide +kernel, rfl, by decide +kernel, by decide +kernel⟩
theorem aKv_put (n : Int) : putK (aKv n) (Sum.inr "more") (V.int 1) = [((Sum.inr "a" : Key), V.int n), (Sum.inr "more", V.int 1)] := by
  have e : ((Sum.inr (Str.ofString "a") : Key) = Sum.inr (Str.ofString "more")) = False := eq_false (by decide)
  simp [putK, aKv, e]
theorem aKv_drop (n : Int) : dropK [((Sum.inr "a" : Key), V.int n), (Sum.inr "more", V.int 1)] (Sum.inr "more") = aKv n := by
  have e : ((Sum.inr (Str.ofString "a") : Key) = Sum.inr (Str.ofString "more")) = False := eq_false (by decide)
  simp [dropK, aKv, e]
theorem aKv_val (n : Int) : valV [((Sum.inr "a" : Key), V.int n), (Sum.inr "more", V.int 1)] (Sum.inr "more") = some (V.int 1) := by
  have e : ((Sum.inr (Str.ofString "a") : Key) = Sum.inr (Str.ofString "more")) = False := eq_false (by decide)
  simp [valV, e]
theorem kp_back {H : Hp} {l : Addr} {o o' : HO} (e : H l = some o) : Kp H (upd (upd H l o') l o) := fun a u g => by
  rw [upd_upd]
  by_cases z : a = l
  · subst z
    rw [upd_same, ← e]
    exact g
  · rw [upd_ne z]
    exact g
theorem ok_very (F : FnP K "_law_very" sVery f fd) (FS : FnP K "_law_same" sSame f1 fd1) (gS : mg "_law_same" = some (.ref f1)) (T : FrS mg) : FnOk P w K mg base CX0 4 f fd ["found", "due"] spVery := by
  have GS : FnOk P w K mg base CX0 3 f1 fd1 ["found", "due"] (spSame 3) := ok_same FS gS T 3
  have bS : Binds K fd1 ["found", "due"] [] := FS.bindsN fun _ _ _ _ _ _ us hl => match us, hl with | [_, _], _ => rfl
  refine F.ok scVery (fun vs H Q E h => ?_) (fun cdv A outer s H vs Q E hr h => ?_)
  · obtain ⟨v, q0, rfl, _⟩ := h
    rfl
  · have hu : _ + 64 < cLine := hr.units
    have hu1 : (A.deeper (envOfC (Str.ofString "_law_very") (defScope sVery) s.heap.objs.size f cdv)).units + 1 < cLine := by omega
    refine ⟨_, PSs.nox (pss_cons (ps_if (pt_val (pe_callB call_isi (by rfl) T.isinstance (by decide +kernel) (pa_cons (pv 1) (pa_cons (pe_bltn (v := .ty "list") (by rfl) T.list (by decide +kernel) rfl) pa_nil))))
        (pss_cons (ps_expr (pe_bm PySem.F.plainAttrs_list PySem.F.slot_list_append PySem.F.type_list_append mt_append (pv 1) (pa_cons pe_str pa_nil)))
        (pss_cons (ps_set (i := 2) scVery.nd rfl (Or.inl rfl) (pe_and (pe_callB call_isi (by rfl) T.isinstance (by decide +kernel) (pa_cons (pv 0) (pa_cons (pe_bltn (v := .ty "list") (by rfl) T.list (by decide +kernel) rfl) pa_nil)))
          (pe_and (pe_cmpR op_eq (pe_callB call_len_seq (by rfl) T.len (by decide +kernel) (pa_cons (pv 0) pa_nil)) (pe_callB call_len_seq (by rfl) T.len (by decide +kernel) (pa_cons (pv 1) pa_nil)) (nomark _))
          (pe_one (pe_cmpR op_eq (pe_ix ix_list (pv 0) (pe_un un_neg pe_int) (fun _ _ => rfl)) pe_str (nomark _))))))
        (pss_cons (ps_expr (pe_bm0 PySem.F.plainAttrs_list PySem.F.slot_list_pop PySem.F.type_list_pop mt_pop (pv 1)))
        (pss_one (ps_ret (pe_and (pv 2) (pe_one (pe_call GS hr (by rfl) gS FS.kp bS .nil pass0 (pa_cons (pv 0) (pa_cons (pv 1) pa_nil)))))))))) pss_nil)
      (pss_cons (ps_if (pt_val (pe_callB call_isi (by rfl) T.isinstance (by decide +kernel) (pa_cons (pv 1) (pa_cons (pe_bltn (v := .ty "dict") (by rfl) T.dict (by decide +kernel) rfl) pa_nil))))
        (pss_cons (ps_dput hu1 (pv 1) pe_str pe_int rfl)
        (pss_cons (ps_set (i := 2) scVery.nd rfl (Or.inl rfl) (pe_and (pe_callB call_isi (by rfl) T.isinstance (by decide +kernel) (pa_cons (pv 0) (pa_cons (pe_bltn (v := .ty "dict") (by rfl) T.dict (by decide +kernel) rfl) pa_nil)))
          (pe_and (pe_cmp (pc_din hu1 pe_str (pv 0)) (by rfl))
          (pe_one (pe_cmpR op_eq (pe_callB call_lenD (by rfl) T.len (by decide +kernel) (pa_cons (pv 0) pa_nil)) (pe_callB call_lenD (by rfl) T.len (by decide +kernel) (pa_cons (pv 1) pa_nil)) (nomark _))))))
        (pss_cons (ps_expr (pe_dpop1 (pv 1) pe_str ⟨by rfl, by rfl, by rfl, by rfl⟩))
        (pss_one (ps_ret (pe_and (pv 2) (pe_one (pe_call GS hr (by rfl) gS FS.kp bS .nil pass0 (pa_cons (pv 0) (pa_cons (pv 1) pa_nil)))))))))) pss_nil)
      (pss_one (ps_ret (pe_call GS hr (by rfl) gS FS.kp bS .nil pass0 (pa_cons (pv 0) (pa_cons (pv 1) pa_nil))))))), ?_⟩
    obtain ⟨v, q0, rfl, ht, q⟩ := h
    have fin : ∀ H1, Kp H H1 → spSame 3 [v, v] H1 Q (fun _ _ _ => False) := fun H1 k1 => ⟨v, v, rfl, (ht.kp k1).sm, fun H2 k2 => q H2 (k1.trans k2)⟩
    cases ht with
    | sc hsc =>
      cases hsc with
      | non =>
        refine rdI rfl (.base .non) (by decide +kernel) ⟨_, rfl, ifF rfl ?_⟩
        refine rdI rfl (.base .non) (by decide +kernel) ⟨_, rfl, ifF rfl ?_⟩
        exact ⟨_, rfl, _, rfl, fin H Kp.rfl⟩
      | bl b =>
        refine rdI rfl (.base (.bl b)) (by decide +kernel) ⟨_, rfl, ifF rfl ?_⟩
        refine rdI rfl (.base (.bl b)) (by decide +kernel) ⟨_, rfl, ifF rfl ?_⟩
        exact ⟨_, rfl, _, rfl, fin H Kp.rfl⟩
      | int z =>
        refine rdI rfl (.base (.int z)) (by decide +kernel) ⟨_, rfl, ifF rfl ?_⟩
        refine rdI rfl (.base (.int z)) (by decide +kernel) ⟨_, rfl, ifF rfl ?_⟩
        exact ⟨_, rfl, _, rfl, fin H Kp.rfl⟩
      | str x =>
        refine rdI rfl (.base (.str x)) (by decide +kernel) ⟨_, rfl, ifF rfl ?_⟩
        refine rdI rfl (.base (.str x)) (by decide +kernel) ⟨_, rfl, ifF rfl ?_⟩
        exact ⟨_, rfl, _, rfl, fin H Kp.rfl⟩
    | tup e =>
      refine rdI rfl (.base (.tup e)) (by decide +kernel) ⟨_, rfl, ifF rfl ?_⟩
      refine rdI rfl (.base (.tup e)) (by decide +kernel) ⟨_, rfl, ifF rfl ?_⟩
      exact ⟨_, rfl, _, rfl, fin H Kp.rfl⟩
    | @lst l m n e g _ =>
      refine rdI rfl (.base (.lst e)) (by decide +kernel) ⟨_, rfl, ifT rfl ?_⟩
      refine ⟨_, rfl, .inl ⟨rfl, _, SqL.of e⟩, l, _, .str "more", rfl, rfl, e, by rw [sizeLine_eq]; show 2 < _; omega, ?_⟩
      have d1 : upd H l (.lst ([V.int n, V.ref m] ++ [.str "more"])) l = some (.lst [V.int n, .ref m, .str "more"]) := upd_same
      refine rdI rfl (.base (.lst d1)) (by decide +kernel) ⟨_, rfl, ifT rfl ?_⟩
      refine ⟨_, rfl, l, _, rfl, .inl (SqL.of d1), _, rfl, l, _, rfl, .inl (SqL.of d1), rfl, _, rfl, ifT (decide_eq_true rfl) ?_⟩
      refine ⟨_, rfl, _, rfl, l, _, _, .str "more", rfl, rfl, SqL.of d1, rfl, rfl, ?_⟩
      refine ⟨_, rfl, .inl ⟨rfl, _, SqL.of d1⟩, l, _, .str "more", rfl, rfl, d1, rfl, ?_⟩
      refine ⟨_, rfl, _, rfl, ifT (decide_eq_true rfl) ?_⟩
      exact ⟨_, rfl, _, rfl, fin _ (kp_back e)⟩
    | @dct d n e =>
      refine rdI rfl (.base (.dK e)) (by decide +kernel) ⟨_, rfl, ifF rfl ?_⟩
      refine rdI rfl (.base (.dK e)) (by decide +kernel) ⟨_, rfl, ifT rfl ?_⟩
      refine ⟨_, rfl, d, _, rfl, DPut.k (k := Sum.inr "more") e (by rw [sizeLine_eq]; show 1 < _; omega), ?_⟩
      rw [aKv_put]
      have d1 : upd H d (.dK [((Sum.inr "a" : Key), V.int n), (Sum.inr "more", .int 1)]) d = some (.dK [((Sum.inr "a" : Key), V.int n), (Sum.inr "more", .int 1)]) := upd_same
      refine rdI rfl (.base (.dK d1)) (by decide +kernel) ⟨_, rfl, ifT rfl ?_⟩
      refine ⟨_, rfl, d, _, rfl, DGet.k (k := Sum.inr "more") d1, _, rfl, ifT (by rw [aKv_val]; rfl) ?_⟩
      refine ⟨_, rfl, d, _, rfl, d1, _, rfl, d, _, rfl, d1, rfl, ?_⟩
      refine ⟨_, rfl, d, rfl, .inl ⟨_, .inl d1⟩, _, Sum.inr "more", _, d1, rfl, aKv_val n, ?_⟩
      rw [aKv_drop]
      refine ⟨_, rfl, _, rfl, ifT (decide_eq_true rfl) ?_⟩
      exact ⟨_, rfl, _, rfl, fin _ (kp_back e)⟩
end
end H89

set_option Elab.async false
set_option linter.all false
set_option maxRecDepth 100000
set_option maxHeartbeats 1000000
namespace H89
open PySem PySem.Spec PyProof.Rows L2
abbrev sCaught : Stmt := top 66
abbrev sLaw : Stmt := top 67
/-- more of what is known: no error of ours is one of these -/
def Plain (K : PySem.W.Frag) : Prop := ∀ x ∈ mine, ∀ y ∈ (["KeyError", "IndexError", "TypeError"] : List String), PySem.W.kitOne K (.ref (He.ga K x)) (.type y) = some false
structure FrC (mg : Str → Option Value) : Prop where
  keyError : mg "KeyError" = none
  indexError : mg "IndexError" = none
  typeError : mg "TypeError" = none
  int : mg "int" = none
section
variable {P : Program} {w : World} {K : PySem.W.Frag} {mg : Str → Option Value} {base : Heap} {f f1 f2 f3 : Addr} {fd fd1 fd2 fd3 : FuncData}
theorem rdPE {i : Nat} {x : Str} {a : Addr} {σ : L2.St} {H : Hp} {Q : VK} (h : σ[i]? = some (some (.ref a))) (e : ErN K x H a) (q : Q (.bl true) H) :
    tCB (rIsX K) (tCons (tVar i) (tCons (tC (.ref (He.ga K "ProofError"))) tNil)) σ H Q := by
  obtain ⟨d, fs, c, e, f⟩ := e
  exact ⟨_, h, a, _, d, fs, _, _, _, rfl, c.ec, e, f, .own _, c.pe, q⟩
theorem rdVE {i : Nat} {x : Str} {a : Addr} {σ : L2.St} {H : Hp} {Q : VK} (h : σ[i]? = some (some (.ref a))) (e : ErN K x H a) (q : Q (.bl true) H) :
    tCB (rIsX K) (tCons (tVar i) (tCons (tC (.ty "ValueError")) tNil)) σ H Q := by
  obtain ⟨d, fs, c, e, f⟩ := e
  exact ⟨_, h, a, _, d, fs, _, _, _, rfl, c.ec, e, f, .ty _, c.ve, q⟩
/-- isinstance(e, (KeyError, IndexError, TypeError)) -/
theorem rdK3 {i : Nat} {x : Str} {a : Addr} {σ : L2.St} {H : Hp} {Q : VK} (C : Plain K) (m : x ∈ mine) (h : σ[i]? = some (some (.ref a))) (e : ErN K x H a) (q : ∀ H', Kp H H' → Q (.bl false) H') :
    tCB (rIsXT K) (tCons (tVar i) (tCons (tTup (tCons (tC (.ty "KeyError")) (tCons (tC (.ty "IndexError")) (tCons (tC (.ty "TypeError")) tNil)))) tNil)) σ H Q := by
  obtain ⟨d, fs, c, e, f⟩ := e
  refine ⟨_, h, by show 3 ≤ sizeLine; decide, fun p hp => ?_⟩
  have k := Kp.new (o := .tup [.ty "KeyError", .ty "IndexError", .ty "TypeError"]) hp
  refine ⟨a, _, d, fs, p, _, [.type "KeyError", .type "IndexError", .type "TypeError"], false, rfl, c.ec, k _ _ e, fun z hz => k _ _ (f z hz), upd_same, .cons (.ty _) (.cons (.ty _) (.cons (.ty _) .nil)), ?_, q _ k⟩
  have g := C x m
  exact kitAny_cons (g _ (by simp)) (fun _ => kitAny_cons (g _ (by simp)) (fun _ => kitAny_cons (g _ (by simp)) (fun _ => kitAny_nil) (fun z => nomatch z)) (fun z => nomatch z)) (fun z => nomatch z)
theorem Thg.ne {q : Addr} {H : Hp} {v : V} {a : Addr} {xs : List V} (h : Thg q H v) (e : H a = some (.lst xs)) (n : ∀ i m, xs ≠ [.int i, .ref m]) : v ≠ .ref a := by
  intro z
  cases h with
  | sc s => subst z; cases s
  | tup g => cases z; rw [e] at g; cases g
  | lst g _ _ => cases z; rw [e] at g; cases g; exact n _ _ rfl
  | dct g => cases z; rw [e] at g; cases g
/-- a thing stands when the draws go on -/
theorem Thg.kpd {H H' : Hp} {v : V} {p q : Addr} {S : LS} (h : Thg q H v) (J : StAt H p q S) (k : KpD p q H H') : Thg q H' v := by
  have np : ∀ {a o}, H a = some o → (∀ xs, o ≠ .lst xs) → a ≠ p ∧ a ≠ q := fun e n => ⟨ne_of e J.hp (n _), ne_of e J.hq (n _)⟩
  have nl : ∀ {a xs}, H a = some (.lst xs) → (∀ r, xs ≠ V.ref q :: r) → (∀ ns : List Int, xs ≠ ns.map V.int) → a ≠ p ∧ a ≠ q := fun e n1 n2 =>
    ⟨ne_of e J.hp (fun z => by cases z; exact n1 _ rfl), ne_of e J.hq (fun z => by cases z; exact n2 _ rfl)⟩
  cases h with
  | sc s => exact .sc s
  | tup g =>
    obtain ⟨a, b⟩ := np g (fun _ z => by cases z)
    exact .tup (k _ _ g a b)
  | @lst l m n g g2 hq =>
    obtain ⟨a, b⟩ := nl g (fun _ z => by cases z) (fun ns z => by
      rcases ns with _ | ⟨x, _ | ⟨y, r⟩⟩ <;> cases z)
    have hp : m ≠ p := ne_of g2 J.hp (fun z => by cases z)
    exact .lst (k _ _ g a b) (k _ _ g2 hp hq) hq
  | dct g =>
    obtain ⟨a, b⟩ := np g (fun _ z => by cases z)
    exact .dct (k _ _ g a b)
theorem kinds_mine : ∀ n : Nat, n < 12 → ∃ x, mine[n]? = some x ∧ x ∈ mine ∧ kindsOf x = [(n : Int)].map V.int := by
  intro n h
  match n, h with
  | 0, _ => exact ⟨_, rfl, by decide +kernel, by decide +kernel⟩
  | 1, _ => exact ⟨_, rfl, by decide +kernel, by decide +kernel⟩
  | 2, _ => exact ⟨_, rfl, by decide +kernel, by decide +kernel⟩
  | 3, _ => exact ⟨_, rfl, by decide +kernel, by decide +kernel⟩
  | 4, _ => exact ⟨_, rfl, by decide +kernel, by decide +kernel⟩
  | 5, _ => exact ⟨_, rfl, by decide +kernel, by decide +kernel⟩
  | 6, _ => exact ⟨_, rfl, by decide +kernel, by decide +kernel⟩
  | 7, _ => exact ⟨_, rfl, by decide +kernel, by decide +kernel⟩
  | 8, _ => exact ⟨_, rfl, by decide +kernel, by decide +kernel⟩
  | 9, _ => exact ⟨_, rfl, by decide +kernel, by decide +kernel⟩
  | 10, _ => exact ⟨_, rfl, by decide +kernel, by decide +kernel⟩
  | 11, _ => exact ⟨_, rfl, by decide +kernel, by decide +kernel⟩
theorem kinds_other {x : Str} (h : x ∉ mine) : kindsOf x = [] := by
  have e : told x = mine.map fun _ => false := by
    unfold told
    refine List.map_congr_left fun y m => ?_
    exact beq_eq_false_iff_ne.mpr fun z => h (z ▸ m)
  unfold kindsOf
  rw [e]
  decide +kernel
theorem eqv_self : ∀ n : Nat, n < 12 → PyData.eqv (.list ([(n : Int)].map PyData.int)) (.list ([(n : Int)].map PyData.int)) = true := by decide +kernel
theorem ok0 (ns : List Int) : LS.Ok ⟨ns, 0, 0, 29⟩ := ⟨Int.le_refl 0, Int.le_refl 0, by show (0 : Int) ≤ 1000000; decide, by show (0 : Int) ≤ 29; decide, by show (29 : Int) < 2147483647; decide⟩
theorem ErA.at {H : Hp} : ∀ {xs : List Str} {as : List Addr} {i : Nat} {a : Addr}, ErA K H xs as → as[i]? = some a → ∃ x ∈ xs, ErN K x H a
  | _, _, i, _, .nil, e => nomatch e
  | _, _, 0, _, .cons h r, e => by cases e; exact ⟨_, List.mem_cons_self .., h⟩
  | _, _, i + 1, _, .cons h r, e => by
    obtain ⟨x, m, q⟩ := ErA.at r e
    exact ⟨x, List.mem_cons_of_mem _ m, q⟩
/-- what _law_caught tells: ([4], [], False, True) -/
def spCaught : Sp := fun vs H Q _ => ∃ y, vs = [y] ∧ ∀ H' t r1 r2, Kp H H' → H' t = some (.tup [.ref r1, .ref r2, .bl false, .bl true]) → H' r1 = some (.lst [.int 4]) → H' r2 = some (.lst []) → Q (.ref t) H'
structure Fns (P : Program) (w : World) (K : PySem.W.Frag) (mg : Str → Option Value) (base : Heap) : Prop where
  pick : ∃ f fd, FnP K "_law_pick" sPick f fd ∧ mg "_law_pick" = some (.ref f)
  between : ∃ f fd, FnP K "_law_between" sBetween f fd ∧ mg "_law_between" = some (.ref f)
  start : ∃ f fd, FnP K "_law_start" sStart f fd ∧ mg "_law_start" = some (.ref f)
  same : ∃ f fd, FnP K "_law_same" sSame f fd ∧ mg "_law_same" = some (.ref f)
  kinds : ∃ f fd, FnP K "_law_kinds_of" sKinds f fd ∧ mg "_law_kinds_of" = some (.ref f)
  others : ∃ f fd, FnP K "_law_others" sOthers f fd ∧ mg "_law_others" = some (.ref f)
  isOther : ∃ f fd, FnP K "_law_is_other" sIsOther f fd ∧ mg "_law_is_other" = some (.ref f)
  madea : ∃ f fd, FnP K "_law_made_a" sSmadea f fd ∧ mg "_law_made_a" = some (.ref f)
  madeb : ∃ f fd, FnP K "_law_made_b" sSmadeb f fd ∧ mg "_law_made_b" = some (.ref f)
  madeAt : ∃ f fd, FnP K "_law_made_at" sMadeAt f fd ∧ mg "_law_made_at" = some (.ref f)
  object : ∃ f fd, FnP K "_law_object" sObject f fd ∧ mg "_law_object" = some (.ref f)
  very : ∃ f fd, FnP K "_law_very" sVery f fd ∧ mg "_law_very" = some (.ref f)
  caught : ∃ f fd, FnP K "_law_caught" sCaught f fd ∧ mg "_law_caught" = some (.ref f)
def spLaw (K : PySem.W.Frag) : Sp := fun vs H Q _ => ∃ (a : Addr) (ns : List Int), vs = [.ref a] ∧ SqL K H a (ns.map V.int) ∧ ∀ H', Q (.bl true) H'
theorem scLaw : FnScope ["script", "state", "k", "at", "one", "two", "made", "kept", "other", "others", "e"] ["script"] (defScope sLaw) := ⟨rfl, rfl, rfl, by decide +kernel, rfl, by decide +kernel, by decide +kernel⟩
theorem dpT {H : Hp} {t r1 r2 : Addr} (e : H t = some (.tup [.ref r1, .ref r2, .bl false, .bl true])) (e1 : H r1 = some (.lst [.int 4])) (e2 : H r2 = some (.lst [])) :
    Dp K H (.ref t) (.tuple [.list [.int 4], .list [], .bool false, .bool true]) := .tup (SqT.of e) (.cons (.lst (SqL.of e1) (.cons (.int 4) .nil)) (.cons (.lst (SqL.of e2) .nil) (.cons (.bl false) (.cons (.bl true) .nil))))
def rInt : List V → Hp → VK → Prop := fun xs H Q => (∃ i, xs = [.int i] ∧ Q (.int i) H) ∨ ∃ k, xs = [.bl k] ∧ Q (.int (if k then 1 else 0)) H
/-- at = int(k + _law_pick(state, 12)) % 12 if k < 12 else k - 12 -/
theorem rdAt {i : Nat} {p q0 : Addr} {S : LS} {σ : L2.St} {H : Hp} {D : Ends} (h1 : σ[1]? = some (some (.ref p))) (h2 : σ[2]? = some (some (.int (i : Nat)))) (hi : i < 24) (J : StAt H p q0 S) (O : S.Ok) (hb : S.b < 1000000)
    (k : ∀ (n : Nat) (S' : LS) (H' : Hp), n < 12 → StAt H' p q0 S' → S'.Ok → S'.b ≤ S.b + 1 → D.nx (σ.set 3 (some (.int (n : Nat)))) H') :
    tAsg (tIf (tTest (tOp (rI0 fun i j => .bl (decide (i < j))) (tVar 2) (tC (.int 12)))) (tOp (rI (fun _ j => j ≠ 0) fun i j => .int (i.fmod j)) (tCB rInt (tCons (tOp (rI0 fun i j => .int (i + j)) (tVar 2) (tCall spPick [] E0 (tCons (tVar 1) (tCons (tC (.int 12)) tNil)))) tNil)) (tC (.int 12)))
      (tOp (rI0 fun i j => .int (i - j)) (tVar 2) (tC (.int 12)))) (gName 3) D σ H := by
  refine ⟨_, h2, _, _, rfl, rfl, _, rfl, ite2 (fun h => ?_) (fun h => ?_)⟩
  · refine ⟨_, h2, _, h1, p, q0, S, 12, rfl, J, O, hb, by decide, by decide, fun r S1 H1 g0 g1 J1 O1 e1 k1 => ⟨_, _, rfl, rfl, .inl ⟨_, rfl, _, _, rfl, rfl, (by decide : (12 : Int) ≠ 0), ?_⟩⟩⟩
    have q1 : 0 ≤ ((i : Int) + r).fmod 12 := Int.fmod_nonneg_of_pos _ (by decide)
    have q2 : ((i : Int) + r).fmod 12 < 12 := Int.fmod_lt_of_pos _ (by decide)
    obtain ⟨n, hn⟩ := Int.eq_ofNat_of_zero_le q1
    show D.nx (σ.set 3 (some (.int (((i : Int) + r).fmod 12)))) H1
    rw [hn]
    exact k n S1 H1 (by omega) J1 O1 (by omega)
  · have h := of_decide_eq_false (Bool.eq_false_iff.mpr h)
    refine ⟨_, h2, _, _, rfl, rfl, ?_⟩
    show D.nx (σ.set 3 (some (.int ((i : Int) - 12)))) H
    rw [show (i : Int) - 12 = ((i - 12 : Nat) : Int) by omega]
    exact k (i - 12) S H (by omega) J O (by omega)
theorem ok_law (F : FnP K "law" sLaw f fd) (N : Fns P w K mg base) (M : FrM P w K mg base) (TS : FrS mg) (TP : FrP mg) (TL : FrL mg) (T : FrE K mg) (TC : FrC mg) (PL : Plain K)
    (CT : ∀ f1 fd1, FnP K "_law_caught" sCaught f1 fd1 → mg "_law_caught" = some (.ref f1) → FnOk P w K mg base CX0 4 f1 fd1 ["x"] spCaught) : FnOk P w K mg base CX0 5 f fd ["script"] (spLaw K) := by
  obtain ⟨aP, dP, FP, gP⟩ := N.pick
  obtain ⟨aB, dB, FB, gB⟩ := N.between
  obtain ⟨aSt, dSt, FSt, gSt⟩ := N.start
  obtain ⟨aS, dS, FS, gS⟩ := N.same
  obtain ⟨aK, dK, FK, gK⟩ := N.kinds
  obtain ⟨aO, dO, FO, gO⟩ := N.others
  obtain ⟨aI, dI, FI, gI⟩ := N.isOther
  obtain ⟨a1, d1, F1, g1⟩ := N.madea
  obtain ⟨a2, d2, F2, g2⟩ := N.madeb
  obtain ⟨aM, dM, FM, gM⟩ := N.madeAt
  obtain ⟨aOb, dOb, FOb, gOb⟩ := N.object
  obtain ⟨aV, dV, FV, gV⟩ := N.very
  obtain ⟨aC, dC, FC, gC⟩ := N.caught
  have GP : FnOk P w K mg base CX0 4 aP dP ["state", "many"] _ := (ok_pick FP TP).mono (by decide)
  have bP : Binds K dP ["state", "many"] [] := FP.bindsN fun _ _ _ _ _ _ us hl => match us, hl with | [_, _], _ => rfl
  have GSt : FnOk P w K mg base CX0 4 aSt dSt ["script"] _ := (ok_start FSt TL).mono (by decide)
  have bSt : Binds K dSt ["script"] [] := FSt.bindsN fun _ _ _ _ _ _ us hl => match us, hl with | [_], _ => rfl
  have GK : FnOk P w K mg base CX0 4 aK dK ["e"] _ := (ok_kinds FK T).mono (by decide)
  have bK : Binds K dK ["e"] [] := FK.bindsN fun _ _ _ _ _ _ us hl => match us, hl with | [_], _ => rfl
  have GI : FnOk P w K mg base CX0 4 aI dI ["e"] _ := (ok_isOther FI T).mono (by decide)
  have bI : Binds K dI ["e"] [] := FI.bindsN fun _ _ _ _ _ _ us hl => match us, hl with | [_], _ => rfl
  have GO : FnOk P w K mg base CX0 4 aO dO ["x"] _ := (ok_others FO M).mono (by decide)
  have bO : Binds K dO ["x"] [] := FO.bindsN fun _ _ _ _ _ _ us hl => match us, hl with | [_], _ => rfl
  have GM : FnOk P w K mg base CX0 4 aM dM ["at", "x"] _ := ok_madeAt FM M F1 F2 g1 g2
  have bM : Binds K dM ["at", "x"] [] := FM.bindsN fun _ _ _ _ _ _ us hl => match us, hl with | [_, _], _ => rfl
  have GOb : FnOk P w K mg base CX0 4 aOb dOb ["state"] _ := (ok_object FOb FP gP FB gB TP TL).mono (by decide)
  have bOb : Binds K dOb ["state"] [] := FOb.bindsN fun _ _ _ _ _ _ us hl => match us, hl with | [_], _ => rfl
  have GV : FnOk P w K mg base CX0 4 aV dV ["found", "due"] _ := ok_very FV FS gS TS
  have bV : Binds K dV ["found", "due"] [] := FV.bindsN fun _ _ _ _ _ _ us hl => match us, hl with | [_, _], _ => rfl
  have GC : FnOk P w K mg base CX0 4 aC dC ["x"] _ := CT _ _ FC gC
  have bC : Binds K dC ["x"] [] := FC.bindsN fun _ _ _ _ _ _ us hl => match us, hl with | [_], _ => rfl
  refine F.ok scLaw (fun vs H Q E h => ?_) (fun cdv A outer s H vs Q E hr h => ?_)
  · obtain ⟨a, ns, rfl, _⟩ := h
    rfl
  · have hu : _ + 64 < cLine := hr.units
    refine ⟨_, PSs.nox (pss_cons (ps_set (i := 1) scLaw.nd rfl (Or.inl rfl) (pe_call GSt hr (by rfl) gSt FSt.kp bSt .nil pass0 (pa_cons (pv 0) pa_nil)))
      (pss_cons (ps_for PassesOwn.never rfl (pi_range1 (by rfl) T.range (pa_cons pe_int pa_nil)) (pg_name (i := 2) scLaw.nd rfl (Or.inl rfl))
        (pss_cons (ps_set (i := 3) scLaw.nd rfl (Or.inl rfl) (pe_ifExp (pt_cmpR op_lt (pv 2) pe_int (nomark _)) (pe_op op_modN (pe_callTy call_int1 (by rfl) TC.int (by decide +kernel) (pa_cons (pe_op op_add (pv 2) (pe_call GP hr (by rfl) gP FP.kp bP .nil pass0 (pa_cons (pv 1) (pa_cons pe_int pa_nil)))) pa_nil)) pe_int) (pe_op op_sub (pv 2) pe_int)))
        (pss_cons (ps_par (i := 4) (j := 5) rfl scLaw.nd rfl rfl (by decide) rfl rfl (pa_cons (pe_call GOb hr (by rfl) gOb FOb.kp bOb .nil pass0 (pa_cons (pv 1) pa_nil)) (pa_cons (pe_call GOb hr (by rfl) gOb FOb.kp bOb .nil pass0 (pa_cons (pv 1) pa_nil)) pa_nil)) (by rfl))
        (pss_cons (ps_asg (pe_call GM hr (by rfl) gM FM.kp bM .nil pass0 (pa_cons (pv 3) (pa_cons (pv 4) pa_nil))) (pg_tup (by rfl) (pgs_cons (pg_name (i := 6) scLaw.nd rfl (Or.inl rfl)) (pgs_cons (pg_name (i := 7) scLaw.nd rfl (Or.inl rfl)) pgs_nil))))
        (pss_cons (ps_asg (pe_call GM hr (by rfl) gM FM.kp bM .nil pass0 (pa_cons (pv 3) (pa_cons (pv 5) pa_nil))) (pg_tup (by rfl) (pgs_cons (pg_name (i := 8) scLaw.nd rfl (Or.inl rfl)) (pgs_cons (pg_name (i := 9) scLaw.nd rfl (Or.inl rfl)) pgs_nil))))
        (pss_cons (ps_if (PW.pt (pw_or (pt_not (pt_val (pe_callB call_isX (by rfl) T.isinstance (by decide +kernel) (pa_cons (pv 6) (pa_cons (pe_glob (v := .ref (He.ga K "ProofError")) (by rfl) (T.glo "ProofError" (by decide +kernel)) rfl) pa_nil))))) (pw_or (pt_not (pt_val (pe_callB call_isX (by rfl) T.isinstance (by decide +kernel) (pa_cons (pv 6) (pa_cons (pe_bltn (v := .ty "ValueError") (by rfl) T.valueError (by decide +kernel) rfl) pa_nil))))) (pw_or1 (pt_cmpR (op_neD hu) (pe_call GK hr (by rfl) gK FK.kp bK .nil pass0 (pa_cons (pv 6) pa_nil)) (pe_lst (pa_cons (pv 3) pa_nil)) (nomark _)))))) (pss_one (ps_ret pe_bl)) pss_nil)
        (pss_cons (ps_if (PW.pt (pw_or (pt_val (pe_call GI hr (by rfl) gI FI.kp bI .nil pass0 (pa_cons (pv 6) pa_nil))) (pw_or (pt_val (pe_callB call_isXT (by rfl) T.isinstance (by decide +kernel) (pa_cons (pv 6) (pa_cons (pe_tup (pa_cons (pe_bltn (v := .ty "KeyError") (by rfl) TC.keyError (by decide +kernel) rfl) (pa_cons (pe_bltn (v := .ty "IndexError") (by rfl) TC.indexError (by decide +kernel) rfl) (pa_cons (pe_bltn (v := .ty "TypeError") (by rfl) TC.typeError (by decide +kernel) rfl) pa_nil)))) pa_nil)))) (pw_or1 (pt_not (pt_val (pe_callB call_isX (by rfl) T.isinstance (by decide +kernel) (pa_cons (pv 8) (pa_cons (pe_glob (v := .ref (He.ga K "ProofError")) (by rfl) (T.glo "ProofError" (by decide +kernel)) rfl) pa_nil))))))))) (pss_one (ps_ret pe_bl)) pss_nil)
        (pss_one (ps_if (PW.pt (pw_or (pt_not (pt_val (pe_call GV hr (by rfl) gV FV.kp bV .nil pass0 (pa_cons (pv 7) (pa_cons (pv 4) pa_nil))))) (pw_or1 (pt_not (pt_val (pe_call GV hr (by rfl) gV FV.kp bV .nil pass0 (pa_cons (pv 9) (pa_cons (pv 5) pa_nil)))))))) (pss_one (ps_ret pe_bl)) pss_nil)))))))))
      (pss_cons (ps_if (pt_not (pt_val (pe_callB (cr_all rfl) (by rfl) T.all (by decide +kernel) (pa_cons
        (pe_lc (own := [("e", 10)]) (g := gName 10) (tt := tYes) (te := tOp (rEqD K) (tCall (spKinds K) [] E0 (tCons (tVar 10) tNil)) (tLst tNil)) rfl scLaw.nd (pi_list (pe_call GO hr (by rfl) gO FO.kp bO .nil pass0 (pa_cons (pe_call GP hr (by rfl) gP FP.kp bP .nil pass0 (pa_cons (pv 1) (pa_cons pe_int pa_nil))) pa_nil))) (blkOk_by (N := ["script", "state", "k", "at", "one", "two", "made", "kept", "other", "others", "e"]) (sc := defScope sLaw) (by decide +kernel))
          (fun _ _ _ _ _ => pg_name (i := 10) scLaw.nd rfl (Or.inl rfl)) (fun _ _ _ _ _ => pts_nil)
          (fun _ _ _ _ _ => pe_cmpR (op_eqD hu) (pe_call GK hr (by rfl) gK FK.kp bK .nil pass0 (pa_cons (pv 10) pa_nil)) (pe_lst pa_nil) (nomark _))) pa_nil)))) (pss_one (ps_ret pe_bl)) pss_nil)
      (pss_one (ps_ret (pe_cmpR (op_eqD hu) (pe_call GC hr (by rfl) gC FC.kp bC .nil pass0 (pa_cons (pe_call GOb hr (by rfl) gOb FOb.kp bOb .nil pass0 (pa_cons (pv 1) pa_nil)) pa_nil)) (pe_tup (pa_cons (pe_lst (pa_cons pe_int pa_nil)) (pa_cons (pe_lst pa_nil) (pa_cons pe_bl (pa_cons pe_bl pa_nil))))) (nomark _))))))), ?_⟩
    obtain ⟨a, ns, rfl, hS, q⟩ := h
    refine ⟨_, rfl, a, ns, rfl, hS, fun H0 p q0 k0 J0 => ?_⟩
    refine ⟨24, rfl, by decide, by decide, for_it (walk_range (lo := 0) (n := 24)) (fun i σ H => ∃ (S : LS) (x2 x3 x4 x5 x6 x7 x8 x9 : Option V), σ = [some (.ref a), some (.ref p), x2, x3, x4, x5, x6, x7, x8, x9, none] ∧ StAt H p q0 S ∧ S.Ok ∧ S.b ≤ 20 * i)
      ⟨_, none, none, none, none, none, none, none, none, rfl, J0, ok0 ns, by show (0 : Int) ≤ 20 * ((0 : Nat) : Int); decide⟩ (fun _ _ _ _ _ => trivial) ?_ ?_⟩
    · rintro i y σ H1 H2 hi ⟨S, x2, x3, x4, x5, x6, x7, x8, x9, rfl, J, O, hb⟩ ⟨rfl, rfl⟩
      have hz : ((fun i : Nat => V.int (0 + (i : Nat))) i) = V.int (i : Nat) := by show V.int (0 + (i : Int)) = _; rw [Int.zero_add]
      rw [hz]
      refine rdAt (q0 := q0) (S := S) rfl rfl hi J O (by omega) fun n S1 H3 hn J O1 hb1 => ?_
      refine ⟨_, rfl, p, q0, S1, rfl, J, O1, by omega, fun v1 S2 H4 J4 O4 b4 k4 t1 => ?_⟩
      refine ⟨_, rfl, p, q0, S2, rfl, J4, O4, by omega, fun v2 S3 H5 J5 O5 b5 k5 t2 => ⟨v1, v2, rfl, ?_⟩⟩
      have t1 := t1.kpd J4 k5
      obtain ⟨x, hx, hm, hk⟩ := kinds_mine n hn
      refine ⟨_, rfl, _, rfl, n, v1, x, rfl, Nat.zero_le _, hn, hx, fun H6 tt1 k6 M6 => ?_⟩
      obtain ⟨a1, dt1, E1⟩ := M6
      refine ⟨tt1, [.ref a1, v1], rfl, SqT.of dt1, rfl, .ref a1, [v1], rfl, v1, [], rfl, rfl, ?_⟩
      refine ⟨_, rfl, _, rfl, n, v2, x, rfl, Nat.zero_le _, hn, hx, fun H7 tt2 k7 M7 => ?_⟩
      obtain ⟨a2, dt2, E2⟩ := M7
      refine ⟨tt2, [.ref a2, v2], rfl, SqT.of dt2, rfl, .ref a2, [v2], rfl, v2, [], rfl, rfl, ?_⟩
      have t1 := (t1.kp k6).kp k7
      have t2 := (t2.kp k6).kp k7
      have J7 := (J5.kp k6).kp k7
      have E1 := E1.kpx k7.x
      clear J5 J4 J k4 k5 k6 k7 dt1 dt2
      refine rdPE rfl E1 ⟨_, rfl, ifF rfl ?_⟩
      refine rdVE rfl E1 ⟨_, rfl, ifF rfl ?_⟩
      refine ⟨_, rfl, a1, x, rfl, E1, fun H8 r k8 hr8 d8 => ⟨_, rfl, by show 1 ≤ sizeLine; decide, fun l hl => ?_⟩⟩
      have kl := Kp.new (o := .lst [.int (n : Nat)]) hl
      have d9 := kl _ _ d8
      rw [hk] at d9
      refine ⟨.list ([(n : Int)].map PyData.int), .list ([(n : Int)].map PyData.int), .lst (SqL.of d9) (dpInts _), .lst (xs := [(n : Int)].map V.int) (SqL.of upd_same) (dpInts _), shInts _, shInts _, _, rfl, ifF (by rw [eqv_self n hn]; rfl) ?_⟩
      have k9 := k8.trans kl
      refine ⟨_, rfl, a1, x, rfl, E1.kpx k9.x, List.mem_append_left _ hm, fun H10 k10 => ⟨_, rfl, ifF rfl ?_⟩⟩
      have k10 := k9.trans k10
      refine rdK3 PL hm rfl (E1.kpx k10.x) fun H11 k11 => ⟨_, rfl, ifF rfl ?_⟩
      have k11 := k10.trans k11
      refine rdPE rfl (E2.kpx k11.x) ⟨_, rfl, ifF rfl ?_⟩
      refine ⟨_, rfl, _, rfl, v1, q0, rfl, t1.kp k11, fun H12 k12 => ⟨_, rfl, ifF rfl ?_⟩⟩
      have k12 := k11.trans k12
      refine ⟨_, rfl, _, rfl, v2, q0, rfl, t2.kp k12, fun H13 k13 => ⟨_, rfl, ifF rfl ?_⟩⟩
      exact ⟨S3, _, _, _, _, _, _, _, _, rfl, J7.kp (k12.trans k13), O5, by omega⟩
    · rintro σ H1 ⟨S, x2, x3, x4, x5, x6, x7, x8, x9, rfl, J, O, hb⟩
      refine ⟨_, rfl, p, q0, S, 9, rfl, J, O, by omega, by decide, by decide, fun r S' H2 _ _ J' O' e' k' => ⟨.int r, rfl, fun H3 rr as xs k3 d3 E3 nm hl => ?_⟩⟩
      refine ⟨rr, rfl, ⟨_, SqL.of d3⟩, fun L hL => ?_⟩
      refine lc_it (walk_list (xs := as.map V.ref)) (fun j H => Kp H3 H ∧ H L = some (.lst ((List.replicate j true).map V.bl))) ⟨Kp.new hL, upd_same⟩ (fun _ _ _ c => SqL.of (c.1 _ _ d3)) ?_ ?_
      · rintro j z H4 H5 hj ⟨k4, l4⟩ ⟨rfl, ez⟩
        rw [List.getElem?_map] at ez
        obtain ⟨b, eb, rfl⟩ := Option.map_eq_some_iff.mp ez
        obtain ⟨x, hx, ee⟩ := E3.at eb
        have ee5 := ee.kpx k4.x
        have hj2 : j < as.length := by rw [List.length_map] at hj; exact hj
        have hl2 : as.length ≤ 100 := by rw [E3.len]; exact hl
        refine ⟨rfl, ?_⟩
        unfold tYes
        refine iteT ?_
        refine ⟨_, rfl, b, x, rfl, ee5, fun H6 r2 k6 _ d6 => ⟨by show 0 ≤ sizeLine; exact Nat.zero_le _, fun l hl => ?_⟩⟩
        have kl := Kp.new (o := .lst []) hl
        have d7 := kl _ _ d6
        rw [kinds_other (nm x hx)] at d7
        have k7 := k6.trans kl
        refine ⟨.list [], .list [], .lst (SqL.of d7) .nil, .lst (SqL.of upd_same) .nil, rfl, rfl, _, k7 _ _ l4, by rw [List.length_map, List.length_replicate, sizeLine_eq]; omega, Kp.at (k4.trans k7) hL, ?_⟩
        rw [upd_same, List.replicate_succ', List.map_append]
        rfl
      · rintro H4 ⟨k4, l4⟩
        refine ⟨L, _, rfl, SqL.of l4, ?_⟩
        rw [show (List.replicate (as.map V.ref).length true).all id = true by simp]
        refine ⟨_, rfl, ifF rfl ?_⟩
        refine ⟨_, rfl, p, q0, S', rfl, (J'.kp k3).kp k4, O', by omega, fun v S2 H6 J6 O6 b6 k6 t6 => ⟨v, rfl, fun H7 t r1 r2 k7 dt e1 e2 => ?_⟩⟩
        refine ⟨by show 1 ≤ sizeLine; decide, fun l1 hl1 => ⟨by show 0 ≤ sizeLine; exact Nat.zero_le _, fun l2 hl2 => ⟨by show 4 ≤ sizeLine; decide, fun t2 ht2 => ?_⟩⟩⟩
        have c1 := Kp.new (o := .lst [.int 4]) hl1
        have c2 := Kp.new (o := .lst []) hl2
        have c3 := Kp.new (o := .tup [.ref l1, .ref l2, .bl false, .bl true]) ht2
        have c := (c1.trans c2).trans c3
        refine ⟨_, _, dpT (c _ _ dt) (c _ _ e1) (c _ _ e2), dpT upd_same (c3 _ _ (c2 _ _ upd_same)) (c3 _ _ upd_same), by decide +kernel, by decide +kernel, ?_⟩
        rw [show PyData.eqv (.tuple [.list [.int 4], .list [], .bool false, .bool true]) (.tuple [.list [.int 4], .list [], .bool false, .bool true]) = true by decide +kernel]
        exact q _
end
end H89

set_option Elab.async false
set_option linter.all false
set_option maxRecDepth 100000
set_option maxHeartbeats 2000000
namespace H89
open PySem PySem.Spec PyProof.Rows L2 L2H
/-! ### a def that is called in an except suite with the very exception that is handled there -/
structure FnX (P : Program) (w : World) (K : PySem.W.Frag) (mg : Str → Option Value) (base : Heap) (k : Nat) (f : Addr) (fd : FuncData) (ps : List Str) (sp : Addr × Obj → Sp) : Prop where
  len : ∀ p vs H Q E, sp p vs H Q E → vs.length = ps.length
  run : ∀ (p : Addr × Obj) (A : Around) (outer : List Env) (s : Shared) (H : Hp) (args : Args) (us : List Value) (vs : List V) (Q : VK) (E : XK), RoomH k A → Hot1 A p → PinOk outer H s p → Env0 P w K mg base A outer s H →
    BindsTo s fd args (ps.zip us) → Vals vs us → sp p vs H Q E → codeAny (model P w) A (.call (.ref f) args) (CR CX0 outer P w H s Q E) s
section
variable {P : Program} {w : World} {K : PySem.W.Frag} {mg : Str → Option Value} {base : Heap}
/-- the rule for such a def -/
theorem fnX_of {k : Nat} {x qual : Str} {params : Arguments} {body : List Stmt} {scope : Scope} {f : Addr} {fd : FuncData} {N ps : List Str} {sp : Addr × Obj → Sp} (F : FunD K x qual params body scope [] [] f fd) (S : FnScope N ps scope)
    (len : ∀ p vs H Q E, sp p vs H Q E → vs.length = ps.length)
    (hbody : ∀ (p : Addr × Obj) (cdv : Value) (A : Around) (outer : List Env) (s : Shared) (H : Hp) (vs : List V) (Q : VK) (E : XK), Hot1 A p → RoomH k (A.deeper (envOfC qual scope s.heap.objs.size f cdv)) → sp p vs H Q E →
      ∃ t, PSs (cxH CX0 P w K mg base N qual scope f cdv A outer s H E p) body t ∧ t { nx := fun _ H' => Q .non H', rt := Q } (L2.start N vs) H) : FnX P w K mg base (k + 1) f fd ps sp := by
  obtain ⟨oc, od, dV, kV, doc, pm, an, cdv, ct, osl, rfl, lk, hcd, _, _⟩ := F.ex
  refine ⟨len, ?_⟩
  intro p A outer s H args us vs Q E room hot pinned env binds rel said
  have many := len _ _ _ _ _ said
  have old : ∀ b o, base.get? b = some o → s.heap.get? b = some o := fun b o e => (env.bs b o e).1
  have inK : K.In s.heap := env.mod.kin.keeps old
  have plainly : ∀ y ∈ ps.zip us, scope.names.lookup y.1 = some .local ∨ (scope.names.lookup y.1 = some .cell ∧ ((cellsFrom (s.heap.objs.size + 1) scope.names []).lookup y.1).isSome = true) := by
    rintro ⟨n, v⟩ m
    cases S.par n (List.of_mem_zip m).1 with
    | inl q => exact Or.inl q
    | inr q => exact Or.inr ⟨q, PySem.W.cellsFrom_some _ _ _ (Or.inl q)⟩
  apply codeAny_call_function room.depth (inK _ _ lk) rfl S.co S.gen rfl (PySem.W.codeRec_of inK hcd)
  apply binds
  refine wpAny_newFunctionEnv_cells S.kind plainly ?_
  rintro env' rfl s1 inside
  refine ⟨(env.mod.nolimit.keeps old).keeps inside.toInCall.keep, codeAny_func ?_⟩
  obtain ⟨t, walk, reads⟩ := hbody p cdv A outer s H vs Q E hot (room.deeper _) said
  have at1 : Inv (cxH CX0 P w K mg base N qual scope f cdv A outer s H E p) [] (L2.start N vs) H s1 := inv_startH S pinned env many rel inside
  apply wpAny_mono (walk.run [] s1 (L2.start N vs) H _ at1 reads)
  · intro fl s2 there
    cases fl with
    | next =>
      obtain ⟨_, H2, J, q⟩ := there
      exact ⟨.non, H2, J.os, J.bare, J.base, J.hok, rfl, q⟩
    | ret u =>
      obtain ⟨v, _, H2, J, rv, q⟩ := there
      exact ⟨v, H2, J.os, J.bare, J.base, J.hok, rv, q⟩
    | brk =>
      obtain ⟨_, _, _, q⟩ := there
      exact q.elim
    | cont =>
      obtain ⟨_, _, _, q⟩ := there
      exact q.elim
  · intro e s2 there
    exact there
end
/-! ### calls of it -/
def tCallX (sp : Sp) (t : TA) : TE := fun σ H Q => t σ H fun vs H1 => sp vs H1 Q (fun _ _ _ => False)
theorem pe_callX {X : Cx} {k : Nat} {f : Addr} {fd : FuncData} {ps : List Str} {sp : Addr × Obj → Sp} {x : Str} {q pos : Pos} {e : Expr} {es : List Expr} {t : TA} {p : Addr × Obj} (F : FnX X.prog X.w X.K X.mg X.base k f fd ps sp) (hr : RoomH k X.A) (hot : Hot1 X.A p) (hp : p ∈ X.pn) (hg : Gl X x) (hm : X.mg x = some (.ref f))
    (hk : PySem.W.keepIn X.K (.ref f) = true) (hb : Binds X.K fd ps []) (ha : PA X (e :: es) t) (hdb : (x == ("__debug__" : Str)) = false := by decide)
    (he : starEach (e :: es) X.env = (false, eval e X.env) :: starEach es X.env := by rfl) (hpl : (backTo pos (starEach es X.env)).any (·.1) = false := by rfl) : PE X (.Call (.Name x q) (e :: es) [] pos) (tCallX (sp p) t) := by
  constructor
  intro pins s σ H Q I h
  apply wpAny_Call_Name_kw
  apply ld_glob I hg hm _ hdb
  apply PySem.W.callWith_K (h₀ := X.base) I.ok.mod.kin hk _ he hpl
  refine thn (ha.run pos pins s σ H _ I h) ?_
  rintro us s1 ⟨vs, H1, I1, rel, said⟩
  refine ⟨I1.kIn, ?_⟩
  have many : us.length = ps.length := (Paired.length rel).symm.trans (F.len _ _ _ _ _ said)
  have bs := hb s1 us I1.kIn (by rw [List.append_nil]; exact many)
  rw [List.append_nil] at bs
  obtain ⟨g1, g2, g3, g4, g5⟩ := I1.pin p (List.mem_append_left _ hp)
  have pinned : PinOk X.stack H1 s1 p := ⟨g1, g2, fun m => (List.mem_cons.mp (I1.stkSub p.1 m)).elim g3 g4, g5⟩
  refine wpAny_call (codeAny_mono (F.run p X.A X.stack s1 H1 ⟨us, []⟩ us vs Q _ hr hot pinned I1.env0 bs rel said) ?_)
  rintro (er | fl) s2 back
  · exact (pass0 (X := X)) pins _ _ _ er s2 I1 back
  · cases fl with
    | ret u => exact I1.after back
    | next => exact back.elim
    | brk => exact back.elim
    | cont => exact back.elim
end H89

set_option Elab.async false
set_option linter.all false
set_option maxRecDepth 100000
set_option maxHeartbeats 2000000
namespace H89
open PySem PySem.Spec PyProof.Rows L2 L2H
/-! ### [elt for tg in range(n) if ..] where an exception is handled -/
/-- a range's iterator at its i-th turn -/
abbrev RgAt (it : Addr) (n i : Nat) (h : Heap) : Prop := IsRangeIter h it (0 + (i : Nat) * 1) ((n : Int) - (i : Nat)) 1
theorem rg_obj {it : Addr} {n i : Nat} {h : Heap} (st : RgAt it n i h) : ∀ b ∈ [it], ∃ o, h.get? b = some o ∧ ∀ v, o.data ≠ .cell v := fun b hb => by
  have e : b = it := List.mem_singleton.mp hb
  rw [e]
  exact ⟨_, st, fun v z => Data.noConfusion (show Data.fields _ = Data.cell v from z)⟩
section
variable {X : Cx}
/-- the iterator of range(n), n written -/
theorem rg_start {n : Nat} {p1 p3 : Pos} {pins : List (Addr × Obj)} {σ : L2.St} {H : Hp} {s : Shared} {Q : Value → Shared → Prop} {a : Expr} (hg : Gl X "range") (hm : X.mg "range" = none) (hn : n < 1000) (ha : PA X [a] (tCons (tC (.int (n : Nat))) tNil)) (I : Inv X pins σ H s)
    (hs : starEach [a] X.env = [(false, eval a X.env)])
    (q : ∀ (it : Addr) (s2 : Shared), Inv X pins σ H s2 → RgAt it n 0 s2.heap → FpOk X pins H it → Q (.ref it) s2) :
    wpAny (model X.prog X.w) X.A (eval (.Call (.Name "range" p1) [a] [] p3) X.env) (fun v s1 => wpAny (model X.prog X.w) X.A (pyIter v) Q X.xe s1) X.xe s := by
  have step := ha.run p3 pins s σ H (fun vs H1 => vs = [V.int (n : Nat)] ∧ H = H1) I (show [V.int (n : Nat)] = [V.int (n : Nat)] ∧ H = H from ⟨rfl, rfl⟩)
  refine Call_ (ld_blt I hg hm boot_range (PyProof.Rows.callWith_type1 (thn step ?_) hs rfl))
  rintro us s1 ⟨vs, H1, I1, rel, rfl, rfl⟩
  cases rel with
  | cons r rr =>
    cases rr
    obtain ⟨t, rfl⟩ := r
    refine call_range_1 (wpAny_pyIter_range (IsRange.new ..) (small_one (by decide) (by decide) (by omega) (by omega)) ?_)
    have J : Inv X pins σ H { s1 with heap := s1.heap.push { cls := .type "range", data := .fields #[.int 0 s1.toks, .int (n : Nat) t, .int 1 (s1.toks + 1)] }, toks := s1.toks + 1 + 1 } := I1.kept fun b o e => Heap.get?_push_of_some _ e
    apply q
    · exact J.kept (t' := s1.toks + 1 + 1) fun b o e => Heap.get?_push_of_some _ e
    · have e2 : ((n : Nat) : Int) - ((0 : Nat) : Int) = Builtin.Range.rangeSize 0 (n : Nat) 1 := by rw [rangeSize_one]; split <;> omega
      show IsRangeIter _ _ (0 + ((0 : Nat) : Int) * 1) (((n : Nat) : Int) - ((0 : Nat) : Int)) 1
      rw [e2]
      exact Heap.get?_push_size _ rfl
    · exact J.fpOk (Nat.le_refl _) (J.hok.fresh (Nat.le_refl _))
theorem none_blk {H : Hp} {s : Shared} {σ : L2.St} {pins : List (Addr × Obj)} (I : Inv X pins σ H s) {b : Addr} (h : s.heap.objs.size ≤ b) : H b = none := I.hok.fresh h
/-- what is pinned in the def stands in the block -/
theorem pins_blk {pins : List (Addr × Obj)} {σ σ' : L2.St} {H H' : Hp} {s s' : Shared} {scope : Scope} {ce : Env} {fp : List Addr} (I : Inv X pins σ H s) (J : Inv (X.blk s H scope ce fp) [] σ' H' s') (cL : ce.locals = s.heap.objs.size) (hfp : ∀ b ∈ fp, FpOk X pins H b) :
    ∀ p ∈ X.pn, s'.heap.get? p.1 = some p.2 ∧ H' p.1 = none ∧ p.1 ≠ ce.locals ∧ p.1 ∉ (X.blk s H scope ce fp).fs ∧ ∀ v, p.2.data ≠ .cell v := by
  intro p hp
  obtain ⟨g1, g2, g3, g4, g5⟩ := I.pin p (List.mem_append_left _ hp)
  have nfp : p.1 ∉ fp := fun m => (hfp p.1 m).2.2.2.2.2 p (List.mem_append_left _ hp) rfl
  have nfs : p.1 ∉ (X.blk s H scope ce fp).fs := fun m => (List.mem_cons.mp (I.stkSub p.1 m)).elim g3 g4
  exact ⟨J.base.keep p.1 p.2 g1 g2 nfs nfp, J.base.free p.1 p.2 g1 g2 nfp, by rw [cL]; exact Nat.ne_of_lt (Heap.lt_size g1), nfs, g5⟩
theorem pe_lcX {elt tg a : Expr} {n : Nat} {p1 p3 : Pos} {ifs : List Expr} {scope : Scope} {own : List (Str × Nat)} {pos : Pos} {g : TG} {tt : TT} {te : TE} (hc : HotC X) (hN : X.N.Nodup) (hr : Gl X "range") (hm : X.mg "range" = none) (hn : n < 1000) (ha : PA X [a] (tCons (tC (.int (n : Nat))) tNil))
    (hsa : starEach [a] X.env = [(false, eval a X.env)]) (ok : BlkOk X.N X.env.scope scope own)
    (hg : ∀ (s : Shared) (H : Hp) (C : Addr) (cl : List (Str × Addr)) (fp : List Addr), PG (X.blk s H scope (compEnvC scope cl C X.env) fp) tg g) (ht : ∀ (s : Shared) (H : Hp) (C : Addr) (cl : List (Str × Addr)) (fp : List Addr), PTs (X.blk s H scope (compEnvC scope cl C X.env) fp) ifs tt)
    (he : ∀ (s : Shared) (H : Hp) (C : Addr) (cl : List (Str × Addr)) (fp : List Addr), PE (X.blk s H scope (compEnvC scope cl C X.env) fp) elt te) (hs : ∀ x, foldedSetIterable (.Call (.Name "range" p1) [a] [] p3) X.env x = pure x := by intro _; rfl) :
    PE X (.ListComp elt [⟨tg, .Call (.Name "range" p1) [a] [] p3, ifs, 0⟩] scope pos) (tLc (fun _ H R => R (Itr 0 n) H) g tt te (own.map (·.2))) := by
  constructor
  intro pins s σ H Q I h
  rw [eval_ListComp]
  have cells : ∀ y ∈ scope.names, y.2 = .free → ∃ c, X.env.cells.lookup y.1 = some c := fun y hy e => by
    cases ok.free y hy e with
    | inl k => exact I.ok.has _ (.inl k)
    | inr k => exact I.ok.has _ (.inr k)
  refine wpAny_comprehension_free rfl hs (closure_ok cells) ok.kind (fun y hy e => by rw [ok.uniq y hy, e]) (rg_start hr hm hn ha I hsa ?_)
  intro it s2 I2 st2 f2
  refine wpAny_newObj_type (newEnv_comp ?_) (by show 0 ≤ sizeLine; decide)
  have nD : H s2.heap.objs.size = none := I2.hok.fresh (Nat.le_refl _)
  obtain ⟨W, ⟨m0, w0⟩, turn⟩ := h s2.heap.objs.size nD
  have lit : it < s2.heap.objs.size := Heap.lt_size st2
  have J3 : Inv X pins σ (upd H s2.heap.objs.size (.lst [])) { s2 with heap := s2.heap.push { cls := .type "list", data := .seq ([] : List Value).toArray } } :=
    I2.laid (t' := s2.toks) (fun b o e => Heap.get?_push_of_some _ e) (Nat.le_refl _) ⟨Nat.zero_le _, [], 0, .nil, Heap.get?_push_size _ rfl⟩
  generalize hD : s2.heap.objs.size = D at J3 w0 turn ⊢
  generalize hs3 : ({ s2 with heap := s2.heap.push { cls := .type "list", data := .seq ([] : List Value).toArray } } : Shared) = s3 at J3
  have f3 : ∀ b ∈ [it], FpOk X pins (upd H D (.lst [])) b ∧ b < s3.heap.objs.size := fun b hb => by
    have e : b = it := List.mem_singleton.mp hb
    subst e
    have ne : b ≠ D := by rw [← hD]; exact Nat.ne_of_lt lit
    exact ⟨⟨by rw [upd_ne ne]; exact f2.1, f2.2⟩, by rw [← hs3]; show b < (s2.heap.push _).objs.size; rw [Heap.size_push]; exact Nat.lt_succ_of_lt lit⟩
  have st3 : RgAt it n 0 s3.heap := by rw [← hs3]; exact Heap.get?_push_of_some _ st2
  have I4 := block_start J3 ok hN f3
  have pg := hg s3 (upd H D (.lst [])) s3.heap.objs.size (cellsFrom (s3.heap.objs.size + 1) scope.names (cloFrom X.env.cells scope.names [])) [it]
  have pt := ht s3 (upd H D (.lst [])) s3.heap.objs.size (cellsFrom (s3.heap.objs.size + 1) scope.names (cloFrom X.env.cells scope.names [])) [it]
  have pe := he s3 (upd H D (.lst [])) s3.heap.objs.size (cellsFrom (s3.heap.objs.size + 1) scope.names (cloFrom X.env.cells scope.names [])) [it]
  show codeAny _ _ (.compStart (.ListComp elt [⟨tg, .Call (.Name "range" p1) [a] [] p3, ifs, 0⟩] scope pos) 0 (.ref it) (.ref D) (compEnvC scope (cellsFrom (s3.heap.objs.size + 1) scope.names (cloFrom X.env.cells scope.names [])) s3.heap.objs.size X.env)) (compPost (model X.prog X.w) X.A X.xe none (EP X pins σ Q) (.ref D) s3.heap.objs.size) { s3 with heap := pushCells (s3.heap.push { cls := .type "dict", data := .dict #[] }) scope.names }
  generalize hce : compEnvC scope (cellsFrom (s3.heap.objs.size + 1) scope.names (cloFrom X.env.cells scope.names [])) s3.heap.objs.size X.env = ce at I4 pg pt pe ⊢
  have cL : ce.locals = s3.heap.objs.size := by rw [← hce]; rfl
  generalize hH3 : upd H D (.lst []) = H3 at J3 I4 pg pt pe w0 f3
  have st4 : RgAt it n 0 (pushCells (s3.heap.push { cls := .type "dict", data := .dict #[] }) scope.names) := pushCells_keeps _ _ _ _ (Heap.get?_push_of_some _ st3)
  generalize hs4 : ({ s3 with heap := pushCells (s3.heap.push { cls := .type "dict", data := .dict #[] }) scope.names } : Shared) = s4 at I4 ⊢
  have st4 : RgAt it n 0 s4.heap := by rw [← hs4]; exact st4
  have nit : H3 it = none := (f3 it (List.mem_singleton.mpr rfl)).1.1
  obtain ⟨p, hot, hp⟩ := hc
  have fps : ∀ b ∈ [it], FpOk X pins H3 b := fun b hb => (f3 b hb).1
  -- the iterator stands apart in the block
  have apart : ∀ {σ' : L2.St} {H' : Hp} {s' : Shared}, Inv (X.blk s3 H3 scope ce [it]) [] σ' H' s' → H' it = none → ∀ b ∈ [it], FpOk (X.blk s3 H3 scope ce [it]) [] H' b := fun {σ' H' s'} J z b hb => by
    have e : b = it := List.mem_singleton.mp hb
    subst e
    exact ⟨z, (J.ok.exf b hb).1, J.ok.exfs b hb, .inl hb, fun x c q => (J.ok.exf b hb).2 x c q, fun r hr => nomatch (show r ∈ ([] : List (Addr × Obj)) from hr)⟩
  have loop : codeAny (model X.prog X.w) X.A (.compLoop (.ListComp elt [⟨tg, .Call (.Name "range" p1) [a] [] p3, ifs, 0⟩] scope pos) 0 (.ref it) (.ref D) ce) (compPost (model X.prog X.w) X.A X.xe none (EP X pins σ Q) (.ref D) s3.heap.objs.size) s4 := by
    refine compLoop_any (fun m s' => ∃ i H', Inv (X.blk s3 H3 scope ce [it]) [] (wipe σ (own.map (·.2))) H' s' ∧ RgAt it n i s'.heap ∧ H' it = none ∧ W i m H') ?_ m0 ⟨0, H3, I4, st4, nit, w0⟩
    rintro m s5 ⟨i, H5, I5, st5, n5, w5⟩
    have pn5 := pins_blk J3 I5 cL fps p hp
    cases turn i m H5 w5 with
    | inl stop =>
      obtain ⟨hstop, qq⟩ := stop
      have hstop : n ≤ i := hstop
      obtain ⟨hh, vs1, e1, c1⟩ := hot
      refine HotX.pyNext_range_end_hot (x1 := p.1) ⟨hh, p.2, vs1, pn5.1, e1, c1⟩ st5 (by omega) fun h' eb => ?_
      have I6 : Inv (X.blk s3 H3 scope ce [it]) [] (wipe σ (own.map (·.2))) H5 { s5 with heap := h' } := I5.kept (t' := s5.toks) eb
      have I7 : Inv X pins σ H5 { s5 with heap := h' } := J3.call' (ch := [it]) I6.os I6.base I6.hok I6.bare fun b hb => ⟨(fps b hb).2.2.2.1, (fps b hb).2.1, (fps b hb).2.2.2.2.1, (fps b hb).2.2.2.2.2⟩
      have nC : H5 s3.heap.objs.size = none := cL ▸ I6.free
      obtain ⟨mm, hns, _⟩ := I6.loc
      have hns : h'.Ns s3.heap.objs.size mm := cL ▸ hns
      obtain ⟨g0, g1, g2, g3, g4, g5⟩ := J3.fpOk (H' := H5) (Nat.le_refl _) nC
      exact ⟨mm, hns, fun h'' sb => ⟨.ref D, H5, I7.turned (t' := s5.toks) (fun b o hb e => (sb.2 b hb).trans e) g0 g1 g3 g4 g5, rfl, qq⟩⟩
    | inr go =>
      obtain ⟨hgo, Nx, hNx, step⟩ := go
      have hgo : i < n := hgo
      refine wpAny_pyNext_range_item st5 (by omega) fun h' st' sb => ?_
      have st7 : RgAt it n (i + 1) h' := by
        have e1 : (0 : Int) + ((i : Nat) : Int) * 1 + 1 = 0 + ((i + 1 : Nat) : Int) * 1 := by omega
        have e2 : (n : Int) - ((i : Nat) : Int) - 1 = (n : Int) - ((i + 1 : Nat) : Int) := by omega
        show IsRangeIter h' it (0 + ((i + 1 : Nat) : Int) * 1) ((n : Int) - ((i + 1 : Nat) : Int)) 1
        rw [← e1, ← e2]
        exact st'
      obtain ⟨f0, f1, f2, f3, f4, f5⟩ := apart I5 n5 it (List.mem_singleton.mpr rfl)
      have I6 : Inv (X.blk s3 H3 scope ce [it]) [] (wipe σ (own.map (·.2))) H5 { s5 with heap := h', toks := s5.toks + 1 } := I5.turned (fun b o hb e => (sb.2 b hb).trans e) f0 f1 f3 f4 f5
      have I7 := I6.pinned (apart I6 n5) (rg_obj st7)
      refine go_of (s := { s5 with heap := h', toks := s5.toks + 1 }) (n := "range_iterator") st7 rfl rfl (by decide) ?_
      have val : RelV (V.int (0 + (i : Int))) (Value.int (0 + (i : Nat) * 1) s5.toks) := ⟨s5.toks, by rw [Int.mul_one]⟩
      refine thnF (pg.run _ _ _ H5 _ _ _ I7 val (step _ H5 ⟨rfl, rfl⟩)) fun _ s8 ⟨σ8, H8, I8, hw, q8⟩ => ?_
      refine thnF (pt.run _ s8 σ8 H8 _ I8 q8) fun b s9 ⟨H9, I9, q9⟩ => ?_
      have again : ∀ {s' : Shared} {H' : Hp}, Inv (X.blk s3 H3 scope ce [it]) ([] ++ pinsAt [it] h') σ8 H' s' → Nx H' → ∃ m', m' < m ∧ ∃ i H', Inv (X.blk s3 H3 scope ce [it]) [] (wipe σ (own.map (·.2))) H' s' ∧ RgAt it n i s'.heap ∧ H' it = none ∧ W i m' H' := by
        intro s' H' I' nx
        obtain ⟨m', lt, w'⟩ := hNx H' nx
        have z := I'.pin (it, _) (List.mem_append_right _ (List.mem_append_right _ (mem_pinsAt (List.mem_singleton.mpr rfl) st7)))
        have len : (wipe σ (own.map (·.2))).length = σ8.length := by rw [← hw, wipe_length]
        refine ⟨m', lt, i + 1, H', (I'.unpinned (pins := [])).weak len (fun j v e => ?_), z.1, z.2.1, w'⟩
        rw [← hw] at e
        exact (wipe_some e).1
      cases b with
      | false =>
        rw [if_neg Bool.false_ne_true] at q9 ⊢
        exact again I9 q9
      | true =>
        rw [if_pos rfl] at q9 ⊢
        refine thnF (pe.run _ s9 σ8 H9 _ I9 q9) fun z s10 ⟨yv, H10, I10, r10, acc, hD10, hz10, nx⟩ => ?_
        exact app_ok (X := X.blk s3 H3 scope ce [it]) I10 hD10 hz10 r10 fun s11 I11 => again I11 nx
  exact codeAny_compStart_list loop (wpAny_pyIter_rangeiter st4 loop)
end
end H89

set_option Elab.async false
set_option linter.all false
set_option maxRecDepth 100000
set_option maxHeartbeats 1000000
namespace H89
open PySem PySem.Spec PyProof.Rows L2 L2H
/-! ### isinstance of the exception that is handled -/
def ErP (K : PySem.W.Frag) (x : Str) (H : Hp) (p : Addr × Obj) : Prop := ∃ (d : Addr) (fs : List (Str × V)), Kit K x ∧ Zc (.ref (He.ga K x)) (some d) p.2 ∧ H d = some (exd d fs) ∧ PySem.W.notCls p.2 = true
theorem ErP.kp {K : PySem.W.Frag} {x : Str} {H H' : Hp} {p : Addr × Obj} (k : Kp H H') : ErP K x H p → ErP K x H' p := fun ⟨d, fs, c, z, e, n⟩ => ⟨d, fs, c, z, k _ _ e, n⟩
def rIsP (K : PySem.W.Frag) (p : Addr × Obj) : List V → Hp → VK → Prop := fun xs H Q => ∃ (x : Str) (c : V) (u : Value) (b : Bool), xs = [.ref p.1, c] ∧ ErP K x H p ∧ ClsV c u ∧ PySem.W.kitOne K (.ref (He.ga K x)) u = some b ∧ Q (.bl b) H
theorem call_isP {X : Cx} {p : Addr × Obj} (hp : p ∈ X.pn) : CallR X (.builtin "isinstance") (rIsP X.K p) := by
  intro pins s σ H xs us Q I r h
  obtain ⟨x, c, u, b, rfl, ⟨d, fs, T, z, ed, nc⟩, k, e, q⟩ := h
  obtain ⟨u1, u2, rfl, r1, r2⟩ := vals2 r
  obtain rfl : u1 = Value.ref p.1 := r1
  have e2 := k.eq r2
  subst e2
  obtain ⟨mA, hns, _⟩ := exd_at I.hok ed
  obtain ⟨od, h1, h2⟩ := lookIn_ns hns
  have J : PySem.W.InstAt s.heap p.1 p.2 (He.ga X.K x) (some od) := ⟨(I.pin p (List.mem_append_left _ hp)).1, z.1, nc, by rw [z.2]; exact h1⟩
  exact PySem.W.kia_one T.ec.kit I.kIn J e (fun z => nomatch z) fun tk => ⟨.bl b, H, I.tok tk, rfl, q⟩
theorem rdP {K : PySem.W.Frag} {i : Nat} {x y : Str} {p : Addr × Obj} {σ : L2.St} {H : Hp} {Q : VK} (h : σ[i]? = some (some (.ref p.1))) (e : ErP K x H p) (m : y ∈ mine) (q : Q (.bl (x == y)) H) :
    tCB (rIsP K p) (tCons (tVar i) (tCons (tC (.ref (He.ga K y))) tNil)) σ H Q :=
  ⟨_, h, x, .ref (He.ga K y), .ref (He.ga K y), (x == y), rfl, e, .own _, e.choose_spec.choose_spec.1.mine y m, q⟩
def spKX (K : PySem.W.Frag) (p : Addr × Obj) : Sp := fun vs H Q _ => ∃ x : Str, vs = [.ref p.1] ∧ ErP K x H p ∧ ∀ H' r, Kp H H' → H r = none → H' r = some (.lst (kindsOf x)) → Q (.ref r) H'
theorem ok_kindsX {P : Program} {w : World} {K : PySem.W.Frag} {mg : Str → Option Value} {base : Heap} {f : Addr} {fd : FuncData} (F : FnP K "_law_kinds_of" sKinds f fd) (T : FrE K mg) : FnX P w K mg base 1 f fd ["e"] (spKX K) := by
  refine fnX_of F scK (fun p vs H Q E h => ?_) (fun p cdv A outer s H vs Q E hot hr h => ?_)
  · obtain ⟨x, rfl, _⟩ := h
    rfl
  · have hp : p ∈ (cxH CX0 P w K mg base ["e", "told", "k"] (Str.ofString "_law_kinds_of") (defScope sKinds) f cdv A outer s H E p).pn := List.mem_singleton.mpr rfl
    refine ⟨_, pss_cons (ps_set (i := 1) scK.nd rfl (Or.inr rfl) (pe_lst (pa_cons (pe_callB (call_isP hp) (by rfl) T.isinstance (by decide +kernel) (pa_cons (pv 0) (pa_cons (pe_glob (v := .ref (He.ga K "BadMix")) (by rfl) (T.glo "BadMix" (by decide +kernel)) rfl) pa_nil))) (pa_cons (pe_callB (call_isP hp) (by rfl) T.isinstance (by decide +kernel) (pa_cons (pv 0) (pa_cons (pe_glob (v := .ref (He.ga K "HasRing")) (by rfl) (T.glo "HasRing" (by decide +kernel)) rfl) pa_nil))) (pa_cons (pe_callB (call_isP hp) (by rfl) T.isinstance (by decide +kernel) (pa_cons (pv 0) (pa_cons (pe_glob (v := .ref (He.ga K "BadPlaces")) (by rfl) (T.glo "BadPlaces" (by decide +kernel)) rfl) pa_nil))) (pa_cons (pe_callB (call_isP hp) (by rfl) T.isinstance (by decide +kernel) (pa_cons (pv 0) (pa_cons (pe_glob (v := .ref (He.ga K "BadPrices")) (by rfl) (T.glo "BadPrices" (by decide +kernel)) rfl) pa_nil))) pa_nil))))))
      (pss_cons (ps_expr (pe_bm PySem.F.plainAttrs_list PySem.F.slot_list_extend PySem.F.type_list_extend mt_extend (pv 1) (pa_cons (pe_lst (pa_cons (pe_callB (call_isP hp) (by rfl) T.isinstance (by decide +kernel) (pa_cons (pv 0) (pa_cons (pe_glob (v := .ref (He.ga K "BadSome")) (by rfl) (T.glo "BadSome" (by decide +kernel)) rfl) pa_nil))) (pa_cons (pe_callB (call_isP hp) (by rfl) T.isinstance (by decide +kernel) (pa_cons (pv 0) (pa_cons (pe_glob (v := .ref (He.ga K "BadTyings")) (by rfl) (T.glo "BadTyings" (by decide +kernel)) rfl) pa_nil))) (pa_cons (pe_callB (call_isP hp) (by rfl) T.isinstance (by decide +kernel) (pa_cons (pv 0) (pa_cons (pe_glob (v := .ref (He.ga K "BadStrategy")) (by rfl) (T.glo "BadStrategy" (by decide +kernel)) rfl) pa_nil))) (pa_cons (pe_callB (call_isP hp) (by rfl) T.isinstance (by decide +kernel) (pa_cons (pv 0) (pa_cons (pe_glob (v := .ref (He.ga K "BadEdit")) (by rfl) (T.glo "BadEdit" (by decide +kernel)) rfl) pa_nil))) pa_nil))))) pa_nil)))
      (pss_cons (ps_expr (pe_bm PySem.F.plainAttrs_list PySem.F.slot_list_extend PySem.F.type_list_extend mt_extend (pv 1) (pa_cons (pe_lst (pa_cons (pe_callB (call_isP hp) (by rfl) T.isinstance (by decide +kernel) (pa_cons (pv 0) (pa_cons (pe_glob (v := .ref (He.ga K "BadDesk")) (by rfl) (T.glo "BadDesk" (by decide +kernel)) rfl) pa_nil))) (pa_cons (pe_callB (call_isP hp) (by rfl) T.isinstance (by decide +kernel) (pa_cons (pv 0) (pa_cons (pe_glob (v := .ref (He.ga K "BadDeskText")) (by rfl) (T.glo "BadDeskText" (by decide +kernel)) rfl) pa_nil))) (pa_cons (pe_callB (call_isP hp) (by rfl) T.isinstance (by decide +kernel) (pa_cons (pv 0) (pa_cons (pe_glob (v := .ref (He.ga K "NothingToUndo")) (by rfl) (T.glo "NothingToUndo" (by decide +kernel)) rfl) pa_nil))) (pa_cons (pe_callB (call_isP hp) (by rfl) T.isinstance (by decide +kernel) (pa_cons (pv 0) (pa_cons (pe_glob (v := .ref (He.ga K "NothingToRedo")) (by rfl) (T.glo "NothingToRedo" (by decide +kernel)) rfl) pa_nil))) pa_nil))))) pa_nil)))
      (pss_one (ps_ret (pe_lcX (own := [("k", 2)]) (g := gName 2) (n := 12) (tt := tB (tOp (rIxL K) (tVar 1) (tVar 2))) ⟨p, hot, hp⟩ scK.nd (by rfl) T.range (by decide) (pa_cons pe_int pa_nil) (by rfl) (blkOk_by (N := ["e", "told", "k"]) (sc := defScope sKinds) (by decide +kernel))
        (fun _ _ _ _ _ => pg_name (i := 2) scK.nd rfl (Or.inl rfl)) (fun _ _ _ _ _ => pts_one (pt_val (pe_ix ix_list (pv 1) (pv 2) (fun _ _ => rfl)))) (fun _ _ _ _ _ => pv 2)))))), ?_⟩
    obtain ⟨x, rfl, e, q⟩ := h
    refine rdSetL (fun Q q => rdP rfl e (y := "BadMix") (by decide +kernel) (rdP rfl e (y := "HasRing") (by decide +kernel) (rdP rfl e (y := "BadPlaces") (by decide +kernel) (rdP rfl e (y := "BadPrices") (by decide +kernel) (q))))) (by show 4 ≤ 1000; decide) fun H1 r1 k1 hr1 d1 => ?_
    refine rdExt rfl hr1 k1 d1 (fun Q q => rdP rfl (e.kp k1) (y := "BadSome") (by decide +kernel) (rdP rfl (e.kp k1) (y := "BadTyings") (by decide +kernel) (rdP rfl (e.kp k1) (y := "BadStrategy") (by decide +kernel) (rdP rfl (e.kp k1) (y := "BadEdit") (by decide +kernel) (q))))) (by show 4 ≤ 1000; decide) (by show 4 ≤ 1000; decide) fun H2 k2 d2 => ?_
    refine rdExt rfl hr1 k2 d2 (fun Q q => rdP rfl (e.kp k2) (y := "BadDesk") (by decide +kernel) (rdP rfl (e.kp k2) (y := "BadDeskText") (by decide +kernel) (rdP rfl (e.kp k2) (y := "NothingToUndo") (by decide +kernel) (rdP rfl (e.kp k2) (y := "NothingToRedo") (by decide +kernel) (q))))) (by show 4 ≤ 1000; decide) (by show 8 ≤ 1000; decide) fun H3 k3 d3 => ?_
    have d4 : H3 r1 = some (.lst ((told x).map V.bl)) := d3
    clear d3 d2 d1
    have hl : (told x).length = 12 := rfl
    generalize hb : told x = bs at d4 hl
    have hq : ∀ H' r, Kp H H' → H r = none → H' r = some (.lst (((List.range 12).filter fun j => bs.getD j false).map fun (j : Nat) => V.int j)) → Q (.ref r) H' := by
      rw [← hb]
      exact q
    intro D hD
    have hD0 : H D = none := none_back k3 hD
    refine lc_it (walk_range (lo := 0) (n := 12)) (fun i H' => Kp H3 H' ∧ H' D = some (.lst (((List.range i).filter fun j => bs.getD j false).map fun (j : Nat) => V.int j))) ⟨Kp.new hD, upd_same⟩ (fun _ _ _ _ => trivial) ?_ ?_
    · rintro i v H4 H5 hi ⟨k4, d5⟩ ⟨e5, rfl⟩
      subst e5
      refine ⟨rfl, ?_⟩
      have hi2 : i < bs.length := by rw [hl]; exact hi
      have hget : (bs.map V.bl)[i]? = some (V.bl (bs.getD i false)) := by
        rw [List.getElem?_map, List.getElem?_eq_getElem hi2, List.getD_eq_getElem?_getD, List.getElem?_eq_getElem hi2]
        rfl
      have hz : (0 + (i : Int)) = ((i : Nat) : Int) := by omega
      have hv : ((fun i : Nat => V.int (0 + (i : Nat))) i) = V.int (i : Nat) := by show V.int (0 + (i : Int)) = _; rw [hz]
      rw [hv]
      refine ⟨_, rfl, _, rfl, r1, _, _, _, rfl, rfl, SqL.of (k4 _ _ d4), atI_nat hget, _, rfl, ?_⟩
      have hr' := filt_succ (fun j => bs.getD j false) i
      by_cases hbi : bs.getD i false = true
      · rw [hr', if_pos hbi]
        refine ifT hbi ?_
        refine ⟨_, rfl, _, d5, ?_, Kp.at k4 hD, ?_⟩
        · rw [List.length_map, sizeLine_eq]
          have := List.length_filter_le (fun j => bs.getD j false) (List.range i)
          rw [List.length_range] at this
          omega
        · rw [upd_same, List.map_append]
          rfl
      · rw [hr', if_neg hbi, List.append_nil]
        refine ifF (Bool.eq_false_iff.mpr hbi) ?_
        exact ⟨k4, d5⟩
    · rintro H4 ⟨k4, d5⟩
      exact hq _ _ (k3.trans k4) hD0 d5
end H89

set_option Elab.async false
set_option linter.all false
set_option maxRecDepth 100000
set_option maxHeartbeats 1000000
namespace H89
open PySem PySem.Spec PyProof.Rows L2 L2H
/-! ### raise C(x), C with an own __init__, its context None -/
def RaisesK (K : PySem.W.Frag) (cls : Value) : Prop := ∀ (M : Model) (h : Heap), K.In h → PySem.W.Looks M h (isSubtype cls (.type "BaseException")) true ∧ PySem.W.Looks M h (typeOf cls) (.type "type")
theorem pmk_val {X : Cx} {e : Expr} {te : TE} (hx : X.ex = []) (he : PE X e te) :
    L2N.PMk X e (fun σ H Q => te σ H fun v H1 => ∃ a C d, v = .ref a ∧ H1 a = some (exo a C (some d)) ∧ Fr0 X.H_0 a ∧ RaisesK X.K (.ref C) ∧ Q (.ref C) (some d) (delH H1 a)) := by
  intro pins s σ H Q I h
  apply wpAny_mono (he.run pins s σ H _ I h)
  · rintro u s1 ⟨v, H1, I1, rel, a, C, d, rfl, ea, fresh, rs, said⟩
    cases rel
    obtain ⟨t1, there⟩ := exo_at I1.hok ea
    obtain ⟨G, sub, gone, J⟩ := I1.untrack ea fresh hx
    refine ⟨a, _, _, { s1 with heap := G }, delH H1 a, .ref C, some d, rfl, J, sub, gone, there, ⟨rfl, rfl, ?_⟩, rfl, rfl, delH_same, rfl, I1.bare, rs, said⟩
    rintro vs ⟨⟩
    rfl
  · intro _ _ z
    exact z
theorem PE.imp {X : Cx} {e : Expr} {t t' : TE} (h : PE X e t) (i : ∀ σ H Q, t' σ H Q → t σ H Q) : PE X e t' := ⟨fun pins s σ H Q I h' => h.run pins s σ H Q I (i _ _ _ h')⟩
/-- the kinds of the error that is handled -/
def tKinds (K : PySem.W.Frag) (a : Addr) (cls : Value) (d : Option Addr) : TE := fun σ H Q => ∃ (x : Str) (fs : List (Str × V)) (dd : Addr), σ[1]? = some (some (.ref a)) ∧ cls = .ref (He.ga K x) ∧ d = some dd ∧ Kit K x ∧ H dd = some (exd dd fs) ∧
  ∀ H' r, Kp H H' → H r = none → H' r = some (.lst (kindsOf x)) → Q (.ref r) H'
theorem scC : FnScope ["x", "e", "told", "plain"] ["x"] (defScope sCaught) := ⟨rfl, rfl, rfl, by decide +kernel, rfl, by decide +kernel, by decide +kernel⟩
section
variable {P : Program} {w : World} {K : PySem.W.Frag} {mg : Str → Option Value} {base : Heap} {f f1 f2 : Addr} {fd fd1 fd2 : FuncData}
theorem ok_caught (F : FnP K "_law_caught" sCaught f fd) (FK : FnP K "_law_kinds_of" sKinds f1 fd1) (gK : mg "_law_kinds_of" = some (.ref f1)) (FI : FnP K "_law_is_other" sIsOther f2 fd2) (gI : mg "_law_is_other" = some (.ref f2)) (M : FrM P w K mg base) (T : FrE K mg)
    (xm : PySem.W.exmOne K (.ref (He.ga K "BadSome")) (.ref (He.ga K "ProofError")) = some true) : FnOk P w K mg base CX0 4 f fd ["x"] spCaught := by
  have MS := M.mx ("BadSome", "index") (by decide +kernel)
  have MP := M.mn "ProofError" (by decide +kernel)
  have GK : FnOk P w K mg base CX0 3 f1 fd1 ["e"] _ := (ok_kinds FK T).mono (by decide)
  have GX : FnX P w K mg base 1 f1 fd1 ["e"] _ := ok_kindsX FK T
  have bK : Binds K fd1 ["e"] [] := FK.bindsN fun _ _ _ _ _ _ us hl => match us, hl with | [_], _ => rfl
  have GI : FnOk P w K mg base CX0 3 f2 fd2 ["e"] _ := (ok_isOther FI T).mono (by decide)
  have bI : Binds K fd2 ["e"] [] := FI.bindsN fun _ _ _ _ _ _ us hl => match us, hl with | [_], _ => rfl
  refine F.ok scC (fun vs H Q E h => ?_) (fun cdv A outer s H vs Q E hr h => ?_)
  · obtain ⟨y, rfl, _⟩ := h
    rfl
  · have rs : RaisesK K (.ref (He.ga K "BadSome")) := fun M h k => ⟨PySem.W.looks_subIn k MS.kit.ec.ox.exC, PySem.W.looks_typeIn k MS.kit.ec.ox.tyC⟩
    refine ⟨_, PSs.nox (pss_cons (L2N.ps_try_as (i := 1) (c := .ref (He.ga K "ProofError")) (Wout := fun _ _ _ _ => False) (tb := fun W _ σ H1 => tMkV (He.ga K "BadSome") (spXI K "index") (tCons (tVar 0) tNil) σ H1 fun v H2 => ∃ a C d, v = .ref a ∧ H2 a = some (exo a C (some d)) ∧ Fr0 H a ∧ RaisesK K (.ref C) ∧ W (.ref C) (some d) σ (delH H2 a)) (ts := fun a cls d => tAsg (tKinds K a cls d) (gName 2)) rfl rfl scC.nd rfl rfl ⟨by rfl, by decide, .inl MP.gm⟩ (fun _ _ x => by
          obtain ⟨_, _, _, _, _, _, _, _, _, _, _, _, _, _, _, _, z⟩ := x
          exact z.elim)
        (fun W pn xe tk _ => pss_one (L2N.ps_raise rfl tk (pmk_val rfl (pe_mkX MS (hr.mono (by decide : 2 ≤ 3)) (by rfl) (pa_cons (pv 0) pa_nil)))))
        (fun a oe cls d pn hz hf => pss_one (ps_set (i := 2) scC.nd rfl (Or.inl rfl) (PE.imp (pe_callX (p := (a, oe)) GX (roomH_mark (hr.mono (by decide : 1 ≤ 3)) _) ⟨rfl, by
            obtain ⟨vs, e⟩ := hf
            exact ⟨vs, e, hz.2.2 vs e⟩⟩ (List.mem_cons_self ..) (by rfl) gK FK.kp bK (pa_cons (pv 1) pa_nil)) (by
              rintro σ H Q ⟨x, fs, dd, h1, h2, h3, h4, h5, h6⟩
              refine ⟨_, h1, x, rfl, ⟨dd, fs, h4, ⟨hz.1.trans h2, hz.2.1.trans h3⟩, h5, ?_⟩, h6⟩
              obtain ⟨vs, e⟩ := hf
              unfold PySem.W.notCls
              rw [e])))))
      (pss_cons (ps_set (i := 3) scC.nd rfl (Or.inl rfl) (pe_mk0 MP (by rfl)))
      (pss_one (ps_ret (pe_tup (pa_cons (pv 2) (pa_cons (pe_call GK hr (by rfl) gK FK.kp bK .nil pass0 (pa_cons (pv 3) pa_nil)) (pa_cons (pe_call GI hr (by rfl) gI FI.kp bI .nil pass0 (pa_cons (pv 3) pa_nil))
        (pa_cons (pe_callB call_isX (by rfl) T.isinstance (by decide +kernel) (pa_cons (pv 3) (pa_cons (pe_bltn (v := .ty "ValueError") (by rfl) T.valueError (by decide +kernel) rfl) pa_nil))) pa_nil))))))))), ?_⟩
    obtain ⟨y, rfl, q⟩ := h
    refine ⟨y, rfl, by show 1 ≤ 1000; decide, fun a ha => ⟨a, _, y, rfl, MS.kit.ec.ox, MS.no, upd_same, fun d hd ne => ⟨rfl, ?_⟩⟩⟩
    rw [upd_ne ne] at hd
    have k1 : Kp H (delH (upd (upd (upd H a (exo a (He.ga K "BadSome") none)) d (exd d [("index", y)])) a (exo a (He.ga K "BadSome") (some d))) a) := fun z o e => by
      have h1 : z ≠ a := ne_of_none e ha
      have h2 : z ≠ d := ne_of_none e hd
      rw [delH_ne h1, upd_ne h1, upd_ne h2, upd_ne h1]
      exact e
    have ed : (delH (upd (upd (upd H a (exo a (He.ga K "BadSome") none)) d (exd d [("index", y)])) a (exo a (He.ga K "BadSome") (some d))) a) d = some (exd d [("index", y)]) := by rw [delH_ne ne, upd_ne ne, upd_same]
    refine ⟨a, _, d, rfl, upd_same, fr0_none ha, rs, true, xm, fun _ b hb => ?_, fun z => nomatch z⟩
    generalize delH (upd (upd (upd H a (exo a (He.ga K "BadSome") none)) d (exd d [("index", y)])) a (exo a (He.ga K "BadSome") (some d))) a = H1 at k1 ed hb ⊢
    refine ⟨"BadSome", [("index", y)], d, rfl, rfl, rfl, MS.kit, ed, fun H2 r k2 hr2 d2 => ?_⟩
    intro p hp
    have k3 := Kp.new (o := exo p (He.ga K "ProofError") none) hp
    have E3 : ErN K "ProofError" (upd H2 p (exo p (He.ga K "ProofError") none)) p := ⟨none, [], MP.kit, upd_same, fun z hz => nomatch hz⟩
    have d3 := k3 _ _ d2
    refine ⟨_, rfl, _, rfl, p, "ProofError", rfl, E3, fun H4 r2 k4 hr4 d4 => ?_⟩
    refine ⟨_, rfl, p, "ProofError", rfl, E3.kpx k4.x, List.mem_append_right _ (List.mem_singleton.mpr rfl), fun H5 k5 => ?_⟩
    refine rdVE rfl (E3.kpx (k4.trans k5).x) ⟨by show 4 ≤ sizeLine; decide, fun t ht => ?_⟩
    have k6 := Kp.new (o := .tup [.ref r, .ref r2, .bl false, .bl true]) ht
    have e4 : kindsOf "BadSome" = [.int 4] := by decide +kernel
    rw [e4] at d3
    rw [kinds_other (x := "ProofError") (by decide +kernel)] at d4
    exact q _ t r r2 (k1.trans (k2.trans (k3.trans ((k4.trans k5).trans k6)))) upd_same (k6 _ _ (k5 _ _ (k4 _ _ d3))) (k6 _ _ (k5 _ _ d4))
end
end H89

set_option Elab.async false
set_option linter.all false
set_option maxRecDepth 100000
set_option maxHeartbeats 4000000
/-! The top of a law's text run in a few pieces: the state between two pieces is written out by a macro. -/
namespace Lay
open Lean PySem PySem.W PySem.Calls PyProof.Rows

/-! ### what is written out -/
def oneAt (n : Name) : Term := ⟨Syntax.node .none ``Lean.Parser.Term.explicit #[mkAtom "@", mkCIdent n]⟩
def numR (n : Nat) : Term := Unhygienic.run `(nat_lit $(Syntax.mkNumLit (toString n)))
def syn : Lean.Expr → List Term → Term
  | .app f a, as => syn f (syn a [] :: as)
  | .const n _, as =>
    let h : Term := if n == `P_ then mkIdent `P else oneAt n
    if as.isEmpty then h else Syntax.mkApp h as.toArray
  | .lit (.natVal n), _ => numR n
  | .lit (.strVal s), _ => Syntax.mkStrLit s
  | .mdata _ e, as => syn e as
  | _, _ => mkIdent `what_is_this
def pE : Lean.Expr := mkConst `P_
/-- where a def stands in the text -/
def memberAt (q : Str) (n : Str) : List Stmt → Nat → Option Nat
  | [], _ => none
  | .FunctionDef x .. :: r, j => if x == n then some j else memberAt q n r (j + 1)
  | _ :: r, j => memberAt q n r (j + 1)
def bodyOf : Stmt → List Stmt
  | .ClassDef _ _ _ b .. => b
  | _ => []
def placeOf (f : FuncData) : List Stmt → Nat → Option (Nat × Option Nat)
  | [], _ => none
  | .FunctionDef x .. :: r, i => if x == f.name && f.qualname == f.name then some (i, none) else placeOf f r (i + 1)
  | .ClassDef x _ _ b .. :: r, i => if f.qualname == x ++ "." ++ f.name then (match memberAt f.qualname f.name b 0 with
      | some j => some (i, some j)
      | none => placeOf f r (i + 1)) else placeOf f r (i + 1)
  | _ :: r, i => placeOf f r (i + 1)
def objT (p : Program) (o : Obj) : Term := match o.data with
  | .func f => (match placeOf f p.main.body 0 with
    | some (i, j) =>
      let n := Syntax.mkNumLit (toString i)
      let t : Term := match j with
        | none => Unhygienic.run `(($(mkIdent `top) $n))
        | some j => Unhygienic.run `((L2.inClass ($(mkIdent `top) $n) $(Syntax.mkNumLit (toString j))))
      let x (e : Lean.Expr) : Term := syn e []
      let fd : Term := Syntax.mkApp (oneAt ``FuncData.mk) #[x (toExpr f.name), x (toExpr f.qualname), Unhygienic.run `((L2.defArgs $t)), Unhygienic.run `((PySem.FuncBody.stmts (L2.defBody $t))), Unhygienic.run `((L2.defScope $t)),
        x (toExpr f.globals), x (toExpr f.closure), x (toExpr f.defaults), x (toExpr f.kwdefaults), x (toExpr f.doc), x (toExpr f.pyModule), x (toExpr f.annotations), x (toExpr f.code), x (toExpr f.closureTuple), x (toExpr f.builtins)]
      Syntax.mkApp (oneAt ``Obj.mk) #[x (toExpr o.cls), x (toExpr o.dict), Syntax.mkApp (oneAt ``Data.func) #[fd], x (toExpr o.slots)]
    | none => syn (objE pE o) [])
  | _ => syn (objE pE o) []

/-! ### the run, in the elaborator -/
structure Cut where
  at_ : Nat
  num : Nat
  steps : Nat
  s : Shared
  pos : Pos
structure Run where
  s0 : Shared
  n0 : Nat
  pre : Nat
  sa : Shared
  posA : Pos
  q : Pos
  code : Value
  frame : Addr
  block : Nat
  sb : Shared
  posB : Pos
  cuts : List Cut
  fin : Nat
  sf : Shared
def cutsOf (p : Program) (w : World) (n0 : Nat) (ann : Option Value) (env : Env) (code : Code) (B : List Frame) (N lim : Nat) : List Stmt → Nat → Cut → List Cut → Except String (List Cut)
  | [], _, g, out => .ok ((if g.num == 0 then out else g :: out).reverse)
  | st :: r, i, g, out => match segCount p w n0 ann N 0 g.s (pieceOf st env code g.pos B) with
    | .error m => .error m
    | .ok (k, s, ps) => if g.num == 0 || g.steps + k ≤ lim then cutsOf p w n0 ann env code B N lim r (i + 1) ⟨g.at_, g.num + 1, g.steps + k, s, ps⟩ out
      else cutsOf p w n0 ann env code B N lim r (i + 1) ⟨i, 1, k, s, ps⟩ (g :: out)
def runOf (p : Program) (k : Int) (N lim : Nat) : Except String Run := do
  let w := aWorld k
  let some s0 := fencedOpening table p w N | throw "the opening"
  let n0 := s0.heap.objs.size
  let ann := s0.heap.nsMap mainGlobals "__annotations__"
  let (k0, sa, ta) ← preCount p w n0 ann N 0 s0 (topStub p)
  let .body b env := ta.code | throw "no body"
  let [.ret _ _ _ _ _ q _] := ta.stack | throw "no frame"
  let some fr := env.frame | throw "no frame"
  let B := [topFrame q]
  let (kb, sb, pb) ← segCount p w n0 ann N 0 sa (blockOf b env ta.code ta.pos B)
  let cuts ← cutsOf p w n0 ann env ta.code B N lim b 0 ⟨0, 0, 0, sb, pb⟩ []
  let last := (cuts.getLast?.map fun c => (c.s, c.pos)).getD (sb, pb)
  let (kf, sf) ← finCount p w n0 ann 1000 0 last.1 ⟨doneF .next, ta.code, last.2, B⟩
  return ⟨s0, n0, k0, sa, ta.pos, q, env.code, fr, kb, sb, pb, cuts, kf, sf⟩

/-! ### the texts -/
abbrev Old := Array (Lean.Expr × Name)
def nm (stem : String) (k i : Nat) : Name := Name.mkSimple s!"{stem}{k}_{i}"
def treeT (os : Array Name) : Nat → Nat → Nat → Term
  | 0, _, _ => mkCIdent ``BT.nil
  | f + 1, a, b => match os[b]? with
    | some o => Syntax.mkApp (oneAt ``BT.node) #[Syntax.mkApp (mkIdent o) #[mkIdent `P], treeT os f (2 * a) (a + b), treeT os f (2 * a) (2 * a + b)]
    | none => mkCIdent ``BT.nil
def gensT (s : Shared) : Except String Term := if s.gens.all (fun g => match g with | .finished => true | _ => false) then
    .ok (s.gens.toList.foldr (fun _ (r : Term) => Unhygienic.run `(List.cons PySem.GenState.finished $r)) (Unhygienic.run `(List.nil)))
  else .error "a generator sleeps"
/-- one state: its new objects, its tree, the state itself -/
def layS (p : Program) (k : Nat) (old : Old) (s : Shared) : Except String (Old × Array Command) := do
  let mut out : Old := #[]
  let mut cs : Array Command := #[]
  for i in [0:s.heap.objs.size] do
    let o := s.heap.objs[i]!
    let e := objE pE o
    match old[i]? with
    | some (e', n) => if e' == e then out := out.push (e', n) else
        let n := nm "o" k i
        cs := cs.push (Unhygienic.run `(command| noncomputable def $(mkIdent n) ($(mkIdent `P) : PySem.Params) : PySem.Obj := $(objT p o)))
        out := out.push (e, n)
    | none =>
        let n := nm "o" k i
        cs := cs.push (Unhygienic.run `(command| noncomputable def $(mkIdent n) ($(mkIdent `P) : PySem.Params) : PySem.Obj := $(objT p o)))
        out := out.push (e, n)
  let tr := Name.mkSimple s!"tr{k}"
  cs := cs.push (Unhygienic.run `(command| noncomputable def $(mkIdent tr) ($(mkIdent `P) : PySem.Params) : PySem.W.BT := $(treeT (out.map (·.2)) 40 1 0)))
  let g ← gensT s
  let S := Name.mkSimple s!"S{k}"
  let L := Name.mkSimple s!"life{k}"
  cs := cs.push (Unhygienic.run `(command| noncomputable def $(mkIdent L) : PySem.Life := $(syn (toExpr s.heap.life) [])))
  cs := cs.push (Unhygienic.run `(command| noncomputable def $(mkIdent S) ($(mkIdent `w) : PySem.World) ($(mkIdent `os) : PySem.OsState) : PySem.W.SharedT :=
    ⟨$(mkIdent tr) (PySem.World.params $(mkIdent `w)), $(Syntax.mkNumLit (toString s.heap.objs.size)), $(mkIdent L), Array.mk $g, $(syn (toExpr s.drawn) []), $(Syntax.mkNumLit (toString s.toks)), $(mkIdent `os)⟩))
  return (out, cs)
/-- the boot's objects -/
def bootOld (s : Shared) : Old := s.heap.objs.mapIdx fun i o => (objE pE o, (`PySem.W).str s!"boot_o_{i}")
end Lay

/-! ### the pieces, in Lean -/
namespace Lay
open PySem PySem.W PySem.Calls PyProof.Rows HandSHeadRun
section
variable (st : SharedT → Thread → Option (SharedT × Thread)) (n0 : Nat) (ann : Option Value)
def segF (b : Nat) : Nat → SharedT → Thread → Option (Flow × SharedT × Code × Pos)
  | 0, _, _ => none
  | m + 1, s, t => match endAt b t with
    | some f => some (f, s, t.code, t.pos)
    | none => match stepOk n0 ann t with
      | false => none
      | true => match st s t with
        | some (s', t') => frS s' fun s' => segF b m s' t'
        | none => none
def preF : Nat → SharedT → Thread → Option (SharedT × Thread)
  | 0, s, t => some (s, t)
  | m + 1, s, t => match through t with
    | true => none
    | false => match stepOk n0 ann t with
      | false => none
      | true => match st s t with
        | some (s', t') => frS s' fun s' => preF m s' t'
        | none => none
end
section
variable {tb : String → Option Builtin} {p : Program} {w : World} {n0 : Nat} {ann : Option Value}
theorem segF_ok {b : Nat} : ∀ {m : Nat} {s : SharedT} {t : Thread} {r : Flow × SharedT × Code × Pos}, segF (stepT (denote tb) p w) n0 ann b m s t = some r → segRunT tb p w n0 ann b m s t = some r
  | 0, _, _, _, h => by cases h
  | m + 1, s, t, r, h => by
    unfold segF at h
    unfold segRunT
    cases he : endAt b t with
    | some x => rw [he] at h; exact h
    | none =>
      rw [he] at h
      cases hk : stepOk n0 ann t with
      | false => rw [hk] at h; cases h
      | true =>
        rw [hk] at h
        cases hs : stepT (denote tb) p w s t with
        | none => rw [hs] at h; cases h
        | some z =>
          obtain ⟨s2, t2⟩ := z
          rw [hs] at h
          have h2 : (frS s2 fun s' => segF (stepT (denote tb) p w) n0 ann b m s' t2) = some r := h
          rw [frS_eq] at h2
          exact segF_ok h2
theorem preF_ok : ∀ {m : Nat} {s s' : SharedT} {t t' : Thread}, preF (stepT (denote tb) p w) n0 ann m s t = some (s', t') → topGo tb p w n0 ann m s.abs t = some (s'.abs, t')
  | 0, _, _, _, _, h => by cases h; rfl
  | m + 1, s, s', t, t', h => by
    unfold preF at h
    unfold topGo
    cases ht : through t with
    | true => rw [ht] at h; cases h
    | false =>
      rw [ht] at h
      cases hk : stepOk n0 ann t with
      | false => rw [hk] at h; cases h
      | true =>
        rw [hk] at h
        cases hs : stepT (denote tb) p w s t with
        | none => rw [hs] at h; cases h
        | some z =>
          obtain ⟨s2, t2⟩ := z
          rw [hs] at h
          have h2 : (frS s2 fun s' => preF (stepT (denote tb) p w) n0 ann m s' t2) = some (s', t') := h
          rw [frS_eq] at h2
          show (match step (denote tb) p w s.abs t with
            | .go s' t' => topGo tb p w n0 ann m s' t'
            | .halt _ _ => none) = _
          rw [stepT_spec hs]
          exact preF_ok h2
end
/-- by the library's twins -/
noncomputable abbrev stQ (p : Program) (w : World) := stepQ (denQ tabQ) p w
theorem stQ_eq (p : Program) (w : World) : stQ p w = stepT (denote treeTable) p w := by
  unfold stQ
  rw [← stepQ_eq, ← denQ_eq, ← tabQ_eq]
abbrev codeT (p : Program) (env : Env) : Code := .body (behindTheImports p) env
section
variable {p : Program} {w : World} {n0 : Nat} {ann : Option Value} {env : Env} {q : Pos}
theorem run_pre {m N : Nat} {s s' : SharedT} {r : Shared} {pos : Pos} (h : preF (stQ p w) n0 ann m s (topStub p) = some (s', ⟨denQ tabQ (codeT p env), codeT p env, pos, [topFrame q]⟩))
    (k : topRun treeTable p w n0 ann N s'.abs ⟨denote treeTable (codeT p env), codeT p env, pos, [topFrame q]⟩ = some r) : topRun treeTable p w n0 ann (m + N) s.abs (topStub p) = some r := by
  rw [stQ_eq, ← denQ_eq, ← tabQ_eq] at h
  exact go_top (preF_ok h) k
theorem run_block {m N : Nat} {s s' : SharedT} {r : Shared} {pos pos' : Pos} (h : segF (stQ p w) n0 ann 1 m s (blockOf (behindTheImports p) env (codeT p env) pos [topFrame q]) = some (.next, s', codeT p env, pos'))
    (k : topRun treeTable p w n0 ann N s'.abs (restOf ((behindTheImports p).drop 0) env (codeT p env) pos' [topFrame q]) = some r) :
    topRun treeTable p w n0 ann (m + N) s.abs ⟨denote treeTable (codeT p env), codeT p env, pos, [topFrame q]⟩ = some r := by
  rw [stQ_eq] at h
  exact piece_block (segRun_of (segF_ok h)) k
theorem run_piece {m N a b : Nat} {s s' : SharedT} {r : Shared} {pos pos' : Pos} (h : segF (stQ p w) n0 ann 1 m s (piecesOf (((behindTheImports p).drop a).take b) env (codeT p env) pos [topFrame q]) = some (.next, s', codeT p env, pos'))
    (k : topRun treeTable p w n0 ann N s'.abs (restOf ((behindTheImports p).drop (a + b)) env (codeT p env) pos' [topFrame q]) = some r) :
    topRun treeTable p w n0 ann (m + N) s.abs (restOf ((behindTheImports p).drop a) env (codeT p env) pos [topFrame q]) = some r := by
  rw [stQ_eq] at h
  rw [← List.drop_drop] at k
  have e := piece_app (segRun_of (segF_ok h)) k
  rwa [List.take_append_drop] at e
theorem run_end {m a : Nat} {s s' : SharedT} {pos : Pos} (ha : (behindTheImports p).drop a = []) (h : goF (stQ p w) n0 ann m s ⟨doneF .next, codeT p env, pos, [topFrame q]⟩ = some s') :
    topRun treeTable p w n0 ann m s.abs (restOf ((behindTheImports p).drop a) env (codeT p env) pos [topFrame q]) = some s'.abs := by
  rw [ha]
  rw [stQ_eq] at h
  exact piece_nil (goF_ok h)
end
/-- a look at given addresses -/
def hookA (as : List Addr) (fa : List He.Fa) (fn : List He.DefD) (chk : Frag → Bool) : Hook where
  α := He.AlD
  obs := fun s => HkX.obsX fa fn chk (He.frG s.heap.get? as)
  val := fun _ => He.valD fn
  says := fun _ h => ∃ K : Frag, K.In h ∧ HkX.SaysX fa fn chk K
  of := fun _ _ e => ⟨_, He.frG_in, e⟩
  keeps := fun _ _ _ ⟨K, hK, c⟩ k => ⟨K, Frag.In.keeps hK k, c⟩
/-- the look off the tree -/
def lookT (as : List Addr) (s : SharedT) : Frag := He.frG (getT s) as
theorem lookT_eq (as : List Addr) (s : SharedT) : He.frG s.abs.heap.get? as = lookT as s := by
  unfold lookT
  rw [show getT s = s.abs.heap.get? from funext fun a => getT_eq s a]
/-- the head out of the pieces -/
theorem head_cut {r : OpenRow} {q : Program} {loose : List Str} {H : Hook} {d : DefRec} {kwd : List (Str × PySem.Expr)} {T : Params → BT} {n : Nat} {life : Life} {gs : Array GenState} {dr : Drawn} {tk m0 M : Nat} {ann : Option Value}
    (e : opening r.prog = plainProg r.prog.main.scope.names) (f : ∀ s, fenceModules? r.prog s = some s)
    (size : ∀ w : World, ((boot_heap w.params).objs.size, bootAnn w) = (m0, ann))
    (run : ∀ (w : World) (os : OsState), topRun treeTable r.prog w m0 ann M ⟨boot_heap w.params, Array.mk [], boot_drawn, boot_toks, os⟩ (topStub r.prog) = some (SharedT.mk (T w.params) n life gs dr tk os).abs)
    (l1 : ∀ (w : World) (os : OsState), looksF r.prog (boot_heap w.params) (SharedT.mk (T w.params) n life gs dr tk os).abs = true)
    (l2 : ∀ (w : World) (os : OsState), seenQ q loose (importedModules r.prog.main.body) (fun s => xlAt q [] s && recOk r.toRowW.records s) (SharedT.mk (T w.params) n life gs dr tk os).abs = openGood q loose)
    (l3 : ∀ (w : World) (os : OsState), H.obs (SharedT.mk (T w.params) n life gs dr tk os).abs = H.val w)
    (hdef : defOf q r.name = some (d, kwd)) (hp : r.prog.theDef r.name = some (d.params, d.body, d.scope)) (hk : kwWritten? d.params.kwonlyargs d.params.kw_defaults = some kwd)
    (hwr : (!r.writes || r.records.isEmpty) = true) (k1 : r.wellSaid = true) (ok : (chainsOk q && opensWell r.prog && (frees r.toRowW && r.within.isEmpty)) = true) (hb : r.prog.bare) (hw : r.toRowW.promised)
    (call : WalkO q loose (XL q []) H.says r.toRowW d kwd fun f vs => PySem.call f vs) : r.Holds := by
  have left : LeftO r.prog q loose (fun s => xlAt q [] s && recOk r.toRowW.records s) H.obs H.val (M + 600) true :=
    LeftO.of_pieces (H₀ := boot_heap) (H₁ := fun P => absHeap (T P) n life) (gs₀ := Array.mk []) (gs₁ := gs) (d₀ := boot_drawn) (d₁ := dr) (k₀ := boot_toks) (k₁ := tk) (m₀ := m0) (ann := ann) (M := M)
      (boot_open e (Nat.ble_eq_true_of_le (by omega)) f)
      (fun w => by
        obtain ⟨a, b⟩ := Prod.mk.inj (size w)
        rw [boot_ns, a]
        exact congrArg (fun z => (true, m0, z)) b)
      run (Nat.ble_eq_true_of_le (by omega))
      (fun w => funext fun os => by
        have z1 := l1 w os
        have z2 := l2 w os
        have z3 := l3 w os
        rw [← seenQ_eq] at z2
        exact looks_pair z1 (looks_pair z2 z3))
  exact holds_open (r := r) (q := q) (loose := loose) (XP := XL q []) (YP := H.says) (d := d) (kwd := kwd) left H.of H.keeps (fun s z => xl_of s (Bool.and_eq_true_iff.mp z).1) XL.keeps hdef hp hk (fun s z => recFacts_of (Bool.and_eq_true_iff.mp z).2) hwr k1 ok hb hw call
end Lay

/-! ### the whole, by a macro -/
namespace Lay
open Lean PySem PySem.W PySem.Calls PyProof.Rows
def numT (n : Nat) : Term := Syntax.mkNumLit (toString n)
def idt (s : String) : Ident := mkIdent (Name.mkSimple s)
/-- asks: the pieces that ask the world's row -/
def layAll (pw : Name) (p : Program) (N lim : Nat) (row : String) (asks : List Nat) : Except String (Array Command) := do
  let r ← runOf p 1 N lim
  let P : Term := mkCIdent pw
  let w : Ident := mkIdent `w
  let os : Ident := mkIdent `os
  let n0 := numT r.n0
  let ann := syn (toExpr (r.s0.heap.nsMap mainGlobals "__annotations__")) []
  let mut cs : Array Command := #[]
  let hd (l : Nat) : Command := Unhygienic.run `(command| def $(idt "lay_steps") : List Nat := $(syn (toExpr (r.pre :: r.block :: r.fin :: l :: r.cuts.map (·.steps))) []))
  cs := cs.push (hd r.sf.heap.objs.size)
  cs := cs.push (Unhygienic.run `(command| noncomputable def $(idt "envE") : PySem.Env := { scope := PySem.Module.scope (PySem.Program.main $P), locals := PySem.mainNs, globals := PySem.mainNs, cells := [], code := $(syn (toExpr r.code) []), frame := some $(numT r.frame) }))
  cs := cs.push (Unhygienic.run `(command| noncomputable def $(idt "posQ") : PySem.Pos := $(syn (toExpr r.q) [])))
  let E := idt "envE"
  let C : Term := Unhygienic.run `((Lay.codeT $P $E))
  let B : Term := Unhygienic.run `(([PySem.W.topFrame $(idt "posQ")] : List PySem.Frame))
  let (o0, c0) ← layS p 0 (bootOld r.s0) r.s0
  let (oa, ca) ← layS p 1 o0 r.sa
  let (ob, cb) ← layS p 2 oa r.sb
  cs := cs ++ c0 ++ ca ++ cb
  let thm (nm : String) (k : Nat) (l rr : Term) : Command :=
    if asks.contains k then Unhygienic.run `(command| theorem $(idt nm) ($w : PySem.World) : ∀ $os : PySem.OsState, $l = $rr := PySem.W.byRow2 $(Syntax.mkStrLit row) (P := fun $w => ∀ $os : PySem.OsState, $l = $rr) (by intro w os; kernel_rfl) (by intro w os; kernel_rfl) $w)
    else Unhygienic.run `(command| theorem $(idt nm) ($w : PySem.World) ($os : PySem.OsState) : $l = $rr := by kernel_rfl)
  let S (k : Nat) : Term := Unhygienic.run `(($(idt s!"S{k}") $w $os))
  cs := cs.push (thm "pc_boot" 0 (Unhygienic.run `((PySem.W.SharedT.abs $(S 0)))) (Unhygienic.run `((PySem.Shared.mk (PySem.W.boot_heap (PySem.World.params $w)) (Array.mk []) PySem.W.boot_drawn PySem.W.boot_toks $os))))
  cs := cs.push (thm "pc_pre" 1 (Unhygienic.run `((Lay.preF (Lay.stQ $P $w) $n0 $ann $(numT r.pre) $(S 0) (PySem.W.topStub $P))))
    (Unhygienic.run `((some ($(S 1), PySem.Thread.mk (HandSHeadRun.denQ HandSHeadRun.tabQ $C) $C $(syn (toExpr r.posA) []) $B)))))
  let seg (fuel : Nat) (s : Term) (t : Term) : Term := Unhygienic.run `((Lay.segF (Lay.stQ $P $w) $n0 $ann 1 $(numT fuel) $s $t))
  let res (s : Term) (pos : Pos) : Term := Unhygienic.run `((some (PySem.Flow.next, $s, $C, $(syn (toExpr pos) []))))
  cs := cs.push (thm "pc_block" 2 (seg (r.block + 5) (S 1) (Unhygienic.run `((PySem.W.blockOf (PySem.W.behindTheImports $P) $E $C $(syn (toExpr r.posA) []) $B)))) (res (S 2) r.posB))
  let mut old := ob
  let mut k := 3
  let mut pos := r.posB
  let mut lems : List (Nat × Nat × Nat) := []
  for c in r.cuts do
    let (o, cc) ← layS p k old c.s
    cs := cs ++ cc
    cs := cs.push (thm s!"pc_{k}" k (seg (c.steps + c.num + 5) (S (k - 1)) (Unhygienic.run `((PySem.W.piecesOf (List.take $(numT c.num) (List.drop $(numT c.at_) (PySem.W.behindTheImports $P))) $E $C $(syn (toExpr pos) []) $B)))) (res (S k) c.pos))
    lems := (k, c.at_, c.num) :: lems
    old := o
    pos := c.pos
    k := k + 1
  let (_, cf) ← layS p k old r.sf
  cs := cs ++ cf
  cs := cs.push (thm "pc_fin" k (Unhygienic.run `((HandSHeadRun.goF (Lay.stQ $P $w) $n0 $ann $(numT (r.fin + 5)) $(S (k - 1)) (PySem.Thread.mk (PySem.W.doneF PySem.Flow.next) $C $(syn (toExpr pos) []) $B)))) (Unhygienic.run `((some $(S k)))))
  let last := r.cuts.foldl (fun a c => a + c.num) 0
  cs := cs.push (Unhygienic.run `(command| theorem $(idt "pc_nil") : List.drop $(numT last) (PySem.W.behindTheImports $P) = [] := by kernel_rfl))
  let mut t : Term := Unhygienic.run `((Lay.run_end $(idt "pc_nil") ($(idt "pc_fin") $w $os)))
  for (kk, a, b) in lems do
    t := Unhygienic.run `((Lay.run_piece (a := $(numT a)) (b := $(numT b)) ($(idt s!"pc_{kk}") $w $os) $t))
  t := Unhygienic.run `((Lay.run_pre ($(idt "pc_pre") $w $os) (Lay.run_block ($(idt "pc_block") $w $os) $t)))
  let mut M : Term := numT (r.fin + 5)
  for c in r.cuts.reverse do M := Unhygienic.run `(($(numT (c.steps + c.num + 5)) + $M))
  M := Unhygienic.run `(($(numT r.pre) + ($(numT (r.block + 5)) + $M)))
  cs := cs.push (Unhygienic.run `(command| def $(idt "lay_M") : Nat := $M))
  cs := cs.push (Unhygienic.run `(command| theorem $(idt "pc_all") ($w : PySem.World) ($os : PySem.OsState) : PySem.W.topRun PySem.treeTable $P $w $n0 $ann $(idt "lay_M") (PySem.Shared.mk (PySem.W.boot_heap (PySem.World.params $w)) (Array.mk []) PySem.W.boot_drawn PySem.W.boot_toks $os) (PySem.W.topStub $P) = some (PySem.W.SharedT.abs $(S k)) := by
    rw [← $(idt "pc_boot") $w $os]
    exact $t))
  cs := cs.push (Unhygienic.run `(command| noncomputable abbrev $(idt "SF") ($w : PySem.World) ($os : PySem.OsState) : PySem.W.SharedT := $(S k)))
  return cs
/-- the addresses that a look may want -/
def addrs (p : Program) (N n : Nat) : Except String (List Addr) := do
  let r ← runOf p 1 N 100000
  return He.asD (fun a => r.sf.heap.get? a) n
end Lay

set_option Elab.async false
set_option linter.all false
set_option maxRecDepth 100000
set_option maxHeartbeats 0
namespace H89
open PySem
open Lean in
local macro_rules
  | `(command| #check $t:term) => do
    match t.raw.isStrLit? with
    | some "lay" => match Lay.layAll ``PySem.Challenge.pw_tiedproofs_k95_errors_of_what_is_asked PySem.Challenge.pw_tiedproofs_k95_errors_of_what_is_asked 40000 2000 "" [] with
      | .ok cs => return mkNullNode (cs.map (·.raw))
      | .error m => Macro.throwError m
    | _ => Macro.throwUnsupported
#check "lay"
end H89

set_option Elab.async false
set_option linter.all false
set_option maxRecDepth 100000
set_option maxHeartbeats 0
namespace H89
open PySem PySem.Spec PyProof.Rows L2
abbrev rowL : PySem.W.OpenLaw := PySem.Challenge.rw_tiedproofs_k95_errors_of_what_is_asked
def mkD (at_ : Str × Option Str) (n q : Str) (s : Stmt) : He.DefD := ⟨at_, n, q, defArgs s, defBody s, defScope s, [], []⟩
def fnF0 : List He.DefD := [mkD ("_law_start", none) "_law_start" "_law_start" (top 54), mkD ("_law_pick", none) "_law_pick" "_law_pick" (top 55), mkD ("_law_between", none) "_law_between" "_law_between" (top 56), mkD ("_law_same", none) "_law_same" "_law_same" (top 57), mkD ("_law_kinds_of", none) "_law_kinds_of" "_law_kinds_of" (top 58), mkD ("_law_others", none) "_law_others" "_law_others" (top 59), mkD ("_law_is_other", none) "_law_is_other" "_law_is_other" (top 60), mkD ("_law_made_a", none) "_law_made_a" "_law_made_a" (top 61), mkD ("_law_made_b", none) "_law_made_b" "_law_made_b" (top 62), mkD ("_law_made_at", none) "_law_made_at" "_law_made_at" (top 63), mkD ("_law_object", none) "_law_object" "_law_object" (top 64), mkD ("_law_very", none) "_law_very" "_law_very" (top 65), mkD ("_law_caught", none) "_law_caught" "_law_caught" (top 66), mkD ("law", none) "law" "law" (top 67)]
def fnF : List He.DefD := fnF0
def fnC0 : List He.DefD := [mkD ("BadOther", some "__init__") "__init__" "BadOther.__init__" (inClass (top 2) 0), mkD ("BadSwitching", some "__init__") "__init__" "BadSwitching.__init__" (inClass (top 3) 0), mkD ("BadProof", some "__init__") "__init__" "BadProof.__init__" (inClass (top 4) 0), mkD ("NoProof", some "__init__") "__init__" "NoProof.__init__" (inClass (top 5) 0), mkD ("BadLast", some "__init__") "__init__" "BadLast.__init__" (inClass (top 6) 0), mkD ("BadNet", some "__init__") "__init__" "BadNet.__init__" (inClass (top 7) 0), mkD ("NotSplitting", some "__init__") "__init__" "NotSplitting.__init__" (inClass (top 8) 0), mkD ("BadCuts", some "__init__") "__init__" "BadCuts.__init__" (inClass (top 9) 0), mkD ("BadStart", some "__init__") "__init__" "BadStart.__init__" (inClass (top 10) 0), mkD ("BadAnswer", some "__init__") "__init__" "BadAnswer.__init__" (inClass (top 11) 0), mkD ("BadWholeText", some "__init__") "__init__" "BadWholeText.__init__" (inClass (top 12) 0), mkD ("BadGoal", some "__init__") "__init__" "BadGoal.__init__" (inClass (top 13) 0), mkD ("BadRing", some "__init__") "__init__" "BadRing.__init__" (inClass (top 14) 0), mkD ("BadMatching", some "__init__") "__init__" "BadMatching.__init__" (inClass (top 15) 0), mkD ("BadMix", some "__init__") "__init__" "BadMix.__init__" (inClass (top 17) 0), mkD ("HasRing", some "__init__") "__init__" "HasRing.__init__" (inClass (top 18) 0), mkD ("BadPlaces", some "__init__") "__init__" "BadPlaces.__init__" (inClass (top 19) 0), mkD ("BadPrices", some "__init__") "__init__" "BadPrices.__init__" (inClass (top 20) 0), mkD ("BadSome", some "__init__") "__init__" "BadSome.__init__" (inClass (top 21) 0), mkD ("BadTyings", some "__init__") "__init__" "BadTyings.__init__" (inClass (top 22) 0)]
def fnC1 : List He.DefD := [mkD ("BadStrategy", some "__init__") "__init__" "BadStrategy.__init__" (inClass (top 23) 0), mkD ("BadEdit", some "__init__") "__init__" "BadEdit.__init__" (inClass (top 24) 0), mkD ("BadDesk", some "__init__") "__init__" "BadDesk.__init__" (inClass (top 25) 0), mkD ("BadDeskText", some "__init__") "__init__" "BadDeskText.__init__" (inClass (top 26) 0), mkD ("BadFormula", some "__init__") "__init__" "BadFormula.__init__" (inClass (top 30) 0), mkD ("BadPart", some "__init__") "__init__" "BadPart.__init__" (inClass (top 31) 0), mkD ("BadSequent", some "__init__") "__init__" "BadSequent.__init__" (inClass (top 32) 0), mkD ("BadPlace", some "__init__") "__init__" "BadPlace.__init__" (inClass (top 33) 0), mkD ("BadTies", some "__init__") "__init__" "BadTies.__init__" (inClass (top 34) 0), mkD ("BadFormulaText", some "__init__") "__init__" "BadFormulaText.__init__" (inClass (top 35) 0), mkD ("BadSequentText", some "__init__") "__init__" "BadSequentText.__init__" (inClass (top 36) 0), mkD ("BadTyingText", some "__init__") "__init__" "BadTyingText.__init__" (inClass (top 37) 0), mkD ("BadIndex", some "__init__") "__init__" "BadIndex.__init__" (inClass (top 38) 0), mkD ("NotElse", some "__init__") "__init__" "NotElse.__init__" (inClass (top 39) 0), mkD ("BadMoves", some "__init__") "__init__" "BadMoves.__init__" (inClass (top 40) 0), mkD ("BadWords", some "__init__") "__init__" "BadWords.__init__" (inClass (top 41) 0), mkD ("BadMany", some "__init__") "__init__" "BadMany.__init__" (inClass (top 42) 0), mkD ("BadNumber", some "__init__") "__init__" "BadNumber.__init__" (inClass (top 43) 0), mkD ("BadTold", some "__init__") "__init__" "BadTold.__init__" (inClass (top 44) 0), mkD ("BadOrder", some "__init__") "__init__" "BadOrder.__init__" (inClass (top 45) 0)]
def fnC2 : List He.DefD := [mkD ("NotParted", some "__init__") "__init__" "NotParted.__init__" (inClass (top 46) 0), mkD ("BadValues", some "__init__") "__init__" "BadValues.__init__" (inClass (top 47) 0), mkD ("BadOthers", some "__init__") "__init__" "BadOthers.__init__" (inClass (top 48) 0), mkD ("BadMore", some "__init__") "__init__" "BadMore.__init__" (inClass (top 49) 0), mkD ("NotTurned", some "__init__") "__init__" "NotTurned.__init__" (inClass (top 50) 0), mkD ("NothingLeft", some "__init__") "__init__" "NothingLeft.__init__" (inClass (top 51) 0), mkD ("BadPlaceOf", some "__init__") "__init__" "BadPlaceOf.__init__" (inClass (top 52) 0)]
def fnC : List He.DefD := fnC0 ++ fnC1 ++ fnC2
def fn : List He.DefD := fnF ++ fnC
def loose0 : List Str := ["ProofError", "BadOther", "BadSwitching", "BadProof", "NoProof", "BadLast", "BadNet", "NotSplitting", "BadCuts", "BadStart", "BadAnswer", "BadWholeText", "BadGoal", "BadRing", "BadMatching", "BadMix", "HasRing", "BadPlaces", "BadPrices", "BadSome"]
def loose1 : List Str := ["BadTyings", "BadStrategy", "BadEdit", "BadDesk", "BadDeskText", "NothingToUndo", "NothingToRedo", "BadFormula", "BadPart", "BadSequent", "BadPlace", "BadTies", "BadFormulaText", "BadSequentText", "BadTyingText", "BadIndex", "NotElse", "BadMoves", "BadWords", "BadMany"]
def loose2 : List Str := ["BadNumber", "BadTold", "BadOrder", "NotParted", "BadValues", "BadOthers", "BadMore", "NotTurned", "NothingLeft", "BadPlaceOf", "_law_start", "_law_pick", "_law_between", "_law_same", "_law_kinds_of", "_law_others", "_law_is_other", "_law_made_a", "_law_made_b", "_law_made_at"]
def loose3 : List Str := ["_law_object", "_law_very", "_law_caught"]
def loose : List Str := loose0 ++ loose1 ++ loose2 ++ loose3
def lawIx : Nat := 67
def freesL0 : List Str := ["IndexError", "KeyError", "TypeError", "ValueError", "abs", "all", "bool", "dict", "int", "isinstance", "len", "list", "max", "range", "str", "tuple", "zip"]
def freesL : List Str := freesL0
def gloL0 : List Str := ["_law_start", "_law_pick", "_law_between", "_law_same", "_law_kinds_of", "_law_others", "_law_is_other", "_law_made_a", "_law_made_b", "_law_made_at", "_law_object", "_law_very", "_law_caught", "law", "ProofError", "BadOther", "BadSwitching", "BadProof", "NoProof", "BadLast"]
def gloL1 : List Str := ["BadNet", "NotSplitting", "BadCuts", "BadStart", "BadAnswer", "BadWholeText", "BadGoal", "BadRing", "BadMatching", "BadMix", "HasRing", "BadPlaces", "BadPrices", "BadSome", "BadTyings", "BadStrategy", "BadEdit", "BadDesk", "BadDeskText", "NothingToUndo"]
def gloL2 : List Str := ["NothingToRedo", "BadFormula", "BadPart", "BadSequent", "BadPlace", "BadTies", "BadFormulaText", "BadSequentText", "BadTyingText", "BadIndex", "NotElse", "BadMoves", "BadWords", "BadMany", "BadNumber", "BadTold", "BadOrder", "NotParted", "BadValues", "BadOthers"]
def gloL3 : List Str := ["BadMore", "NotTurned", "NothingLeft", "BadPlaceOf"]
def gloL : List Str := gloL0 ++ gloL1 ++ gloL2 ++ gloL3
def fa : List He.Fa := gloL.map He.Fa.glo ++ freesL.map He.Fa.free
def chkX (K : PySem.W.Frag) (q : Str × Str) : Bool := decide (PySem.W.findIn K (.ref (He.ga K q.1)) q.2 = some none) && (decide (PySem.W.findIn K (.ref (He.ga K q.1)) "__init__" = some (some (.ref (He.ma K (He.ga K q.1) "__init__")))) &&
  decide (PySem.W.typeIn K (.ref (He.ma K (He.ga K q.1) "__init__")) = some (.type "function")))
def chkN (K : PySem.W.Frag) (x : Str) : Bool := PySem.W.excIn K (He.ga K x) He.veBase "ValueError.__new__"
def kitB2 (K : PySem.W.Frag) (C D : Addr) (b : Bool) : Bool := decide (PySem.W.kitOne K (.ref C) (.ref D) = some b)
def chkK (K : PySem.W.Frag) (x : Str) : Bool := ecB K (He.ga K x) && (decide (PySem.W.kitOne K (.ref (He.ga K x)) (.type "ValueError") = some true) && (kitB2 K (He.ga K x) (He.ga K "ProofError") true &&
  mine.all fun y => kitB2 K (He.ga K x) (He.ga K y) (x == y)))
def chkP (K : PySem.W.Frag) (x : Str) : Bool := (["KeyError", "IndexError", "TypeError"] : List String).all fun y => decide (PySem.W.kitOne K (.ref (He.ga K x)) (.type y) = some false)
def chkM (K : PySem.W.Frag) : Bool := decide (PySem.W.exmOne K (.ref (He.ga K "BadSome")) (.ref (He.ga K "ProofError")) = some true)
def chkO (K : PySem.W.Frag) (x : Str) : Bool := others.all fun y => kitB2 K (He.ga K x) (He.ga K y) false
def chk (K : PySem.W.Frag) : Bool := withF.all (chkX K) && (withN.all (chkN K) && (every.all (chkK K) && (asked.all (chkO K) && (mine.all (chkP K) && chkM K))))
abbrev R : PySem.W.OpenRow := PySem.W.OpenLaw.row rowL
open Lean in
local macro_rules
  | `(command| #check $t:term) => do
    match t.raw.isStrLit? with
    | some "addrs" => match Lay.addrs PySem.Challenge.pw_tiedproofs_k95_errors_of_what_is_asked 40000 5 with
      | .ok l => `(command| def $(mkIdent `layAs) : List Nat := $(Lay.syn (toExpr l) []))
      | .error m => Macro.throwError m
    | _ => Macro.throwUnsupported
#check "addrs"
end H89
namespace H89
open PySem PySem.W PySem.Calls PyProof.Rows L2
abbrev pw : Program := PySem.Challenge.pw_tiedproofs_k95_errors_of_what_is_asked
abbrev qv : Program := view pw [lawIx]
abbrev hk : Hook := Lay.hookA layAs fa fn chk
theorem lk1 (w : World) (os : OsState) : HandSHeadRun.looksF pw (boot_heap w.params) (SF w os).abs = true := by kernel_rfl
theorem lk2 (w : World) (os : OsState) : HandSHeadRun.seenQ qv loose (importedModules pw.main.body) (fun s => xlAt qv [] s && recOk R.toRowW.records s) (SF w os).abs = openGood qv loose := by kernel_rfl
theorem lk3 (w : World) (os : OsState) : hk.obs (SF w os).abs = hk.val w := by
  show HkX.obsX fa fn chk (He.frG (SF w os).abs.heap.get? layAs) = He.valD fn
  rw [Lay.lookT_eq]
  kernel_rfl
end H89
namespace H89
open PySem PySem.Spec PyProof.Rows L2
theorem bindsKw {K : PySem.W.Frag} {x qual nm : Str} {params : Arguments} {body : List Stmt} {scope : Scope} {f : Addr} {fd : FuncData} {ps : List Str} (F : FunD K x qual params body scope [] [] f fd)
    (h : ∀ (kV doc pm : Value) (an : Option Addr) (cdv ct self v : Value), bindArgs (PySem.W.fnOf x qual params body scope .none kV doc pm an cdv ct) ⟨[self], [(nm, v)]⟩ = pure (ps.zip [self, v])) (s : Shared) (self v : Value) : BindsTo s fd ⟨[self], [(nm, v)]⟩ (ps.zip [self, v]) := by
  obtain ⟨oc, od, dV, kV, doc, pm, an, cdv, ct, osl, rfl, lk, hcd, hD, hK⟩ := F.ex
  rcases hD with ⟨_, rfl⟩ | ⟨e, _⟩
  · exact .of_eq (h kV doc pm an cdv ct self v)
  · exact absurd rfl e
section
variable {P : Program} {w : World} {K : PySem.W.Frag} {mg : Str → Option Value} {base h : Heap}
theorem kit_of (c : HkX.SaysX fa fn chk K) {x : Str} (m : x ∈ every) : Kit K x := by
  have a := c.all.2.2
  simp only [chk, Bool.and_eq_true, List.all_eq_true] at a
  obtain ⟨_, _, a3, a4, _, _⟩ := a
  have b := a3 x m
  simp only [chkK, kitB2, Bool.and_eq_true, List.all_eq_true, decide_eq_true_eq] at b
  obtain ⟨b1, b2, b3, b4⟩ := b
  refine ⟨ecB_ok b1, b3, b2, b4, fun hx y hy => ?_⟩
  have d := a4 x hx
  simp only [chkO, kitB2, List.all_eq_true, decide_eq_true_eq] at d
  exact d y hy
theorem mkX_of (X : K.In h) (G : h.Ns mainGlobals mg) (c : HkX.SaysX fa fn chk K) {x f qual : Str} {args : Arguments} {p1 p2 p3 p4 : Pos} {sc : Scope} {fd : FuncData} (m : (x, f) ∈ withF) (mg_ : x ∈ gloL) (me : x ∈ every)
    (F : FunD K "__init__" qual args [.Assign [.Attribute (.Name "self" p1) f p2] (.Name f p3) p4] sc [] [] (He.ma K (He.ga K x) "__init__") fd) (S : FnScope ["self", f] ["self", f] sc) (hf : (f == ("__debug__" : Str)) = false) (hf2 : (f == ("__classdict__" : Str)) = false)
    (b1 : ∀ (kV doc pm : Value) (an : Option Addr) (cdv ct : Value) (us : List Value), us.length = 2 → bindArgs (PySem.W.fnOf "__init__" qual args [.Assign [.Attribute (.Name "self" p1) f p2] (.Name f p3) p4] sc .none kV doc pm an cdv ct) ⟨us, []⟩ = pure ((["self", f] : List Str).zip us))
    (b2 : ∀ (kV doc pm : Value) (an : Option Addr) (cdv ct self v : Value), bindArgs (PySem.W.fnOf "__init__" qual args [.Assign [.Attribute (.Name "self" p1) f p2] (.Name f p3) p4] sc .none kV doc pm an cdv ct) ⟨[self], [(f, v)]⟩ = pure ((["self", f] : List Str).zip [self, v])) :
    MkX P w K mg base x f := by
  have a := c.all.2.2
  simp only [chk, Bool.and_eq_true, List.all_eq_true] at a
  have b := a.1 (x, f) m
  simp only [chkX, Bool.and_eq_true, decide_eq_true_eq] at b
  obtain ⟨e1, e2, e3⟩ := b
  refine ⟨kit_of c me, e1, He.glo_ok X G (c.fact (f := .glo x) ?_), _, fd, e2, e3, ok_xinit F S hf hf2, F.bindsN b1, fun s' self v _ => bindsKw F b2 s' self v⟩
  exact List.mem_append_left _ (List.mem_map_of_mem mg_)
theorem all_nil {α : Type} {Pr : α → Prop} : ∀ x ∈ ([] : List α), Pr x := fun _ m => nomatch m
theorem all_cons {α : Type} {Pr : α → Prop} {a : α} {l : List α} (h : Pr a) (t : ∀ x ∈ l, Pr x) : ∀ x ∈ a :: l, Pr x := fun x m => by
  rcases List.mem_cons.mp m with rfl | m
  · exact h
  · exact t x m
theorem mk_BadOther (X : K.In h) (G : h.Ns mainGlobals mg) (c : HkX.SaysX fa fn chk K) : MkX P w K mg base "BadOther" "other" := by
  obtain ⟨fd, F⟩ := c.def_ 14 (d := mkD ("BadOther", some "__init__") "__init__" "BadOther.__init__" (inClass (top 2) 0)) rfl
  exact mkX_of X G c (by decide +kernel) (by decide +kernel) (by decide +kernel) F ⟨rfl, rfl, rfl, by decide +kernel, rfl, by decide +kernel, by decide +kernel⟩ (by decide +kernel) (by decide +kernel) (fun _ _ _ _ _ _ us hl => match us, hl with | [_, _], _ => rfl) (fun _ _ _ _ _ _ _ _ => rfl)
theorem mk_BadSwitching (X : K.In h) (G : h.Ns mainGlobals mg) (c : HkX.SaysX fa fn chk K) : MkX P w K mg base "BadSwitching" "switching" := by
  obtain ⟨fd, F⟩ := c.def_ 15 (d := mkD ("BadSwitching", some "__init__") "__init__" "BadSwitching.__init__" (inClass (top 3) 0)) rfl
  exact mkX_of X G c (by decide +kernel) (by decide +kernel) (by decide +kernel) F ⟨rfl, rfl, rfl, by decide +kernel, rfl, by decide +kernel, by decide +kernel⟩ (by decide +kernel) (by decide +kernel) (fun _ _ _ _ _ _ us hl => match us, hl with | [_, _], _ => rfl) (fun _ _ _ _ _ _ _ _ => rfl)
theorem mk_BadProof (X : K.In h) (G : h.Ns mainGlobals mg) (c : HkX.SaysX fa fn chk K) : MkX P w K mg base "BadProof" "proof" := by
  obtain ⟨fd, F⟩ := c.def_ 16 (d := mkD ("BadProof", some "__init__") "__init__" "BadProof.__init__" (inClass (top 4) 0)) rfl
  exact mkX_of X G c (by decide +kernel) (by decide +kernel) (by decide +kernel) F ⟨rfl, rfl, rfl, by decide +kernel, rfl, by decide +kernel, by decide +kernel⟩ (by decide +kernel) (by decide +kernel) (fun _ _ _ _ _ _ us hl => match us, hl with | [_, _], _ => rfl) (fun _ _ _ _ _ _ _ _ => rfl)
theorem mk_NoProof (X : K.In h) (G : h.Ns mainGlobals mg) (c : HkX.SaysX fa fn chk K) : MkX P w K mg base "NoProof" "ties" := by
  obtain ⟨fd, F⟩ := c.def_ 17 (d := mkD ("NoProof", some "__init__") "__init__" "NoProof.__init__" (inClass (top 5) 0)) rfl
  exact mkX_of X G c (by decide +kernel) (by decide +kernel) (by decide +kernel) F ⟨rfl, rfl, rfl, by decide +kernel, rfl, by decide +kernel, by decide +kernel⟩ (by decide +kernel) (by decide +kernel) (fun _ _ _ _ _ _ us hl => match us, hl with | [_, _], _ => rfl) (fun _ _ _ _ _ _ _ _ => rfl)
theorem mk_BadLast (X : K.In h) (G : h.Ns mainGlobals mg) (c : HkX.SaysX fa fn chk K) : MkX P w K mg base "BadLast" "place" := by
  obtain ⟨fd, F⟩ := c.def_ 18 (d := mkD ("BadLast", some "__init__") "__init__" "BadLast.__init__" (inClass (top 6) 0)) rfl
  exact mkX_of X G c (by decide +kernel) (by decide +kernel) (by decide +kernel) F ⟨rfl, rfl, rfl, by decide +kernel, rfl, by decide +kernel, by decide +kernel⟩ (by decide +kernel) (by decide +kernel) (fun _ _ _ _ _ _ us hl => match us, hl with | [_, _], _ => rfl) (fun _ _ _ _ _ _ _ _ => rfl)
theorem mk_BadNet (X : K.In h) (G : h.Ns mainGlobals mg) (c : HkX.SaysX fa fn chk K) : MkX P w K mg base "BadNet" "net" := by
  obtain ⟨fd, F⟩ := c.def_ 19 (d := mkD ("BadNet", some "__init__") "__init__" "BadNet.__init__" (inClass (top 7) 0)) rfl
  exact mkX_of X G c (by decide +kernel) (by decide +kernel) (by decide +kernel) F ⟨rfl, rfl, rfl, by decide +kernel, rfl, by decide +kernel, by decide +kernel⟩ (by decide +kernel) (by decide +kernel) (fun _ _ _ _ _ _ us hl => match us, hl with | [_, _], _ => rfl) (fun _ _ _ _ _ _ _ _ => rfl)
theorem mk_NotSplitting (X : K.In h) (G : h.Ns mainGlobals mg) (c : HkX.SaysX fa fn chk K) : MkX P w K mg base "NotSplitting" "place" := by
  obtain ⟨fd, F⟩ := c.def_ 20 (d := mkD ("NotSplitting", some "__init__") "__init__" "NotSplitting.__init__" (inClass (top 8) 0)) rfl
  exact mkX_of X G c (by decide +kernel) (by decide +kernel) (by decide +kernel) F ⟨rfl, rfl, rfl, by decide +kernel, rfl, by decide +kernel, by decide +kernel⟩ (by decide +kernel) (by decide +kernel) (fun _ _ _ _ _ _ us hl => match us, hl with | [_, _], _ => rfl) (fun _ _ _ _ _ _ _ _ => rfl)
theorem mk_BadCuts (X : K.In h) (G : h.Ns mainGlobals mg) (c : HkX.SaysX fa fn chk K) : MkX P w K mg base "BadCuts" "index" := by
  obtain ⟨fd, F⟩ := c.def_ 21 (d := mkD ("BadCuts", some "__init__") "__init__" "BadCuts.__init__" (inClass (top 9) 0)) rfl
  exact mkX_of X G c (by decide +kernel) (by decide +kernel) (by decide +kernel) F ⟨rfl, rfl, rfl, by decide +kernel, rfl, by decide +kernel, by decide +kernel⟩ (by decide +kernel) (by decide +kernel) (fun _ _ _ _ _ _ us hl => match us, hl with | [_, _], _ => rfl) (fun _ _ _ _ _ _ _ _ => rfl)
theorem mk_BadStart (X : K.In h) (G : h.Ns mainGlobals mg) (c : HkX.SaysX fa fn chk K) : MkX P w K mg base "BadStart" "place" := by
  obtain ⟨fd, F⟩ := c.def_ 22 (d := mkD ("BadStart", some "__init__") "__init__" "BadStart.__init__" (inClass (top 10) 0)) rfl
  exact mkX_of X G c (by decide +kernel) (by decide +kernel) (by decide +kernel) F ⟨rfl, rfl, rfl, by decide +kernel, rfl, by decide +kernel, by decide +kernel⟩ (by decide +kernel) (by decide +kernel) (fun _ _ _ _ _ _ us hl => match us, hl with | [_, _], _ => rfl) (fun _ _ _ _ _ _ _ _ => rfl)
theorem mk_BadAnswer (X : K.In h) (G : h.Ns mainGlobals mg) (c : HkX.SaysX fa fn chk K) : MkX P w K mg base "BadAnswer" "answer" := by
  obtain ⟨fd, F⟩ := c.def_ 23 (d := mkD ("BadAnswer", some "__init__") "__init__" "BadAnswer.__init__" (inClass (top 11) 0)) rfl
  exact mkX_of X G c (by decide +kernel) (by decide +kernel) (by decide +kernel) F ⟨rfl, rfl, rfl, by decide +kernel, rfl, by decide +kernel, by decide +kernel⟩ (by decide +kernel) (by decide +kernel) (fun _ _ _ _ _ _ us hl => match us, hl with | [_, _], _ => rfl) (fun _ _ _ _ _ _ _ _ => rfl)
theorem mk_BadWholeText (X : K.In h) (G : h.Ns mainGlobals mg) (c : HkX.SaysX fa fn chk K) : MkX P w K mg base "BadWholeText" "line" := by
  obtain ⟨fd, F⟩ := c.def_ 24 (d := mkD ("BadWholeText", some "__init__") "__init__" "BadWholeText.__init__" (inClass (top 12) 0)) rfl
  exact mkX_of X G c (by decide +kernel) (by decide +kernel) (by decide +kernel) F ⟨rfl, rfl, rfl, by decide +kernel, rfl, by decide +kernel, by decide +kernel⟩ (by decide +kernel) (by decide +kernel) (fun _ _ _ _ _ _ us hl => match us, hl with | [_, _], _ => rfl) (fun _ _ _ _ _ _ _ _ => rfl)
theorem mk_BadGoal (X : K.In h) (G : h.Ns mainGlobals mg) (c : HkX.SaysX fa fn chk K) : MkX P w K mg base "BadGoal" "goal" := by
  obtain ⟨fd, F⟩ := c.def_ 25 (d := mkD ("BadGoal", some "__init__") "__init__" "BadGoal.__init__" (inClass (top 13) 0)) rfl
  exact mkX_of X G c (by decide +kernel) (by decide +kernel) (by decide +kernel) F ⟨rfl, rfl, rfl, by decide +kernel, rfl, by decide +kernel, by decide +kernel⟩ (by decide +kernel) (by decide +kernel) (fun _ _ _ _ _ _ us hl => match us, hl with | [_, _], _ => rfl) (fun _ _ _ _ _ _ _ _ => rfl)
theorem mk_BadRing (X : K.In h) (G : h.Ns mainGlobals mg) (c : HkX.SaysX fa fn chk K) : MkX P w K mg base "BadRing" "ring" := by
  obtain ⟨fd, F⟩ := c.def_ 26 (d := mkD ("BadRing", some "__init__") "__init__" "BadRing.__init__" (inClass (top 14) 0)) rfl
  exact mkX_of X G c (by decide +kernel) (by decide +kernel) (by decide +kernel) F ⟨rfl, rfl, rfl, by decide +kernel, rfl, by decide +kernel, by decide +kernel⟩ (by decide +kernel) (by decide +kernel) (fun _ _ _ _ _ _ us hl => match us, hl with | [_, _], _ => rfl) (fun _ _ _ _ _ _ _ _ => rfl)
theorem mk_BadMatching (X : K.In h) (G : h.Ns mainGlobals mg) (c : HkX.SaysX fa fn chk K) : MkX P w K mg base "BadMatching" "matching" := by
  obtain ⟨fd, F⟩ := c.def_ 27 (d := mkD ("BadMatching", some "__init__") "__init__" "BadMatching.__init__" (inClass (top 15) 0)) rfl
  exact mkX_of X G c (by decide +kernel) (by decide +kernel) (by decide +kernel) F ⟨rfl, rfl, rfl, by decide +kernel, rfl, by decide +kernel, by decide +kernel⟩ (by decide +kernel) (by decide +kernel) (fun _ _ _ _ _ _ us hl => match us, hl with | [_, _], _ => rfl) (fun _ _ _ _ _ _ _ _ => rfl)
theorem mk_BadMix (X : K.In h) (G : h.Ns mainGlobals mg) (c : HkX.SaysX fa fn chk K) : MkX P w K mg base "BadMix" "proof" := by
  obtain ⟨fd, F⟩ := c.def_ 28 (d := mkD ("BadMix", some "__init__") "__init__" "BadMix.__init__" (inClass (top 17) 0)) rfl
  exact mkX_of X G c (by decide +kernel) (by decide +kernel) (by decide +kernel) F ⟨rfl, rfl, rfl, by decide +kernel, rfl, by decide +kernel, by decide +kernel⟩ (by decide +kernel) (by decide +kernel) (fun _ _ _ _ _ _ us hl => match us, hl with | [_, _], _ => rfl) (fun _ _ _ _ _ _ _ _ => rfl)
theorem mk_HasRing (X : K.In h) (G : h.Ns mainGlobals mg) (c : HkX.SaysX fa fn chk K) : MkX P w K mg base "HasRing" "ties" := by
  obtain ⟨fd, F⟩ := c.def_ 29 (d := mkD ("HasRing", some "__init__") "__init__" "HasRing.__init__" (inClass (top 18) 0)) rfl
  exact mkX_of X G c (by decide +kernel) (by decide +kernel) (by decide +kernel) F ⟨rfl, rfl, rfl, by decide +kernel, rfl, by decide +kernel, by decide +kernel⟩ (by decide +kernel) (by decide +kernel) (fun _ _ _ _ _ _ us hl => match us, hl with | [_, _], _ => rfl) (fun _ _ _ _ _ _ _ _ => rfl)
theorem mk_BadPlaces (X : K.In h) (G : h.Ns mainGlobals mg) (c : HkX.SaysX fa fn chk K) : MkX P w K mg base "BadPlaces" "index" := by
  obtain ⟨fd, F⟩ := c.def_ 30 (d := mkD ("BadPlaces", some "__init__") "__init__" "BadPlaces.__init__" (inClass (top 19) 0)) rfl
  exact mkX_of X G c (by decide +kernel) (by decide +kernel) (by decide +kernel) F ⟨rfl, rfl, rfl, by decide +kernel, rfl, by decide +kernel, by decide +kernel⟩ (by decide +kernel) (by decide +kernel) (fun _ _ _ _ _ _ us hl => match us, hl with | [_, _], _ => rfl) (fun _ _ _ _ _ _ _ _ => rfl)
theorem mk_BadPrices (X : K.In h) (G : h.Ns mainGlobals mg) (c : HkX.SaysX fa fn chk K) : MkX P w K mg base "BadPrices" "prices" := by
  obtain ⟨fd, F⟩ := c.def_ 31 (d := mkD ("BadPrices", some "__init__") "__init__" "BadPrices.__init__" (inClass (top 20) 0)) rfl
  exact mkX_of X G c (by decide +kernel) (by decide +kernel) (by decide +kernel) F ⟨rfl, rfl, rfl, by decide +kernel, rfl, by decide +kernel, by decide +kernel⟩ (by decide +kernel) (by decide +kernel) (fun _ _ _ _ _ _ us hl => match us, hl with | [_, _], _ => rfl) (fun _ _ _ _ _ _ _ _ => rfl)
theorem mk_BadSome (X : K.In h) (G : h.Ns mainGlobals mg) (c : HkX.SaysX fa fn chk K) : MkX P w K mg base "BadSome" "index" := by
  obtain ⟨fd, F⟩ := c.def_ 32 (d := mkD ("BadSome", some "__init__") "__init__" "BadSome.__init__" (inClass (top 21) 0)) rfl
  exact mkX_of X G c (by decide +kernel) (by decide +kernel) (by decide +kernel) F ⟨rfl, rfl, rfl, by decide +kernel, rfl, by decide +kernel, by decide +kernel⟩ (by decide +kernel) (by decide +kernel) (fun _ _ _ _ _ _ us hl => match us, hl with | [_, _], _ => rfl) (fun _ _ _ _ _ _ _ _ => rfl)
theorem mk_BadTyings (X : K.In h) (G : h.Ns mainGlobals mg) (c : HkX.SaysX fa fn chk K) : MkX P w K mg base "BadTyings" "index" := by
  obtain ⟨fd, F⟩ := c.def_ 33 (d := mkD ("BadTyings", some "__init__") "__init__" "BadTyings.__init__" (inClass (top 22) 0)) rfl
  exact mkX_of X G c (by decide +kernel) (by decide +kernel) (by decide +kernel) F ⟨rfl, rfl, rfl, by decide +kernel, rfl, by decide +kernel, by decide +kernel⟩ (by decide +kernel) (by decide +kernel) (fun _ _ _ _ _ _ us hl => match us, hl with | [_, _], _ => rfl) (fun _ _ _ _ _ _ _ _ => rfl)
theorem mk_BadStrategy (X : K.In h) (G : h.Ns mainGlobals mg) (c : HkX.SaysX fa fn chk K) : MkX P w K mg base "BadStrategy" "strategy" := by
  obtain ⟨fd, F⟩ := c.def_ 34 (d := mkD ("BadStrategy", some "__init__") "__init__" "BadStrategy.__init__" (inClass (top 23) 0)) rfl
  exact mkX_of X G c (by decide +kernel) (by decide +kernel) (by decide +kernel) F ⟨rfl, rfl, rfl, by decide +kernel, rfl, by decide +kernel, by decide +kernel⟩ (by decide +kernel) (by decide +kernel) (fun _ _ _ _ _ _ us hl => match us, hl with | [_, _], _ => rfl) (fun _ _ _ _ _ _ _ _ => rfl)
theorem mk_BadEdit (X : K.In h) (G : h.Ns mainGlobals mg) (c : HkX.SaysX fa fn chk K) : MkX P w K mg base "BadEdit" "edit" := by
  obtain ⟨fd, F⟩ := c.def_ 35 (d := mkD ("BadEdit", some "__init__") "__init__" "BadEdit.__init__" (inClass (top 24) 0)) rfl
  exact mkX_of X G c (by decide +kernel) (by decide +kernel) (by decide +kernel) F ⟨rfl, rfl, rfl, by decide +kernel, rfl, by decide +kernel, by decide +kernel⟩ (by decide +kernel) (by decide +kernel) (fun _ _ _ _ _ _ us hl => match us, hl with | [_, _], _ => rfl) (fun _ _ _ _ _ _ _ _ => rfl)
theorem mk_BadDesk (X : K.In h) (G : h.Ns mainGlobals mg) (c : HkX.SaysX fa fn chk K) : MkX P w K mg base "BadDesk" "desk" := by
  obtain ⟨fd, F⟩ := c.def_ 36 (d := mkD ("BadDesk", some "__init__") "__init__" "BadDesk.__init__" (inClass (top 25) 0)) rfl
  exact mkX_of X G c (by decide +kernel) (by decide +kernel) (by decide +kernel) F ⟨rfl, rfl, rfl, by decide +kernel, rfl, by decide +kernel, by decide +kernel⟩ (by decide +kernel) (by decide +kernel) (fun _ _ _ _ _ _ us hl => match us, hl with | [_, _], _ => rfl) (fun _ _ _ _ _ _ _ _ => rfl)
theorem mk_BadDeskText (X : K.In h) (G : h.Ns mainGlobals mg) (c : HkX.SaysX fa fn chk K) : MkX P w K mg base "BadDeskText" "line" := by
  obtain ⟨fd, F⟩ := c.def_ 37 (d := mkD ("BadDeskText", some "__init__") "__init__" "BadDeskText.__init__" (inClass (top 26) 0)) rfl
  exact mkX_of X G c (by decide +kernel) (by decide +kernel) (by decide +kernel) F ⟨rfl, rfl, rfl, by decide +kernel, rfl, by decide +kernel, by decide +kernel⟩ (by decide +kernel) (by decide +kernel) (fun _ _ _ _ _ _ us hl => match us, hl with | [_, _], _ => rfl) (fun _ _ _ _ _ _ _ _ => rfl)
theorem mk_BadFormula (X : K.In h) (G : h.Ns mainGlobals mg) (c : HkX.SaysX fa fn chk K) : MkX P w K mg base "BadFormula" "formula" := by
  obtain ⟨fd, F⟩ := c.def_ 38 (d := mkD ("BadFormula", some "__init__") "__init__" "BadFormula.__init__" (inClass (top 30) 0)) rfl
  exact mkX_of X G c (by decide +kernel) (by decide +kernel) (by decide +kernel) F ⟨rfl, rfl, rfl, by decide +kernel, rfl, by decide +kernel, by decide +kernel⟩ (by decide +kernel) (by decide +kernel) (fun _ _ _ _ _ _ us hl => match us, hl with | [_, _], _ => rfl) (fun _ _ _ _ _ _ _ _ => rfl)
theorem mk_BadPart (X : K.In h) (G : h.Ns mainGlobals mg) (c : HkX.SaysX fa fn chk K) : MkX P w K mg base "BadPart" "part" := by
  obtain ⟨fd, F⟩ := c.def_ 39 (d := mkD ("BadPart", some "__init__") "__init__" "BadPart.__init__" (inClass (top 31) 0)) rfl
  exact mkX_of X G c (by decide +kernel) (by decide +kernel) (by decide +kernel) F ⟨rfl, rfl, rfl, by decide +kernel, rfl, by decide +kernel, by decide +kernel⟩ (by decide +kernel) (by decide +kernel) (fun _ _ _ _ _ _ us hl => match us, hl with | [_, _], _ => rfl) (fun _ _ _ _ _ _ _ _ => rfl)
theorem mk_BadSequent (X : K.In h) (G : h.Ns mainGlobals mg) (c : HkX.SaysX fa fn chk K) : MkX P w K mg base "BadSequent" "index" := by
  obtain ⟨fd, F⟩ := c.def_ 40 (d := mkD ("BadSequent", some "__init__") "__init__" "BadSequent.__init__" (inClass (top 32) 0)) rfl
  exact mkX_of X G c (by decide +kernel) (by decide +kernel) (by decide +kernel) F ⟨rfl, rfl, rfl, by decide +kernel, rfl, by decide +kernel, by decide +kernel⟩ (by decide +kernel) (by decide +kernel) (fun _ _ _ _ _ _ us hl => match us, hl with | [_, _], _ => rfl) (fun _ _ _ _ _ _ _ _ => rfl)
theorem mk_BadPlace (X : K.In h) (G : h.Ns mainGlobals mg) (c : HkX.SaysX fa fn chk K) : MkX P w K mg base "BadPlace" "place" := by
  obtain ⟨fd, F⟩ := c.def_ 41 (d := mkD ("BadPlace", some "__init__") "__init__" "BadPlace.__init__" (inClass (top 33) 0)) rfl
  exact mkX_of X G c (by decide +kernel) (by decide +kernel) (by decide +kernel) F ⟨rfl, rfl, rfl, by decide +kernel, rfl, by decide +kernel, by decide +kernel⟩ (by decide +kernel) (by decide +kernel) (fun _ _ _ _ _ _ us hl => match us, hl with | [_, _], _ => rfl) (fun _ _ _ _ _ _ _ _ => rfl)
theorem mk_BadTies (X : K.In h) (G : h.Ns mainGlobals mg) (c : HkX.SaysX fa fn chk K) : MkX P w K mg base "BadTies" "index" := by
  obtain ⟨fd, F⟩ := c.def_ 42 (d := mkD ("BadTies", some "__init__") "__init__" "BadTies.__init__" (inClass (top 34) 0)) rfl
  exact mkX_of X G c (by decide +kernel) (by decide +kernel) (by decide +kernel) F ⟨rfl, rfl, rfl, by decide +kernel, rfl, by decide +kernel, by decide +kernel⟩ (by decide +kernel) (by decide +kernel) (fun _ _ _ _ _ _ us hl => match us, hl with | [_, _], _ => rfl) (fun _ _ _ _ _ _ _ _ => rfl)
theorem mk_BadFormulaText (X : K.In h) (G : h.Ns mainGlobals mg) (c : HkX.SaysX fa fn chk K) : MkX P w K mg base "BadFormulaText" "place" := by
  obtain ⟨fd, F⟩ := c.def_ 43 (d := mkD ("BadFormulaText", some "__init__") "__init__" "BadFormulaText.__init__" (inClass (top 35) 0)) rfl
  exact mkX_of X G c (by decide +kernel) (by decide +kernel) (by decide +kernel) F ⟨rfl, rfl, rfl, by decide +kernel, rfl, by decide +kernel, by decide +kernel⟩ (by decide +kernel) (by decide +kernel) (fun _ _ _ _ _ _ us hl => match us, hl with | [_, _], _ => rfl) (fun _ _ _ _ _ _ _ _ => rfl)
theorem mk_BadSequentText (X : K.In h) (G : h.Ns mainGlobals mg) (c : HkX.SaysX fa fn chk K) : MkX P w K mg base "BadSequentText" "line" := by
  obtain ⟨fd, F⟩ := c.def_ 44 (d := mkD ("BadSequentText", some "__init__") "__init__" "BadSequentText.__init__" (inClass (top 36) 0)) rfl
  exact mkX_of X G c (by decide +kernel) (by decide +kernel) (by decide +kernel) F ⟨rfl, rfl, rfl, by decide +kernel, rfl, by decide +kernel, by decide +kernel⟩ (by decide +kernel) (by decide +kernel) (fun _ _ _ _ _ _ us hl => match us, hl with | [_, _], _ => rfl) (fun _ _ _ _ _ _ _ _ => rfl)
theorem mk_BadTyingText (X : K.In h) (G : h.Ns mainGlobals mg) (c : HkX.SaysX fa fn chk K) : MkX P w K mg base "BadTyingText" "line" := by
  obtain ⟨fd, F⟩ := c.def_ 45 (d := mkD ("BadTyingText", some "__init__") "__init__" "BadTyingText.__init__" (inClass (top 37) 0)) rfl
  exact mkX_of X G c (by decide +kernel) (by decide +kernel) (by decide +kernel) F ⟨rfl, rfl, rfl, by decide +kernel, rfl, by decide +kernel, by decide +kernel⟩ (by decide +kernel) (by decide +kernel) (fun _ _ _ _ _ _ us hl => match us, hl with | [_, _], _ => rfl) (fun _ _ _ _ _ _ _ _ => rfl)
theorem mk_BadIndex (X : K.In h) (G : h.Ns mainGlobals mg) (c : HkX.SaysX fa fn chk K) : MkX P w K mg base "BadIndex" "index" := by
  obtain ⟨fd, F⟩ := c.def_ 46 (d := mkD ("BadIndex", some "__init__") "__init__" "BadIndex.__init__" (inClass (top 38) 0)) rfl
  exact mkX_of X G c (by decide +kernel) (by decide +kernel) (by decide +kernel) F ⟨rfl, rfl, rfl, by decide +kernel, rfl, by decide +kernel, by decide +kernel⟩ (by decide +kernel) (by decide +kernel) (fun _ _ _ _ _ _ us hl => match us, hl with | [_, _], _ => rfl) (fun _ _ _ _ _ _ _ _ => rfl)
theorem mk_NotElse (X : K.In h) (G : h.Ns mainGlobals mg) (c : HkX.SaysX fa fn chk K) : MkX P w K mg base "NotElse" "index" := by
  obtain ⟨fd, F⟩ := c.def_ 47 (d := mkD ("NotElse", some "__init__") "__init__" "NotElse.__init__" (inClass (top 39) 0)) rfl
  exact mkX_of X G c (by decide +kernel) (by decide +kernel) (by decide +kernel) F ⟨rfl, rfl, rfl, by decide +kernel, rfl, by decide +kernel, by decide +kernel⟩ (by decide +kernel) (by decide +kernel) (fun _ _ _ _ _ _ us hl => match us, hl with | [_, _], _ => rfl) (fun _ _ _ _ _ _ _ _ => rfl)
theorem mk_BadMoves (X : K.In h) (G : h.Ns mainGlobals mg) (c : HkX.SaysX fa fn chk K) : MkX P w K mg base "BadMoves" "index" := by
  obtain ⟨fd, F⟩ := c.def_ 48 (d := mkD ("BadMoves", some "__init__") "__init__" "BadMoves.__init__" (inClass (top 40) 0)) rfl
  exact mkX_of X G c (by decide +kernel) (by decide +kernel) (by decide +kernel) F ⟨rfl, rfl, rfl, by decide +kernel, rfl, by decide +kernel, by decide +kernel⟩ (by decide +kernel) (by decide +kernel) (fun _ _ _ _ _ _ us hl => match us, hl with | [_, _], _ => rfl) (fun _ _ _ _ _ _ _ _ => rfl)
theorem mk_BadWords (X : K.In h) (G : h.Ns mainGlobals mg) (c : HkX.SaysX fa fn chk K) : MkX P w K mg base "BadWords" "index" := by
  obtain ⟨fd, F⟩ := c.def_ 49 (d := mkD ("BadWords", some "__init__") "__init__" "BadWords.__init__" (inClass (top 41) 0)) rfl
  exact mkX_of X G c (by decide +kernel) (by decide +kernel) (by decide +kernel) F ⟨rfl, rfl, rfl, by decide +kernel, rfl, by decide +kernel, by decide +kernel⟩ (by decide +kernel) (by decide +kernel) (fun _ _ _ _ _ _ us hl => match us, hl with | [_, _], _ => rfl) (fun _ _ _ _ _ _ _ _ => rfl)
theorem mk_BadMany (X : K.In h) (G : h.Ns mainGlobals mg) (c : HkX.SaysX fa fn chk K) : MkX P w K mg base "BadMany" "many" := by
  obtain ⟨fd, F⟩ := c.def_ 50 (d := mkD ("BadMany", some "__init__") "__init__" "BadMany.__init__" (inClass (top 42) 0)) rfl
  exact mkX_of X G c (by decide +kernel) (by decide +kernel) (by decide +kernel) F ⟨rfl, rfl, rfl, by decide +kernel, rfl, by decide +kernel, by decide +kernel⟩ (by decide +kernel) (by decide +kernel) (fun _ _ _ _ _ _ us hl => match us, hl with | [_, _], _ => rfl) (fun _ _ _ _ _ _ _ _ => rfl)
theorem mk_BadNumber (X : K.In h) (G : h.Ns mainGlobals mg) (c : HkX.SaysX fa fn chk K) : MkX P w K mg base "BadNumber" "number" := by
  obtain ⟨fd, F⟩ := c.def_ 51 (d := mkD ("BadNumber", some "__init__") "__init__" "BadNumber.__init__" (inClass (top 43) 0)) rfl
  exact mkX_of X G c (by decide +kernel) (by decide +kernel) (by decide +kernel) F ⟨rfl, rfl, rfl, by decide +kernel, rfl, by decide +kernel, by decide +kernel⟩ (by decide +kernel) (by decide +kernel) (fun _ _ _ _ _ _ us hl => match us, hl with | [_, _], _ => rfl) (fun _ _ _ _ _ _ _ _ => rfl)
theorem mk_BadTold (X : K.In h) (G : h.Ns mainGlobals mg) (c : HkX.SaysX fa fn chk K) : MkX P w K mg base "BadTold" "told" := by
  obtain ⟨fd, F⟩ := c.def_ 52 (d := mkD ("BadTold", some "__init__") "__init__" "BadTold.__init__" (inClass (top 44) 0)) rfl
  exact mkX_of X G c (by decide +kernel) (by decide +kernel) (by decide +kernel) F ⟨rfl, rfl, rfl, by decide +kernel, rfl, by decide +kernel, by decide +kernel⟩ (by decide +kernel) (by decide +kernel) (fun _ _ _ _ _ _ us hl => match us, hl with | [_, _], _ => rfl) (fun _ _ _ _ _ _ _ _ => rfl)
theorem mk_BadOrder (X : K.In h) (G : h.Ns mainGlobals mg) (c : HkX.SaysX fa fn chk K) : MkX P w K mg base "BadOrder" "order" := by
  obtain ⟨fd, F⟩ := c.def_ 53 (d := mkD ("BadOrder", some "__init__") "__init__" "BadOrder.__init__" (inClass (top 45) 0)) rfl
  exact mkX_of X G c (by decide +kernel) (by decide +kernel) (by decide +kernel) F ⟨rfl, rfl, rfl, by decide +kernel, rfl, by decide +kernel, by decide +kernel⟩ (by decide +kernel) (by decide +kernel) (fun _ _ _ _ _ _ us hl => match us, hl with | [_, _], _ => rfl) (fun _ _ _ _ _ _ _ _ => rfl)
theorem mk_NotParted (X : K.In h) (G : h.Ns mainGlobals mg) (c : HkX.SaysX fa fn chk K) : MkX P w K mg base "NotParted" "place" := by
  obtain ⟨fd, F⟩ := c.def_ 54 (d := mkD ("NotParted", some "__init__") "__init__" "NotParted.__init__" (inClass (top 46) 0)) rfl
  exact mkX_of X G c (by decide +kernel) (by decide +kernel) (by decide +kernel) F ⟨rfl, rfl, rfl, by decide +kernel, rfl, by decide +kernel, by decide +kernel⟩ (by decide +kernel) (by decide +kernel) (fun _ _ _ _ _ _ us hl => match us, hl with | [_, _], _ => rfl) (fun _ _ _ _ _ _ _ _ => rfl)
theorem mk_BadValues (X : K.In h) (G : h.Ns mainGlobals mg) (c : HkX.SaysX fa fn chk K) : MkX P w K mg base "BadValues" "told" := by
  obtain ⟨fd, F⟩ := c.def_ 55 (d := mkD ("BadValues", some "__init__") "__init__" "BadValues.__init__" (inClass (top 47) 0)) rfl
  exact mkX_of X G c (by decide +kernel) (by decide +kernel) (by decide +kernel) F ⟨rfl, rfl, rfl, by decide +kernel, rfl, by decide +kernel, by decide +kernel⟩ (by decide +kernel) (by decide +kernel) (fun _ _ _ _ _ _ us hl => match us, hl with | [_, _], _ => rfl) (fun _ _ _ _ _ _ _ _ => rfl)
theorem mk_BadOthers (X : K.In h) (G : h.Ns mainGlobals mg) (c : HkX.SaysX fa fn chk K) : MkX P w K mg base "BadOthers" "index" := by
  obtain ⟨fd, F⟩ := c.def_ 56 (d := mkD ("BadOthers", some "__init__") "__init__" "BadOthers.__init__" (inClass (top 48) 0)) rfl
  exact mkX_of X G c (by decide +kernel) (by decide +kernel) (by decide +kernel) F ⟨rfl, rfl, rfl, by decide +kernel, rfl, by decide +kernel, by decide +kernel⟩ (by decide +kernel) (by decide +kernel) (fun _ _ _ _ _ _ us hl => match us, hl with | [_, _], _ => rfl) (fun _ _ _ _ _ _ _ _ => rfl)
theorem mk_BadMore (X : K.In h) (G : h.Ns mainGlobals mg) (c : HkX.SaysX fa fn chk K) : MkX P w K mg base "BadMore" "index" := by
  obtain ⟨fd, F⟩ := c.def_ 57 (d := mkD ("BadMore", some "__init__") "__init__" "BadMore.__init__" (inClass (top 49) 0)) rfl
  exact mkX_of X G c (by decide +kernel) (by decide +kernel) (by decide +kernel) F ⟨rfl, rfl, rfl, by decide +kernel, rfl, by decide +kernel, by decide +kernel⟩ (by decide +kernel) (by decide +kernel) (fun _ _ _ _ _ _ us hl => match us, hl with | [_, _], _ => rfl) (fun _ _ _ _ _ _ _ _ => rfl)
theorem mk_NotTurned (X : K.In h) (G : h.Ns mainGlobals mg) (c : HkX.SaysX fa fn chk K) : MkX P w K mg base "NotTurned" "place" := by
  obtain ⟨fd, F⟩ := c.def_ 58 (d := mkD ("NotTurned", some "__init__") "__init__" "NotTurned.__init__" (inClass (top 50) 0)) rfl
  exact mkX_of X G c (by decide +kernel) (by decide +kernel) (by decide +kernel) F ⟨rfl, rfl, rfl, by decide +kernel, rfl, by decide +kernel, by decide +kernel⟩ (by decide +kernel) (by decide +kernel) (fun _ _ _ _ _ _ us hl => match us, hl with | [_, _], _ => rfl) (fun _ _ _ _ _ _ _ _ => rfl)
theorem mk_NothingLeft (X : K.In h) (G : h.Ns mainGlobals mg) (c : HkX.SaysX fa fn chk K) : MkX P w K mg base "NothingLeft" "place" := by
  obtain ⟨fd, F⟩ := c.def_ 59 (d := mkD ("NothingLeft", some "__init__") "__init__" "NothingLeft.__init__" (inClass (top 51) 0)) rfl
  exact mkX_of X G c (by decide +kernel) (by decide +kernel) (by decide +kernel) F ⟨rfl, rfl, rfl, by decide +kernel, rfl, by decide +kernel, by decide +kernel⟩ (by decide +kernel) (by decide +kernel) (fun _ _ _ _ _ _ us hl => match us, hl with | [_, _], _ => rfl) (fun _ _ _ _ _ _ _ _ => rfl)
theorem mk_BadPlaceOf (X : K.In h) (G : h.Ns mainGlobals mg) (c : HkX.SaysX fa fn chk K) : MkX P w K mg base "BadPlaceOf" "place" := by
  obtain ⟨fd, F⟩ := c.def_ 60 (d := mkD ("BadPlaceOf", some "__init__") "__init__" "BadPlaceOf.__init__" (inClass (top 52) 0)) rfl
  exact mkX_of X G c (by decide +kernel) (by decide +kernel) (by decide +kernel) F ⟨rfl, rfl, rfl, by decide +kernel, rfl, by decide +kernel, by decide +kernel⟩ (by decide +kernel) (by decide +kernel) (fun _ _ _ _ _ _ us hl => match us, hl with | [_, _], _ => rfl) (fun _ _ _ _ _ _ _ _ => rfl)
theorem mkA0 (X : K.In h) (G : h.Ns mainGlobals mg) (c : HkX.SaysX fa fn chk K) : ∀ p ∈ withF0, MkX P w K mg base p.1 p.2 := all_cons (mk_BadOther X G c) (all_cons (mk_BadSwitching X G c) (all_cons (mk_BadProof X G c) (all_cons (mk_NoProof X G c) (all_cons (mk_BadLast X G c) (all_cons (mk_BadNet X G c) (all_cons (mk_NotSplitting X G c) (all_cons (mk_BadCuts X G c) (all_cons (mk_BadStart X G c) (all_cons (mk_BadAnswer X G c) (all_cons (mk_BadWholeText X G c) (all_cons (mk_BadGoal X G c) (all_cons (mk_BadRing X G c) (all_cons (mk_BadMatching X G c) (all_cons (mk_BadMix X G c) (all_cons (mk_HasRing X G c) (all_cons (mk_BadPlaces X G c) (all_cons (mk_BadPrices X G c) (all_cons (mk_BadSome X G c) (all_cons (mk_BadTyings X G c) (all_nil))))))))))))))))))))
theorem mkA1 (X : K.In h) (G : h.Ns mainGlobals mg) (c : HkX.SaysX fa fn chk K) : ∀ p ∈ withF1, MkX P w K mg base p.1 p.2 := all_cons (mk_BadStrategy X G c) (all_cons (mk_BadEdit X G c) (all_cons (mk_BadDesk X G c) (all_cons (mk_BadDeskText X G c) (all_cons (mk_BadFormula X G c) (all_cons (mk_BadPart X G c) (all_cons (mk_BadSequent X G c) (all_cons (mk_BadPlace X G c) (all_cons (mk_BadTies X G c) (all_cons (mk_BadFormulaText X G c) (all_cons (mk_BadSequentText X G c) (all_cons (mk_BadTyingText X G c) (all_cons (mk_BadIndex X G c) (all_cons (mk_NotElse X G c) (all_cons (mk_BadMoves X G c) (all_cons (mk_BadWords X G c) (all_cons (mk_BadMany X G c) (all_cons (mk_BadNumber X G c) (all_cons (mk_BadTold X G c) (all_cons (mk_BadOrder X G c) (all_nil))))))))))))))))))))
theorem mkA2 (X : K.In h) (G : h.Ns mainGlobals mg) (c : HkX.SaysX fa fn chk K) : ∀ p ∈ withF2, MkX P w K mg base p.1 p.2 := all_cons (mk_NotParted X G c) (all_cons (mk_BadValues X G c) (all_cons (mk_BadOthers X G c) (all_cons (mk_BadMore X G c) (all_cons (mk_NotTurned X G c) (all_cons (mk_NothingLeft X G c) (all_cons (mk_BadPlaceOf X G c) (all_nil)))))))
theorem frM (X : K.In h) (G : h.Ns mainGlobals mg) (c : HkX.SaysX fa fn chk K) : FrM P w K mg base := by
  refine ⟨fun p m => ?_, fun x m => ?_⟩
  · have m : p ∈ (withF0 ++ withF1) ++ withF2 := m
    rcases List.mem_append.mp m with m | m
    · rcases List.mem_append.mp m with m | m
      · exact mkA0 X G c p m
      · exact mkA1 X G c p m
    · exact mkA2 X G c p m
  · have a := c.all.2.2
    simp only [chk, Bool.and_eq_true, List.all_eq_true] at a
    have me : x ∈ every := List.mem_append_right _ m
    have mg_ : x ∈ gloL := (by decide +kernel : ∀ x ∈ withN, x ∈ gloL) x m
    exact ⟨kit_of c me, He.glo_ok X G (c.fact (f := .glo x) (List.mem_append_left _ (List.mem_map_of_mem mg_))), a.2.1 x m⟩
theorem gl (X : K.In h) (G : h.Ns mainGlobals mg) (c : HkX.SaysX fa fn chk K) (x : Str) (m : x ∈ gloL) : mg x = some (.ref (He.ga K x)) := He.glo_ok X G (c.fact (f := .glo x) (List.mem_append_left _ (List.mem_map_of_mem m)))
theorem fr (X : K.In h) (G : h.Ns mainGlobals mg) (c : HkX.SaysX fa fn chk K) (x : Str) (m : x ∈ freesL) : mg x = none := He.free_ok X G (c.fact (f := .free x) (List.mem_append_right _ (List.mem_map_of_mem m)))

theorem fns (X : K.In h) (G : h.Ns mainGlobals mg) (c : HkX.SaysX fa fn chk K) : Fns P w K mg base where
  start := by
    obtain ⟨fd, F⟩ := c.def_ 0 (d := mkD ("_law_start", none) "_law_start" "_law_start" (top 54)) rfl
    exact ⟨_, fd, F, gl X G c "_law_start" (by decide +kernel)⟩
  pick := by
    obtain ⟨fd, F⟩ := c.def_ 1 (d := mkD ("_law_pick", none) "_law_pick" "_law_pick" (top 55)) rfl
    exact ⟨_, fd, F, gl X G c "_law_pick" (by decide +kernel)⟩
  between := by
    obtain ⟨fd, F⟩ := c.def_ 2 (d := mkD ("_law_between", none) "_law_between" "_law_between" (top 56)) rfl
    exact ⟨_, fd, F, gl X G c "_law_between" (by decide +kernel)⟩
  same := by
    obtain ⟨fd, F⟩ := c.def_ 3 (d := mkD ("_law_same", none) "_law_same" "_law_same" (top 57)) rfl
    exact ⟨_, fd, F, gl X G c "_law_same" (by decide +kernel)⟩
  kinds := by
    obtain ⟨fd, F⟩ := c.def_ 4 (d := mkD ("_law_kinds_of", none) "_law_kinds_of" "_law_kinds_of" (top 58)) rfl
    exact ⟨_, fd, F, gl X G c "_law_kinds_of" (by decide +kernel)⟩
  others := by
    obtain ⟨fd, F⟩ := c.def_ 5 (d := mkD ("_law_others", none) "_law_others" "_law_others" (top 59)) rfl
    exact ⟨_, fd, F, gl X G c "_law_others" (by decide +kernel)⟩
  isOther := by
    obtain ⟨fd, F⟩ := c.def_ 6 (d := mkD ("_law_is_other", none) "_law_is_other" "_law_is_other" (top 60)) rfl
    exact ⟨_, fd, F, gl X G c "_law_is_other" (by decide +kernel)⟩
  madea := by
    obtain ⟨fd, F⟩ := c.def_ 7 (d := mkD ("_law_made_a", none) "_law_made_a" "_law_made_a" (top 61)) rfl
    exact ⟨_, fd, F, gl X G c "_law_made_a" (by decide +kernel)⟩
  madeb := by
    obtain ⟨fd, F⟩ := c.def_ 8 (d := mkD ("_law_made_b", none) "_law_made_b" "_law_made_b" (top 62)) rfl
    exact ⟨_, fd, F, gl X G c "_law_made_b" (by decide +kernel)⟩
  madeAt := by
    obtain ⟨fd, F⟩ := c.def_ 9 (d := mkD ("_law_made_at", none) "_law_made_at" "_law_made_at" (top 63)) rfl
    exact ⟨_, fd, F, gl X G c "_law_made_at" (by decide +kernel)⟩
  object := by
    obtain ⟨fd, F⟩ := c.def_ 10 (d := mkD ("_law_object", none) "_law_object" "_law_object" (top 64)) rfl
    exact ⟨_, fd, F, gl X G c "_law_object" (by decide +kernel)⟩
  very := by
    obtain ⟨fd, F⟩ := c.def_ 11 (d := mkD ("_law_very", none) "_law_very" "_law_very" (top 65)) rfl
    exact ⟨_, fd, F, gl X G c "_law_very" (by decide +kernel)⟩
  caught := by
    obtain ⟨fd, F⟩ := c.def_ 12 (d := mkD ("_law_caught", none) "_law_caught" "_law_caught" (top 66)) rfl
    exact ⟨_, fd, F, gl X G c "_law_caught" (by decide +kernel)⟩
theorem facts {f : Addr} (X : K.In h) (G : h.Ns mainGlobals mg) (hfa : mg ("law" : Str) = some (.ref f)) (c : HkX.SaysX fa fn chk K) :
    ∃ fd : FuncData, (∀ (s : Shared) (v : Value), BindsTo s fd ⟨[v], []⟩ [("script", v)]) ∧ ∀ base : Heap, K.In base → base.Ns mainGlobals mg → FnOk P w K mg base CX0 5 f fd ["script"] (spLaw K) := by
  obtain ⟨fd, F⟩ := c.def_ 13 (d := mkD ("law", none) "law" "law" (top 67)) rfl
  have e := hfa.symm.trans (gl X G c "law" (by decide +kernel))
  cases e
  have b := FunD.bindsA (ps := ["script"]) F fun _ _ _ _ _ _ us hl => match us, hl with | [_], _ => rfl
  have a := c.all.2.2
  simp only [chk, Bool.and_eq_true, List.all_eq_true] at a
  obtain ⟨_, _, _, _, a5, a6⟩ := a
  have pl : Plain K := fun x m y hy => by
    have g := a5 x m
    simp only [chkP, List.all_eq_true, decide_eq_true_eq] at g
    exact g y hy
  have xm : PySem.W.exmOne K (.ref (He.ga K "BadSome")) (.ref (He.ga K "ProofError")) = some true := of_decide_eq_true a6
  have fe : FrE K mg := ⟨fun y m => gl X G c y ((by decide +kernel : ∀ y ∈ every, y ∈ gloL) y m), fr X G c "isinstance" (by decide +kernel), fr X G c "range" (by decide +kernel), fr X G c "all" (by decide +kernel), fr X G c "ValueError" (by decide +kernel)⟩
  refine ⟨fd, fun s v => b s [v] rfl, fun base _ _ => ok_law F (fns X G c) (frM X G c) ⟨fr X G c "isinstance" (by decide +kernel), fr X G c "len" (by decide +kernel), fr X G c "all" (by decide +kernel), fr X G c "zip" (by decide +kernel), fr X G c "list" (by decide +kernel), fr X G c "tuple" (by decide +kernel), fr X G c "dict" (by decide +kernel), fr X G c "bool" (by decide +kernel), fr X G c "int" (by decide +kernel), fr X G c "str" (by decide +kernel)⟩ ⟨fr X G c "abs" (by decide +kernel), fr X G c "int" (by decide +kernel)⟩ ⟨fr X G c "list" (by decide +kernel), fr X G c "max" (by decide +kernel), fr X G c "str" (by decide +kernel), fr X G c "dict" (by decide +kernel), fr X G c "isinstance" (by decide +kernel)⟩ fe ⟨fr X G c "KeyError" (by decide +kernel), fr X G c "IndexError" (by decide +kernel), fr X G c "TypeError" (by decide +kernel), fr X G c "int" (by decide +kernel)⟩ pl fun f1 fd1 F1 g1 => ?_⟩
  obtain ⟨aK, dK, FK, gK⟩ := (fns (P := P) (w := w) (base := base) X G c).kinds
  obtain ⟨aI, dI, FI, gI⟩ := (fns (P := P) (w := w) (base := base) X G c).isOther
  exact ok_caught F1 FK gK FI gI (frM X G c) fe xm
end
end H89
open PySem PySem.W PySem.Calls PyProof.Rows
theorem PySem.Challenge.cw_tiedproofs_k95_errors_of_what_is_asked_holds : PySem.Challenge.rw_tiedproofs_k95_errors_of_what_is_asked.Holds := by
  w_on; o_law
  refine Lay.head_cut (r := OpenLaw.row PySem.Challenge.rw_tiedproofs_k95_errors_of_what_is_asked) (q := H89.qv) (loose := H89.loose) (H := H89.hk) (d := HandSHeadRun.topDef H89.pw H89.lawIx) (kwd := [])
    (by kernel_rfl) (fun s => by kernel_rfl) (by intro w; kernel_rfl) H89.pc_all H89.lk1 H89.lk2 H89.lk3 (by kernel_rfl) (by kernel_rfl) (by kernel_rfl) (by rfl) (by first | assumption | decide +kernel) (by decide +kernel) ⟨rfl, rfl, rfl, rfl, rfl, by decide +kernel⟩ ?hw ?hc
  case hw => w_witness2
  case hc =>
    refine L2.walk_ofE (l := PySem.Challenge.rw_tiedproofs_k95_errors_of_what_is_asked) (n := 63) (k := 5) (x := "script") (CX := L2.CX0) rfl (by decide) (by kernel_rfl) ⟨rfl, by decide, by decide⟩ ?F (fun _ _ _ _ z => z)
    intro w mg fa h Y G hmg0
    obtain ⟨K, KX, c⟩ := Y
    have hmg : mg ("law" : PySem.Str) = some (.ref fa) := by
      have e : (HandSHeadRun.topDef H89.pw H89.lawIx).name = ("law" : PySem.Str) := by kernel_rfl
      rw [← e]
      exact hmg0
    obtain ⟨fd, hb, hF⟩ := H89.facts (P := (PySem.Challenge.rw_tiedproofs_k95_errors_of_what_is_asked).prog) (w := w) KX G hmg c
    exact ⟨K, fd, H89.spLaw K, KX, hb, fun H a ns hl _ hS => ⟨a, ns, rfl, hS, fun _ => rfl⟩, hF⟩

