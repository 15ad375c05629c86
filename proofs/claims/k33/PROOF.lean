import PyProof.Rows.All
import Wide.All
import OpenK.AllK
import Wide.FinOn
import HandS.Walk
import HandS.Zip
import KE.GoesMore
import PyProof.EnumMake
import PySem.Syntax
import PySem.Eval
import PySem.PyData
import PyProof.P3Statements
import KE.DataMinMax
import KE.DataFind
import KE.DataAny
import KE.SortData
import KE.KTupSum
import HandS.ForMost
import HandS.ForExc
import HandS.IsInst
import HandS.TupAny
import HandS.TupMul
import HandS.TryMany
import HandS.Deep
import HandS.Lambda
import HandS.TupLe
import PyProof.Rows.InDataRows
import PyProof.MaxThree
import HandS.RaiseMore
import HandS.ExcIs
import HandS.Conv
import HandS.Ends
import HandS.Defaults
import HandS.Head0
import HandS.Head1
import HandS.Head2
import HandS.HeadHook1
import HandS.HeadHook2
import HandS.HeadHook3
import HandS.HeadHook4
import HandS.HeadWalk
import HandS.EndTab
import KE.DatumOrd
import HandS.Words
import PySem.Challenge.RW_washhouse_k33_whole_two_irons
set_option Elab.async false
set_option linter.all false
set_option maxRecDepth 100000
section
set_option maxHeartbeats 2000000
/-! EvN: enumerate of a tuple. -/
namespace PySem
open Sem (wp)
open AutoSeq1 (wpAny_loadPart')
theorem ev_enum_newT (l : Addr) (items : Array Value) (n : Nat) (dct : Option Addr) (sl : Array (Option Value)) :
    Meets (Builtin.«enumerate.__new__» ⟨[.type "enumerate", .ref l], []⟩) (fun _ R s => s.heap.get? l = some { cls := .type "tuple", dict := dct, data := .seq items n, slots := sl } ∧
      R (.ok (.ret (.ref (s.heap.push { cls := .type "tuple_iterator", data := .fields #[.ref l, .int 0 0] }).objs.size)))
        { s with heap := (s.heap.push { cls := .type "tuple_iterator", data := .fields #[.ref l, .int 0 0] }).push { cls := .type "enumerate", data := .fields #[.none, .bool false, .ref s.heap.objs.size, rawInt 0, .none, .none] } }) :=
  .of_wp fun prog w A R s h => by
    obtain ⟨hp, g, d, tk, os⟩ := s; obtain ⟨hl, h⟩ := h
    have hsub := sub_enumerate
    have hL : Heap.IsTuple (Shared.heap ⟨hp, g, d, tk, os⟩) l items := ⟨_, hl, rfl, n, rfl⟩
    wp_walk using wpAny_loadPart' hl
    refine wpAny_stack_any fun st => wpAny_pure ?_
    split
    · rename_i c _ _ _ _ _
      cases (c == Value.type "enumerate")
      · wp_walk using wpAny_loadPart' hl, wpAny_pyIter_tuple hL
        exact ⟨_, rfl, h⟩
      · wp_walk using wpAny_loadPart' hl, wpAny_pyIter_tuple hL
        exact ⟨_, rfl, h⟩
    · wp_walk using wpAny_loadPart' hl, wpAny_pyIter_tuple hL
      exact ⟨_, rfl, h⟩
section
variable {prog : Program} {w : World} {A : Around} {E : Value → Shared → Prop} {s : Shared}
theorem ev_call_enumT {l : Addr} {items : Array Value} {Q : Value → Shared → Prop} (hL : s.heap.IsTuple l items)
    (h : ∀ h', IsEnum h' (s.heap.objs.size + 1) s.heap.objs.size 0 .none → h'.IsTupleIter s.heap.objs.size l 0 → h'.objs.size = s.heap.objs.size + 2 →
      (∀ b o, s.heap.get? b = some o → h'.get? b = some o) → Q (.ref (s.heap.objs.size + 1)) { s with heap := h' }) :
    wpAny (model prog w) A (call (.type "enumerate") [.ref l]) Q E s := by
  obtain ⟨⟨c, dct, dt, sl⟩, hl, hc, n, hd⟩ := hL
  replace hc : c = .type "tuple" := hc
  replace hd : dt = .seq items n := hd
  subst hc hd
  refine callType_new F.called_enumerate (by decide) (F.typeCall_enumerate_1 _) (F.newCall_enumerate_1 _) (fun obj => F.args_object_init_2 obj _) F.entry_enumerate_new
    (ev_enum_newT l items n dct sl) ⟨hl, ?_⟩
  have hz : (s.heap.push { cls := .type "tuple_iterator", data := .fields #[.ref l, .int 0 0] }).objs.size = s.heap.objs.size + 1 := Heap.size_push ..
  show _ ∧ _
  rw [hz]
  have he : IsEnum ((s.heap.push { cls := .type "tuple_iterator", data := .fields #[.ref l, .int 0 0] }).push
      { cls := .type "enumerate", data := .fields #[.none, .bool false, .ref s.heap.objs.size, rawInt 0, .none, .none] }) (s.heap.objs.size + 1) s.heap.objs.size 0 .none := by
    have := Heap.get?_push_size (s.heap.push { cls := .type "tuple_iterator", data := .fields #[.ref l, .int 0 0] })
      (o := { cls := .type "enumerate", data := .fields #[.none, .bool false, .ref s.heap.objs.size, rawInt 0, .none, .none] }) rfl
    rw [hz] at this; exact this
  refine ⟨⟨_, he, rfl⟩, h _ he ⟨_, Heap.get?_push_of_some _ (Heap.get?_push_size _ rfl), rfl, rfl⟩ (by rw [Heap.size_push, hz]) fun b o x => Heap.get?_push_of_some _ (Heap.get?_push_of_some _ x)⟩
end
end PySem
namespace Ev
open PySem PySem.Spec PyProof.Rows L2
/-- the tuple at a, each item in a new pair -/
def IteT (K : PySem.W.Frag) (a : Addr) : It :=
  ⟨fun i H => ∃ (xs : List V) (x : V), SqT K H a xs ∧ xs[i]? = some x, fun i H v H' => ∃ T x, v = .ref T ∧ H T = none ∧ H' = upd H T (.tup [.int (i : Nat), x]) ∧ ∀ xs, SqT K H a xs → xs[i]? = some x, fun i H => ∃ xs : List V, SqT K H a xs ∧ xs.length = i⟩
theorem turn_enumT {P : Program} {w : World} {K : PySem.W.Frag} {elts : List Expr} {kk : Nat} {tpos : Pos} (a e it : Addr) (hea : e ≠ a) (hia : it ≠ a) :
    Turn P w K (.Tuple elts kk tpos) (IteT K a) [e, it] e (fun i h => (∃ old, IsEnum h e it ((i : Nat) : Int) old) ∧ h.IsTupleIter it a i ∧ e ≠ it) where
  mem := by simp
  obj := fun i h st b hb => by
    obtain ⟨⟨old, he⟩, ⟨o, ho, hc, hd⟩, _⟩ := st
    have e' : b = e ∨ b = it := by simpa using hb
    rcases e' with z | z
    · rw [z]; exact ⟨_, he, fun v q => nomatch q⟩
    · rw [z]; exact ⟨o, ho, fun v q => by rw [hd] at q; cases q⟩
  keep := fun i h h' st k => let ⟨⟨old, he⟩, hi, hne⟩ := st; ⟨⟨old, k e (by simp) _ he⟩, hi.at fun o q => k it (by simp) o q, hne⟩
  item := by
    intro X hP hw hK hc i pins s σ H E I hf st hg
    subst hP hw hK
    obtain ⟨⟨old, he⟩, hit, hne⟩ := st
    obtain ⟨xs, x, hq, hx⟩ := hg
    obtain ⟨its, rv, p, hz⟩ := I.tuple hq
    obtain ⟨u, hu, ru⟩ := rv.get hx
    have hel : e < s.heap.objs.size := Heap.lt_size he
    have hil : it < s.heap.objs.size := by obtain ⟨_, q, _⟩ := hit; exact Heap.lt_size q
    have pt : s.heap.IsTuple a its.toArray := p
    have hlt : i < its.toArray.size := by
      have := (List.getElem?_eq_some_iff.mp hu).1
      simpa using this
    refine wpAny_pyNext_enum_itemD (PySem.Draws.tuple (A := X.A.in1) (I.ok.hd hc) it a (Ne.symm hia) its.toArray) he ⟨hit, pt⟩ hlt hne (by simp [hne, hea]) fun x' h' tk hPx ho hst' hT hsz hk => ?_
    have ex : x' = u := by
      have h2 : its.toArray[i]? = some u := by simpa using hu
      rw [h2] at hPx
      exact (Option.some.inj hPx).symm
    subst ex
    refine ⟨_, rfl, wpAny_letOwnedTupleGo_enum (s := { s with heap := h', toks := tk + 1 }) ho fun h'' he' sb => ?_⟩
    have hT2 : h''.get? s.heap.objs.size = some { cls := .type "tuple", data := .seq #[.int i tk, x'] } := (sb.2 _ (Nat.ne_of_gt hel)).trans hT
    have new : ObjOk X.prog X.w (upd H s.heap.objs.size (.tup [.int (i : Nat), x])) h'' s.heap.objs.size (.tup [.int (i : Nat), x]) :=
      ⟨by show 2 ≤ sizeLine; decide, [.int i tk, x'], .cons ⟨_, rfl⟩ (.cons ru .nil), ⟨_, hT2, rfl, _, rfl⟩⟩
    have I1 : Inv X pins σ (upd H s.heap.objs.size (.tup [.int (i : Nat), x])) { s with heap := h'', toks := tk + 1 } :=
      I.turnedNew (ch := [e, it]) (fun b ob hb q => (sb.2 b (fun z => hb (by simp [z]))).trans (hk b ob (fun z => hb (by simp [z])) (fun z => hb (by simp [z])) q)) hf (Nat.le_refl _) new
    refine ⟨.ref s.heap.objs.size, _, I1, rfl, ⟨_, x, rfl, I.hok.fresh (Nat.le_refl _), rfl, fun ys hy => by rw [I.tuple_inj hy hq]; exact hx⟩, ⟨⟨x', ?_⟩, hst'.1.at fun o q => (sb.2 it (Ne.symm hne)).trans q, hne⟩, fun b hb => ?_⟩
    · have e1 : ((i + 1 : Nat) : Int) = (i : Int) + 1 := by omega
      rw [e1]; exact he'
    · have hb' : b < s.heap.objs.size := by
        have e' : b = e ∨ b = it := by simpa using hb
        rcases e' with z | z
        · rw [z]; exact hel
        · rw [z]; exact hil
      rw [upd_ne (Nat.ne_of_lt hb')]
      exact (hf b hb).1
  done := by
    intro X hP hw hK hc i pins s σ H E I hf st hg
    subst hP hw hK
    obtain ⟨⟨old, he⟩, hit, hne⟩ := st
    obtain ⟨xs, hq, hx⟩ := hg
    obtain ⟨its, rv, p, hz⟩ := I.tuple hq
    obtain ⟨f0, f1, f2, f3, f4, f5⟩ := hf it (by simp)
    have pt : s.heap.IsTuple a its.toArray := p
    have hl : i = its.toArray.size := by rw [← hx, rv.length]; simp
    subst hl
    exact wpAny_pyNext_enum_endD (PySem.Draws.tuple (A := X.A.in1) (I.ok.hd hc) it a (Ne.symm hia) its.toArray) he ⟨hit, pt⟩ fun h' eb => ⟨rfl, I.turned (t' := s.toks) (fun b o hb q => eb b o hb q) f0 f1 f3 f4 f5⟩
  self := fun A i s Q E st h => let ⟨⟨_, he⟩, _⟩ := st; wpAny_pyIter_enum he h
theorem walk_enumT {K : PySem.W.Frag} {a : Addr} {xs : List V} : Walk (IteT K a) xs.length (fun H => SqT K H a xs) (YPair (fun i => some (.int (i : Nat))) (fun i => xs[i]?)) := by
  refine ⟨fun i _ hi q => ⟨xs, xs[i], q, by simp [hi]⟩, fun _ q => ⟨xs, q, rfl⟩, fun i H v H' _ q y => ?_⟩
  obtain ⟨T, x, h1, h2, h3, h4⟩ := y
  exact ⟨T, .int (i : Nat), x, h1, h2, h3, rfl, h4 xs q⟩
/-- enumerate of a list or of a tuple -/
def iEnumA (K : PySem.W.Frag) (ta : TA) : TI := fun σ H R => ta σ H fun vs H1 => ∃ a xs, vs = [.ref a] ∧ ((SqL K H1 a xs ∧ R (Ite K a) H1) ∨ (SqT K H1 a xs ∧ R (IteT K a) H1))
theorem pi_enumA {X : Cx} {e : Expr} {ta : TA} {p pos tpos : Pos} {elts : List Expr} {kk : Nat} (hg : Gl X "enumerate") (hm : X.mg "enumerate" = none) (ha : PA X [e] ta) (hs : starEach [e] X.env = [(false, eval e X.env)] := by rfl) :
    PI X (.Tuple elts kk tpos) (.Call (.Name "enumerate" p) [e] [] pos) (iEnumA X.K ta) := by
  refine ⟨fun pins s σ H R I h => ?_⟩
  refine Call_ (ld_blt I hg hm boot_enumerate (PyProof.Rows.callWith_type1 (thn (ha.run pos pins s σ H _ I h) fun us s1 ⟨vs, H1, I1, r1, q1⟩ => ?_) hs rfl))
  obtain ⟨a, xs, ex, q⟩ := q1
  subst ex
  cases r1 with
  | cons r rr =>
    cases rr
    cases r
    have fp : ∀ b ∈ [s1.heap.objs.size + 1, s1.heap.objs.size], FpOk X pins H1 b := fun b hb => by
      have e' : b = s1.heap.objs.size + 1 ∨ b = s1.heap.objs.size := by simpa using hb
      have hle : s1.heap.objs.size ≤ b := by
        rcases e' with z | z
        · rw [z]; exact Nat.le_add_right _ _
        · rw [z]; exact Nat.le_refl _
      exact I1.fpOk hle (I1.hok.fresh hle)
    rcases q with ⟨hq, q⟩ | ⟨hq, q⟩
    · obtain ⟨its, rv, p', hz⟩ := I1.list hq
      refine call_enumerate_list p'.isList fun h' he hit hsz hk => wpAny_pyIter_enum he ?_
      have I2 : Inv X pins σ H1 { s1 with heap := h' } := I1.kept (t' := s1.toks) hk
      exact ⟨s1.heap.objs.size + 1, [s1.heap.objs.size + 1, s1.heap.objs.size], _, _, H1, rfl, I2, turn_enum a (s1.heap.objs.size + 1) s1.heap.objs.size, ⟨⟨.none, he⟩, hit, Nat.succ_ne_self _⟩, fp, q⟩
    · obtain ⟨its, rv, p', hz⟩ := I1.tuple hq
      have pt : s1.heap.IsTuple a its.toArray := p'
      have hlt : a < s1.heap.objs.size := by obtain ⟨_, q, _⟩ := pt; exact Heap.lt_size q
      refine PySem.ev_call_enumT pt fun h' he hit hsz hk => wpAny_pyIter_enum he ?_
      have I2 : Inv X pins σ H1 { s1 with heap := h' } := I1.kept (t' := s1.toks) hk
      exact ⟨s1.heap.objs.size + 1, [s1.heap.objs.size + 1, s1.heap.objs.size], _, _, H1, rfl, I2, turn_enumT a (s1.heap.objs.size + 1) s1.heap.objs.size (Nat.ne_of_gt (Nat.lt_succ_of_lt hlt)) (Nat.ne_of_gt hlt), ⟨⟨.none, he⟩, hit, Nat.succ_ne_self _⟩, fp, q⟩
end Ev
end
section
/-! EvPure: an evaluator by values for the plain part of Python that the laws and the program use. -/
namespace Ev
open PySem

abbrev D := PyData
/-- what a slot holds: an unchanging value; an own list, an own dict; a caught exception -/
structure Exc where
  cls : Str
  arg : Option (Str × D)
inductive Sv where
  | im (d : D) | ol (xs : List D) | od (kvs : List (D × D)) | ex (x : Exc)
abbrev Sl := List (Option Sv)
/-- an operand: an unchanging value, a new list or dict, a slot that holds an own one -/
inductive Op where
  | im (d : D) | tl (xs : List D) | td (kvs : List (D × D)) | bor (i : Nat)
inductive Res (α : Type) where
  | ok (a : α) (e : Sl) | er (x : Exc) (e : Sl) | bad
def Res.bind {α β : Type} (r : Res α) (f : α → Sl → Res β) : Res β :=
  match r with
  | .ok a e => f a e
  | .er x e => .er x e
  | .bad => .bad
abbrev ME := Sl → Res Op
/-- a call's end: what is returned, what the arguments hold -/
inductive CRes where
  | ok (r : Op) (fin : Sl) | er (x : Exc) (fin : Sl) | bad
inductive LRes where
  | ok (d : D) | er (x : Exc)

def gt : Sl → Nat → Option Sv
  | [], _ => none
  | x :: _, 0 => x
  | _ :: r, i + 1 => gt r i
def pt : Sl → Nat → Option Sv → Sl
  | [], _, _ => []
  | _ :: r, 0, v => v :: r
  | x :: r, i + 1, v => x :: pt r i v

def vw : Op → Sl → Option D
  | .im d, _ => some d
  | .tl xs, _ => some (.list xs)
  | .td kvs, _ => some (.dict kvs)
  | .bor i, e => match gt e i with
    | some (.im d) => some d
    | some (.ol xs) => some (.list xs)
    | some (.od kvs) => some (.dict kvs)
    | _ => none
def vws : List Op → Sl → Option (List D)
  | [], _ => some []
  | o :: os, e => match vw o e, vws os e with
    | some d, some ds => some (d :: ds)
    | _, _ => none
/-- made unchanging -/
def fzO : Op → Sl → Option (D × Sl)
  | .im d, e => some (d, e)
  | .tl xs, e => some (.list xs, e)
  | .td kvs, e => some (.dict kvs, e)
  | .bor i, e => match gt e i with
    | some (.im d) => some (d, e)
    | some (.ol xs) => some (.list xs, pt e i (some (.im (.list xs))))
    | some (.od kvs) => some (.dict kvs, pt e i (some (.im (.dict kvs))))
    | _ => none

/-! ### expressions -/
def immE (d : D) : ME := fun e => .ok (.im d) e
def badE : ME := fun _ => .bad
def varE (i : Nat) : ME := fun e => match gt e i with
  | some (.im d) => .ok (.im d) e
  | some (.ex _) => .bad
  | some _ => .ok (.bor i) e
  | none => .bad
def lift (r : Option Op) (e : Sl) : Res Op := match r with
  | some o => .ok o e
  | none => .bad
def un1 (f : D → Option Op) (a : ME) : ME := fun e => (a e).bind fun x e1 => match vw x e1 with
  | some p => lift (f p) e1
  | none => .bad
def op2 (f : D → D → Option Op) (a b : ME) : ME := fun e => (a e).bind fun x e1 => (b e1).bind fun y e2 => match vw x e2, vw y e2 with
  | some p, some q => lift (f p q) e2
  | _, _ => .bad
def tru : Op → Option Bool
  | .im (.bool b) => some b
  | _ => none
def andE : List ME → ME
  | [] => badE
  | [a] => a
  | a :: r => fun e => (a e).bind fun o e1 => match tru o with
    | some true => andE r e1
    | some false => .ok (.im (.bool false)) e1
    | none => .bad
def orE : List ME → ME
  | [] => badE
  | [a] => a
  | a :: r => fun e => (a e).bind fun o e1 => match tru o with
    | some true => .ok (.im (.bool true)) e1
    | some false => orE r e1
    | none => .bad
def notE (a : ME) : ME := fun e => (a e).bind fun o e1 => match tru o with
  | some b => .ok (.im (.bool (!b))) e1
  | none => .bad
def ifE (t a b : ME) : ME := fun e => (t e).bind fun o e1 => match tru o with
  | some true => a e1
  | some false => b e1
  | none => .bad
/-- a < b < c -/
def chainE (f g : D → D → Option Bool) (a b c : ME) : ME := fun e => (a e).bind fun x e1 => (b e1).bind fun y e2 => match vw x e2, vw y e2 with
  | some p, some q => (match f p q with
    | some true => (c e2).bind fun z e3 => (match vw y e3, vw z e3 with
      | some q', some r => (match g q' r with
        | some k => .ok (.im (.bool k)) e3
        | none => .bad)
      | _, _ => .bad)
    | some false => .ok (.im (.bool false)) e2
    | none => .bad)
  | _, _ => .bad
/-- operands made unchanging, from the left -/
def argsD : List ME → Sl → Res (List D)
  | [], e => .ok [] e
  | a :: r, e => (a e).bind fun o e1 => match fzO o e1 with
    | some (d, e2) => (argsD r e2).bind fun ds e3 => .ok (d :: ds) e3
    | none => .bad
def tupE (ms : List ME) : ME := fun e => (argsD ms e).bind fun ds e1 => .ok (.im (.tuple ds)) e1
def lstE (ms : List ME) : ME := fun e => (argsD ms e).bind fun ds e1 => .ok (.tl ds) e1
def argsO : List ME → Sl → Res (List Op)
  | [], e => .ok [] e
  | a :: r, e => (a e).bind fun o e1 => (argsO r e1).bind fun os e2 => .ok (o :: os) e2
/-- operands handed to a def; br: which may be handed as they are -/
def toPar : List Op → List Bool → Sl → Option (Sl × Sl)
  | [], [], e => some ([], e)
  | [], _ :: _, _ => none
  | .bor i :: os, b :: bs, e => (match gt e i, b with
    | some (.ol xs), true => (toPar os bs (pt e i none)).map fun r => (some (.ol xs) :: r.1, r.2)
    | some (.od kvs), true => (toPar os bs (pt e i none)).map fun r => (some (.od kvs) :: r.1, r.2)
    | _, _ => (match fzO (.bor i) e with
      | some (d, e1) => (toPar os bs e1).map fun r => (some (.im d) :: r.1, r.2)
      | none => none))
  | .im d :: os, _ :: bs, e => (toPar os bs e).map fun r => (some (.im d) :: r.1, r.2)
  | .tl xs :: os, _ :: bs, e => (toPar os bs e).map fun r => (some (.ol xs) :: r.1, r.2)
  | .td kvs :: os, _ :: bs, e => (toPar os bs e).map fun r => (some (.od kvs) :: r.1, r.2)
  | _ :: _, [], _ => none
/-- the slots handed over get back what they hold -/
def backs : List Op → Sl → Sl → Sl
  | .bor i :: os, f :: fs, e => (match gt e i with
    | none => backs os fs (pt e i f)
    | some _ => backs os fs e)
  | _ :: os, _ :: fs, e => backs os fs e
  | _, _, e => e
def callE (br : List Bool) (F : Sl → CRes) (ms : List ME) : ME := fun e => (argsO ms e).bind fun os e1 => match toPar os br e1 with
  | some (ps, e2) => (match F ps with
    | .ok r fin => .ok r (backs os fin e2)
    | .er x fin => .er x (backs os fin e2)
    | .bad => .bad)
  | none => .bad
/-- the slots in fv made unchanging, where they are none of fx -/
def frzS (fx : List Nat) : List Nat → Sl → Sl
  | [], e => e
  | i :: r, e => if fx.contains i then frzS fx r e else match gt e i with
    | some (.ol xs) => frzS fx r (pt e i (some (.im (.list xs))))
    | some (.od kvs) => frzS fx r (pt e i (some (.im (.dict kvs))))
    | _ => frzS fx r e
/-- what does not change -/
def imS : Sl → Sl
  | [] => []
  | some (.im d) :: r => some (.im d) :: imS r
  | _ :: r => none :: imS r
/-- what comes of a lambda's body -/
def lres : Res Op → Option LRes
  | .ok o e => match fzO o e with
    | some (d, _) => some (.ok d)
    | none => none
  | .er x _ => some (.er x)
  | .bad => none
/-- a lambda without parameters handed to a def that calls it -/
def lamE (fx fv : List Nat) (G : LRes → CRes) (m : ME) : ME := fun e => match lres (m (imS (frzS fx fv e))) with
  | some r => (match G r with
    | .ok (.im d) _ => .ok (.im d) (frzS fx fv e)
    | _ => .bad)
  | none => .bad

/-! ### what is walked -/
structure Itm where
  items : List D
  hid : List (Nat × Sv)
abbrev MI := Sl → Res Itm
/-- what is walked stands still from now on; a parameter's own list stands still and is not read while it is walked -/
def hideO (fx : List Nat) (o : Op) (e : Sl) : Option (D × List (Nat × Sv) × Sl) := match o with
  | .bor i => if fx.contains i then (match gt e i with
    | some (.ol xs) => some (.list xs, [(i, .ol xs)], pt e i none)
    | some (.im d) => some (d, [], e)
    | _ => none) else (fzO (.bor i) e).map fun r => (r.1, [], r.2)
  | o => (fzO o e).map fun r => (r.1, [], r.2)
def argsI (fx : List Nat) : List ME → Sl → Res (List D × List (Nat × Sv))
  | [], e => .ok ([], []) e
  | a :: r, e => (a e).bind fun o e1 => match hideO fx o e1 with
    | some (d, hs, e2) => (argsI fx r e2).bind fun p e3 => .ok (d :: p.1, hs ++ p.2) e3
    | none => .bad
def unhS : List (Nat × Sv) → Sl → Sl
  | [], e => e
  | (i, sv) :: r, e => match gt (unhS r e) i with
    | none => pt (unhS r e) i (some sv)
    | some _ => unhS r e
def itE (fx : List Nat) (f : List D → Option (List D)) (ms : List ME) : MI := fun e => (argsI fx ms e).bind fun p e1 => match f p.1 with
  | some xs => .ok ⟨xs, p.2⟩ e1
  | none => .bad

abbrev MT := D → Sl → Option Sl
/-- a comprehension: own are the slots of its own names -/
def wipeS : Sl → List Nat → Sl
  | e, [] => e
  | e, i :: is => pt (wipeS e is) i none
/-- the slots in is as they stand in e0 -/
def restS (e0 : Sl) : Sl → List Nat → Sl
  | e, [] => e
  | e, i :: is => pt (restS e0 e is) i (gt e0 i)
def sizeMax : Nat := 16777216
/-- nothing may be raised within -/
def noer {α : Type} : Res α → Res α
  | .er _ _ => .bad
  | r => r
def condE : List ME → ME
  | [] => fun e => .ok (.im (.bool true)) e
  | t :: _ => t
def compL (own : List Nat) (tg : MT) (cond elt : ME) : List D → List D → Sl → Res (List D)
  | [], acc, e => .ok acc e
  | d :: ds, acc, e => match tg d e with
    | none => .bad
    | some e1 => (noer (cond e1)).bind fun o e2 => match tru o with
      | none => .bad
      | some false => compL own tg cond elt ds acc (wipeS e2 own)
      | some true => (noer (elt e2)).bind fun y e3 => match fzO y e3 with
        | none => .bad
        | some (z, e4) => if acc.length < sizeMax then compL own tg cond elt ds (acc ++ [z]) (wipeS e4 own) else .bad
/-- the block's own names stand for unchanging values, or for nothing, ahead of it -/
def imOnly (e : Sl) (own : List Nat) : Bool := own.all fun i => match gt e i with
  | none => true
  | some (.im _) => true
  | _ => false
def compE (own : List Nat) (it : MI) (tg : MT) (cond elt : ME) : ME := fun e => (it e).bind fun m e1 =>
  if imOnly e1 own then (compL own tg cond elt m.items [] (wipeS e1 own)).bind fun acc e2 => .ok (.tl acc) (unhS m.hid (restS e1 e2 own)) else .bad

/-! ### statements -/
inductive SR where
  | nx (e : Sl) | rt (o : Op) (e : Sl) | bk (e : Sl) | ct (e : Sl) | er (x : Exc) (e : Sl) | bad
abbrev MS := Sl → SR
def SR.bind (r : SR) (f : Sl → SR) : SR := match r with
  | .nx e => f e
  | r => r
def Res.st {α : Type} (r : Res α) (f : α → Sl → SR) : SR := match r with
  | .ok a e => f a e
  | .er x e => .er x e
  | .bad => .bad
def seqS : List MS → MS
  | [] => fun e => .nx e
  | [a] => a
  | a :: r => fun e => (a e).bind (seqS r)
def badS : MS := fun _ => .bad
def retS (a : ME) : MS := fun e => (a e).st fun o e1 => .rt o e1
def retN : MS := fun e => .rt (.im .none) e
def exprS (a : ME) : MS := fun e => (a e).st fun _ e1 => .nx e1
def ifS (t : ME) (a b : MS) : MS := fun e => (t e).st fun o e1 => match tru o with
  | some true => a e1
  | some false => b e1
  | none => .bad
abbrev MG := Op → Sl → Option Sl
/-- a slot stored: fx are those that may not be -/
def stS (fx : List Nat) (i : Nat) (v : Sv) (e : Sl) : Option Sl := if fx.contains i then none else some (pt e i (some v))
def nameG (fx : List Nat) (i : Nat) : MG := fun o e => match o with
  | .im d => stS fx i (.im d) e
  | .tl xs => stS fx i (.ol xs) e
  | .td kvs => stS fx i (.od kvs) e
  | .bor _ => (match fzO o e with
    | some (d, e1) => stS fx i (.im d) e1
    | none => none)
def nameT (fx : List Nat) (i : Nat) : MT := fun d e => stS fx i (.im d) e
def tupT : List MT → List D → Sl → Option Sl
  | [], [], e => some e
  | t :: ts, d :: ds, e => (match t d e with
    | some e1 => tupT ts ds e1
    | none => none)
  | _, _, _ => none
def unpT (ts : List MT) : MT := fun d e => match d with
  | .tuple ds => tupT ts ds e
  | _ => none
def asgS (g : MG) (a : ME) : MS := fun e => (a e).st fun o e1 => match g o e1 with
  | some e2 => .nx e2
  | none => .bad
/-- a value stored to a target that is no name -/
def asgT (t : MT) (a : ME) : MS := fun e => (a e).st fun o e1 => match fzO o e1 with
  | some (d, e2) => (match t d e2 with
    | some e3 => .nx e3
    | none => .bad)
  | none => .bad
/-- the last is stored first -/
def parG : List MG → List Op → Sl → Option Sl
  | [], [], e => some e
  | g :: gs, o :: os, e => (match parG gs os e with
    | some e1 => g o e1
    | none => none)
  | _, _, _ => none
/-- a, b = x, y; operands that are slots are made unchanging first -/
def argsP : List ME → Sl → Res (List Op)
  | [], e => .ok [] e
  | a :: r, e => (a e).bind fun o e1 => match o with
    | .bor i => (match fzO (.bor i) e1 with
      | some (d, e2) => (argsP r e2).bind fun os e3 => .ok (.im d :: os) e3
      | none => .bad)
    | o => (argsP r e1).bind fun os e3 => .ok (o :: os) e3
def parS (gs : List MG) (as : List ME) : MS := fun e => (argsP as e).st fun os e1 => match parG gs os e1 with
  | some e2 => .nx e2
  | none => .bad
def forL (tg : MT) (body : MS) : List D → MS
  | [], e => .nx e
  | d :: ds, e => match tg d e with
    | none => .bad
    | some e1 => (match body e1 with
      | .nx e2 => forL tg body ds e2
      | .ct e2 => forL tg body ds e2
      | r => r)
def endL (f : Sl → Sl) : SR → SR
  | .nx e => .nx (f e)
  | .bk e => .nx (f e)
  | .rt o e => .rt o (f e)
  | .er x e => .er x (f e)
  | r => r
def forS (it : MI) (tg : MT) (body : MS) : MS := fun e => (it e).st fun m e1 => endL (unhS m.hid) (forL tg body m.items e1)
def whL (t : ME) (body : MS) : Nat → MS
  | 0, _ => .bad
  | w + 1, e => (t e).st fun o e1 => match tru o with
    | some true => (match body e1 with
      | .nx e2 => whL t body w e2
      | .ct e2 => whL t body w e2
      | .bk e2 => .nx e2
      | r => r)
    | some false => .nx e1
    | none => .bad
/-- raise C(..) -/
def raiseS (C : Str) : MS := fun e => .er ⟨C, none⟩ e
def raiseS1 (C f : Str) (a : ME) : MS := fun e => (a e).st fun o e1 => match fzO o e1 with
  | some (d, e2) => .er ⟨C, some (f, d)⟩ e2
  | none => .bad
def endT (f : Sl → Sl) : SR → SR
  | .nx e => .nx (f e)
  | .bk e => .bk (f e)
  | .ct e => .ct (f e)
  | .rt o e => .rt o (f e)
  | .er x e => .er x (f e)
  | .bad => .bad
/-- what is held is let go -/
def noEx : Sl → Sl
  | [] => []
  | some (.ex _) :: r => none :: noEx r
  | x :: r => x :: noEx r
/-- the clauses: of which class, under which name, what then (nothing is known of the slots) -/
def tryH (sub : Str → Str → Option Bool) (x : Exc) (n : Nat) : List (Str × Nat × MS) → SR
  | [] => .bad
  | (C, j, m) :: r => match sub x.cls C with
    | some true => endT (fun e' => pt (noEx e') j none) (m (pt (List.replicate n none) j (some (.ex x))))
    | some false => tryH sub x n r
    | none => .bad
/-- try: call() or return call() -/
def tryS (n : Nat) (ret : Bool) (r : LRes) (sub : Str → Str → Option Bool) (hs : List (Str × Nat × MS)) : MS := fun e => match r with
  | .ok d => if ret then .rt (.im d) (imS e) else .nx (imS e)
  | .er x => tryH sub x n hs
/-- isinstance(e, C), e.f of what is held -/
def isxE (sub : Str → Str → Option Bool) (C : Str) (i : Nat) : ME := fun e => match gt e i with
  | some (.ex ⟨cl, none⟩) => (match sub cl C with
    | some b => .ok (.im (.bool b)) e
    | none => .bad)
  | _ => .bad
def fldE (f : Str) (i : Nat) : ME := fun e => match gt e i with
  | some (.ex ⟨_, some (g, d)⟩) => if f = g then .ok (.im d) e else .bad
  | _ => .bad
/-! ### stores into an own list or dict -/
def isOl : Option Sv → Bool
  | some (.ol _) => true
  | _ => false
def mutE (i : Nat) (f : List D → List D → Option (D × List D)) (ms : List ME) : ME := fun e => if isOl (gt e i) then (argsD ms e).bind fun ds e1 => match gt e1 i with
  | some (.ol xs) => (match f xs ds with
    | some (r, ys) => .ok (.im r) (pt e1 i (some (.ol ys)))
    | none => .bad)
  | _ => .bad else .bad
def setiS (i : Nat) (f : List D → D → D → Option (List D)) (ix v : ME) : MS := fun e => (v e).st fun o e1 => match fzO o e1 with
  | some (d, e2) => if isOl (gt e2 i) then (ix e2).st fun p e3 => (match vw p e3, gt e3 i with
    | some k, some (.ol xs) => (match f xs k d with
      | some ys => .nx (pt e3 i (some (.ol ys)))
      | none => .bad)
    | _, _ => .bad) else .bad
  | none => .bad
def keyB : D → Bool
  | .int _ => true
  | .str _ => true
  | _ => false
/-- {k: v} -/
def dct1E (k v : ME) : ME := fun e => (k e).bind fun o e1 => match fzO o e1 with
  | some (dk, e2) => (v e2).bind fun y e3 => (match fzO y e3 with
    | some (dv, e4) => if keyB dk then .ok (.td [(dk, dv)]) e4 else .bad
    | none => .bad)
  | none => .bad
/-- o.m(a) of a list -/
def metE (f : List D → D → Option Op) (a b : ME) : ME := fun e => (a e).bind fun x e1 => match vw x e1 with
  | some (.list _) => (b e1).bind fun y e2 => (match vw x e2, vw y e2 with
    | some (.list xs), some q => lift (f xs q) e2
    | _, _ => .bad)
  | _ => .bad
/-! ### what the built-ins do -/
def imB (b : Bool) : Option Op := some (.im (.bool b))
def imI (i : Int) : Option Op := some (.im (.int i))
def maxDepth : Nat := 60
def shp (d : D) : Bool := PyData.plain d && decide (PyData.depth d ≤ maxDepth)
def eqD (p q : D) : Option Bool := if shp p && shp q then some (PyData.eqv p q) else none
def isNone : D → Bool
  | .none => true
  | _ => false
def ltD (p q : D) : Option Bool := if PySem.W.alike p q && !isNone p && shp p && shp q then some (PySem.W.dataLt p q) else none
def leD (p q : D) : Option Bool := if PySem.W.alike p q && !isNone p && shp p && shp q then some (!PySem.W.dataLt q p) else none
def isD (p q : D) : Option Bool := match p, q with
  | p, .none => some (isNone p)
  | .bool a, .bool b => some (decide (a = b))
  | _, _ => none
def dictGet (k : D) : List (D × D) → Option D
  | [] => none
  | (a, v) :: r => if PyData.eqv a k then some v else dictGet k r
def dictPut (k v : D) : List (D × D) → List (D × D)
  | [] => [(k, v)]
  | (a, w) :: r => if PyData.eqv a k then (a, v) :: r else (a, w) :: dictPut k v r
def inD (x : D) : D → Option Bool
  | .list ds => if shp x && shp (.list ds) then some (ds.any fun z => PyData.eqv z x) else none
  | .tuple ds => if shp x && shp (.tuple ds) then some (ds.any fun z => PyData.eqv z x) else none
  | _ => none
def cmpD (op : CmpOp) (p q : D) : Option Bool := match op with
  | .Eq => eqD p q
  | .NotEq => (eqD p q).map (!·)
  | .Lt => ltD p q
  | .LtE => leD p q
  | .Gt => ltD q p
  | .GtE => leD q p
  | .Is => isD p q
  | .IsNot => (isD p q).map (!·)
  | .In => inD p q
  | .NotIn => (inD p q).map (!·)
def small64 (i : Int) : Bool := decide (-(2 ^ 64) < i) && decide (i < 2 ^ 64)
def binD (op : Operator) (p q : D) : Option Op := match op, p, q with
  | .Add, .int i, .int j => imI (i + j)
  | .Add, .tuple xs, .tuple ys => if xs.length + ys.length ≤ sizeMax then some (.im (.tuple (xs ++ ys))) else none
  | .Add, .list xs, .list ys => if xs.length + ys.length ≤ sizeMax then some (.tl (xs ++ ys)) else none
  | .Sub, .int i, .int j => imI (i - j)
  | .Mult, .int i, .int j => if small64 i || small64 j then imI (i * j) else none
  | .Mult, .tuple xs, .int k => if decide (0 ≤ k) && decide (k ≤ 1000) && decide (xs.length ≤ 1000) then some (.im (.tuple (List.replicate k.toNat xs).flatten)) else none
  | .Mult, .list xs, .int k => if decide (0 ≤ k) && decide (k ≤ 1000) && decide (xs.length ≤ 1000) then some (.tl (List.replicate k.toNat xs).flatten) else none
  | .FloorDiv, .int i, .int j => if decide (j ≠ 0) && decide (j.natAbs < 1073741824) then imI (i.fdiv j) else none
  | .Mod, .int i, .int j => if decide (j ≠ 0) then imI (i.fmod j) else none
  | .Pow, .int i, .int j => if decide (0 ≤ j) && decide (j ≤ 1000000) && decide (i.natAbs < 2 ^ 64) then imI (i ^ j.toNat) else none
  | .LShift, .int i, .int j => if decide (0 ≤ j) && decide (j ≤ 1000000) && decide (i.natAbs < 2 ^ 64) then imI (i * 2 ^ j.toNat) else none
  | _, _, _ => none
/-- op= at a name: numbers -/
def augD (op : Operator) (p q : D) : Option Op := match op, p, q with
  | .Add, .int i, .int j => imI (i + j)
  | .Sub, .int i, .int j => imI (i - j)
  | _, _, _ => none
def negD : D → Option Op
  | .int i => imI (-i)
  | _ => none
/-- the place that i names in n items -/
def ixD (n : Nat) (i : Int) : Option Nat := if 0 ≤ i then (if i < n then some i.toNat else none) else if -(n : Int) ≤ i then some (i + n).toNat else none
def subD (p q : D) : Option Op := match p, q with
  | .tuple xs, .int i => (match ixD xs.length i with
    | some j => (xs[j]?).map Op.im
    | none => none)
  | .list xs, .int i => (match ixD xs.length i with
    | some j => (xs[j]?).map Op.im
    | none => none)
  | _, _ => none
/-- an end of a slice -/
def cutI (n : Nat) (dflt : Nat) : Option Int → Nat
  | none => dflt
  | some v => if v < 0 then (v + (n : Int)).toNat else min v.toNat n
def cutL (xs : List D) (lo hi : Option Int) : List D := (xs.drop (cutI xs.length 0 lo)).take (cutI xs.length xs.length hi - cutI xs.length 0 lo)
def sliD (p : D) (lo hi : Option Int) : Option Op := match p with
  | .tuple xs => some (.im (.tuple (cutL xs lo hi)))
  | .list xs => some (.tl (cutL xs lo hi))
  | .dict [(.none, .list xs)] => some (.tl (cutL xs lo hi))
  | _ => none
def optE : Option ME → Sl → Res (Option Int)
  | none, e => .ok none e
  | some a, e => (a e).bind fun o e1 => match o with
    | .im (.int i) => .ok (some i) e1
    | _ => .bad
def sliE (a : ME) (lo hi : Option ME) : ME := fun e => (a e).bind fun o e1 => (optE lo e1).bind fun l e2 => (optE hi e2).bind fun h e3 =>
  match vw o e3 with
  | some p => lift (sliD p l h) e3
  | none => .bad
def intsD : List D → Option (List Int)
  | [] => some []
  | .int i :: r => (intsD r).map (i :: ·)
  | _ => none
def boolsD : List D → Option (List Bool)
  | [] => some []
  | .bool i :: r => (boolsD r).map (i :: ·)
  | _ => none
def seqD : D → Option (List D)
  | .list xs => some xs
  | .tuple xs => some xs
  | _ => none
/-- all of one kind, so that they can be ordered -/
def alikeB (xs : List D) : Bool := xs.all (fun x => xs.all fun y => PySem.W.alike x y) && xs.all (fun x => !isNone x)
def shps (xs : List D) : Bool := PyData.plainAll xs && decide (PyData.depthAll xs ≤ maxDepth)
def sortB (xs : List D) : Bool := xs.all (fun x => match x with | .tuple (_ :: _) => true | _ => false) || xs.all (fun x => match x with | .tuple _ => false | .none => false | _ => true)
def leB (x y : D) : Bool := !PySem.W.dataLt y x
inductive Bl where
  | len | sum | max | min | any | all | tuple | list | abs | int | sorted
def bltOf (f : Str) : Option Bl :=
  if f = "len" then some .len else if f = "sum" then some .sum else if f = "max" then some .max else if f = "min" then some .min else if f = "any" then some .any else if f = "all" then some .all
  else if f = "tuple" then some .tuple else if f = "list" then some .list else if f = "abs" then some .abs else if f = "int" then some .int else if f = "sorted" then some .sorted else none
def bltD : Bl → List D → Option Op
  | .len, [.tuple xs] => imI xs.length
  | .len, [.list xs] => imI xs.length
  | .sum, [p] => (match seqD p with
    | some xs => (match intsD xs with | some ns => imI ns.sum | none => none)
    | none => none)
  | .max, [p] => (match seqD p with
    | some (x :: xs) => if alikeB (x :: xs) && shps (x :: xs) then some (.im (PySem.W.maxD x xs)) else none
    | _ => none)
  | .min, [p] => (match seqD p with
    | some (x :: xs) => if alikeB (x :: xs) && shps (x :: xs) then some (.im (PySem.W.minD x xs)) else none
    | _ => none)
  | .sorted, [.list xs] => if alikeB xs && shps xs && sortB xs && decide (xs.length ≤ sizeMax) then some (.tl (xs.mergeSort leB)) else none
  | .sorted, [.tuple xs] => if alikeB xs && shps xs && sortB xs && decide (xs.length ≤ sizeMax) then some (.tl (xs.mergeSort leB)) else none
  | .max, [.int i, .int j] => imI (if j > i then j else i)
  | .min, [.int i, .int j] => imI (if j < i then j else i)
  | .max, [.int i, .int j, .int k] => imI (if j > i then (if k > j then k else j) else (if k > i then k else i))
  | .any, [.list xs] => (match boolsD xs with | some bs => imB (bs.any id) | none => none)
  | .all, [.list xs] => (match boolsD xs with | some bs => imB (bs.all id) | none => none)
  | .tuple, [p] => (match seqD p with | some xs => some (.im (.tuple xs)) | none => none)
  | .list, [p] => (match seqD p with | some xs => some (.tl xs) | none => none)
  | .abs, [.int i] => imI (if i < 0 then -i else i)
  | .int, [.int i] => imI i
  | _, _ => none
def cntD (xs : List D) (q : D) : Option Op := if shps xs && shp q then imI (xs.countP fun y => PyData.eqv y q) else none
def idxD (xs : List D) (q : D) : Option Op := if shps xs && shp q && decide (xs.length ≤ sizeMax) then (match xs.findIdx? fun y => PyData.eqv y q with
  | some j => imI j
  | none => none) else none
def bltE (F : List D → Option Op) (ms : List ME) : ME := fun e => (argsO ms e).bind fun os e1 => match vws os e1 with
  | some ds => lift (F ds) e1
  | none => .bad
/-- of which built-in class a value is -/
inductive Ty where
  | int | bool | str | tuple | list | dict
  deriving DecidableEq
def tyOf (t : Str) : Option Ty :=
  if t = "int" then some .int else if t = "bool" then some .bool else if t = "str" then some .str else if t = "tuple" then some .tuple else if t = "list" then some .list else if t = "dict" then some .dict else none
def tyD : D → Ty → Option Bool
  | .none, _ => some false
  | .bool _, t => some (decide (t = .bool) || decide (t = .int))
  | .int _, t => some (decide (t = .int))
  | .str _, t => some (decide (t = .str))
  | .list _, t => some (decide (t = .list))
  | .tuple _, t => some (decide (t = .tuple))
  | .dict [(.none, _)], _ => none
  | .dict _, t => some (decide (t = .dict))
/-- of one of several -/
def tyDs (d : D) : List Ty → Option Bool
  | [] => some false
  | t :: r => match tyD d t with
    | some true => some true
    | some false => tyDs d r
    | none => none
def isiE (t : Ty) (a : ME) : ME := un1 (fun d => (tyD d t).bind imB) a
def isisE (ts : List Ty) (a : ME) : ME := un1 (fun d => (tyDs d ts).bind imB) a

/-! ### the evaluator: n bounds the syntax tree's depth; nothing where the text is not of the kind that is covered -/
structure Cfg where
  N : List Str
  fx : List Nat
  W : Nat
  fns : Str → Option (List Bool × (Sl → CRes))
  lam : Str → Option (LRes → CRes)
  clo : Option LRes
  cst : Str → Option D
  exs : Str → Bool
  sub : Str → Str → Option Bool
  calm : Bool
  hot : Bool
  tab : Bool
  fns2 : Str → Option (List Bool × (Sl → CRes))
def o1 {α β : Type} (f : α → β) : Option α → Option β
  | some a => some (f a)
  | none => none
def o2 {α β γ : Type} (f : α → β → γ) : Option α → Option β → Option γ
  | some a, some b => some (f a b)
  | _, _ => none
def o3 {α β γ δ : Type} (f : α → β → γ → δ) : Option α → Option β → Option γ → Option δ
  | some a, some b, some c => some (f a b c)
  | _, _, _ => none
def allO {α : Type} : List (Option α) → Option (List α)
  | [] => some []
  | a :: r => o2 (fun x xs => x :: xs) a (allO r)
/-- a part that may be left out -/
def oo {α : Type} : Option (Option α) → Option (Option α)
  | none => some none
  | some none => none
  | some (some a) => some (some a)
def iff {α : Type} (b : Bool) (r : Option α) : Option α := if b then r else none
def visB (sc : Scope) (x : Str) : Bool := match sc.names.lookup x with
  | some .local => true
  | some .cell => true
  | some .free => true
  | _ => false
def locB (sc : Scope) (x : Str) : Bool := match sc.names.lookup x with
  | some .local => true
  | some .cell => true
  | _ => false
def glB (sc : Scope) (x : Str) : Bool := (match sc.names.lookup x with
  | some .globalImplicit => true
  | _ => false) && !(x == ("__debug__" : Str)) && !(x == ("__name__" : Str))
def isStar : Expr → Bool
  | .Starred .. => true
  | _ => false
def noStar (es : List Expr) : Bool := es.all fun e => !isStar e
def ixN : List Str → Str → Option Nat
  | [], _ => none
  | x :: r, y => if x = y then some 0 else (ixN r y).map (· + 1)
def ixNs (N : List Str) : List Str → Option (List Nat)
  | [] => some []
  | x :: r => match ixN N x, ixNs N r with
    | some i, some is => some (i :: is)
    | _, _ => none
/-- the names of a target -/
def tgN : Nat → Expr → List Str
  | 0, _ => []
  | n + 1, .Name x _ => [x]
  | n + 1, .Tuple es _ _ => (es.map (tgN n)).flatten
  | _ + 1, _ => []
def tgE : Nat → Scope → Cfg → Expr → Option MT
  | 0, _, _, _ => none
  | n + 1, sc, c, e => match e with
    | .Name x _ => iff (locB sc x) (o1 (nameT c.fx) (ixN c.N x))
    | .Tuple es _ _ => iff (noStar es) (o1 unpT (allO (es.map (tgE n sc c))))
    | _ => none
def appF (xs : List D) (ds : List D) : Option (D × List D) := match ds with
  | [d] => if xs.length < sizeMax then some (.none, xs ++ [d]) else none
  | _ => none
def extF (xs : List D) (ds : List D) : Option (D × List D) := match ds with
  | [.list ys] => if xs.length + ys.length ≤ sizeMax then some (.none, xs ++ ys) else none
  | _ => none
def popF (xs : List D) (ds : List D) : Option (D × List D) := match ds with
  | [.int i] => if decide (-(2 ^ 62) ≤ i) && decide (i < 2 ^ 62) then (match ixD xs.length i with
    | some k => (xs[k]?).map fun d => (d, xs.eraseIdx k)
    | none => none) else none
  | _ => none
inductive Mt where
  | append | extend | pop
def mtOf (m : Str) : Option Mt := if m = "append" then some .append else if m = "extend" then some .extend else if m = "pop" then some .pop else none
def mtF : Mt → List D → List D → Option (D × List D)
  | .append => appF
  | .extend => extF
  | .pop => popF
def setF (xs : List D) (k d : D) : Option (List D) := match k with
  | .int i => (ixD xs.length i).map fun j => xs.set j d
  | _ => none
def enumI : Int → List D → List D
  | _, [] => []
  | i, d :: r => .tuple [.int i, d] :: enumI (i + 1) r
def zipI : List D → List D → List D
  | a :: as, b :: bs => .tuple [a, b] :: zipI as bs
  | _, _ => []
def rangeI (lo : Int) : Nat → List D
  | 0 => []
  | n + 1 => .int lo :: rangeI (lo + 1) n
def rngB (i : Int) : Bool := decide (-(2 ^ 62) ≤ i) && decide (i < 2 ^ 62)
def rangeF1 : List D → Option (List D)
  | [.int n] => if rngB n then some (rangeI 0 n.toNat) else none
  | _ => none
def rangeF2 : List D → Option (List D)
  | [.int a, .int b] => if rngB a && rngB b then some (rangeI a (b - a).toNat) else none
  | _ => none
def enumF : List D → Option (List D)
  | [.list xs] => some (enumI 0 xs)
  | [.tuple xs] => some (enumI 0 xs)
  | _ => none
def zipF : List D → Option (List D)
  | [.list xs, .list ys] => some (zipI xs ys)
  | [.tuple xs, .tuple ys] => some (zipI xs ys)
  | _ => none
def seqF : List D → Option (List D)
  | [p] => seqD p
  | _ => none
def isTup : Expr → Bool
  | .Tuple .. => true
  | _ => false
def isSet : Expr → Bool
  | .Set .. => true
  | _ => false
/-- what is walked; tup: the target is a tuple -/
def evI (sc : Scope) (fx : List Nat) (tup : Bool) (ev : Expr → Option ME) (it : Expr) : Option MI := match it with
  | .Call (.Name f _) as [] _ => if f = "range" then iff (glB sc f && noStar as) (match as with
    | [a] => o1 (fun m => itE fx rangeF1 [m]) (ev a)
    | [a, b] => o2 (fun m m' => itE fx rangeF2 [m, m']) (ev a) (ev b)
    | _ => none)
    else if f = "enumerate" then iff (glB sc f && noStar as && tup) (match as with
    | [a] => o1 (fun m => itE fx enumF [m]) (ev a)
    | _ => none)
    else if f = "zip" then iff (glB sc f && noStar as && tup) (match as with
    | [a, b] => o2 (fun m m' => itE fx zipF [m, m']) (ev a) (ev b)
    | _ => none) else o1 (fun m => itE fx seqF [m]) (ev it)
  | e => iff (!isSet e) (o1 (fun m => itE fx seqF [m]) (ev it))
/-- the names of a comprehension's block -/
def blkB (N : List Str) (sc scope : Scope) (own : List (Str × Nat)) : Bool :=
  (match scope.kind with | .function => true | _ => false) && (scope.names.all fun y => decide (scope.names.lookup y.1 = some y.2)) && (own.all fun p => decide (N[p.2]? = some p.1)) &&
    (scope.names.all fun y => match y.2 with
      | .free => (match sc.names.lookup y.1 with | some .cell => true | some .free => true | _ => false)
      | .local => decide (y.1 ∈ own.map (·.1)) || decide (y.1 ∉ N)
      | .cell => decide (y.1 ∈ own.map (·.1)) || decide (y.1 ∉ N)
      | _ => true)
/-- a block's scope as it runs: what is free there and a cell around is a cell -/
def relB (scope sc : Scope) : Scope :=
  { scope with names := scope.names.map fun (n, k) => if (k == .free && sc.kind == .function && sc.names.lookup n == some .cell) then (n, .cell) else (n, k) }
/-- the types that a tuple of names names -/
def tysOf : List Expr → Option (List Ty)
  | [] => some []
  | .Name t _ :: r => o2 (fun x xs => x :: xs) (tyOf t) (tysOf r)
  | _ :: _ => none
def glBs (sc : Scope) : List Expr → Bool
  | [] => true
  | .Name t _ :: r => glB sc t && glBs sc r
  | _ :: _ => false
/-- a lambda's names: captured ones and globals -/
def lamB (sc scope : Scope) : Bool :=
  decide (scope.kind = .function) && !scope.isCoroutine && !scope.isGenerator && scope.names.all fun y => !decide (y.2 = .local) && !decide (y.2 = .cell) && (!decide (y.2 = .free) || decide (sc.names.lookup y.1 = some .cell) || decide (sc.names.lookup y.1 = some .free))
def noPar (p : Arguments) : Bool := p.posonlyargs.isEmpty && p.args.isEmpty && p.vararg.isNone && p.kwonlyargs.isEmpty && p.kw_defaults.isEmpty && p.kwarg.isNone && p.defaults.isEmpty
def freesOf (N : List Str) (scope : Scope) : List Nat := scope.names.filterMap fun y => if y.2 = .free then ixN N y.1 else none
def isCall : Expr → Bool
  | .Call .. => true
  | _ => false
/-- list(range(..)), tuple(range(..)): which, the range's arguments -/
def rngArg (f : Str) : List Expr → Option (Bool × List Expr)
  | [.Call (.Name r _) rs [] _] => if r = "range" then (if f = "list" then some (false, rs) else if f = "tuple" then some (true, rs) else none) else none
  | _ => none
def rngOk (a b : Int) : Bool := rngB a && rngB b && decide ((b - a).toNat ≤ 2 ^ 24)
def rngO (t : Bool) (xs : List D) : Op := if t then .im (.tuple xs) else .tl xs
def rngD (t : Bool) : List D → Option Op
  | [.int n] => if rngOk 0 n then some (rngO t (rangeI 0 (n - 0).toNat)) else none
  | [.int a, .int b] => if rngOk a b then some (rngO t (rangeI a (b - a).toNat)) else none
  | _ => none
inductive Vm where
  | count | index
def vmOf (m : Str) : Option Vm := if m = "count" then some .count else if m = "index" then some .index else none
def vmF : Vm → List D → D → Option Op
  | .count => cntD
  | .index => idxD
def evE : Nat → Scope → Cfg → Expr → Option ME
  | 0, _, _, _ => none
  | n + 1, sc, c, e => match e with
    | .Constant (.int i) _ _ => some (immE (.int i))
    | .Constant (.bool b) _ _ => some (immE (.bool b))
    | .Constant .none _ _ => some (immE .none)
    | .Constant (.str s) _ _ => some (immE (.str s))
    | .Name x _ => iff (!(x == ("__debug__" : Str)) && !(x == ("__classdict__" : Str))) (match ixN c.N x with
      | some i => iff (visB sc x) (some (varE i))
      | none => iff (glB sc x) (o1 immE (c.cst x)))
    | .BinOp a op b _ => o2 (op2 (binD op)) (evE n sc c a) (evE n sc c b)
    | .UnaryOp .Not a _ => o1 notE (evE n sc c a)
    | .UnaryOp .USub a _ => o1 (un1 negD) (evE n sc c a)
    | .BoolOp .And es _ => o1 andE (allO (es.map (evE n sc c)))
    | .BoolOp .Or es _ => o1 orE (allO (es.map (evE n sc c)))
    | .IfExp t a b _ => o3 ifE (evE n sc c t) (evE n sc c a) (evE n sc c b)
    | .Compare a [op] [b] _ => iff (!behindInMarks op b) (o2 (op2 fun p q => (cmpD op p q).bind imB) (evE n sc c a) (evE n sc c b))
    | .Compare a [op, op'] [b, d] _ => iff (!lastMarks [op, op'] [b, d]) (o3 (chainE (cmpD op) (cmpD op')) (evE n sc c a) (evE n sc c b) (evE n sc c d))
    | .Tuple es _ _ => iff (noStar es && decide (es.length ≤ sizeMax)) (o1 tupE (allO (es.map (evE n sc c))))
    | .List es _ => iff (noStar es && decide (es.length ≤ sizeMax)) (o1 lstE (allO (es.map (evE n sc c))))
    | .Subscript a (.Slice lo hi none _) _ => o3 sliE (evE n sc c a) (oo (lo.map (evE n sc c))) (oo (hi.map (evE n sc c)))
    | .Subscript a i _ => o2 (op2 subD) (evE n sc c a) (evE n sc c i)
    | .ListComp elt [⟨tg, it, ifs, 0⟩] scope _ => (match ixNs c.N (tgN n tg) with
      | some own => iff (c.calm && blkB c.N sc scope ((tgN n tg).zip own) && !isSet it && decide (ifs.length ≤ 1)) (match evI sc c.fx (isTup tg) (evE n sc c) it, tgE n scope c tg, allO (ifs.map (evE n (relB scope sc) c)), evE n (relB scope sc) c elt with
        | some m, some t, some cs, some x => some (compE own m t (condE cs) x)
        | _, _, _, _ => none)
      | none => none)
    | .Dict [] [] _ => some fun e => .ok (.td []) e
    | .Dict [some x] [y] _ => o2 dct1E (evE n sc c x) (evE n sc c y)
    | .Attribute (.Name _ _) _ _ => iff c.hot (some badE)
    | .Call (.Name g _) [.Lambda params body scope _] [] _ => iff (c.calm && glB sc g && c.tab && noPar params && lamB sc scope) (o2 (lamE c.fx (freesOf c.N scope)) (c.lam g) (evE n scope { c with fns := c.fns2, fns2 := fun _ => none, lam := fun _ => none, tab := false, calm := true, hot := false } body))
    | .Call (.Name f _) as [] _ => iff (glB sc f && noStar as) (match rngArg f as with
      | some (t, rs) => iff (c.calm && glB sc "range" && noStar rs) (match rs with
        | [a] => o1 (fun m => bltE (rngD t) [m]) (evE n sc c a)
        | [a, b] => o2 (fun m m' => bltE (rngD t) [m, m']) (evE n sc c a) (evE n sc c b)
        | _ => none)
      | none => if f = "isinstance" then (match as with
      | [.Name x _, .Name t _] => (match tyOf t with
        | some ty => iff (glB sc t) (o1 (isiE ty) (evE n sc c (.Name x ⟨0, 0, 0, 0⟩)))
        | none => iff (c.hot && visB sc x && glB sc t && !(x == ("__debug__" : Str)) && !(x == ("__classdict__" : Str))) (o1 (isxE c.sub t) (ixN c.N x)))
      | [a, .Name t _] => iff (glB sc t) (o2 isiE (tyOf t) (evE n sc c a))
      | [a, .Tuple ts _ _] => iff (glBs sc ts && decide (ts ≠ []) && decide (ts.length ≤ sizeMax)) (o2 isisE (tysOf ts) (evE n sc c a))
      | _ => none) else (match bltOf f with
      | some b => iff (c.calm && decide (as ≠ [])) (o1 (bltE (bltD b)) (allO (as.map (evE n sc c))))
      | none => (match c.fns f with
        | some (br, F) => iff (c.calm && decide (as.length = br.length)) (o1 (callE br F) (allO (as.map (evE n sc c))))
        | none => none)))
    | .Call (.Attribute o m apos) [a] [] cpos => (match mtOf m with
      | some f => (match o with
        | .Name x _ => iff (visB sc x && !isStar a && (apos.endLine == cpos.line) && !(x == ("__debug__" : Str)) && !(x == ("__classdict__" : Str))) (o2 (fun i x => mutE i (mtF f) [x]) (ixN c.N x) (evE n sc c a))
        | _ => none)
      | none => (match vmOf m with
        | some f => iff (!isCall o && !isStar a && (apos.endLine == cpos.line)) (o2 (metE (vmF f)) (evE n sc c o) (evE n sc c a))
        | none => none))
    | _ => none
def nameOn (loc : Str → Bool) (line : Nat) : Expr → Option Str
  | .Name id pos => if loc id && pos.line == line then some id else none
  | _ => none
/-- is this a swap of plain local names (of which), as Python compiles it? -/
def swp (loc : Str → Bool) (ts es : List Expr) : Option (Option (List Str)) :=
  if !(ts.length == 2 || ts.length == 3) || es.length != ts.length then some none else
  if es.any isStar then some none else
  if (ts.filterMap (nameOn loc ((ts.head?.map (·.pos.line)).getD 0))).length != ts.length || (ts.filterMap (nameOn loc ((ts.head?.map (·.pos.line)).getD 0))).eraseDups.length != (ts.filterMap (nameOn loc ((ts.head?.map (·.pos.line)).getD 0))).length then some none else
  if es.all (foldedForSure 8) then some none else
  if es.all (constantsAlone 8) then none else some (some (ts.filterMap (nameOn loc ((ts.head?.map (·.pos.line)).getD 0))))
def locOnly (sc : Scope) (x : Str) : Bool := sc.names.lookup x == some .local
/-- targets that are names -/
def plainN : List Expr → Option (List Str)
  | [] => some []
  | .Name x _ :: r => (plainN r).map fun ns => x :: ns
  | _ :: _ => none
/-- names that are plain locals -/
def allLoc (sc : Scope) (ns : List Str) : Bool := ns.all (locOnly sc)
/-- the one statement of a try's body: call() or return call(), of the first parameter -/
def tryB (c : Cfg) : Stmt → Option Bool
  | .Expr (.Call (.Name a _) [] [] _) _ => iff (c.N.head? == some a) (some false)
  | .Return (some (.Call (.Name a _) [] [] _)) _ => iff (c.N.head? == some a) (some true)
  | _ => none
def evS : Nat → Scope → Cfg → Stmt → Option MS
  | 0, _, _, _ => none
  | n + 1, sc, c, s => match s with
    | .Return (some e) _ => o1 retS (evE n sc c e)
    | .Return none _ => some retN
    | .Expr e _ => iff (isCall e) (o1 exprS (evE n sc c e))
    | .If t a b _ => o3 ifS (evE n sc c t) (o1 seqS (allO (a.map (evS n sc c)))) (o1 seqS (allO (b.map (evS n sc c))))
    | .For tg it body [] _ => (match ixNs c.N (tgN n tg) with
      | some own => iff (c.calm && !isSet it) (o3 forS (evI sc c.fx (isTup tg) (evE n sc c) it) (tgE n sc c tg) (o1 seqS (allO (body.map (evS n sc c)))))
      | none => none)
    | .While t body [] _ => iff c.calm (o2 (fun t b e => whL t b c.W e) (evE n sc c t) (o1 seqS (allO (body.map (evS n sc c)))))
    | .Assign [.Name x _] e _ => iff (locB sc x) (o2 (fun i m => asgS (nameG c.fx i) m) (ixN c.N x) (evE n sc c e))
    | .Assign [.Tuple ts k p] e _ => (match e with
      | .Tuple es k2 p2 => (match swp (locOnly sc) ts es with
        | some (some ns) => iff (c.calm && noStar es && allLoc sc ns) (o2 (fun is ms => parS (is.map (nameG c.fx)) ms) (ixNs c.N ns) (allO (es.map (evE n sc c))))
        | some none => (match plainN ts with
          | some ns => (match ixNs c.N ns with
            | some is => iff (c.calm && noStar es && ns.all (locB sc) && decide is.Nodup && decide (is.length ≤ sizeMax)) (o1 (fun ms => parS (is.map (nameG c.fx)) ms) (allO (es.map (evE n sc c))))
            | none => none)
          | none => (match ixNs c.N (tgN n (.Tuple ts k p)) with
            | some own => iff c.calm (o2 asgT (tgE n sc c (.Tuple ts k p)) (evE n sc c (.Tuple es k2 p2)))
            | none => none))
        | none => none)
      | e => (match ixNs c.N (tgN n (.Tuple ts k p)) with
          | some own => iff c.calm (o2 asgT (tgE n sc c (.Tuple ts k p)) (evE n sc c e))
          | none => none))
    | .Assign [.Subscript (.Name x _) i _] e _ => iff (visB sc x && !(x == ("__debug__" : Str)) && !(x == ("__classdict__" : Str))) (o3 (fun j mi me => setiS j setF mi me) (ixN c.N x) (evE n sc c i) (evE n sc c e))
    | .AugAssign (.Name x _) op e _ => iff (locB sc x) (o2 (fun i m => asgS (nameG c.fx i) (op2 (augD op) (varE i) m)) (ixN c.N x) (evE n sc c e))
    | .Raise (some (.Call (.Name C _) [] [] _)) none _ => iff (c.calm && glB sc C && c.exs C) (some (raiseS C))
    | .Try [b] (h₀ :: hs) [] [] _ => iff c.calm (match c.clo with
      | some r => o2 (fun ret hs => tryS c.N.length ret r c.sub hs) (tryB c b) (allO ((h₀ :: hs).map fun h => match h with
        | .ExceptHandler (some (.Name C _)) (some y) (s₀ :: ss) _ => iff (glB sc C && locOnly sc y && (c.sub C C).isSome) (o2 (fun j ms => (C, j, seqS ms)) (ixN c.N y) (allO ((s₀ :: ss).map (evS n sc { c with fx := [], calm := false, hot := true, clo := none }))))
        | _ => none))
      | none => none)
    | .Pass _ => some fun e => .nx e
    | .Break _ => some fun e => .bk e
    | .Continue _ => some fun e => .ct e
    | _ => none

/-! ### defs -/
structure Df where
  N : List Str
  sc : Scope
  br : List Bool
  tab : Bool
  body : List Stmt
/-- the parameters that were handed as they are -/
def fxOf : Nat → List Bool → List Nat
  | _, [] => []
  | i, b :: bs => if b then i :: fxOf (i + 1) bs else fxOf (i + 1) bs
/-- what they hold at the end -/
def finsOf : List Bool → Sl → Sl
  | [], _ => []
  | _ :: bs, [] => none :: finsOf bs []
  | b :: bs, x :: r => (if b then x else none) :: finsOf bs r
/-- what leaves a def: an own list that a slot holds goes along, where it is no argument's -/
def outO (fx : List Nat) : Op → Sl → Option (Op × Sl)
  | .bor i, e => if fx.contains i then (fzO (.bor i) e).map fun r => (.im r.1, r.2) else (match gt e i with
    | some (.ol xs) => some (.tl xs, pt e i none)
    | some (.od kvs) => some (.td kvs, pt e i none)
    | some (.im d) => some (.im d, e)
    | _ => none)
  | o, e => some (o, e)
def endF (br : List Bool) : SR → CRes
  | .nx e => .ok (.im .none) (finsOf br e)
  | .rt o e => (match outO (fxOf 0 br) o e with
    | some (r, e1) => .ok r (finsOf br e1)
    | none => .bad)
  | .er x e => .er x (finsOf br e)
  | _ => .bad
def callDf (n : Nat) (c : Cfg) (d : Df) (ps : Sl) : CRes := match allO (d.body.map (evS n d.sc { c with N := d.N, fx := fxOf 0 d.br })) with
  | some ms => endF d.br (seqS ms (ps ++ List.replicate (d.N.length - d.br.length) none))
  | none => .bad
/-- a program: its defs by name, those that call a lambda, its constants, its own exceptions, which is of which class -/
structure Prg where
  defs : List (Str × Df)
  lams : List (Str × Df)
  tabs : List Str
  cst : List (Str × D)
  exs : List Str
  sub : List (Str × List (Str × Bool))
  W : Nat
def fuel : Nat := 40
def Prg.cfg (P : Prg) (tab : Bool) (G G2 : Df → Sl → CRes) (L : Df → LRes → CRes) : Cfg where
  N := []
  fx := []
  W := P.W
  fns := fun f => (P.defs.lookup f).map fun d => (d.br, G d)
  fns2 := fun f => (P.defs.lookup f).map fun d => (d.br, G2 d)
  lam := fun f => (P.lams.lookup f).map fun d => L d
  clo := none
  cst := fun x => P.cst.lookup x
  exs := fun x => P.exs.contains x
  sub := fun x y => (P.sub.lookup x).bind fun r => r.lookup y
  calm := true
  hot := false
  tab := tab
/-- what a def that calls a lambda makes of what comes of it -/
def isTry : Stmt → Bool
  | .Try .. => true
  | _ => false
def splitT : List Stmt → List Stmt × List Stmt
  | [] => ([], [])
  | s :: r => if isTry s then ([], s :: r) else ((s :: (splitT r).1), (splitT r).2)
/-- no def is called there -/
def lmCfg (c : Cfg) (d : Df) : Cfg := { c with N := d.N, fx := [], fns := fun _ => none, fns2 := fun _ => none, lam := fun _ => none, exs := fun _ => false, clo := none, tab := false, calm := true, hot := false }
def callLm (n : Nat) (c : Cfg) (d : Df) (r : LRes) : CRes := match splitT d.body with
  | (pre, t :: post) => (match allO (pre.map (evS n d.sc { lmCfg c d with fx := [0] })), evS n d.sc { lmCfg c d with clo := some r } t, allO (post.map (evS n d.sc (lmCfg c d))) with
    | some a, some m, some b => endF [] ((seqS a (List.replicate d.N.length none)).bind fun e => (m e).bind (seqS b))
    | _, _, _ => .bad)
  | _ => .bad
def Prg.run (P : Prg) : Nat → Df → Sl → CRes
  | k + 3, d, ps => callDf fuel (P.cfg d.tab (P.run (k + 2)) (P.run k) (callLm fuel (P.cfg false (P.run k) (fun _ _ => .bad) fun _ _ => .bad))) d ps
  | _, _, _ => .bad
end Ev
end
section
set_option maxHeartbeats 2000000
/-! EvRel: how the evaluator's values stand in the abstract heap; readings that speak of the evaluator. -/
namespace Ev
open PySem PySem.Spec PyProof.Rows L2
/-- what stands around: tables of code objects; what names stand for; the exception that is held: where, its class, its dict -/
structure LT where
  tabs : List (Addr × Str)
  mg : Str → Option Value
  exc : Option (Addr × Value × Option Addr)
variable {T : LT}

/-- a list, a dict -/
def Md : HO → Prop
  | .lst _ => True
  | .dK _ => True
  | .dT _ => True
  | _ => False
/-! ### values that never change -/
/-- a list that is known to the object, or one of the module's own: the script -/
def ScrAt (K : PySem.W.Frag) (Z : Addr → Prop) (H : Hp) (a : Addr) (xs : List V) : Prop :=
  (Z a ∧ H a = some (.lst xs)) ∨ (∃ o, H a = some (.frz o (.lst xs))) ∨
    ∃ (o : Obj) (its : Array Value) (n : Nat), K.lookup a = some o ∧ o.cls = .type "list" ∧ o.dict = none ∧ o.data = .seq its n ∧ its.size ≤ sizeLine ∧ Vals xs its.toList
def keyD : Key → D
  | .inl i => .int i
  | .inr x => .str x
mutual
inductive EncD (K : PySem.W.Frag) (Z : Addr → Prop) (H : Hp) : V → D → Prop
  | non : EncD K Z H .non .none
  | bl (b : Bool) : EncD K Z H (.bl b) (.bool b)
  | int (i : Int) : EncD K Z H (.int i) (.int i)
  | str (x : Str) : EncD K Z H (.str x) (.str x)
  | lst {a : Addr} {xs : List V} {ds : List D} : Z a → H a = some (.lst xs) → EncDs K Z H xs ds → EncD K Z H (.ref a) (.list ds)
  | tup {a : Addr} {xs : List V} {ds : List D} : SqT K H a xs → EncDs K Z H xs ds → EncD K Z H (.ref a) (.tuple ds)
  | scr {a : Addr} {xs : List V} {ds : List D} : ScrAt K Z H a xs → EncDs K Z H xs ds → EncD K Z H (.ref a) (.dict [(.none, .list ds)])
  | dK {a : Addr} {kvs : List (Key × V)} {ds : List (D × D)} : Z a → H a = some (.dK kvs) → EncK K Z H kvs ds → EncD K Z H (.ref a) (.dict ds)
  | dT {a : Addr} {kvs : List (List Key × V)} {ds : List (D × D)} : Z a → H a = some (.dT kvs) → EncT K Z H kvs ds → EncD K Z H (.ref a) (.dict ds)
inductive EncDs (K : PySem.W.Frag) (Z : Addr → Prop) (H : Hp) : List V → List D → Prop
  | nil : EncDs K Z H [] []
  | cons {v : V} {vs : List V} {d : D} {ds : List D} : EncD K Z H v d → EncDs K Z H vs ds → EncDs K Z H (v :: vs) (d :: ds)
inductive EncK (K : PySem.W.Frag) (Z : Addr → Prop) (H : Hp) : List (Key × V) → List (D × D) → Prop
  | nil : EncK K Z H [] []
  | cons {k : Key} {v : V} {d : D} {r : List (Key × V)} {r' : List (D × D)} : EncD K Z H v d → EncK K Z H r r' → EncK K Z H ((k, v) :: r) ((keyD k, d) :: r')
inductive EncT (K : PySem.W.Frag) (Z : Addr → Prop) (H : Hp) : List (List Key × V) → List (D × D) → Prop
  | nil : EncT K Z H [] []
  | cons {k : List Key} {v : V} {d : D} {r : List (List Key × V)} {r' : List (D × D)} : EncD K Z H v d → EncT K Z H r r' → EncT K Z H ((k, v) :: r) ((.tuple (k.map keyD), d) :: r')
end
def DctAt (K : PySem.W.Frag) (Z : Addr → Prop) (H : Hp) (a : Addr) (kvs : List (D × D)) : Prop :=
  (∃ l, H a = some (.dK l) ∧ EncK K Z H l kvs) ∨ ∃ l, H a = some (.dT l) ∧ EncT K Z H l kvs
structure Le (Z : Addr → Prop) (H : Hp) (Z' : Addr → Prop) (H' : Hp) : Prop where
  z : ∀ a, Z a → Z' a
  keep : ∀ a, Z a → H' a = H a
  tup : ∀ a xs, H a = some (.tup xs) → H' a = some (.tup xs)
  frz : ∀ a o u, H a = some (.frz o u) → H' a = some (.frz o u)
theorem Le.refl {Z H} : Le Z H Z H := ⟨fun _ h => h, fun _ _ => rfl, fun _ _ h => h, fun _ _ _ h => h⟩
theorem Le.trans {Z H Z1 H1 Z2 H2} (a : Le Z H Z1 H1) (b : Le Z1 H1 Z2 H2) : Le Z H Z2 H2 :=
  ⟨fun x h => b.z x (a.z x h), fun x h => (b.keep x (a.z x h)).trans (a.keep x h), fun x xs h => b.tup x xs (a.tup x xs h), fun x o u h => b.frz x o u (a.frz x o u h)⟩
theorem ScrAt.mono {K : PySem.W.Frag} {Z Z' : Addr → Prop} {H H' : Hp} {a xs} (l : Le Z H Z' H') (h : ScrAt K Z H a xs) : ScrAt K Z' H' a xs := by
  rcases h with ⟨z, h⟩ | ⟨o, h⟩ | h
  · exact .inl ⟨l.z _ z, by rw [l.keep _ z]; exact h⟩
  · exact .inr (.inl ⟨o, l.frz _ _ _ h⟩)
  · exact .inr (.inr h)
theorem SqT.mono' {K : PySem.W.Frag} {Z Z' : Addr → Prop} {H H' : Hp} {a xs} (l : Le Z H Z' H') (h : SqT K H a xs) : SqT K H' a xs := by
  rcases h with (h | ⟨o, h⟩) | h
  · exact .inl (.inl (l.tup _ _ h))
  · exact .inl (.inr ⟨o, l.frz _ _ _ h⟩)
  · exact .inr h
mutual
theorem EncD.mono {K Z H Z' H'} (l : Le Z H Z' H') : ∀ {v d}, EncD K Z H v d → EncD K Z' H' v d
  | _, _, .non => .non
  | _, _, .bl b => .bl b
  | _, _, .int i => .int i
  | _, _, .str x => .str x
  | _, _, .lst z h hs => .lst (l.z _ z) (by rw [l.keep _ z]; exact h) (EncDs.mono l hs)
  | _, _, .tup h hs => .tup (SqT.mono' l h) (EncDs.mono l hs)
  | _, _, .scr h hs => .scr (h.mono l) (EncDs.mono l hs)
  | _, _, .dK z h q => .dK (l.z _ z) (by rw [l.keep _ z]; exact h) (EncK.mono l q)
  | _, _, .dT z h q => .dT (l.z _ z) (by rw [l.keep _ z]; exact h) (EncT.mono l q)
theorem EncDs.mono {K Z H Z' H'} (l : Le Z H Z' H') : ∀ {vs ds}, EncDs K Z H vs ds → EncDs K Z' H' vs ds
  | _, _, .nil => .nil
  | _, _, .cons h hs => .cons (EncD.mono l h) (EncDs.mono l hs)
theorem EncK.mono {K Z H Z' H'} (l : Le Z H Z' H') : ∀ {vs ds}, EncK K Z H vs ds → EncK K Z' H' vs ds
  | _, _, .nil => .nil
  | _, _, .cons h hs => .cons (EncD.mono l h) (EncK.mono l hs)
theorem EncT.mono {K Z H Z' H'} (l : Le Z H Z' H') : ∀ {vs ds}, EncT K Z H vs ds → EncT K Z' H' vs ds
  | _, _, .nil => .nil
  | _, _, .cons h hs => .cons (EncD.mono l h) (EncT.mono l hs)
end
theorem DctAt.mono {K Z H Z' H' a kvs} (l : Le Z H Z' H') (h : DctAt K Z H a kvs) (e : H' a = H a) : DctAt K Z' H' a kvs := by
  rcases h with ⟨m, h, q⟩ | ⟨m, h, q⟩
  · exact .inl ⟨m, e.trans h, q.mono l⟩
  · exact .inr ⟨m, e.trans h, q.mono l⟩
theorem DctAt.some {K Z H a kvs} (h : DctAt K Z H a kvs) : ∃ u, H a = some u ∧ Md u := by
  rcases h with ⟨m, h, q⟩ | ⟨m, h, q⟩
  · exact ⟨_, h, trivial⟩
  · exact ⟨_, h, trivial⟩
theorem DctAt.enc {K Z H a kvs} (h : DctAt K Z H a kvs) (z : Z a) : EncD K Z H (.ref a) (.dict kvs) := by
  rcases h with ⟨m, h, q⟩ | ⟨m, h, q⟩
  · exact .dK z h q
  · exact .dT z h q
theorem EncDs.length {K Z H} : ∀ {vs ds}, EncDs K Z H vs ds → vs.length = ds.length
  | _, _, .nil => rfl
  | _, _, .cons _ h => by rw [List.length_cons, List.length_cons, EncDs.length h]
theorem EncDs.get {K Z H} : ∀ {vs ds} {i : Nat} {d : D}, EncDs K Z H vs ds → ds[i]? = some d → ∃ v, vs[i]? = some v ∧ EncD K Z H v d
  | _, _, _, _, .nil, e => by simp at e
  | _, _, 0, _, .cons h _, e => by simp at e; subst e; exact ⟨_, rfl, h⟩
  | _, _, i + 1, _, .cons _ t, e => by
    obtain ⟨v, h1, h2⟩ := EncDs.get (i := i) t (by simpa using e)
    exact ⟨v, by simpa using h1, h2⟩
theorem EncDs.append {K Z H} : ∀ {vs ds ws es}, EncDs K Z H vs ds → EncDs K Z H ws es → EncDs K Z H (vs ++ ws) (ds ++ es)
  | _, _, _, _, .nil, h => h
  | _, _, _, _, .cons a b, h => .cons a (EncDs.append b h)
theorem EncDs.set {K Z H} {v : V} {d : D} (h : EncD K Z H v d) : ∀ {vs ds} (i : Nat), EncDs K Z H vs ds → EncDs K Z H (vs.set i v) (ds.set i d)
  | _, _, _, .nil => .nil
  | _, _, 0, .cons _ t => .cons h t
  | _, _, i + 1, .cons a t => .cons a (EncDs.set h i t)
theorem EncDs.take {K Z H} : ∀ {vs ds} (n : Nat), EncDs K Z H vs ds → EncDs K Z H (vs.take n) (ds.take n)
  | _, _, 0, _ => by simp; exact .nil
  | _, _, _ + 1, .nil => .nil
  | _, _, n + 1, .cons a t => .cons a (EncDs.take n t)
theorem EncDs.drop {K Z H} : ∀ {vs ds} (n : Nat), EncDs K Z H vs ds → EncDs K Z H (vs.drop n) (ds.drop n)
  | _, _, 0, h => h
  | _, _, _ + 1, .nil => .nil
  | _, _, n + 1, .cons _ t => EncDs.drop n t

/-! ### what may be read -/
inductive Vw (K : PySem.W.Frag) (Z : Addr → Prop) (H : Hp) : V → D → Prop
  | im {v d} : EncD K Z H v d → Vw K Z H v d
  | lst {a vs xs} : H a = some (.lst vs) → EncDs K Z H vs xs → Vw K Z H (.ref a) (.list xs)
  | dct {a kvs} : DctAt K Z H a kvs → Vw K Z H (.ref a) (.dict kvs)
theorem Vw.list {K Z H v xs} (h : Vw K Z H v (.list xs)) : ∃ a vs, v = .ref a ∧ H a = some (.lst vs) ∧ EncDs K Z H vs xs := by
  cases h with
  | im h => cases h with | lst z h hs => exact ⟨_, _, rfl, h, hs⟩
  | lst h hs => exact ⟨_, _, rfl, h, hs⟩
/-- a dict, or the script -/
theorem Vw.dict {K Z H v xs} (h : Vw K Z H v (.dict xs)) : ∃ a, v = .ref a ∧ (DctAt K Z H a xs ∨ ∃ ds vs, xs = [(.none, .list ds)] ∧ ScrAt K Z H a vs ∧ EncDs K Z H vs ds) := by
  cases h with
  | im h => cases h with
    | scr h hs => exact ⟨_, rfl, .inr ⟨_, _, rfl, h, hs⟩⟩
    | dK z h hs => exact ⟨_, rfl, .inl (.inl ⟨_, h, hs⟩)⟩
    | dT z h hs => exact ⟨_, rfl, .inl (.inr ⟨_, h, hs⟩)⟩
  | dct h => exact ⟨_, rfl, .inl h⟩
theorem Vw.tuple {K Z H v xs} (h : Vw K Z H v (.tuple xs)) : ∃ a vs, v = .ref a ∧ SqT K H a vs ∧ EncDs K Z H vs xs := by
  cases h with
  | im h => cases h with | tup h hs => exact ⟨_, _, rfl, h, hs⟩
theorem Vw.int {K Z H v i} (h : Vw K Z H v (.int i)) : v = .int i := by
  cases h with | im h => cases h; rfl
theorem Vw.bool {K Z H v b} (h : Vw K Z H v (.bool b)) : v = .bl b := by
  cases h with | im h => cases h; rfl
theorem Vw.str {K Z H v b} (h : Vw K Z H v (.str b)) : v = .str b := by
  cases h with | im h => cases h; rfl
theorem Vw.none {K Z H v} (h : Vw K Z H v .none) : v = .non := by
  cases h with | im h => cases h; rfl
inductive Vws (K : PySem.W.Frag) (Z : Addr → Prop) (H : Hp) : List V → List D → Prop
  | nil : Vws K Z H [] []
  | cons {v vs d ds} : Vw K Z H v d → Vws K Z H vs ds → Vws K Z H (v :: vs) (d :: ds)

/-- an exception of the class that a name stands for, with its one field, which is kept -/
def ExOk (K : PySem.W.Frag) (mg : Str → Option Value) (Z : Addr → Prop) (x : Exc) (cls : Value) (d : Option Addr) (H : Hp) : Prop :=
  ∃ C, mg x.cls = some (.ref C) ∧ cls = .ref C ∧ match x.arg with
    | none => d = none
    | some (f, a) => ∃ p v, d = some p ∧ Z p ∧ H p = some (.xd [(f, v)]) ∧ EncD K Z H v a
theorem ExOk.mono {K : PySem.W.Frag} {mg : Str → Option Value} {Z Z' : Addr → Prop} {x : Exc} {cls : Value} {d : Option Addr} {H H' : Hp} (h : ExOk K mg Z x cls d H) (l : Le Z H Z' H') : ExOk K mg Z' x cls d H' := by
  obtain ⟨C, h1, h2, h3⟩ := h
  refine ⟨C, h1, h2, ?_⟩
  split
  · rename_i e; rw [e] at h3; exact h3
  · rename_i f a e
    rw [e] at h3
    obtain ⟨p, v, e1, z, e2, e3⟩ := h3
    exact ⟨p, v, e1, l.z _ z, by rw [l.keep _ z]; exact e2, e3.mono l⟩
/-! ### slots -/
def Sv.own : Sv → Bool
  | .im _ => false
  | .ex _ => false
  | _ => true
def SvOk (K : PySem.W.Frag) (T : LT) (Z G : Addr → Prop) (H : Hp) (v : V) : Sv → Prop
  | .im d => EncD K Z H v d
  | .ol xs => ∃ a vs, v = .ref a ∧ H a = some (.lst vs) ∧ EncDs K Z H vs xs ∧ ¬ Z a ∧ ¬ G a
  | .od kvs => ∃ a, v = .ref a ∧ DctAt K Z H a kvs ∧ ¬ Z a ∧ ¬ G a
  | .ex x => ∃ a cls d, T.exc = some (a, cls, d) ∧ v = .ref a ∧ ExOk K T.mg Z x cls d H
/-- the tables of code objects stand; they are none of ours -/
def TbOk (T : LT) (H : Hp) (Z G : Addr → Prop) : Prop := LamX.Tabs T.tabs H ∧ (∀ a, Z a → ∀ ps, H a ≠ some (.tbl ps)) ∧ ∀ a, G a → ∃ u, H a = some u ∧ Md u
theorem TbOk.less {H : Hp} {Z G G' : Addr → Prop} (t : TbOk T H Z G) (h : ∀ a, G' a → G a) : TbOk T H Z G' := ⟨t.1, t.2.1, fun a z => t.2.2 a (h a z)⟩
structure StOk (K : PySem.W.Frag) (T : LT) (e : Sl) (σ : L2.St) (H : Hp) (Z G : Addr → Prop) : Prop where
  tb : TbOk T H Z G
  zs : ∀ a, Z a → H a ≠ none
  gs : ∀ a, G a → H a ≠ none ∧ ¬ Z a
  sl : ∀ i sv, gt e i = some sv → ∃ v, σ[i]? = some (some v) ∧ SvOk K T Z G H v sv
  inj : ∀ i j si sj v, gt e i = some si → gt e j = some sj → si.own = true → sj.own = true → σ[i]? = some (some v) → σ[j]? = some (some v) → i = j
theorem SvOk.addr {K Z G H v sv} (h : SvOk K T Z G H v sv) (o : sv.own = true) : ∃ a u, v = .ref a ∧ H a = some u ∧ Md u ∧ ¬ Z a ∧ ¬ G a := by
  cases sv with
  | im d => cases o
  | ex x => cases o
  | ol xs => obtain ⟨a, vs, e, h1, _, h2, h3⟩ := h; exact ⟨a, _, e, h1, trivial, h2, h3⟩
  | od xs => obtain ⟨a, e, h1, h2, h3⟩ := h; obtain ⟨u, h1, m⟩ := h1.some; exact ⟨a, _, e, h1, m, h2, h3⟩
/-- from a state to another in which the own ones stand -/
theorem SvOk.mono {K Z G H Z' G' H' v sv} (h : SvOk K T Z G H v sv) (l : Le Z H Z' H') (k : sv.own = true → ∀ a, v = .ref a → H' a = H a ∧ ¬ Z' a ∧ ¬ G' a) : SvOk K T Z' G' H' v sv := by
  cases sv with
  | im d => exact EncD.mono l h
  | ex x =>
    obtain ⟨a, cls, d, e1, e2, e3⟩ := h
    exact ⟨a, cls, d, e1, e2, e3.mono l⟩
  | ol xs =>
    obtain ⟨a, vs, e, h1, hs, _, _⟩ := h
    obtain ⟨k1, k2, k3⟩ := k rfl a e
    exact ⟨a, vs, e, by rw [k1]; exact h1, hs.mono l, k2, k3⟩
  | od kvs =>
    obtain ⟨a, e, h1, _, _⟩ := h
    obtain ⟨k1, k2, k3⟩ := k rfl a e
    exact ⟨a, e, h1.mono l k1, k2, k3⟩
/-- fewer things are kept -/
theorem StOk.less {K e σ H Z G G'} (s : StOk K T e σ H Z G) (h : ∀ a, G' a → G a) : StOk K T e σ H Z G' :=
  ⟨s.tb.less h, s.zs, fun a g => s.gs a (h a g), fun i sv q => by
    obtain ⟨v, h1, h2⟩ := s.sl i sv q
    refine ⟨v, h1, h2.mono Le.refl fun o a e => ?_⟩
    obtain ⟨a', u, e', _, _, n1, n2⟩ := h2.addr o
    rw [e] at e'; cases e'
    exact ⟨rfl, n1, fun z => n2 (h a z)⟩, s.inj⟩
/-- new objects alone -/
theorem Same.le {Z : Addr → Prop} {H H' : Hp} (s : Same H H') (zs : ∀ a, Z a → H a ≠ none) : Le Z H Z H' :=
  ⟨fun _ h => h, fun a h => by
    cases q : H a with
    | none => exact absurd q (zs a h)
    | some o => exact s a o q, fun a xs h => s a _ h, fun a o u h => s a _ h⟩
theorem TbOk.same {H H' : Hp} {Z G : Addr → Prop} (t : TbOk T H Z G) (x : Same H H') (zs : ∀ a, Z a → H a ≠ none) : TbOk T H' Z G := ⟨t.1.ext x, fun a z ps e => by
  cases q : H a with
  | none => exact zs a z q
  | some o =>
    have := x a o q
    rw [e] at this
    cases this
    exact t.2.1 a z ps q, fun a g => by
  obtain ⟨u, h1, h2⟩ := t.2.2 a g
  exact ⟨u, x a u h1, h2⟩⟩
theorem StOk.same {K e σ H H' Z G} (s : StOk K T e σ H Z G) (x : Same H H') : StOk K T e σ H' Z G :=
  ⟨s.tb.same x s.zs, fun a h q => s.zs a h (x.free q), fun a h => ⟨fun q => (s.gs a h).1 (x.free q), (s.gs a h).2⟩, fun i sv q => by
    obtain ⟨v, h1, h2⟩ := s.sl i sv q
    refine ⟨v, h1, h2.mono (Same.le x s.zs) fun o a e => ?_⟩
    obtain ⟨a', u, e', h3, _, n1, n2⟩ := h2.addr o
    rw [e] at e'; cases e'
    exact ⟨by rw [h3]; exact x _ _ h3, n1, n2⟩, s.inj⟩
theorem same_new {H : Hp} {p : Addr} {o : HO} (h : H p = none) : Same H (upd H p o) := fun b x e => by
  rw [upd_ne (ne_of_none e h)]
  exact e

/-! ### operands -/
def OwnA (v : V) : Op → Addr → Prop
  | .tl _, a => v = .ref a
  | .td _, a => v = .ref a
  | _, _ => False
def OpOk (K : PySem.W.Frag) (Z : Addr → Prop) (H : Hp) (σ : L2.St) (v : V) : Op → Prop
  | .im d => EncD K Z H v d
  | .tl xs => ∃ a vs, v = .ref a ∧ H a = some (.lst vs) ∧ EncDs K Z H vs xs
  | .td kvs => ∃ a, v = .ref a ∧ DctAt K Z H a kvs
  | .bor i => σ[i]? = some (some v)
/-- G and one more operand -/
def Gx (G : Addr → Prop) (v : V) (o : Op) : Addr → Prop := fun a => G a ∨ OwnA v o a
def KeepG (G : Addr → Prop) (H H' : Hp) : Prop := ∀ a, G a → H' a = H a
theorem KeepG.refl {G H} : KeepG G H H := fun _ _ => rfl
theorem KeepG.trans {G H H1 H2} (a : KeepG G H H1) (b : KeepG G H1 H2) : KeepG G H H2 := fun x h => (b x h).trans (a x h)
theorem KeepG.less {G G' : Addr → Prop} {H H'} (a : KeepG G H H') (h : ∀ a, G' a → G a) : KeepG G' H H' := fun x g => a x (h x g)
theorem KeepG.of_same {G H H'} (s : Same H H') (gs : ∀ a, G a → H a ≠ none) : KeepG G H H' := fun a h => by
  cases q : H a with
  | none => exact absurd q (gs a h)
  | some o => exact s a o q
/-- an operand ahead of code that keeps it -/
theorem OpOk.mono {K Z H σ v o Z' H'} (h : OpOk K Z H σ v o) (l : Le Z H Z' H') (k : ∀ a, OwnA v o a → H' a = H a) : OpOk K Z' H' σ v o := by
  cases o with
  | im d => exact EncD.mono l h
  | tl xs => obtain ⟨a, vs, e, h1, hs⟩ := h; exact ⟨a, vs, e, by rw [k a e]; exact h1, hs.mono l⟩
  | td xs => obtain ⟨a, e, h1⟩ := h; exact ⟨a, e, h1.mono l (k a e)⟩
  | bor i => exact h
theorem OpOk.vw {K e σ H Z G v o d} (h : OpOk K Z H σ v o) (s : StOk K T e σ H Z G) (q : vw o e = some d) : Vw K Z H v d := by
  cases o with
  | im d' =>
    have : d' = d := Option.some.inj q
    subst this
    exact .im h
  | tl xs =>
    have : PyData.list xs = d := Option.some.inj q
    subst this
    obtain ⟨a, vs, rfl, h1, hs⟩ := h
    exact .lst h1 hs
  | td kvs =>
    have : PyData.dict kvs = d := Option.some.inj q
    subst this
    obtain ⟨a, rfl, h1⟩ := h
    exact .dct h1
  | bor i =>
    simp only [Ev.vw] at q
    have h : σ[i]? = some (some v) := h
    split at q <;> (try (cases q; done))
    all_goals
      rename_i hg
      obtain ⟨v', h1, h2⟩ := s.sl i _ hg
      rw [h] at h1; cases h1
      cases q
    · exact .im h2
    · obtain ⟨a, vs, rfl, h3, hs, _⟩ := h2; exact .lst h3 hs
    · obtain ⟨a, rfl, h3, _⟩ := h2; exact .dct h3
/-- a new result -/
def NewOk (K : PySem.W.Frag) (Z : Addr → Prop) (H H' : Hp) (w : V) : Op → Prop
  | .im d => EncD K Z H' w d
  | .tl xs => ∃ a vs, w = .ref a ∧ H a = none ∧ H' a = some (.lst vs) ∧ EncDs K Z H' vs xs
  | .td kvs => ∃ a, w = .ref a ∧ H a = none ∧ DctAt K Z H' a kvs
  | .bor _ => False
theorem NewOk.op {K Z H H' w o σ} (h : NewOk K Z H H' w o) : OpOk K Z H' σ w o := by
  cases o with
  | im d => exact h
  | tl xs => obtain ⟨a, vs, e, _, h1, hs⟩ := h; exact ⟨a, vs, e, h1, hs⟩
  | td xs => obtain ⟨a, e, _, h1⟩ := h; exact ⟨a, e, h1⟩
  | bor i => exact h.elim
/-- what a slot owns, is not the new one -/
theorem StOk.notOwn {K e σ H Z G} (s : StOk K T e σ H Z G) {i sv a} (h : gt e i = some sv) (o : sv.own = true) (e' : σ[i]? = some (some (V.ref a))) : ∃ u, H a = some u ∧ Md u ∧ ¬ Z a ∧ ¬ G a := by
  obtain ⟨v, h1, h2⟩ := s.sl i sv h
  rw [e'] at h1; cases h1
  obtain ⟨b, u, eb, h3, h4, h5, h6⟩ := h2.addr o
  cases eb
  exact ⟨u, h3, h4, h5, h6⟩
theorem NewOk.st {K e σ H H' Z G w o} (h : NewOk K Z H H' w o) (s : StOk K T e σ H Z G) (x : Same H H') : StOk K T e σ H' Z (Gx G w o) := by
  have s' := s.same x
  have new : ∀ a, OwnA w o a → H a = none ∧ H' a ≠ none := fun a ha => by
    cases o with
    | im d => exact ha.elim
    | tl xs => obtain ⟨b, vs, e, hn, h1, _⟩ := h; have e2 : w = .ref a := ha; rw [e] at e2; cases e2; exact ⟨hn, by rw [h1]; simp⟩
    | td xs => obtain ⟨b, e, hn, h1⟩ := h; have e2 : w = .ref a := ha; rw [e] at e2; cases e2; obtain ⟨u, h1, _⟩ := h1.some; exact ⟨hn, by rw [h1]; simp⟩
    | bor i => exact ha.elim
  refine ⟨⟨s'.tb.1, s'.tb.2.1, fun a z => ?_⟩, s'.zs, fun a g => ?_, fun i sv q => ?_, s'.inj⟩
  · rcases z with z | z
    · exact s'.tb.2.2 a z
    · cases o with
      | im d => exact z.elim
      | tl xs => obtain ⟨b, vs, eb, _, h1, _⟩ := h; have e2 : w = .ref a := z; rw [eb] at e2; cases e2; exact ⟨_, h1, trivial⟩
      | td xs => obtain ⟨b, eb, _, h1⟩ := h; have e2 : w = .ref a := z; rw [eb] at e2; cases e2; exact h1.some
      | bor i => exact z.elim
  · rcases g with g | g
    · exact s'.gs a g
    · exact ⟨(new a g).2, fun z => s.zs a z (new a g).1⟩
  · obtain ⟨v, h1, h2⟩ := s'.sl i sv q
    refine ⟨v, h1, h2.mono Le.refl fun ow a ea => ?_⟩
    subst ea
    obtain ⟨u, h3, _, h4, h5⟩ := s.notOwn q ow h1
    exact ⟨rfl, h4, fun z => z.elim h5 fun z => by rw [(new a z).1] at h3; cases h3⟩

/-- an operand as it comes out of an expression -/
structure Out (K : PySem.W.Frag) (T : LT) (e : Sl) (σ : L2.St) (H : Hp) (Z G : Addr → Prop) (v : V) (o : Op) : Prop where
  st : StOk K T e σ H Z (Gx G v o)
  ok : OpOk K Z H σ v o
  ne : ∀ a, OwnA v o a → ¬ G a
theorem Out.st0 {K e σ H Z G v o} (x : Out K T e σ H Z G v o) : StOk K T e σ H Z G := x.st.less fun _ z => .inl z
theorem NewOk.out {K e σ H H' Z G w o} (h : NewOk K Z H H' w o) (s : StOk K T e σ H Z G) (x : Same H H') : Out K T e σ H' Z G w o := by
  refine ⟨h.st s x, h.op, fun a ha g => ?_⟩
  cases o with
  | im d => exact ha.elim
  | tl xs => obtain ⟨b, vs, e, hn, h1, _⟩ := h; have e2 : w = .ref a := ha; rw [e] at e2; cases e2; exact (s.gs _ g).1 hn
  | td xs => obtain ⟨b, e, hn, h1⟩ := h; have e2 : w = .ref a := ha; rw [e] at e2; cases e2; exact (s.gs _ g).1 hn
  | bor i => exact ha.elim

/-! ### exceptions, readings -/
/-- what is wanted of a result: C of what comes, W of what is raised -/
def PostC (K : PySem.W.Frag) (T : LT) (mg : Str → Option Value) (W : WX) (σ : L2.St) (Z G : Addr → Prop) (H : Hp) {α : Type} (C : α → Sl → (Addr → Prop) → Hp → Prop) : Res α → Prop
  | .ok a e' => ∀ H' Z', Le Z H Z' H' → KeepG G H H' → C a e' Z' H'
  | .er x e' => ∀ cls d H' Z', Le Z H Z' H' → KeepG G H H' → StOk K T e' σ H' Z' G → ExOk K mg Z' x cls d H' → W cls d σ H'
  | .bad => False
section
variable {K : PySem.W.Frag} {mg : Str → Option Value} {W : WX} {σ : L2.St} {Z G Z1 G1 : Addr → Prop} {H H1 : Hp} {α β : Type}
theorem PostC.trans {C : α → Sl → (Addr → Prop) → Hp → Prop} {r : Res α} (l : Le Z H Z1 H1) (k : KeepG G H H1) (h : PostC K T mg W σ Z G H C r) : PostC K T mg W σ Z1 G H1 C r := by
  cases r with
  | ok a e => exact fun H' Z' l' k' => h H' Z' (l.trans l') (k.trans k')
  | er x e => exact fun cls d H' Z' l' k' s x => h cls d H' Z' (l.trans l') (k.trans k') s x
  | bad => exact h
theorem PostC.imp {C C' : α → Sl → (Addr → Prop) → Hp → Prop} {r : Res α} (h : PostC K T mg W σ Z G H C r) (f : ∀ a e' Z' H', Le Z H Z' H' → KeepG G H H' → C a e' Z' H' → C' a e' Z' H') : PostC K T mg W σ Z G H C' r := by
  cases r with
  | ok a e => exact fun H' Z' l' k' => f a e Z' H' l' k' (h H' Z' l' k')
  | er x e => exact h
  | bad => exact h
theorem PostC.bind {C : β → Sl → (Addr → Prop) → Hp → Prop} {r : Res α} {f : α → Sl → Res β} (hG : ∀ a, G a → G1 a) (h : PostC K T mg W σ Z G H C (r.bind f)) :
    PostC K T mg W σ Z G1 H (fun a e1 Z1 H1 => PostC K T mg W σ Z1 G H1 C (f a e1)) r := by
  cases r with
  | ok a e => exact fun H' Z' l' k' => PostC.trans l' (k'.less hG) h
  | er x e => exact fun cls d H' Z' l' k' s x => h cls d H' Z' l' (k'.less hG) (s.less hG) x
  | bad => exact h
theorem PostC.ret {C : α → Sl → (Addr → Prop) → Hp → Prop} {a : α} {e : Sl} (h : PostC K T mg W σ Z G H C (.ok a e)) : C a e Z H := h H Z Le.refl KeepG.refl
end
/-- an expression's reading by the evaluator -/
def CE' (K : PySem.W.Frag) (T : LT) (σ : L2.St) (G : Addr → Prop) (Q : VK) : Op → Sl → (Addr → Prop) → Hp → Prop := fun o e' Z' H' => ∀ v, Out K T e' σ H' Z' G v o → Q v H'
def RdE (K : PySem.W.Frag) (T : LT) (mg : Str → Option Value) (m : ME) (W : WX) : TE := fun σ H Q => ∃ e Z G, StOk K T e σ H Z G ∧ PostC K T mg W σ Z G H (CE' K T σ G Q) (m e)
theorem _root_.L2.PE.weaken {X : Cx} {e : Expr} {t t' : TE} (h : PE X e t) (w : ∀ σ H Q, t' σ H Q → t σ H Q) : PE X e t' := ⟨fun pins s σ H Q I q => h.run pins s σ H Q I (w σ H Q q)⟩
theorem _root_.L2.PT.weaken {X : Cx} {e : Expr} {t t' : TT} (h : PT X e t) (w : ∀ σ H Q, t' σ H Q → t σ H Q) : PT X e t' := ⟨fun pins s σ H Q I q => h.run pins s σ H Q I (w σ H Q q)⟩
theorem _root_.L2.PW.weaken {X : Cx} {e : Expr} {t t' : TT} (h : PW X e t) (w : ∀ σ H Q, t' σ H Q → t σ H Q) : PW X e t' := ⟨fun wh pins s σ H Q I q => h.run wh pins s σ H Q I (w σ H Q q)⟩
theorem _root_.L2.PS.weaken {X : Cx} {e : Stmt} {t t' : TS} (h : PS X e t) (w : ∀ D σ H, t' D σ H → t D σ H) : PS X e t' := ⟨fun pins s σ H D I q => h.run pins s σ H D I (w D σ H q)⟩
theorem _root_.L2.PSs.weaken {X : Cx} {e : List Stmt} {t t' : TS} (h : PSs X e t) (w : ∀ D σ H, t' D σ H → t D σ H) : PSs X e t' := ⟨fun pins s σ H D I q => h.run pins s σ H D I (w D σ H q)⟩
theorem _root_.L2.PA.weaken {X : Cx} {e : List Expr} {t t' : TA} (h : PA X e t) (w : ∀ σ H Q, t' σ H Q → t σ H Q) : PA X e t' := ⟨fun p pins s σ H Q I q => h.run p pins s σ H Q I (w σ H Q q)⟩
theorem _root_.L2.PI.weaken {X : Cx} {tg e : Expr} {t t' : TI} (h : PI X tg e t) (w : ∀ σ H Q, t' σ H Q → t σ H Q) : PI X tg e t' := ⟨fun pins s σ H Q I q => h.run pins s σ H Q I (w σ H Q q)⟩

/-- a two-place operation by a function on values -/
def rF (K : PySem.W.Frag) (f : D → D → Option Op) : R2 := fun v u H Q => ∃ Z p q o, (∀ a, Z a → H a ≠ none) ∧ f p q = some o ∧ Vw K Z H v p ∧ Vw K Z H u q ∧ ∀ w H', Same H H' → NewOk K Z H H' w o → Q w H'
section
variable {K : PySem.W.Frag} {mg : Str → Option Value} {W : WX} {ma mb mc : ME} {σ : L2.St} {H H1 : Hp} {Q : VK} {Z Z1 G : Addr → Prop}
/-- at a value's end -/
theorem PostC.fin {o : Op} {e1 : Sl} {w : V} (h : PostC K T mg W σ Z G H (CE' K T σ G Q) (.ok o e1)) (s : StOk K T e1 σ H Z G) (sm : Same H H1) (nw : NewOk K Z H H1 w o) : Q w H1 :=
  h H1 Z (Same.le sm s.zs) (KeepG.of_same sm fun a g => (s.gs a g).1) w (nw.out s sm)
theorem rd_op2 {f : D → D → Option Op} (h : RdE K T mg (op2 f ma mb) W σ H Q) : tOp (rF K f) (RdE K T mg ma W) (RdE K T mg mb W) σ H Q := by
  obtain ⟨e, Z, G, s, h⟩ := h
  refine ⟨e, Z, G, s, (h.bind fun _ z => z).imp fun o1 e1 Z1 H1 l1 k1 h v ox => ?_⟩
  refine ⟨e1, Z1, Gx G v o1, ox.st, (h.bind fun _ z => .inl z).imp fun o2 e2 Z2 H2 l2 k2 h u oy => ?_⟩
  have s2 := oy.st
  cases q1 : vw o1 e2 with
  | none => rw [q1] at h; exact h.elim
  | some p =>
    cases q2 : vw o2 e2 with
    | none => rw [q1, q2] at h; exact h.elim
    | some q =>
      rw [q1, q2] at h
      simp only [lift] at h
      cases q3 : f p q with
      | none => rw [q3] at h; exact h.elim
      | some o =>
        rw [q3] at h
        have ox2 : OpOk K Z2 H2 σ v o1 := ox.ok.mono l2 fun a z => k2 a (.inr z)
        exact ⟨Z2, p, q, o, s2.zs, q3, ox2.vw s2 q1, oy.ok.vw s2 q2, fun w H3 sm nw => h.fin (s2.less fun a z => .inl (.inl z)) sm nw⟩
end
end Ev
end
section
set_option maxHeartbeats 2000000
/-! EvS1: constants, names, operators, tests, displays. -/
namespace Ev
open PySem PySem.Spec PyProof.Rows L2
variable {T : LT}

theorem gt_nil {i : Nat} : gt [] i = none := by cases i <;> rfl
theorem gt_pt_same : ∀ {e : Sl} {i : Nat} {v w : Option Sv}, gt e i = some w' → gt (pt e i v) i = v
  | [], i, _, _, h => by rw [gt_nil] at h; cases h
  | _ :: _, 0, _, _, _ => rfl
  | _ :: r, i + 1, v, w, h => gt_pt_same (e := r) (i := i) (v := v) (w := w) h
theorem gt_pt_ne : ∀ {e : Sl} {i j : Nat} {v : Option Sv}, i ≠ j → gt (pt e i v) j = gt e j
  | [], _, _, _, _ => rfl
  | _ :: _, 0, 0, _, h => absurd rfl h
  | _ :: _, 0, _ + 1, _, _ => rfl
  | _ :: _, _ + 1, 0, _, _ => rfl
  | _ :: r, i + 1, j + 1, v, h => gt_pt_ne (e := r) (fun z => h (by rw [z]))
/-- behind a store at i a slot is the new one or as it was -/
theorem gt_pt {e : Sl} {i j : Nat} {v : Option Sv} {sv : Sv} (h : gt (pt e i v) j = some sv) : (j = i ∧ v = some sv) ∨ (j ≠ i ∧ gt e j = some sv) := by
  by_cases hj : j = i
  · subst hj
    left
    refine ⟨rfl, ?_⟩
    induction e generalizing j with
    | nil => rw [show pt [] j v = [] from by cases j <;> rfl, gt_nil] at h; cases h
    | cons x r ih =>
      cases j with
      | zero => exact h
      | succ j => exact ih (j := j) h
  · exact .inr ⟨hj, by rw [gt_pt_ne (Ne.symm hj)] at h; exact h⟩
theorem pt_length : ∀ {e : Sl} {i : Nat} {v : Option Sv}, (pt e i v).length = e.length
  | [], _, _ => rfl
  | _ :: _, 0, _ => rfl
  | _ :: r, i + 1, v => by show (pt r i v).length + 1 = r.length + 1; rw [pt_length]

theorem pt_pt : ∀ {e : Sl} {i : Nat} {v w : Option Sv}, pt (pt e i v) i w = pt e i w
  | [], i, _, _ => by cases i <;> rfl
  | _ :: _, 0, _, _ => rfl
  | _ :: r, i + 1, v, w => by show _ :: pt (pt r i v) i w = _ :: pt r i w; rw [pt_pt]
section
variable {K : PySem.W.Frag} {e : Sl} {σ : L2.St} {H : Hp} {Z G : Addr → Prop}
/-- a slot is emptied -/
theorem StOk.drop (s : StOk K T e σ H Z G) (i : Nat) : StOk K T (pt e i none) σ H Z G := by
  refine ⟨s.tb, s.zs, s.gs, fun j sv q => ?_, fun j k sj sk v q1 q2 o1 o2 => ?_⟩
  · rcases gt_pt q with ⟨_, z⟩ | ⟨_, z⟩
    · cases z
    · exact s.sl j sv z
  · rcases gt_pt q1 with ⟨_, z⟩ | ⟨_, z1⟩
    · cases z
    · rcases gt_pt q2 with ⟨_, z⟩ | ⟨_, z2⟩
      · cases z
      · exact s.inj j k sj sk v z1 z2 o1 o2
/-- a slot holds an unchanging value from now on (its V is the same) -/
theorem StOk.imm (s : StOk K T e σ H Z G) {i : Nat} {v : V} {d : D} (hv : σ[i]? = some (some v)) (h : EncD K Z H v d) : StOk K T (pt e i (some (.im d))) σ H Z G := by
  refine ⟨s.tb, s.zs, s.gs, fun j sv q => ?_, fun j k sj sk w q1 q2 o1 o2 => ?_⟩
  · rcases gt_pt q with ⟨rfl, z⟩ | ⟨_, z⟩
    · cases z; exact ⟨v, hv, h⟩
    · exact s.sl j sv z
  · rcases gt_pt q1 with ⟨_, z⟩ | ⟨_, z1⟩
    · cases z; cases o1
    · rcases gt_pt q2 with ⟨_, z⟩ | ⟨_, z2⟩
      · cases z; cases o2
      · exact s.inj j k sj sk w z1 z2 o1 o2
/-- an object that nothing owns stands still from now on -/
theorem StOk.zadd (s : StOk K T e σ H Z G) {a : Addr} (hm : ∃ u, H a = some u ∧ Md u) (hg : ¬ G a) (ho : ∀ i sv, gt e i = some sv → sv.own = true → σ[i]? ≠ some (some (.ref a))) : StOk K T e σ H (fun b => Z b ∨ b = a) G := by
  have l : Le Z H (fun b => Z b ∨ b = a) H := ⟨fun _ h => .inl h, fun _ _ => rfl, fun _ _ h => h, fun _ _ _ h => h⟩
  have ha : H a ≠ none := by obtain ⟨u, e, _⟩ := hm; rw [e]; simp
  refine ⟨⟨s.tb.1, fun b z ps e => ?_, s.tb.2.2⟩, fun b h => h.elim (s.zs b) fun z => z ▸ ha, fun b g => ⟨(s.gs b g).1, fun z => z.elim (s.gs b g).2 fun z => hg (z ▸ g)⟩, fun i sv q => ?_, s.inj⟩
  · rcases z with z | rfl
    · exact s.tb.2.1 b z ps e
    · obtain ⟨u, e2, m⟩ := hm; rw [e] at e2; cases e2; exact m
  obtain ⟨v, h1, h2⟩ := s.sl i sv q
  refine ⟨v, h1, h2.mono l fun o b eb => ?_⟩
  obtain ⟨b', u, eb', _, _, n1, n2⟩ := h2.addr o
  rw [eb] at eb'; cases eb'
  exact ⟨rfl, fun z => z.elim n1 fun z => ho i sv q o (by rw [h1, eb, z]), n2⟩
theorem le_zadd {a : Addr} : Le Z H (fun b => Z b ∨ b = a) H := ⟨fun _ h => .inl h, fun _ _ => rfl, fun _ _ h => h, fun _ _ _ h => h⟩
/-- an operand made unchanging -/
theorem fz_ok {v : V} {o : Op} {d : D} {e1 : Sl} (x : Out K T e σ H Z G v o) (h : fzO o e = some (d, e1)) : ∃ Z1, Le Z H Z1 H ∧ StOk K T e1 σ H Z1 G ∧ EncD K Z1 H v d := by
  have s := x.st
  have ok := x.ok
  cases o with
  | im d' =>
    simp only [fzO, Option.some.injEq, Prod.mk.injEq] at h
    obtain ⟨rfl, rfl⟩ := h
    exact ⟨Z, Le.refl, x.st0, ok⟩
  | tl xs =>
    simp only [fzO, Option.some.injEq, Prod.mk.injEq] at h
    obtain ⟨rfl, rfl⟩ := h
    obtain ⟨a, vs, rfl, h1, hs⟩ := ok
    refine ⟨_, le_zadd (a := a), x.st0.zadd ⟨_, h1, trivial⟩ (x.ne a rfl) (fun i sv q ow q' => ?_), .lst (.inr rfl) h1 (hs.mono le_zadd)⟩
    obtain ⟨_, _, _, _, n⟩ := s.notOwn q ow q'
    exact n (.inr rfl)
  | td kvs =>
    simp only [fzO, Option.some.injEq, Prod.mk.injEq] at h
    obtain ⟨rfl, rfl⟩ := h
    obtain ⟨a, rfl, h1⟩ := ok
    obtain ⟨u, hu, hmu⟩ := h1.some
    refine ⟨_, le_zadd (a := a), x.st0.zadd ⟨_, hu, hmu⟩ (x.ne a rfl) (fun i sv q ow q' => ?_), (h1.mono le_zadd rfl).enc (.inr rfl)⟩
    obtain ⟨_, _, _, _, n⟩ := s.notOwn q ow q'
    exact n (.inr rfl)
  | bor i =>
    have hv : σ[i]? = some (some v) := ok
    have s0 := x.st0
    simp only [fzO] at h
    split at h <;> (try (cases h; done))
    all_goals
      rename_i hg
      simp only [Option.some.injEq, Prod.mk.injEq] at h
      obtain ⟨rfl, rfl⟩ := h
      obtain ⟨v', h1, h2⟩ := s0.sl i _ hg
      rw [hv] at h1; cases h1
    · exact ⟨Z, Le.refl, s0, h2⟩
    · obtain ⟨a, vs, rfl, h3, hs, nz, ng⟩ := h2
      have z := (s0.drop i).zadd (a := a) ⟨_, h3, trivial⟩ ng (fun j sv q ow q' => by
        rcases gt_pt q with ⟨_, z⟩ | ⟨hj, z⟩
        · cases z
        · exact hj (s0.inj j i sv _ _ z hg ow rfl q' hv))
      have := z.imm (i := i) (v := .ref a) (d := .list _) hv (.lst (.inr rfl) h3 (hs.mono le_zadd))
      rw [pt_pt] at this
      exact ⟨_, le_zadd (a := a), this, .lst (.inr rfl) h3 (hs.mono le_zadd)⟩
    · obtain ⟨a, rfl, h3, nz, ng⟩ := h2
      obtain ⟨u, hu, hmu⟩ := h3.some
      have z := (s0.drop i).zadd (a := a) ⟨_, hu, hmu⟩ ng (fun j sv q ow q' => by
        rcases gt_pt q with ⟨_, z⟩ | ⟨hj, z⟩
        · cases z
        · exact hj (s0.inj j i sv _ _ z hg ow rfl q' hv))
      have := z.imm (i := i) (v := .ref a) (d := .dict _) hv ((h3.mono le_zadd rfl).enc (.inr rfl))
      rw [pt_pt] at this
      exact ⟨_, le_zadd (a := a), this, (h3.mono le_zadd rfl).enc (.inr rfl)⟩
end

/-! ### tests -/
def CT' (K : PySem.W.Frag) (T : LT) (σ : L2.St) (G : Addr → Prop) (Q : Bool → Hp → Prop) : Op → Sl → (Addr → Prop) → Hp → Prop := fun o e' Z' H' => ∃ b, tru o = some b ∧ (StOk K T e' σ H' Z' G → Q b H')
def RdT (K : PySem.W.Frag) (T : LT) (mg : Str → Option Value) (m : ME) (W : WX) : TT := fun σ H Q => ∃ e Z G, StOk K T e σ H Z G ∧ PostC K T mg W σ Z G H (CT' K T σ G Q) (m e)
section
variable {K : PySem.W.Frag} {mg : Str → Option Value} {W : WX} {m ma mb mc : ME} {σ : L2.St} {H : Hp}
theorem tru_im {o : Op} {b : Bool} (h : tru o = some b) : o = .im (.bool b) := by
  unfold tru at h
  split at h
  · cases h; rfl
  · cases h
theorem Out.tru {e Z G v o b} (x : Out K T e σ H Z G v o) (h : tru o = some b) : v = .bl b := by
  have e := tru_im h
  subst e
  have := x.ok
  cases (show EncD K Z H v (.bool b) from this)
  rfl
theorem StOk.im {e Z G v d} (s : StOk K T e σ H Z G) (h : EncD K Z H v d) : Out K T e σ H Z G v (.im d) := ⟨s.less fun a z => z.elim id False.elim, h, fun a z => z.elim⟩
theorem rd_T {Q : Bool → Hp → Prop} (h : RdT K T mg m W σ H Q) : tTest (RdE K T mg m W) σ H Q := by
  obtain ⟨e, Z, G, s, h⟩ := h
  exact ⟨e, Z, G, s, h.imp fun o e1 Z1 H1 l k ⟨b, q, h⟩ v x => ⟨b, x.tru q, h x.st0⟩⟩
theorem pt_of {X : Cx} {e : Expr} (h : PE X e (RdE K T mg m W)) (he : ∀ whole, isTrue e X.env whole = (do let v ← whole; standAt e.pos; holding [v] (truthy v))) : PT X e (RdT K T mg m W) :=
  (pt_val h he).weaken fun _ _ _ q => rd_T q

/-! ### constants, names -/
theorem se_imm {X : Cx} {e : Expr} {v : V} {d : D} (h : PE X e (tC v)) (hd : ∀ Z H, EncD K Z H v d) : PE X e (RdE K T mg (immE d) W) :=
  h.weaken fun σ H Q ⟨e, Z, G, s, h⟩ => h.ret v (s.im (hd Z H))
theorem se_bad {X : Cx} {e : Expr} : PE X e (RdE K T mg badE W) := ⟨fun _ _ _ _ _ _ ⟨_, _, _, _, h⟩ => h.elim⟩
theorem se_var {X : Cx} {x : Str} {pos : Pos} {i : Nat} (hN : X.N[i]? = some x) (hv : Vis X.env.scope x) (hd : (x == ("__debug__" : Str)) = false) (hcd : (x == ("__classdict__" : Str)) = false) : PE X (.Name x pos) (RdE K T mg (varE i) W) :=
  (pe_var hN hv hd hcd).weaken fun σ H Q q => by
    obtain ⟨e, Z, G, s, h⟩ := q
    cases qg : gt e i with
    | none => simp only [varE, qg] at h; exact h.elim
    | some sv =>
      obtain ⟨v, h1, h2⟩ := s.sl i sv qg
      have bor : PostC K T mg W σ Z G H (CE' K T σ G Q) (.ok (.bor i) e) → tVar i σ H Q := fun h => ⟨v, h1, h.ret v ⟨s.less fun a z => z.elim id False.elim, h1, fun a z => z.elim⟩⟩
      cases sv with
      | im d =>
        simp only [varE, qg] at h
        exact ⟨v, h1, h.ret v (s.im h2)⟩
      | ex x => simp only [varE, qg] at h; exact h.elim
      | ol xs => simp only [varE, qg] at h; exact bor h
      | od xs => simp only [varE, qg] at h; exact bor h

/-! ### and, or, not, if -/
theorem rd_not {Q : Bool → Hp → Prop} (h : RdT K T mg (notE m) W σ H Q) : tNot (RdT K T mg m W) σ H Q := by
  obtain ⟨e, Z, G, s, h⟩ := h
  refine ⟨e, Z, G, s, (h.bind fun _ z => z).imp fun o e1 Z1 H1 l k h => ?_⟩
  cases qt : tru o with
  | none => rw [qt] at h; exact h.elim
  | some b =>
    rw [qt] at h
    obtain ⟨b', q, h⟩ := h.ret
    cases q
    exact ⟨b, qt, h⟩
theorem rd_notV {Q : VK} (h : RdE K T mg (notE m) W σ H Q) : tNotV (RdE K T mg m W) σ H Q := by
  obtain ⟨e, Z, G, s, h⟩ := h
  refine ⟨e, Z, G, s, (h.bind fun _ z => z).imp fun o e1 Z1 H1 l k h v x => ?_⟩
  cases qt : tru o with
  | none => rw [qt] at h; exact h.elim
  | some b =>
    rw [qt] at h
    exact ⟨b, x.tru qt, h.ret _ (x.st0.im (.bl _))⟩
theorem PostC.tru {α : Type} {Z G : Addr → Prop} {C : α → Sl → (Addr → Prop) → Hp → Prop} {o : Op} {f : Bool → Res α} (h : PostC K T mg W σ Z G H C (match Ev.tru o with | some true => f true | some false => f false | none => .bad)) :
    ∃ b, Ev.tru o = some b ∧ PostC K T mg W σ Z G H C (f b) := by
  cases qt : Ev.tru o with
  | none => rw [qt] at h; exact h.elim
  | some b =>
    rw [qt] at h
    cases b with
    | true => exact ⟨true, rfl, h⟩
    | false => exact ⟨false, rfl, h⟩
theorem rd_andT {r : List ME} {Q : Bool → Hp → Prop} (h : RdT K T mg (andE (ma :: mb :: r)) W σ H Q) : tAnd (RdT K T mg ma W) (RdT K T mg (andE (mb :: r)) W) σ H Q := by
  obtain ⟨e, Z, G, s, h⟩ := h
  refine ⟨e, Z, G, s, (PostC.bind (f := fun o e1 => match tru o with | some true => andE (mb :: r) e1 | some false => .ok (.im (.bool false)) e1 | none => .bad) (fun _ z => z) h).imp fun o e1 Z1 H1 l k h => ?_⟩
  obtain ⟨b, qt, h⟩ := PostC.tru (f := fun b => if b then andE (mb :: r) e1 else .ok (.im (.bool false)) e1) h
  refine ⟨b, qt, fun s1 => ?_⟩
  cases b with
  | false =>
    obtain ⟨b', q, h⟩ := PostC.ret h
    cases q
    exact iteF (h s1)
  | true => exact iteT ⟨e1, Z1, G, s1, h⟩
theorem rd_orT {r : List ME} {Q : Bool → Hp → Prop} (h : RdT K T mg (orE (ma :: mb :: r)) W σ H Q) : tOr (RdT K T mg ma W) (RdT K T mg (orE (mb :: r)) W) σ H Q := by
  obtain ⟨e, Z, G, s, h⟩ := h
  refine ⟨e, Z, G, s, (PostC.bind (f := fun o e1 => match tru o with | some true => .ok (.im (.bool true)) e1 | some false => orE (mb :: r) e1 | none => .bad) (fun _ z => z) h).imp fun o e1 Z1 H1 l k h => ?_⟩
  obtain ⟨b, qt, h⟩ := PostC.tru (f := fun b => if b then .ok (.im (.bool true)) e1 else orE (mb :: r) e1) h
  refine ⟨b, qt, fun s1 => ?_⟩
  cases b with
  | true =>
    obtain ⟨b', q, h⟩ := PostC.ret h
    cases q
    exact iteT (h s1)
  | false => exact iteF ⟨e1, Z1, G, s1, h⟩
theorem rd_andV {r : List ME} {Q : VK} (h : RdE K T mg (andE (ma :: mb :: r)) W σ H Q) : tAndV (RdE K T mg ma W) (RdE K T mg (andE (mb :: r)) W) σ H Q := by
  obtain ⟨e, Z, G, s, h⟩ := h
  refine ⟨e, Z, G, s, (PostC.bind (f := fun o e1 => match tru o with | some true => andE (mb :: r) e1 | some false => .ok (.im (.bool false)) e1 | none => .bad) (fun _ z => z) h).imp fun o e1 Z1 H1 l k h v x => ?_⟩
  obtain ⟨b, qt, h⟩ := PostC.tru (f := fun b => if b then andE (mb :: r) e1 else .ok (.im (.bool false)) e1) h
  refine ⟨b, x.tru qt, ?_⟩
  cases b with
  | false => exact iteF (PostC.ret h _ (x.st0.im (.bl _)))
  | true => exact iteT ⟨e1, Z1, G, x.st0, h⟩
theorem rd_orV {r : List ME} {Q : VK} (h : RdE K T mg (orE (ma :: mb :: r)) W σ H Q) : tOrV (RdE K T mg ma W) (RdE K T mg (orE (mb :: r)) W) σ H Q := by
  obtain ⟨e, Z, G, s, h⟩ := h
  refine ⟨e, Z, G, s, (PostC.bind (f := fun o e1 => match tru o with | some true => .ok (.im (.bool true)) e1 | some false => orE (mb :: r) e1 | none => .bad) (fun _ z => z) h).imp fun o e1 Z1 H1 l k h v x => ?_⟩
  obtain ⟨b, qt, h⟩ := PostC.tru (f := fun b => if b then .ok (.im (.bool true)) e1 else orE (mb :: r) e1) h
  refine ⟨b, x.tru qt, ?_⟩
  cases b with
  | true => exact iteT (PostC.ret h _ (x.st0.im (.bl _)))
  | false => exact iteF ⟨e1, Z1, G, x.st0, h⟩
theorem rd_if {Q : VK} (h : RdE K T mg (ifE mc ma mb) W σ H Q) : tIf (RdT K T mg mc W) (RdE K T mg ma W) (RdE K T mg mb W) σ H Q := by
  obtain ⟨e, Z, G, s, h⟩ := h
  refine ⟨e, Z, G, s, (PostC.bind (f := fun o e1 => match tru o with | some true => ma e1 | some false => mb e1 | none => .bad) (fun _ z => z) h).imp fun o e1 Z1 H1 l k h => ?_⟩
  obtain ⟨b, qt, h⟩ := PostC.tru (f := fun b => if b then ma e1 else mb e1) h
  refine ⟨b, qt, fun s1 => ?_⟩
  cases b with
  | true => exact iteT ⟨e1, Z1, G, s1, h⟩
  | false => exact iteF ⟨e1, Z1, G, s1, h⟩
end

/-! ### one-place operations -/
def rF1 (K : PySem.W.Frag) (f : D → Option Op) : V → Hp → VK → Prop := fun v H Q => ∃ Z p o, (∀ a, Z a → H a ≠ none) ∧ f p = some o ∧ Vw K Z H v p ∧ ∀ w H', Same H H' → NewOk K Z H H' w o → Q w H'
section
variable {K : PySem.W.Frag} {mg : Str → Option Value} {W : WX} {m ma mb mc : ME} {σ : L2.St} {H : Hp}
theorem rd_un1 {f : D → Option Op} {Q : VK} (h : RdE K T mg (un1 f m) W σ H Q) : tUn (rF1 K f) (RdE K T mg m W) σ H Q := by
  obtain ⟨e, Z, G, s, h⟩ := h
  refine ⟨e, Z, G, s, (h.bind fun _ z => z).imp fun o e1 Z1 H1 l k h v x => ?_⟩
  cases q1 : vw o e1 with
  | none => rw [q1] at h; exact h.elim
  | some p =>
    rw [q1] at h
    simp only [lift] at h
    cases q3 : f p with
    | none => rw [q3] at h; exact h.elim
    | some r =>
      rw [q3] at h
      exact ⟨Z1, p, r, x.st.zs, q3, x.ok.vw x.st q1, fun w H3 sm nw => h.fin x.st0 sm nw⟩
end

/-! ### lists of operands -/
def RdAD (K : PySem.W.Frag) (T : LT) (mg : Str → Option Value) (ms : List ME) (W : WX) : TA := fun σ H Q => ∃ e Z G, StOk K T e σ H Z G ∧ PostC K T mg W σ Z G H (fun ds e' Z' H' => ∀ vs, StOk K T e' σ H' Z' G → EncDs K Z' H' vs ds → vs.length = ms.length → Q vs H') (argsD ms e)
section
variable {K : PySem.W.Frag} {mg : Str → Option Value} {W : WX} {m ma mb mc : ME} {ms : List ME} {σ : L2.St} {H : Hp}
theorem rd_nil {Q : List V → Hp → Prop} (h : RdAD K T mg [] W σ H Q) : tNil σ H Q := by
  obtain ⟨e, Z, G, s, h⟩ := h
  exact h.ret [] s .nil rfl
theorem rd_cons {Q : List V → Hp → Prop} (h : RdAD K T mg (m :: ms) W σ H Q) : tCons (RdE K T mg m W) (RdAD K T mg ms W) σ H Q := by
  obtain ⟨e, Z, G, s, h⟩ := h
  refine ⟨e, Z, G, s, (h.bind fun _ z => z).imp fun o e1 Z1 H1 l k h v x => ?_⟩
  cases q1 : fzO o e1 with
  | none => rw [q1] at h; exact h.elim
  | some p =>
    rw [q1] at h
    obtain ⟨d, e2⟩ := p
    obtain ⟨Z2, l2, s2, enc⟩ := fz_ok x q1
    have h := PostC.trans l2 KeepG.refl h
    refine ⟨e2, Z2, G, s2, (h.bind fun _ z => z).imp fun ds e3 Z3 H3 l3 k3 h vs s3 encs le => ?_⟩
    exact h.ret (v :: vs) s3 (.cons (enc.mono l3) encs) (by rw [List.length_cons, List.length_cons, le])
theorem rd_tup {Q : VK} (hl : ms.length ≤ sizeLine) (h : RdE K T mg (tupE ms) W σ H Q) : tTup (RdAD K T mg ms W) σ H Q := by
  obtain ⟨e, Z, G, s, h⟩ := h
  refine ⟨e, Z, G, s, (h.bind fun _ z => z).imp fun ds e1 Z1 H1 l k h vs s1 encs le => ⟨by rw [le]; exact hl, fun p np => ?_⟩⟩
  · have sm : Same H1 (upd H1 p (.tup vs)) := same_new np
    exact h.fin s1 sm (show EncD K Z1 _ _ _ from .tup (.inl (.inl upd_same)) (encs.mono (Same.le sm s1.zs)))
theorem rd_lst {Q : VK} (hl : ms.length ≤ sizeLine) (h : RdE K T mg (lstE ms) W σ H Q) : tLst (RdAD K T mg ms W) σ H Q := by
  obtain ⟨e, Z, G, s, h⟩ := h
  refine ⟨e, Z, G, s, (h.bind fun _ z => z).imp fun ds e1 Z1 H1 l k h vs s1 encs le => ⟨by rw [le]; exact hl, fun p np => ?_⟩⟩
  · have sm : Same H1 (upd H1 p (.lst vs)) := same_new np
    exact h.fin s1 sm ⟨p, vs, rfl, np, upd_same, encs.mono (Same.le sm s1.zs)⟩
end
end Ev
end
section
set_option maxHeartbeats 4000000
/-! EvS2: what operators do with values. -/
namespace Ev
open PySem PySem.Spec PyProof.Rows L2
variable {T : LT}

/-! ### tuple * k for k up to 1, or nothing -/
theorem tuple_mul_same (l : Addr) (items : Array Value) (n : Nat) (dd : Option Addr) (sl : Array (Option Value)) (x : Int) (u : Tok) (c0 : (decide (x < -(2 ^ 63)) || decide (x ≥ 2 ^ 63)) = false) (c1 : (items.isEmpty || x == 1) = true) :
    Meets (Builtin.«tuple.__mul__» ⟨[.ref l, .int x u], []⟩) (fun _ R s => s.heap.get? l = some { cls := .type "tuple", dict := dd, data := .seq items n, slots := sl } ∧
      R (.ok (.ret (Value.ref l))) s) :=
  .of_wp fun prog w A R s h => by
    obtain ⟨hp, g, d, tk, os⟩ := s
    obtain ⟨hl, h⟩ := h
    have f1 := AutoSeq1.idx_int
    wp_walk using wpAny_loadPart' hl
    repeat (first
      | (refine wpAny_ite_false (decide_eq_false (by rw [c0]; exact Bool.false_ne_true)) ?_; wp_walk using wpAny_loadPart' hl)
      | (refine wpAny_ite_true (decide_eq_true (by rw [c1])) ?_; wp_walk using wpAny_loadPart' hl))
    exact ⟨_, rfl, h⟩
theorem tuple_mul_zero (l : Addr) (items : Array Value) (n : Nat) (dd : Option Addr) (sl : Array (Option Value)) (x : Int) (u : Tok) (c0 : (decide (x < -(2 ^ 63)) || decide (x ≥ 2 ^ 63)) = false) (c1 : (items.isEmpty || x == 1) = false) (c2 : (decide (x ≤ 0) || items.isEmpty) = true) :
    Meets (Builtin.«tuple.__mul__» ⟨[.ref l, .int x u], []⟩) (fun _ R s => s.heap.get? l = some { cls := .type "tuple", dict := dd, data := .seq items n, slots := sl } ∧
      R (.ok (.ret (Value.ref s.heap.objs.size))) { s with heap := s.heap.push { cls := Value.type "tuple", data := Data.seq #[] }, toks := s.toks }) :=
  .of_wp fun prog w A R s h => by
    obtain ⟨hp, g, d, tk, os⟩ := s
    obtain ⟨hl, h⟩ := h
    have f1 := AutoSeq1.idx_int
    have hsz : (#[] : Array Value).size ≤ sizeLine := Nat.zero_le _
    wp_walk using wpAny_loadPart' hl
    repeat (first
      | (refine wpAny_ite_false (decide_eq_false (by rw [c0]; exact Bool.false_ne_true)) ?_; wp_walk using wpAny_loadPart' hl)
      | (refine wpAny_ite_false (decide_eq_false (by rw [c1]; exact Bool.false_ne_true)) ?_; wp_walk using wpAny_loadPart' hl)
      | (refine wpAny_ite_true (decide_eq_true (by rw [c2])) ?_; wp_walk using wpAny_loadPart' hl)
      | (refine wpAny_ite_false (decide_eq_false (Nat.not_lt.mpr hsz)) ?_; wp_walk using wpAny_loadPart' hl))
    exact ⟨_, rfl, h⟩
section
variable {X : Cx}
/-- tuple * k: few, or the same, or nothing -/
theorem op_repAny {pins : List (Addr × Obj)} {s : Shared} {σ : L2.St} {H : Hp} {v u : Value} {Q : VK} {l : Addr} {k : Int} {xs : List V} (I : Inv X pins σ H s) (rx : RelV (.ref l) v) (ry : RelV (.int k) u) (hT : SqT X.K H l xs)
    (h0 : 0 ≤ k) (h1 : k ≤ 1000) (h2 : xs.length ≤ 1000) (q : ∀ w H', Same H H' → (∃ p, w = .ref p ∧ SqT X.K H' p (List.replicate k.toNat xs).flatten) → Q w H') :
    wpAny (model X.prog X.w) X.A (binaryOp .Mult v u) (EP X pins σ Q) X.xe s := by
  by_cases hb : xs ≠ [] ∧ 2 ≤ k
  · refine op_repT pins s σ H _ _ v u Q I rx ry ⟨l, k, xs, rfl, rfl, hT, hb.1, hb.2, h1, h2, fun p np => q _ _ (same_new np) ⟨p, rfl, .inl (.inl upd_same)⟩⟩
  · cases rx
    obtain ⟨t, rfl⟩ := ry
    obtain ⟨its, r, ⟨⟨cls, dd, data, sl⟩, ho, hc, n, hd⟩, hs⟩ := I.tuple hT
    simp only at hc hd
    subst hc hd
    have c0 : (decide (k < -(2 ^ 63)) || decide (k ≥ 2 ^ 63)) = false := by
      rw [decide_eq_false (by omega), decide_eq_false (by omega)] <;> rfl
    by_cases c1 : (its.toArray.isEmpty || k == 1) = true
    · refine wpAny_binaryOp_repeat_ref (T := "tuple") (U := "int") (by decide) ⟨_, ho, rfl⟩ (fun s' => typeIs_int s' k t) noFill_tuple_mul F.fills_int_mul F.slot_int_rmul repeat_tuple F.slot_int_index.lookup
        (call_meets F.slot_int_rmul (typeIs_int s k t) F.entry_int_rmul (F.args_int_rmul_2 _ _) (int_rmul_tuple k t l its.toArray n dd sl)
          ⟨ho, rfl, ⟨_, ho, rfl⟩, call_meets F.slot_tuple_mul ⟨_, ho, rfl⟩ F.entry_tuple_mul (F.args_tuple_mul_2 _ _) (tuple_mul_same l its.toArray n dd sl k t c0 c1) ⟨ho, ?_⟩⟩)
      refine ⟨.ref l, H, I, rfl, q _ _ (Same.refl H) ⟨l, rfl, ?_⟩⟩
      have e : (List.replicate k.toNat xs).flatten = xs := by
        rw [Bool.or_eq_true] at c1
        rcases c1 with c | c
        · have : its = [] := by cases its with | nil => rfl | cons a b => simp at c
          subst this
          cases r
          simp
        · have : k = 1 := by simpa using c
          subst this
          simp
      rw [e]
      exact hT
    · have c1 : (its.toArray.isEmpty || k == 1) = false := by simpa using c1
      have hk : k ≤ 0 := by
        rw [Bool.or_eq_false_iff] at c1
        have h3 : k ≠ 1 := by simpa using c1.2
        have h4 : xs ≠ [] := fun z => by subst z; cases r; simp at c1
        by_cases h5 : 2 ≤ k
        · exact absurd ⟨h4, h5⟩ hb
        · omega
      have c2 : (decide (k ≤ 0) || its.toArray.isEmpty) = true := by rw [decide_eq_true hk]; rfl
      refine wpAny_binaryOp_repeat_ref (T := "tuple") (U := "int") (by decide) ⟨_, ho, rfl⟩ (fun s' => typeIs_int s' k t) noFill_tuple_mul F.fills_int_mul F.slot_int_rmul repeat_tuple F.slot_int_index.lookup
        (call_meets F.slot_int_rmul (typeIs_int s k t) F.entry_int_rmul (F.args_int_rmul_2 _ _) (int_rmul_tuple k t l its.toArray n dd sl)
          ⟨ho, rfl, ⟨_, ho, rfl⟩, call_meets F.slot_tuple_mul ⟨_, ho, rfl⟩ F.entry_tuple_mul (F.args_tuple_mul_2 _ _) (tuple_mul_zero l its.toArray n dd sl k t c0 c1 c2) ⟨ho, ?_⟩⟩)
      have e : (List.replicate k.toNat xs).flatten = [] := by rw [show k.toNat = 0 by omega]; rfl
      refine ⟨.ref s.heap.objs.size, _, I.laid (t' := s.toks) (o := .tup []) (fun b ob q => Heap.get?_push_of_some _ q) (Nat.le_refl _) ?_, rfl, q _ _ (same_new (I.hok.fresh (Nat.le_refl _))) ⟨_, rfl, ?_⟩⟩
      · exact ⟨Nat.zero_le _, [], .nil, IsTup.new _ _⟩
      · rw [e]; exact .inl (.inl upd_same)

theorem EncDs.rep {K : PySem.W.Frag} {Z : Addr → Prop} {H : Hp} {vs : List V} {ds : List D} (h : EncDs K Z H vs ds) : ∀ n : Nat, EncDs K Z H (List.replicate n vs).flatten (List.replicate n ds).flatten
  | 0 => .nil
  | n + 1 => by
    rw [List.replicate_succ, List.replicate_succ, List.flatten_cons, List.flatten_cons]
    exact h.append (EncDs.rep h n)
theorem sizeMax_eq : sizeMax = sizeLine := by rw [sizeLine_eq]; rfl
theorem imB_some {b : Bool} {o : Op} (h : imB b = some o) : o = .im (.bool b) := (Option.some.inj h).symm
theorem imI_some {b : Int} {o : Op} (h : imI b = some o) : o = .im (.int b) := (Option.some.inj h).symm
theorem small64_ok {i : Int} (h : small64 i = true) : -(2 ^ 64) < i ∧ i < 2 ^ 64 := by
  unfold small64 at h
  rw [Bool.and_eq_true] at h
  exact ⟨of_decide_eq_true h.1, of_decide_eq_true h.2⟩
theorem opR_bin {op : Operator} : OpR X (binaryOp op) (rF X.K (binD op)) := by
  intro pins s σ H x y v u Q I rx ry h
  obtain ⟨Z, p, q, o, zs, hf, vx, vy, fin⟩ := h
  have int : ∀ {i : Int}, o = .im (.int i) → Q (.int i) H := fun {i} e => fin _ H (Same.refl H) (by subst e; exact EncD.int i)
  unfold binD at hf
  split at hf
  · exact op_add pins s σ H x y v u Q I rx ry ⟨_, _, vx.int, vy.int, int (imI_some hf)⟩
  · split at hf
    · rename_i xs ys hz
      have e := (Option.some.inj hf).symm
      subst e
      obtain ⟨a, vs, rfl, ha, es⟩ := vx.tuple
      obtain ⟨b, us, rfl, hb, fs⟩ := vy.tuple
      have hz : vs.length + us.length ≤ sizeLine := by rw [es.length, fs.length, ← sizeMax_eq]; exact hz
      refine op_catA pins s σ H _ _ v u Q I rx ry ⟨a, b, vs, us, rfl, rfl, ha, hb, hz, fun e => ?_, fun e1 e2 => ?_, fun e1 e2 p np => ?_⟩
      · subst e
        have := es.length
        have e : xs = [] := List.eq_nil_of_length_eq_zero (by simpa using this.symm)
        subst e
        exact fin _ H (Same.refl H) (EncD.tup hb fs)
      · subst e2
        have := fs.length
        have e : ys = [] := List.eq_nil_of_length_eq_zero (by simpa using this.symm)
        subst e
        rw [List.append_nil] at fin
        exact fin _ H (Same.refl H) (EncD.tup ha es)
      · have sm : Same H (upd H p (.tup (vs ++ us))) := same_new np
        exact fin _ _ sm (EncD.tup (.inl (.inl upd_same)) ((es.append fs).mono (Same.le sm zs)))
    · cases hf
  · split at hf
    · rename_i xs ys hz
      have e := (Option.some.inj hf).symm
      subst e
      obtain ⟨a, vs, rfl, ha, es⟩ := vx.list
      obtain ⟨b, us, rfl, hb, fs⟩ := vy.list
      refine op_cat pins s σ H _ _ v u Q I rx ry ⟨a, b, vs, us, rfl, rfl, ha, hb, by rw [es.length, fs.length, ← sizeMax_eq]; exact hz, fun p np => ?_⟩
      have sm : Same H (upd H p (.lst (vs ++ us))) := same_new np
      exact fin _ _ sm ⟨p, _, rfl, np, upd_same, (es.append fs).mono (Same.le sm zs)⟩
    · cases hf
  · exact op_sub pins s σ H x y v u Q I rx ry ⟨_, _, vx.int, vy.int, int (imI_some hf)⟩
  · split at hf
    · rename_i hc
      refine op_mul pins s σ H x y v u Q I rx ry ⟨_, _, vx.int, vy.int, ?_, int (imI_some hf)⟩
      rw [Bool.or_eq_true] at hc
      exact hc.imp small64_ok small64_ok
    · cases hf
  · split at hf
    · rename_i xs k hc
      have e := (Option.some.inj hf).symm
      subst e
      simp only [Bool.and_eq_true, decide_eq_true_eq] at hc
      obtain ⟨a, vs, rfl, ha, es⟩ := vx.tuple
      have := vy.int
      subst this
      refine op_repAny I rx ry ha hc.1.1 hc.1.2 (by rw [es.length]; exact hc.2) fun w H' sm ⟨p, e, hp⟩ => fin w H' sm ?_
      subst e
      exact EncD.tup hp ((es.rep _).mono (Same.le sm zs))
    · cases hf
  · split at hf
    · rename_i xs k hc
      have e := (Option.some.inj hf).symm
      subst e
      simp only [Bool.and_eq_true, decide_eq_true_eq] at hc
      obtain ⟨a, vs, rfl, ha, es⟩ := vx.list
      have hl := es.length
      refine op_rep pins s σ H _ y v u Q I rx ry ⟨a, k, vs, rfl, vy.int, ha, by omega, by omega, ?_, fun p np => ?_⟩
      · rw [hl, sizeLine_eq]
        have : xs.length * k.toNat ≤ 1000 * 1000 := Nat.mul_le_mul hc.2 (by omega)
        omega
      · have sm : Same H (upd H p (.lst (List.replicate k.toNat vs).flatten)) := same_new np
        exact fin _ _ sm ⟨p, _, rfl, np, upd_same, (es.rep _).mono (Same.le sm zs)⟩
    · cases hf
  · split at hf
    · rename_i hc
      simp only [Bool.and_eq_true, decide_eq_true_eq] at hc
      exact op_fdivN pins s σ H x y v u Q I rx ry ⟨_, _, vx.int, vy.int, hc, int (imI_some hf)⟩
    · cases hf
  · split at hf
    · rename_i hc
      exact op_modN pins s σ H x y v u Q I rx ry ⟨_, _, vx.int, vy.int, of_decide_eq_true hc, int (imI_some hf)⟩
    · cases hf
  · split at hf
    · rename_i hc
      simp only [Bool.and_eq_true, decide_eq_true_eq] at hc
      exact op_pow pins s σ H x y v u Q I rx ry ⟨_, _, vx.int, vy.int, ⟨hc.1.1, hc.1.2, hc.2⟩, int (imI_some hf)⟩
    · cases hf
  · split at hf
    · rename_i hc
      simp only [Bool.and_eq_true, decide_eq_true_eq] at hc
      exact op_shl pins s σ H x y v u Q I rx ry ⟨_, _, vx.int, vy.int, ⟨hc.1.1, hc.1.2, hc.2⟩, int (imI_some hf)⟩
    · cases hf
  · cases hf
theorem unR_neg : UnR X (unaryOp .USub) (rF1 X.K negD) := by
  intro pins s σ H x v Q I rx h
  obtain ⟨Z, p, o, zs, hf, vx, fin⟩ := h
  unfold negD at hf
  split at hf
  · exact un_neg pins s σ H x v Q I rx ⟨_, vx.int, fin _ H (Same.refl H) (by have e := imI_some hf; subst e; exact EncD.int _)⟩
  · cases hf

/-! ### comparisons -/
mutual
theorem EncD.dp {K : PySem.W.Frag} {Z : Addr → Prop} {H : Hp} : ∀ {v : V} {d : D}, EncD K Z H v d → PyData.plain d = true → Dp K H v d
  | _, _, .non, _ => .non
  | _, _, .bl b, _ => .bl b
  | _, _, .int i, _ => .int i
  | _, _, .str x, _ => .str x
  | _, _, .lst z h hs, c => .lst (.inl (.inl h)) (EncDs.dp hs (by simpa [PyData.plain] using c))
  | _, _, .tup h hs, c => .tup h (EncDs.dp hs (by simpa [PyData.plain] using c))
  | _, _, .scr h hs, c => by simp [PyData.plain] at c
  | _, _, .dK _ _ _, c => by simp [PyData.plain] at c
  | _, _, .dT _ _ _, c => by simp [PyData.plain] at c
theorem EncDs.dp {K : PySem.W.Frag} {Z : Addr → Prop} {H : Hp} : ∀ {v : List V} {d : List D}, EncDs K Z H v d → PyData.plainAll d = true → DpAll K H v d
  | _, _, .nil, _ => .nil
  | _, _, .cons h hs, c => by
    rw [PyData.plainAll, Bool.and_eq_true] at c
    exact .cons (EncD.dp h c.1) (EncDs.dp hs c.2)
end
theorem Vw.dp {K : PySem.W.Frag} {Z : Addr → Prop} {H : Hp} {v : V} {d : D} (h : Vw K Z H v d) (c : PyData.plain d = true) : Dp K H v d := by
  cases h with
  | im h => exact h.dp c
  | lst h hs => exact .lst (.inl (.inl h)) (hs.dp (by simpa [PyData.plain] using c))
  | dct h => simp [PyData.plain] at c
theorem shp_ok {d : D} (h : shp d = true) : PyData.plain d = true ∧ PyData.depth d ≤ 60 := by
  unfold shp at h
  rw [Bool.and_eq_true] at h
  exact ⟨h.1, of_decide_eq_true h.2⟩
theorem Vw.reads {pins : List (Addr × Obj)} {s : Shared} {σ : L2.St} {H : Hp} {v : V} {u : Value} {Z : Addr → Prop} {d : D} (h : Vw X.K Z H v d) (I : Inv X pins σ H s) (r : RelV v u) (c : PyData.plain d = true) : ∃ as, Reads s.heap u d as := Dp.reads I d v u (h.dp c) r
theorem room60 {A : Around} {m k : Nat} (hu : A.units + 64 < cLine) (h : m ≤ 60) : A.units + min m k < cLine := by
  have := Nat.min_le_left m k
  omega
theorem op_eqB (hu : X.A.units + 64 < cLine) {pins : List (Addr × Obj)} {s : Shared} {σ : L2.St} {H : Hp} {x y : V} {v u : Value} {Q : VK} {Z : Addr → Prop} {p q : D} {b : Bool} (I : Inv X pins σ H s) (rx : RelV x v) (ry : RelV y u) (vx : Vw X.K Z H x p) (vy : Vw X.K Z H y q)
    (h : eqD p q = some b) : (Q (.bl b) H → wpAny (model X.prog X.w) X.A (compareOp .Eq v u) (EP X pins σ Q) X.xe s) ∧ (Q (.bl (!b)) H → wpAny (model X.prog X.w) X.A (compareOp .NotEq v u) (EP X pins σ Q) X.xe s) := by
  unfold eqD at h
  split at h
  · rename_i hc
    rw [Bool.and_eq_true] at hc
    have e := Option.some.inj h
    subst e
    obtain ⟨c1, d1⟩ := shp_ok hc.1
    obtain ⟨c2, _⟩ := shp_ok hc.2
    obtain ⟨as, r1⟩ := vx.reads I rx c1
    obtain ⟨bs, r2⟩ := vy.reads I ry c2
    exact ⟨fun fin => SeqAt.eq_plain r1 r2 c1 c2 (room60 hu d1) ⟨.bl _, H, I, rfl, fin⟩, fun fin => SeqAt.ne_plain r1 r2 c1 c2 (room60 hu d1) ⟨.bl _, H, I, rfl, fin⟩⟩
  · cases h
theorem op_ltB (hu : X.A.units + 64 < cLine) {pins : List (Addr × Obj)} {s : Shared} {σ : L2.St} {H : Hp} {x y : V} {v u : Value} {Q : VK} {Z : Addr → Prop} {p q : D} {b : Bool} (I : Inv X pins σ H s) (rx : RelV x v) (ry : RelV y u) (vx : Vw X.K Z H x p) (vy : Vw X.K Z H y q)
    (h : ltD p q = some b) (fin : Q (.bl b) H) : wpAny (model X.prog X.w) X.A (compareOp .Lt v u) (EP X pins σ Q) X.xe s ∧ wpAny (model X.prog X.w) X.A (compareOp .Gt u v) (EP X pins σ Q) X.xe s := by
  unfold ltD at h
  split at h
  · rename_i hc
    simp only [Bool.and_eq_true] at hc
    obtain ⟨⟨⟨al, nn⟩, h1⟩, h2⟩ := hc
    have e := Option.some.inj h
    subst e
    obtain ⟨c1, d1⟩ := shp_ok h1
    obtain ⟨c2, d2⟩ := shp_ok h2
    obtain ⟨as, r1⟩ := vx.reads I rx c1
    obtain ⟨bs, r2⟩ := vy.reads I ry c2
    have n1 : p ≠ .none := fun z => by subst z; simp [isNone] at nn
    have n2 : q ≠ .none := PySem.W.ne_none_both al n1
    exact ⟨PySem.W.lt_data r1 r2 al n1 (room60 hu d1) ⟨.bl _, H, I, rfl, fin⟩, PySem.W.gt_data r2 r1 (by rw [PySem.W.alike_comm]; exact al) n2 (room60 hu d2) ⟨.bl _, H, I, rfl, fin⟩⟩
  · cases h
theorem op_leB (hu : X.A.units + 64 < cLine) {pins : List (Addr × Obj)} {s : Shared} {σ : L2.St} {H : Hp} {x y : V} {v u : Value} {Q : VK} {Z : Addr → Prop} {p q : D} {b : Bool} (I : Inv X pins σ H s) (rx : RelV x v) (ry : RelV y u) (vx : Vw X.K Z H x p) (vy : Vw X.K Z H y q)
    (h : leD p q = some b) (fin : Q (.bl b) H) : wpAny (model X.prog X.w) X.A (compareOp .LtE v u) (EP X pins σ Q) X.xe s ∧ wpAny (model X.prog X.w) X.A (compareOp .GtE u v) (EP X pins σ Q) X.xe s := by
  unfold leD at h
  split at h
  · rename_i hc
    simp only [Bool.and_eq_true] at hc
    obtain ⟨⟨⟨al, nn⟩, h1⟩, h2⟩ := hc
    have e := Option.some.inj h
    subst e
    obtain ⟨c1, d1⟩ := shp_ok h1
    obtain ⟨c2, d2⟩ := shp_ok h2
    obtain ⟨as, r1⟩ := vx.reads I rx c1
    obtain ⟨bs, r2⟩ := vy.reads I ry c2
    have n1 : p ≠ .none := fun z => by subst z; simp [isNone] at nn
    have n2 : q ≠ .none := PySem.W.ne_none_both al n1
    exact ⟨PySem.W.le_data r1 r2 al n1 (room60 hu d1) ⟨.bl _, H, I, rfl, fin⟩, PySem.W.ge_data r2 r1 (by rw [PySem.W.alike_comm]; exact al) n2 (room60 hu d2) ⟨.bl _, H, I, rfl, fin⟩⟩
  · cases h
theorem op_inB (hu : X.A.units + 65 < cLine) {pins : List (Addr × Obj)} {s : Shared} {σ : L2.St} {H : Hp} {x y : V} {v u : Value} {Q : VK} {Z : Addr → Prop} {p q : D} {b : Bool} (I : Inv X pins σ H s) (rx : RelV x v) (ry : RelV y u) (vx : Vw X.K Z H x p) (vy : Vw X.K Z H y q)
    (h : inD p q = some b) : (Q (.bl b) H → wpAny (model X.prog X.w) X.A (compareOp .In v u) (EP X pins σ Q) X.xe s) ∧ (Q (.bl (!b)) H → wpAny (model X.prog X.w) X.A (compareOp .NotIn v u) (EP X pins σ Q) X.xe s) := by
  have room : ∀ {ds : List D}, PyData.depth p ≤ 60 → X.A.units + 1 + min (PyData.depthAll ds) p.depth < cLine := fun {ds} h => by
    have := Nat.min_le_right (PyData.depthAll ds) p.depth
    omega
  unfold inD at h
  split at h
  · split at h
    · rename_i ds hc
      rw [Bool.and_eq_true] at hc
      have e := Option.some.inj h
      subst e
      obtain ⟨c1, d1⟩ := shp_ok hc.1
      obtain ⟨c2, _⟩ := shp_ok hc.2
      obtain ⟨as, r1⟩ := vx.reads I rx c1
      obtain ⟨bs, r2⟩ := vy.reads I ry c2
      have c3 : PyData.plainAll ds = true := by simpa [PyData.plain] using c2
      exact ⟨fun fin => SeqAt.in_list_data r2 r1 c3 c1 (room d1) ⟨.bl _, H, I, rfl, fin⟩, fun fin => SeqAt.notIn_list_data r2 r1 c3 c1 (room d1) ⟨.bl _, H, I, rfl, fin⟩⟩
    · cases h
  · split at h
    · rename_i ds hc
      rw [Bool.and_eq_true] at hc
      have e := Option.some.inj h
      subst e
      obtain ⟨c1, d1⟩ := shp_ok hc.1
      obtain ⟨c2, _⟩ := shp_ok hc.2
      obtain ⟨as, r1⟩ := vx.reads I rx c1
      obtain ⟨bs, r2⟩ := vy.reads I ry c2
      have c3 : PyData.plainAll ds = true := by simpa [PyData.plain] using c2
      exact ⟨fun fin => SeqAt.in_tuple_data r2 r1 c3 c1 (room d1) ⟨.bl _, H, I, rfl, fin⟩, fun fin => SeqAt.notIn_tuple_data r2 r1 c3 c1 (room d1) ⟨.bl _, H, I, rfl, fin⟩⟩
    · cases h
  · cases h
theorem enc_none {K : PySem.W.Frag} {Z : Addr → Prop} {H : Hp} {x : V} {p : D} (h : Vw K Z H x p) : decide (x = .non) = isNone p := by
  cases h with
  | im h => cases h <;> rfl
  | lst _ _ => rfl
  | dct _ => rfl
theorem op_isB {pins : List (Addr × Obj)} {s : Shared} {σ : L2.St} {H : Hp} {x y : V} {v u : Value} {Q : VK} {Z : Addr → Prop} {p q : D} {b : Bool} (I : Inv X pins σ H s) (rx : RelV x v) (ry : RelV y u) (vx : Vw X.K Z H x p) (vy : Vw X.K Z H y q)
    (h : isD p q = some b) : ((Q (.bl b) H → wpAny (model X.prog X.w) X.A (compareOp .Is v u) (EP X pins σ Q) X.xe s) ∧ (Q (.bl (!b)) H → wpAny (model X.prog X.w) X.A (compareOp .IsNot v u) (EP X pins σ Q) X.xe s)) := by
  unfold isD at h
  split at h
  · have e := Option.some.inj h
    subst e
    rw [← enc_none vx]
    exact ⟨fun fin => op_isN pins s σ H x y v u Q I rx ry ⟨vy.none, fin⟩, fun fin => op_notN pins s σ H x y v u Q I rx ry ⟨vy.none, fin⟩⟩
  · have e := Option.some.inj h
    subst e
    exact ⟨fun fin => op_is_bl pins s σ H x y v u Q I rx ry ⟨_, _, vx.bool, vy.bool, fin⟩, fun fin => op_isnot_bl pins s σ H x y v u Q I rx ry ⟨_, _, vx.bool, vy.bool, fin⟩⟩
  · cases h
theorem map_not {r : Option Bool} {o : Op} (h : (r.map (!·)).bind imB = some o) : ∃ b, r = some b ∧ o = .im (.bool (!b)) := by
  cases r with
  | none => cases h
  | some b => exact ⟨b, rfl, imB_some h⟩
theorem bind_imB {r : Option Bool} {o : Op} (h : r.bind imB = some o) : ∃ b, r = some b ∧ o = .im (.bool b) := by
  cases r with
  | none => cases h
  | some b => exact ⟨b, rfl, imB_some h⟩
theorem opR_cmp {op : CmpOp} (hu : X.A.units + 65 < cLine) : OpR X (compareOp op) (rF X.K fun p q => (cmpD op p q).bind imB) := by
  intro pins s σ H x y v u Q I rx ry h
  obtain ⟨Z, p, q, o, zs, hf, vx, vy, fin⟩ := h
  have bl : ∀ {b : Bool}, o = .im (.bool b) → Q (.bl b) H := fun {b} e => fin _ H (Same.refl H) (by subst e; exact EncD.bl b)
  cases op with
  | Eq => obtain ⟨b, e, e2⟩ := bind_imB hf; exact (op_eqB (by omega) I rx ry vx vy e).1 (bl e2)
  | NotEq => obtain ⟨b, e, e2⟩ := map_not hf; exact (op_eqB (by omega) I rx ry vx vy e).2 (bl e2)
  | In => obtain ⟨b, e, e2⟩ := bind_imB hf; exact (op_inB hu I rx ry vx vy e).1 (bl e2)
  | NotIn => obtain ⟨b, e, e2⟩ := map_not hf; exact (op_inB hu I rx ry vx vy e).2 (bl e2)
  | Is => obtain ⟨b, e, e2⟩ := bind_imB hf; exact (op_isB I rx ry vx vy e).1 (bl e2)
  | IsNot => obtain ⟨b, e, e2⟩ := map_not hf; exact (op_isB I rx ry vx vy e).2 (bl e2)
  | Lt => obtain ⟨b, e, e2⟩ := bind_imB hf; exact (op_ltB (by omega) I rx ry vx vy e (bl e2)).1
  | LtE => obtain ⟨b, e, e2⟩ := bind_imB hf; exact (op_leB (by omega) I rx ry vx vy e (bl e2)).1
  | Gt => obtain ⟨b, e, e2⟩ := bind_imB hf; exact (op_ltB (by omega) I ry rx vy vx e (bl e2)).2
  | GtE => obtain ⟨b, e, e2⟩ := bind_imB hf; exact (op_leB (by omega) I ry rx vy vx e (bl e2)).2
/-- a < b < c -/
theorem rd_chain {K : PySem.W.Frag} {mg : Str → Option Value} {W : WX} {f g : D → D → Option Bool} {ma mb mc : ME} {σ : L2.St} {H : Hp} {Q : VK} (h : RdE K T mg (chainE f g ma mb mc) W σ H Q) :
    tChain (rF K fun p q => (f p q).bind imB) (rF K fun p q => (g p q).bind imB) (RdE K T mg ma W) (RdE K T mg mb W) (RdE K T mg mc W) σ H Q := by
  obtain ⟨e, Z, G, s, h⟩ := h
  refine ⟨e, Z, G, s, (h.bind fun _ z => z).imp fun o1 e1 Z1 H1 l1 k1 h v ox => ?_⟩
  refine ⟨e1, Z1, Gx G v o1, ox.st, (PostC.bind (f := _) (fun _ z => .inl z) h).imp fun o2 e2 Z2 H2 l2 k2 h u oy => ?_⟩
  have s2 := oy.st
  cases q1 : vw o1 e2 with
  | none => rw [q1] at h; exact h.elim
  | some p =>
    cases q2 : vw o2 e2 with
    | none => rw [q1, q2] at h; exact h.elim
    | some q =>
      rw [q1, q2] at h
      dsimp only at h
      cases q3 : f p q with
      | none => rw [q3] at h; exact h.elim
      | some b =>
        rw [q3] at h
        have ox2 : OpOk K Z2 H2 σ v o1 := ox.ok.mono l2 fun a z => k2 a (.inr z)
        refine ⟨Z2, p, q, .im (.bool b), s2.zs, by show (f p q).bind imB = _; rw [q3]; rfl, ox2.vw s2 q1, oy.ok.vw s2 q2, fun w H3 sm nw => ?_⟩
        have nw : EncD K Z2 H3 w (.bool b) := nw
        cases nw
        refine ⟨b, rfl, ?_⟩
        have s20 : StOk K T e2 σ H2 Z2 G := s2.less fun a z => .inl (.inl z)
        have l3 := Same.le sm s2.zs
        cases b with
        | false =>
          exact iteF (PostC.fin h s20 sm (EncD.bl false))
        | true =>
          refine iteT ?_
          have k3 : KeepG (Gx (Gx G v o1) u o2) H2 H3 := KeepG.of_same sm fun a g => (s2.gs a g).1
          have s3 := s2.same sm
          have h := PostC.trans l3 (k3.less fun a z => .inl (.inl z)) h
          refine ⟨e2, Z2, Gx (Gx G v o1) u o2, s3, (PostC.bind (fun a z => .inl (.inl z)) h).imp fun o3 e3 Z4 H4 l4 k4 h w oz => ?_⟩
          have s4 := oz.st
          cases q5 : vw o2 e3 with
          | none => rw [q5] at h; exact h.elim
          | some q' =>
            cases q6 : vw o3 e3 with
            | none => rw [q5, q6] at h; exact h.elim
            | some r =>
              rw [q5, q6] at h
              dsimp only at h
              cases q7 : g q' r with
              | none => rw [q7] at h; exact h.elim
              | some k =>
                rw [q7] at h
                have oy2 : OpOk K Z4 H4 σ u o2 := (oy.ok.mono l3 fun a z => k3 a (.inr z)).mono l4 fun a z => k4 a (.inr z)
                refine ⟨Z4, q', r, .im (.bool k), s4.zs, by show (g q' r).bind imB = _; rw [q7]; rfl, oy2.vw s4 q5, oz.ok.vw s4 q6, fun w5 H5 sm5 nw5 => ?_⟩
                exact PostC.fin h (s4.less fun a z => .inl (.inl (.inl z))) sm5 nw5
end
end Ev
end
section
set_option maxHeartbeats 4000000
/-! EvS3: subscripts, slices, calls of built-ins. -/
namespace Ev
open PySem PySem.Spec PyProof.Rows L2
variable {T : LT}

theorem EncK.noscr {K Z H} {m : List (Key × V)} {kvs : List (D × D)} {d : D} (h : EncK K Z H m kvs) (e : kvs = [(.none, d)]) : False := by
  cases h with
  | nil => cases e
  | @cons k v d r r' _ _ =>
    have e2 := (Prod.mk.inj (List.cons.inj e).1).1
    cases k <;> cases e2
theorem EncT.noscr {K Z H} {m : List (List Key × V)} {kvs : List (D × D)} {d : D} (h : EncT K Z H m kvs) (e : kvs = [(.none, d)]) : False := by
  cases h with
  | nil => cases e
  | cons _ _ => cases (Prod.mk.inj (List.cons.inj e).1).1
theorem DctAt.noscr {K Z H a} {kvs : List (D × D)} {d : D} (h : DctAt K Z H a kvs) (e : kvs = [(.none, d)]) : False := by
  rcases h with ⟨_, _, h⟩ | ⟨_, _, h⟩
  · exact h.noscr e
  · exact h.noscr e
theorem ixD_eq (n : Nat) (i : Int) : ixD n i = L2.ixN n i := rfl
theorem cutI_eq (n d : Nat) (o : Option Int) : cutI n d o = HT.sIx n d o := rfl
section
variable {X : Cx}
theorem EncDs.atI {K : PySem.W.Frag} {Z : Addr → Prop} {H : Hp} {vs : List V} {ds : List D} {i : Int} {j : Nat} {d : D} (h : EncDs K Z H vs ds) (e1 : ixD ds.length i = some j) (e2 : ds[j]? = some d) : ∃ v, L2.atI vs i = some v ∧ EncD K Z H v d := by
  obtain ⟨v, h1, h2⟩ := h.get e2
  refine ⟨v, ?_, h2⟩
  unfold L2.atI
  rw [h.length, ← ixD_eq, e1]
  exact h1
theorem ixR_sub (hu : X.A.units + 65 < cLine) : IxR X (rF X.K subD) := by
  intro value slice pins s σ H x y v u Q I rx ry h hs
  obtain ⟨Z, p, q, o, zs, hf, vx, vy, fin⟩ := h
  unfold subD at hf
  split at hf
  · rename_i xs i
    cases q1 : ixD xs.length i with
    | none => rw [q1] at hf; cases hf
    | some j =>
      rw [q1] at hf
      cases q2 : xs[j]? with
      | none => simp [q2] at hf
      | some d =>
        simp only [q2, Option.map_some, Option.some.injEq] at hf
        subst hf
        obtain ⟨a, vs, rfl, ha, es⟩ := vx.tuple
        obtain ⟨w, h1, h2⟩ := es.atI q1 q2
        exact ix_tup value slice pins s σ H _ y v u Q I rx ry ⟨a, vs, i, w, rfl, vy.int, ha, h1, fin w H (Same.refl H) h2⟩ hs
  · rename_i xs i
    cases q1 : ixD xs.length i with
    | none => rw [q1] at hf; cases hf
    | some j =>
      rw [q1] at hf
      cases q2 : xs[j]? with
      | none => simp [q2] at hf
      | some d =>
        simp only [q2, Option.map_some, Option.some.injEq] at hf
        subst hf
        obtain ⟨a, vs, rfl, ha, es⟩ := vx.list
        obtain ⟨w, h1, h2⟩ := es.atI q1 q2
        exact ix_list value slice pins s σ H _ y v u Q I rx ry ⟨a, vs, i, w, rfl, vy.int, .inl (.inl ha), h1, fin w H (Same.refl H) h2⟩ hs
  · cases hf

/-! ### slices -/
/-- a slice by values; the ends are ints that stand for what the evaluator has -/
def rSl (K : PySem.W.Frag) : V → Option Int → Option Int → Hp → VK → Prop := fun x lo hi H Q => ∃ Z p o, (∀ a, Z a → H a ≠ none) ∧ sliD p lo hi = some o ∧ Vw K Z H x p ∧ ∀ w H', Same H H' → NewOk K Z H H' w o → Q w H'
theorem EncDs.cut {K : PySem.W.Frag} {Z : Addr → Prop} {H : Hp} {vs : List V} {ds : List D} {lo hi : Option Int} (h : EncDs K Z H vs ds) : EncDs K Z H (cutV vs lo hi) (cutL ds lo hi) := by
  unfold cutV cutL
  rw [cutI_eq, cutI_eq, h.length]
  exact (h.drop _).take _
theorem slR_cut : SlR X (rSl X.K) := by
  intro pins s σ H x v vl vu lo hi sl Q I rx hs pl pu h
  obtain ⟨Z, p, o, zs, hp, vx, fin⟩ := h
  unfold sliD at hp
  split at hp <;> (try (cases hp; done)) <;> (have e := (Option.some.inj hp).symm; subst e; clear hp)
  · rename_i xs
    obtain ⟨a, vs, rfl, ha, es⟩ := vx.tuple
    refine sl_tupA pins s σ H _ v vl vu lo hi sl Q I rx hs pl pu ⟨a, vs, rfl, ha, fun ⟨e1, e2⟩ => ?_, fun ne p np => ?_⟩
    · have e : cutL xs lo hi = xs := by
        unfold cutL
        rw [cutI_eq, cutI_eq, ← es.length, e1, e2, es.length]
        simp
      rw [e] at fin
      exact fin _ H (Same.refl H) (EncD.tup ha es)
    · have sm : Same H (upd H p (.tup (cutV vs lo hi))) := same_new np
      exact fin _ _ sm (EncD.tup (.inl (.inl upd_same)) (es.cut.mono (Same.le sm zs)))
  · rename_i xs
    obtain ⟨a, vs, rfl, ha, es⟩ := vx.list
    refine sl_list pins s σ H _ v vl vu lo hi sl Q I rx hs pl pu ⟨a, vs, rfl, .inl (.inl ha), fun p np => ?_⟩
    have sm : Same H (upd H p (.lst (cutV vs lo hi))) := same_new np
    exact fin _ _ sm ⟨p, _, rfl, np, upd_same, es.cut.mono (Same.le sm zs)⟩
  · rename_i xs
    obtain ⟨a, rfl, ha⟩ := vx.dict
    rcases ha with ha | ⟨ds, vs, e, ha, es⟩
    · exact (ha.noscr rfl).elim
    · cases e
      refine sl_list pins s σ H _ v vl vu lo hi sl Q I rx hs pl pu ⟨a, vs, rfl, ?_, fun p np => ?_⟩
      · rcases ha with ⟨_, ha⟩ | ⟨o, ha⟩ | ha
        · exact .inl (.inl ha)
        · exact .inl (.inr ⟨o, ha⟩)
        · exact .inr ha
      · have sm : Same H (upd H p (.lst (cutV vs lo hi))) := same_new np
        exact fin _ _ sm ⟨p, _, rfl, np, upd_same, es.cut.mono (Same.le sm zs)⟩

/-- the ends of a slice: one that is left out, or an int -/
def OptT (K : PySem.W.Frag) (T : LT) (mg : Str → Option Value) (W : WX) (lo : Option ME) (tl : TO) : Prop := (lo = none ∧ tl = tNoPart) ∨ ∃ a, lo = some a ∧ tl = tPart (RdE K T mg a W)
theorem opt_part {K : PySem.W.Frag} {mg : Str → Option Value} {W : WX} {σ : L2.St} {lo : Option ME} {tl : TO} {e1 : Sl} {Z1 G G1 : Addr → Prop} {H1 : Hp} {C : Op → Sl → (Addr → Prop) → Hp → Prop} {f : Option Int → Sl → Res Op} {R : Option Int → Hp → Prop}
    (hl : OptT K T mg W lo tl) (hG : ∀ a, G a → G1 a) (s : StOk K T e1 σ H1 Z1 G1) (h : PostC K T mg W σ Z1 G H1 C ((optE lo e1).bind f))
    (k : ∀ i e2 Z2 H2, Le Z1 H1 Z2 H2 → KeepG G1 H1 H2 → StOk K T e2 σ H2 Z2 G1 → PostC K T mg W σ Z2 G H2 C (f i e2) → R i H2) : tl σ H1 R := by
  rcases hl with ⟨rfl, rfl⟩ | ⟨a, rfl, rfl⟩
  · exact k none e1 Z1 H1 Le.refl KeepG.refl s h
  · have h2 := PostC.bind hG h
    refine ⟨e1, Z1, G1, s, (PostC.bind (fun _ z => z) h2).imp fun o e2 Z2 H2 l2 k2 h v x => ?_⟩
    split at h
    · rename_i i
      have := x.ok
      cases (show EncD K Z2 H2 v (.int i) from this)
      exact ⟨i, rfl, k (some i) e2 Z2 H2 l2 k2 x.st0 (PostC.ret h)⟩
    · exact h.elim
theorem rd_slice {K : PySem.W.Frag} {mg : Str → Option Value} {W : WX} {m : ME} {σ : L2.St} {H : Hp} {Q : VK} {lo hi : Option ME} {tl th : TO} (h : RdE K T mg (sliE m lo hi) W σ H Q)
    (hl : OptT K T mg W lo tl) (hh : OptT K T mg W hi th) : tSl (rSl K) (RdE K T mg m W) tl th σ H Q := by
  obtain ⟨e, Z, G, s, h⟩ := h
  refine ⟨e, Z, G, s, (h.bind fun _ z => z).imp fun o1 e1 Z1 H1 l1 k1 h v ox => ?_⟩
  refine opt_part hl (fun _ z => .inl z) ox.st h fun i e2 Z2 H2 l2 k2 s2 h => ?_
  refine opt_part hh (fun _ z => .inl z) s2 h fun j e3 Z3 H3 l3 k3 s3 h => ?_
  have ox3 : OpOk K Z3 H3 σ v o1 := (ox.ok.mono l2 fun a z => k2 a (.inr z)).mono l3 fun a z => k3 a (.inr z)
  cases q1 : vw o1 e3 with
  | none => rw [q1] at h; exact h.elim
  | some p =>
    rw [q1] at h
    simp only [lift] at h
    cases q2 : sliD p i j with
    | none => rw [q2] at h; exact h.elim
    | some o =>
      rw [q2] at h
      exact ⟨Z3, p, o, s3.zs, q2, ox3.vw s3 q1, fun w H4 sm nw => PostC.fin h (s3.less fun a z => .inl z) sm nw⟩
end
end Ev
end
section
set_option maxHeartbeats 4000000
/-! EvSo: sorted of a tuple. -/
namespace PySem
open AutoSeq1 (wpAny_loadPart')
/-- the items of a tuple collected: the heap has one object more -/
theorem collect_tup_sz {prog : Program} {w : World} {A : Around} {E : Value → Shared → Prop} {s : Shared} {Q : List Value → Shared → Prop} (it : Addr) {o : Obj} {items : Array Value} {n : Nat}
    (ho : s.heap.get? it = some o) (hc : o.cls = .type "tuple") (hd : o.data = .seq items n)
    (hQ : ∀ h', h'.objs.size = s.heap.objs.size + 1 → (∀ b o', s.heap.get? b = some o' → h'.get? b = some o') → Q items.toList { s with heap := h' }) (hsz : items.size ≤ sizeLine) :
    wpAny (model prog w) A (collect (.ref it)) Q E s := by
  let h0 : Heap := s.heap.push { cls := .type "list", data := .seq ([] : List Value).toArray }
  have hS : h0.get? s.heap.objs.size = some { cls := .type "list", data := .seq #[] 0 } := Heap.get?_push_size _ rfl
  let h1 : Heap := h0.update s.heap.objs.size (Obj.mapSeq (· ++ items))
  have hS2 := Heap.get?_update_self (Obj.mapSeq (· ++ items)) hS rfl
  have goal : Q items.toList { s with heap := h1 } := hQ h1 (by show (Heap.update _ _ _).objs.size = _; rw [Heap.size_update]; exact PyProof.Rows.size_push' _ _) fun b o' hb => (Heap.get?_update_other _ _ (Nat.ne_of_gt (Heap.lt_size hb))).trans (Heap.get?_push_of_some _ hb)
  have last : wpAny (model prog w) A (match Value.ref s.heap.objs.size with
      | Value.ref a => do
        match (← load a).data with
          | Data.seq xs _ => pure xs.toList
          | _ => unsupported "internal:collect"
      | _ => unsupported "internal:collect") Q E { s with heap := h1 } := by
    show wpAny _ A (load s.heap.objs.size >>= _) _ _ _
    refine wpAny_bind (wpAny_load hS2 (wpAny_pure ?_))
    show Q ((#[] : Array Value) ++ items).toList _
    have e : ((#[] : Array Value) ++ items).toList = items.toList := by simp
    rw [e]
    exact goal
  unfold collect
  refine wpAny_bind (wpAny_runValue (codeAny_builtin F.entry_proto_collect ?_))
  rw [Around.under_plainId F.plain_proto_collect _]
  show wpAny _ A.in1 (newList [] >>= fun l => again (.builtin "list.__iadd__" ⟨[l, .ref it], []⟩)) _ _ s
  refine wpAny_bind (wpAny_newObj_type (wpAny_pure ⟨plainId_quiet F.plain_list_iadd _, codeAny_builtin F.entry_list_iadd ?_⟩))
  rw [Around.under_plainId F.plain_list_iadd _]
  show wpAny _ A.in1 (Builtin.List.listExtendWith (.ref s.heap.objs.size) (.ref it) (.ref s.heap.objs.size)) _ _ { s with heap := h0 }
  refine wpAny_mono (wpAny_extend_seq (hsz := hsz) (A := A) (R := fun r s' => r = .ok (.ret (.ref s.heap.objs.size)) ∧ s' = { s with heap := h1 })
    (s := { s with heap := h0 }) _ it _ 0 (.inr rfl) hS (Heap.get?_push_of_some _ ho) hc hd ⟨rfl, rfl⟩) (fun fin s' h => ?_) (fun e s' h => absurd h.1 (by simp))
  cases fin with
  | done f =>
    obtain ⟨e, rfl⟩ := h
    cases e
    exact last
  | again c' => exact ⟨h.1, codeAny_mono h.2 fun r s'' hr => by obtain ⟨rfl, rfl⟩ := hr; exact last⟩
end PySem
namespace PySem.W
open PySem PySem.Calls PyProof.Rows
section
variable {prog : Program} {w : World} {A : Around} {E : Value → Shared → Prop} {s : Shared} {β : Type} {R : Value → β → Prop} {enc : β → PyData} {vs : List Value} {bs : List β}
theorem sorted_tup_data {l : Addr} {o : Obj} {n : Nat} {Q : Value → Shared → Prop} (ho : s.heap.get? l = some o) (hc : o.cls = .type "tuple") (hd : o.data = .seq vs.toArray n) (e : EachIs R vs bs) (er : EachIs (fun v b => ∃ as, Reads s.heap v (enc b) as) vs bs) (hal : AllAlike (bs.map enc)) (hk : Sortable (bs.map enc)) (hL : bs.length ≤ sizeLine)
    (hu : ∀ b, b ∈ bs → A.units + 2 + (enc b).depth < cLine)
    (h : ∀ h' a m out, (∀ b o, s.heap.get? b = some o → h'.get? b = some o) → s.heap.objs.size ≤ a → h'.get? a = some (seqObj "list" (List.toArray out) m) → out.length = bs.length → EachIs R out (bs.mergeSort (dataLe false enc)) → Q (.ref a) { s with heap := h' }) :
    wpAny (model prog w) A (call (.builtin "sorted") [.ref l]) Q E s := by
  have hvL : vs.length ≤ sizeLine := by rw [e.length]; exact hL
  refine call_function_entry_kw kind_sorted plain_sorted entry_sorted (args_sorted1 _) ?_
  unfold Builtin.«sorted»
  refine wpAny_bind (m := checkCount "sorted" 1 1 _) (wpAny_pure ?_)
  refine wpAny_bind (PySem.collect_tup_sz l ho hc hd (fun h1 hz1 hk1 => ?_) (by rw [List.size_toArray]; exact hvL))
  rw [List.toList_toArray]
  refine wpAny_bind (wpAny_newList ?_ hvL)
  have hat : (h1.push (seqObj "list" vs.toArray 0)).get? h1.objs.size = some (seqObj "list" vs.toArray 0) := Heap.get?_push_size _ rfl
  have old : ∀ b o, s.heap.get? b = some o → (h1.push (seqObj "list" vs.toArray 0)).get? b = some o ∧ b ≠ h1.objs.size := fun b o hb => ⟨Heap.get?_push_of_some _ (hk1 b o hb), Nat.ne_of_lt (Heap.lt_size (hk1 b o hb))⟩
  have hsize : s.heap.objs.size ≤ h1.objs.size := by omega
  have er' : EachIs (fun v b => ∃ as, Reads (sortingHeap (h1.push (seqObj "list" vs.toArray 0)) h1.objs.size vs) v (enc b) as) vs bs := er.mono fun _ _ ⟨as, r⟩ => ⟨as, PyProof.Rows.Reads.keeps (fun b o hb => sortingHeap_old (old b o hb).2 (old b o hb).1) r⟩
  have S := SortsAt.data (prog := prog) (w := w) (A := A.in1.in1) (s := { s with heap := sortingHeap (h1.push (seqObj "list" vs.toArray 0)) h1.objs.size vs }) (each_map (R := fun v d => ∃ as, Reads (sortingHeap (h1.push (seqObj "list" vs.toArray 0)) h1.objs.size vs) v d as) enc er') hal hk (bound_map hu)
  refine wpAny_bind (wpAny_holding (wpAny_call_entry_kw slot_list_sort ⟨_, hat, rfl⟩ entry_list_sort ?body (args_list_sort _)))
  case body =>
    show wpAny (model prog w) A.in1.in1 (Builtin.«list.sort» ⟨[.ref h1.objs.size], []⟩) _ _ { s with heap := h1.push (seqObj "list" vs.toArray 0) }
    refine wpAny_mono (list_sort_vals (s := { s with heap := h1.push (seqObj "list" vs.toArray 0) }) (P := fun f s' => f = .done (.ret .none) ∧ Q (.ref h1.objs.size) s') hat S hvL ⟨rfl, ?_⟩) (fun f s' hf => ?_) fun _ _ e => e
    · obtain ⟨c, hc'⟩ := sortedHeap_at (vs := vs) (out := (sortVals (dataKind (sortingHeap (h1.push (seqObj "list" vs.toArray 0)) h1.objs.size vs) (bs.map enc)) false vs vs).toArray) hat
      exact h _ h1.objs.size c _ (fun b o hb => (sortedHeap_old (old b o hb).2 (Heap.lt_size (old b o hb).1)).trans (old b o hb).1) hsize hc' (by rw [sortVals_length false rfl]; exact e.length) (sortVals_data false e er' hal)
    · obtain ⟨rfl, hq⟩ := hf
      exact ⟨_, rfl, wpAny_pure ⟨_, rfl, hq⟩⟩
end
end PySem.W
end
section
set_option maxHeartbeats 4000000
/-! EvS4: arguments as operands; the built-ins called. -/
namespace Ev
open PySem PySem.Spec PyProof.Rows L2
variable {T : LT}

def Gxs : (Addr → Prop) → List V → List Op → Addr → Prop
  | G, v :: vs, o :: os => Gxs (Gx G v o) vs os
  | G, _, _ => G
/-- operands as they come, from the left -/
def Outs (K : PySem.W.Frag) (T : LT) (e : Sl) (σ : L2.St) (H : Hp) (Z : Addr → Prop) : (Addr → Prop) → List V → List Op → Prop
  | G, [], [] => StOk K T e σ H Z G
  | G, v :: vs, o :: os => OpOk K Z H σ v o ∧ (∀ a, OwnA v o a → ¬ G a) ∧ Outs K T e σ H Z (Gx G v o) vs os
  | _, _, _ => False
def RdAO (K : PySem.W.Frag) (T : LT) (mg : Str → Option Value) (ms : List ME) (W : WX) : TA := fun σ H Q => ∃ e Z G, StOk K T e σ H Z G ∧ PostC K T mg W σ Z G H (fun os e' Z' H' => ∀ vs, Outs K T e' σ H' Z' G vs os → Q vs H') (argsO ms e)
section
variable {K : PySem.W.Frag} {mg : Str → Option Value} {W : WX} {m : ME} {ms : List ME} {σ : L2.St} {H : Hp} {e : Sl} {Z : Addr → Prop}
theorem Outs.st : ∀ {G : Addr → Prop} {vs : List V} {os : List Op}, Outs K T e σ H Z G vs os → StOk K T e σ H Z G
  | _, [], [], h => h
  | _, _ :: _, _ :: _, h => (Outs.st h.2.2).less fun _ z => .inl z
  | _, [], _ :: _, h => h.elim
  | _, _ :: _, [], h => h.elim
theorem Outs.views : ∀ {G : Addr → Prop} {vs : List V} {os : List Op} {ds : List D}, Outs K T e σ H Z G vs os → vws os e = some ds → Vws K Z H vs ds
  | _, [], [], ds, h, q => by cases q; exact .nil
  | _, v :: vs, o :: os, ds, h, q => by
    obtain ⟨h1, h2, h3⟩ := h
    simp only [vws] at q
    cases q1 : vw o e with
    | none => rw [q1] at q; cases q
    | some d =>
      cases q2 : vws os e with
      | none => rw [q1, q2] at q; cases q
      | some ds' =>
        rw [q1, q2] at q
        cases q
        exact .cons (h1.vw (Outs.st h3) q1) (Outs.views h3 q2)
  | _, [], _ :: _, _, h, _ => h.elim
  | _, _ :: _, [], _, h, _ => h.elim
theorem rd_onil {Q : List V → Hp → Prop} (h : RdAO K T mg [] W σ H Q) : tNil σ H Q := by
  obtain ⟨e, Z, G, s, h⟩ := h
  exact h.ret [] s
theorem rd_ocons {Q : List V → Hp → Prop} (h : RdAO K T mg (m :: ms) W σ H Q) : tCons (RdE K T mg m W) (RdAO K T mg ms W) σ H Q := by
  obtain ⟨e, Z, G, s, h⟩ := h
  refine ⟨e, Z, G, s, (h.bind fun _ z => z).imp fun o e1 Z1 H1 l k h v x => ?_⟩
  refine ⟨e1, Z1, Gx G v o, x.st, (PostC.bind (fun _ z => .inl z) h).imp fun os e2 Z2 H2 l2 k2 h vs xs => ?_⟩
  exact PostC.ret h (v :: vs) ⟨x.ok.mono l2 fun a z => k2 a (.inr z), x.ne, xs⟩
end

/-! ### calls of built-ins -/
def rB (K : PySem.W.Frag) (F : List D → Option Op) : List V → Hp → VK → Prop := fun vs H Q => ∃ Z ds o, (∀ a, Z a → H a ≠ none) ∧ F ds = some o ∧ Vws K Z H vs ds ∧ ∀ w H', Same H H' → NewOk K Z H H' w o → Q w H'
theorem rd_blt {K : PySem.W.Frag} {mg : Str → Option Value} {W : WX} {ms : List ME} {σ : L2.St} {H : Hp} {Q : VK} {F : List D → Option Op} (h : RdE K T mg (bltE F ms) W σ H Q) : tCB (rB K F) (RdAO K T mg ms W) σ H Q := by
  obtain ⟨e, Z, G, s, h⟩ := h
  refine ⟨e, Z, G, s, (h.bind fun _ z => z).imp fun os e1 Z1 H1 l k h vs xs => ?_⟩
  cases q1 : vws os e1 with
  | none => rw [q1] at h; exact h.elim
  | some ds =>
    rw [q1] at h
    simp only [lift] at h
    cases q2 : F ds with
    | none => rw [q2] at h; exact h.elim
    | some o =>
      rw [q2] at h
      exact ⟨Z1, ds, o, xs.st.zs, q2, xs.views q1, fun w H2 sm nw => PostC.fin h xs.st sm nw⟩
theorem Vws.one {K Z H vs d} (h : Vws K Z H vs [d]) : ∃ v, vs = [v] ∧ Vw K Z H v d := by
  cases h with
  | cons h t => cases t; exact ⟨_, rfl, h⟩
theorem Vws.two {K Z H vs d d'} (h : Vws K Z H vs [d, d']) : ∃ v v', vs = [v, v'] ∧ Vw K Z H v d ∧ Vw K Z H v' d' := by
  cases h with
  | cons h t => cases t with
    | cons h' t => cases t; exact ⟨_, _, rfl, h, h'⟩
theorem Vws.three {K Z H vs d d' d2} (h : Vws K Z H vs [d, d', d2]) : ∃ v v' v2, vs = [v, v', v2] ∧ Vw K Z H v d ∧ Vw K Z H v' d' ∧ Vw K Z H v2 d2 := by
  cases h with
  | cons h t => cases t with
    | cons h' t => cases t with
      | cons h2 t => cases t; exact ⟨_, _, _, rfl, h, h', h2⟩
theorem vals_cons {v : V} {vs : List V} {us : List Value} (r : Vals (v :: vs) us) : ∃ u us', us = u :: us' ∧ RelV v u ∧ Vals vs us' := by
  cases r with
  | cons h t => exact ⟨_, _, rfl, h, t⟩
theorem ints_of {K Z H} : ∀ {vs : List V} {ds : List D} {ns : List Int}, EncDs K Z H vs ds → intsD ds = some ns → vs = ns.map V.int
  | _, _, _, .nil, q => by cases q; rfl
  | v :: vs, d :: ds, ns, .cons h hs, q => by
    cases d with
    | int i =>
      cases h
      simp only [intsD] at q
      cases q2 : intsD ds with
      | none => rw [q2] at q; cases q
      | some ms =>
        rw [q2] at q
        cases q
        rw [ints_of hs q2]
        rfl
    | _ => cases q
theorem bools_of {K Z H} : ∀ {vs : List V} {ds : List D} {ns : List Bool}, EncDs K Z H vs ds → boolsD ds = some ns → vs = ns.map V.bl
  | _, _, _, .nil, q => by cases q; rfl
  | v :: vs, d :: ds, ns, .cons h hs, q => by
    cases d with
    | bool i =>
      cases h
      simp only [boolsD] at q
      cases q2 : boolsD ds with
      | none => rw [q2] at q; cases q
      | some ms =>
        rw [q2] at q
        cases q
        rw [bools_of hs q2]
        rfl
    | _ => cases q
section
variable {X : Cx}
theorem seq_cases {p : D} {xs : List D} (h : seqD p = some xs) : p = .list xs ∨ p = .tuple xs := by
  unfold seqD at h
  split at h
  · cases h; exact .inl rfl
  · cases h; exact .inr rfl
  · cases h
theorem sum_tup {prog : Program} {w : World} {A : Around} {E : Value → Shared → Prop} {s : Shared} {l : Addr} {its : List Value} {ns : List Int} {Q : Value → Shared → Prop} (hh : A.handled = none) (hl : s.heap.IsTuple l its.toArray) (hi : IntsAre its ns)
    (h : ∀ h' tk t', (∀ b o, s.heap.get? b = some o → h'.get? b = some o) → Q (.int ns.sum t') { s with heap := h', toks := tk }) : wpAny (model prog w) A (call (.builtin "sum") [.ref l]) Q E s := by
  obtain ⟨xs, e⟩ := hi.allInts.items
  have hn : numsOf (intItems xs).toList = ns := by rw [← e]; exact hi.numsOf
  rw [nums_intItems] at hn
  rw [e] at hl
  refine PySem.W.ktm_sumG hh hl fun h' tk t' hk => ?_
  have := h h' tk t' hk
  rw [preSum_eq, List.take_of_length_le (by simp), hn]; exact this
theorem alike_all {xs : List D} (h : alikeB xs = true) : PySem.W.AlikeAll xs := by
  unfold alikeB at h
  rw [Bool.and_eq_true, List.all_eq_true, List.all_eq_true] at h
  refine ⟨fun x hx y hy => ?_, fun x hx e => ?_⟩
  · have := h.1 x hx
    rw [List.all_eq_true] at this
    exact this y hy
  · have := h.2 x hx
    subst e
    simp [isNone] at this
theorem shps_ok {d : List D} (h : shps d = true) : PyData.plainAll d = true ∧ PyData.depthAll d ≤ 60 := by
  unfold shps at h
  rw [Bool.and_eq_true] at h
  exact ⟨h.1, of_decide_eq_true h.2⟩
theorem fold_mem {f : D → D → Bool} : ∀ (xs : List D) (x : D), xs.foldl (fun a y => if f y a then y else a) x ∈ x :: xs
  | [], x => by simp
  | y :: xs, x => by
    rw [List.foldl_cons]
    by_cases h : f y x = true
    · rw [if_pos h]
      exact List.mem_cons_of_mem _ (fold_mem xs y)
    · rw [if_neg h]
      have := fold_mem (f := f) xs x
      rcases List.mem_cons.mp this with e | e
      · rw [e]; exact List.mem_cons_self
      · exact List.mem_cons_of_mem _ (List.mem_cons_of_mem _ e)
theorem minD_mem (x : D) (xs : List D) : PySem.W.minD x xs ∈ x :: xs := fold_mem (f := fun y a => PySem.W.dataLt y a) xs x
theorem maxD_mem (x : D) (xs : List D) : PySem.W.maxD x xs ∈ x :: xs := fold_mem (f := fun y a => PySem.W.dataLt a y) xs x
theorem depth_mem : ∀ {xs : List D} {x : D}, x ∈ xs → PyData.depth x ≤ PyData.depthAll xs
  | y :: ys, x, h => by
    rw [PyData.depthAll]
    rcases List.mem_cons.mp h with rfl | h
    · exact Nat.le_max_left _ _
    · exact Nat.le_trans (depth_mem h) (Nat.le_max_right _ _)
/-- the least, the greatest of a list or a tuple -/
theorem best_of {f : String} {best : D → List D → D} (hb : (f = "min" ∧ best = PySem.W.minD) ∨ (f = "max" ∧ best = PySem.W.maxD)) (hc : X.calm = true) (hu : X.A.units + 64 < cLine) {pins : List (Addr × Obj)} {s : Shared} {σ : L2.St} {H : Hp} {v : V} {u : Value} {Q : VK} {Z : Addr → Prop} {p x : D} {xs : List D}
    (I : Inv X pins σ H s) (r : RelV v u) (hv : Vw X.K Z H v p) (hs : seqD p = some (x :: xs)) (ha : alikeB (x :: xs) = true) (hd : shps (x :: xs) = true) (fin : ∀ w, EncD X.K Z H w (best x xs) → Q w H) :
    wpAny (model X.prog X.w) X.A (call (.builtin f) [u]) (EP X pins σ Q) X.xe s := by
  obtain ⟨c1, d1⟩ := shps_ok hd
  have hal := alike_all ha
  have hr : X.A.units + 1 + PyData.depthAll (x :: xs) < cLine := by omega
  have close : ∀ {its : List Value} {vs : List V} {as : List Addr}, Vals vs its → EncDs X.K Z H vs (x :: xs) → ReadsAll s.heap its (x :: xs) as → ∀ (i : Nat) (w : Value) (h' : Heap) (tk : Nat) (bs : List Addr), its.toArray[i]? = some w → Reads h' w (best x xs) bs → (∀ b o, s.heap.get? b = some o → h'.get? b = some o) →
      EP X pins σ Q w { s with heap := h', toks := tk } := by
    intro its vs as rv es hr i w h' tk bs hi hw hk
    have hi : its[i]? = some w := by simpa using hi
    have hlt : i < (x :: xs).length := by
      have := (List.getElem?_eq_some_iff.mp hi).1
      rw [← es.length, rv.length]
      exact this
    obtain ⟨z, hz, ez⟩ := es.get (i := i) (d := (x :: xs)[i]) (by simp [hlt])
    obtain ⟨w', hw', rz⟩ := rv.get hz
    rw [hi] at hw'; cases hw'
    -- the item reads as best: it is that item
    have pl : ∀ y, y ∈ x :: xs → PyData.plain y = true := fun y hy => PySem.W.plain_mem c1 hy
    have mem : best x xs ∈ x :: xs := by
      rcases hb with ⟨_, rfl⟩ | ⟨_, rfl⟩
      · exact minD_mem x xs
      · exact maxD_mem x xs
    have e : (x :: xs)[i] = best x xs := by
      obtain ⟨as2, r2⟩ := (Vw.im ez : Vw X.K Z H z _).reads I rz (pl _ (List.getElem_mem hlt))
      exact PySem.SeqAt.plain_unique _ _ _ _ _ (pl _ (List.getElem_mem hlt)) (PyProof.Rows.Reads.keeps hk r2) hw
    rw [e] at ez
    exact ⟨z, H, I.kept (t' := tk) hk, rz, fin z ez⟩
  rcases seq_cases hs with rfl | rfl
  · obtain ⟨a, vs, rfl, h1, es⟩ := hv.list
    cases (show u = Value.ref a from r)
    obtain ⟨its, rv, pl, _⟩ := I.list (SqL.of h1)
    obtain ⟨as, hr'⟩ := Dp.readsAll I _ vs its (es.dp c1) rv
    rcases hb with ⟨rfl, rfl⟩ | ⟨rfl, rfl⟩
    · exact PySem.W.min_list_data (I.ok.hd hc) pl.isList (by simpa using hr') hal hr fun i w h' tk bs h1 h2 h3 => close rv es hr' i w h' tk bs h1 h2 h3
    · exact PySem.W.max_list_data (I.ok.hd hc) pl.isList (by simpa using hr') hal hr fun i w h' tk bs h1 h2 h3 => close rv es hr' i w h' tk bs h1 h2 h3
  · obtain ⟨a, vs, rfl, h1, es⟩ := hv.tuple
    cases (show u = Value.ref a from r)
    obtain ⟨its, rv, pl, _⟩ := I.tuple h1
    obtain ⟨as, hr'⟩ := Dp.readsAll I _ vs its (es.dp c1) rv
    rcases hb with ⟨rfl, rfl⟩ | ⟨rfl, rfl⟩
    · exact PySem.W.min_tuple_data (I.ok.hd hc) pl (by simpa using hr') hal hr fun i w h' tk bs h1 h2 h3 => close rv es hr' i w h' tk bs h1 h2 h3
    · exact PySem.W.max_tuple_data (I.ok.hd hc) pl (by simpa using hr') hal hr fun i w h' tk bs h1 h2 h3 => close rv es hr' i w h' tk bs h1 h2 h3

/-- sorted of a list of data of one kind -/
theorem sorted_of (hu : X.A.units + 66 < cLine) {pins : List (Addr × Obj)} {s : Shared} {σ : L2.St} {H : Hp} {v : V} {u : Value} {Q : VK} {Z : Addr → Prop} {xs : List D} (zs : ∀ a, Z a → H a ≠ none)
    (I : Inv X pins σ H s) (r : RelV v u) (hv : Vw X.K Z H v (.list xs)) (ha : alikeB xs = true) (hd : shps xs = true) (hs : sortB xs = true) (hl : xs.length ≤ sizeMax) (fin : ∀ w H', Same H H' → NewOk X.K Z H H' w (.tl (xs.mergeSort leB)) → Q w H') :
    wpAny (model X.prog X.w) X.A (call (.builtin "sorted") [u]) (EP X pins σ Q) X.xe s := by
  obtain ⟨c1, d1⟩ := shps_ok hd
  obtain ⟨a, vs, rfl, h1, es⟩ := hv.list
  cases (show u = Value.ref a from r)
  obtain ⟨its, rv, pl, _⟩ := I.list (SqL.of h1)
  have each : ∀ {vs : List V} {ds : List D} {its : List Value}, EncDs X.K Z H vs ds → Vals vs its → PySem.W.EachIs (fun u d => ∃ v, RelV v u ∧ EncD X.K Z H v d) its ds := by
    intro vs ds its h
    induction vs generalizing ds its with
    | nil => intro rv; cases h; cases rv; exact .nil
    | cons v vs ih =>
      intro rv
      cases h with
      | cons h1 h2 =>
        cases rv with
        | cons r1 r2 => exact .cons ⟨v, r1, h1⟩ (ih h2 r2)
  have e := each es rv
  have er : PySem.W.EachIs (fun u d => ∃ as, Reads s.heap u (id d) as) its xs := by
    have := PySem.W.each_mem e
    refine this.mono fun u d ⟨⟨v, r, en⟩, hm⟩ => ?_
    exact (Vw.im en : Vw X.K Z H v d).reads I r (PySem.W.plain_mem c1 hm)
  have hal : PySem.W.AllAlike (xs.map id) := by
    rw [List.map_id]
    exact fun d hd d' hd' => (alike_all ha).1 d hd d' hd'
  have hso : PySem.W.Sortable (xs.map id) := by
    rw [List.map_id]
    unfold sortB at hs
    rw [Bool.or_eq_true, List.all_eq_true, List.all_eq_true] at hs
    rcases hs with hs | hs
    · refine .inl fun d hd => ?_
      have := hs d hd
      split at this
      · exact ⟨_, _, rfl⟩
      · cases this
    · refine .inr fun d hd => ?_
      have := hs d hd
      split at this
      · cases this
      · cases this
      · rename_i n1 n2
        exact ⟨n2, n1⟩
  have depth : ∀ b, b ∈ xs → X.A.units + 2 + PyData.depth (id b) < cLine := fun b hb => by
    have : PyData.depth b ≤ PyData.depthAll xs := depth_mem hb
    show X.A.units + 2 + PyData.depth b < cLine
    omega
  refine PySem.W.sorted_data (R := fun u d => ∃ v, RelV v u ∧ EncD X.K Z H v d) (enc := id) pl.isList e er hal hso (by rw [← sizeMax_eq]; exact hl) depth fun out hlen eo => ?_
  have back : ∀ {out : List Value} {ds : List D}, PySem.W.EachIs (fun u d => ∃ v, RelV v u ∧ EncD X.K Z H v d) out ds → ∃ vs, Vals vs out ∧ EncDs X.K Z H vs ds := by
    intro out ds h
    induction h with
    | nil => exact ⟨[], .nil, .nil⟩
    | cons h _ ih =>
      obtain ⟨v, r, en⟩ := h
      obtain ⟨vs, rv, es⟩ := ih
      exact ⟨v :: vs, .cons r rv, .cons en es⟩
  obtain ⟨ws, rw', ew⟩ := back eo
  have e1 : PySem.W.dataLe false (id : D → D) = leB := by
    funext x y
    rfl
  rw [e1] at ew
  obtain ⟨en, hat⟩ := sortedAll_at s.heap its out.toArray
  have hfr : H (s.heap.objs.size + 1) = none := I.hok.fresh (Nat.le_succ _)
  have sm : Same H (upd H (s.heap.objs.size + 1) (.lst ws)) := same_new hfr
  have I2 := I.kept (t' := s.toks) (h' := sortedAll s.heap its out.toArray) fun b o hb => sortedAll_old hb
  have hz : ws.length ≤ sizeLine := by
    rw [rw'.length, hlen, ← sizeMax_eq]
    exact hl
  have I3 := I.laid (t' := s.toks) (a := s.heap.objs.size + 1) (o := .lst ws) (h' := sortedAll s.heap its out.toArray) (fun b o hb => sortedAll_old hb) (Nat.le_succ _) ⟨hz, out, en, rw', hat⟩
  exact ⟨.ref (s.heap.objs.size + 1), _, I3, rfl, fin _ _ sm ⟨_, ws, rfl, hfr, upd_same, ew.mono (Same.le sm zs)⟩⟩

/-- sorted of a tuple of data of one kind -/
theorem sorted_of_t (hu : X.A.units + 66 < cLine) {pins : List (Addr × Obj)} {s : Shared} {σ : L2.St} {H : Hp} {v : V} {u : Value} {Q : VK} {Z : Addr → Prop} {xs : List D} (zs : ∀ a, Z a → H a ≠ none)
    (I : Inv X pins σ H s) (r : RelV v u) (hv : Vw X.K Z H v (.tuple xs)) (ha : alikeB xs = true) (hd : shps xs = true) (hs : sortB xs = true) (hl : xs.length ≤ sizeMax) (fin : ∀ w H', Same H H' → NewOk X.K Z H H' w (.tl (xs.mergeSort leB)) → Q w H') :
    wpAny (model X.prog X.w) X.A (call (.builtin "sorted") [u]) (EP X pins σ Q) X.xe s := by
  obtain ⟨c1, d1⟩ := shps_ok hd
  obtain ⟨a, vs, rfl, h1, es⟩ := hv.tuple
  cases (show u = Value.ref a from r)
  obtain ⟨its, rv, ⟨ob, ho, hoc, nn, hod⟩, _⟩ := I.tuple h1
  have each : ∀ {vs : List V} {ds : List D} {its : List Value}, EncDs X.K Z H vs ds → Vals vs its → PySem.W.EachIs (fun u d => ∃ v, RelV v u ∧ EncD X.K Z H v d) its ds := by
    intro vs ds its h
    induction vs generalizing ds its with
    | nil => intro rv; cases h; cases rv; exact .nil
    | cons v vs ih =>
      intro rv
      cases h with
      | cons h1 h2 =>
        cases rv with
        | cons r1 r2 => exact .cons ⟨v, r1, h1⟩ (ih h2 r2)
  have e := each es rv
  have er : PySem.W.EachIs (fun u d => ∃ as, Reads s.heap u (id d) as) its xs := by
    have := PySem.W.each_mem e
    refine this.mono fun u d ⟨⟨v, r, en⟩, hm⟩ => ?_
    exact (Vw.im en : Vw X.K Z H v d).reads I r (PySem.W.plain_mem c1 hm)
  have hal : PySem.W.AllAlike (xs.map id) := by
    rw [List.map_id]
    exact fun d hd d' hd' => (alike_all ha).1 d hd d' hd'
  have hso : PySem.W.Sortable (xs.map id) := by
    rw [List.map_id]
    unfold sortB at hs
    rw [Bool.or_eq_true, List.all_eq_true, List.all_eq_true] at hs
    rcases hs with hs | hs
    · refine .inl fun d hd => ?_
      have := hs d hd
      split at this
      · exact ⟨_, _, rfl⟩
      · cases this
    · refine .inr fun d hd => ?_
      have := hs d hd
      split at this
      · cases this
      · cases this
      · rename_i n1 n2
        exact ⟨n2, n1⟩
  have depth : ∀ b, b ∈ xs → X.A.units + 2 + PyData.depth (id b) < cLine := fun b hb => by
    have : PyData.depth b ≤ PyData.depthAll xs := depth_mem hb
    show X.A.units + 2 + PyData.depth b < cLine
    omega
  refine PySem.W.sorted_tup_data (R := fun u d => ∃ v, RelV v u ∧ EncD X.K Z H v d) (enc := id) ho hoc hod e er hal hso (by rw [← sizeMax_eq]; exact hl) depth fun h2 p2 m2 out old hp2 hat hlen eo => ?_
  have back : ∀ {out : List Value} {ds : List D}, PySem.W.EachIs (fun u d => ∃ v, RelV v u ∧ EncD X.K Z H v d) out ds → ∃ vs, Vals vs out ∧ EncDs X.K Z H vs ds := by
    intro out ds h
    induction h with
    | nil => exact ⟨[], .nil, .nil⟩
    | cons h _ ih =>
      obtain ⟨v, r, en⟩ := h
      obtain ⟨vs, rv, es⟩ := ih
      exact ⟨v :: vs, .cons r rv, .cons en es⟩
  obtain ⟨ws, rw', ew⟩ := back eo
  have e1 : PySem.W.dataLe false (id : D → D) = leB := by
    funext x y
    rfl
  rw [e1] at ew
  have hfr : H p2 = none := I.hok.fresh hp2
  have sm : Same H (upd H p2 (.lst ws)) := same_new hfr
  have I2 := I.kept (t' := s.toks) (h' := h2) old
  have hz : ws.length ≤ sizeLine := by
    rw [rw'.length, hlen, ← sizeMax_eq]
    exact hl
  have I3 := I.laid (t' := s.toks) (a := p2) (o := .lst ws) (h' := h2) old hp2 ⟨hz, out, m2, rw', hat⟩
  exact ⟨.ref p2, _, I3, rfl, fin _ _ sm ⟨_, ws, rfl, hfr, upd_same, ew.mono (Same.le sm zs)⟩⟩

def bltVal : Bl → Value
  | .len => .builtin "len" | .sum => .builtin "sum" | .max => .builtin "max" | .min => .builtin "min" | .any => .builtin "any" | .all => .builtin "all" | .sorted => .builtin "sorted" | .abs => .builtin "abs"
  | .tuple => .type "tuple" | .list => .type "list" | .int => .type "int"
theorem callR_blt {b : Bl} (hc : X.calm = true) (hu : X.A.units + 66 < cLine) : CallR X (bltVal b) (rB X.K (bltD b)) := by
  intro pins s σ H vs us Q I r h
  obtain ⟨Z, ds, o, zs, hf, hv, fin⟩ := h
  have int : ∀ {i : Int}, o = .im (.int i) → Q (.int i) H := fun {i} e => fin _ H (Same.refl H) (by subst e; exact EncD.int i)
  have bl : ∀ {i : Bool}, o = .im (.bool i) → Q (.bl i) H := fun {i} e => fin _ H (Same.refl H) (by subst e; exact EncD.bl i)
  unfold bltD at hf
  split at hf
  · obtain ⟨v, rfl, hw⟩ := hv.one
    obtain ⟨a, vs, rfl, h1, es⟩ := hw.tuple
    exact call_len_seq pins s σ H _ us Q I r ⟨a, vs, rfl, .inr h1, int (by rw [es.length]; exact imI_some hf)⟩
  · obtain ⟨v, rfl, hw⟩ := hv.one
    obtain ⟨a, vs, rfl, h1, es⟩ := hw.list
    exact call_len_seq pins s σ H _ us Q I r ⟨a, vs, rfl, .inl (SqL.of h1), int (by rw [es.length]; exact imI_some hf)⟩
  · obtain ⟨v, rfl, hw⟩ := hv.one
    split at hf
    · rename_i xs q1
      split at hf
      · rename_i ns q2
        rcases seq_cases q1 with rfl | rfl
        · obtain ⟨a, vs, rfl, h1, es⟩ := hw.list
          have e := ints_of es q2
          subst e
          exact cr_sum hc pins s σ H _ us Q I r ⟨a, ns, rfl, SqL.of h1, int (imI_some hf)⟩
        · obtain ⟨a, vs, rfl, h1, es⟩ := hw.tuple
          have e := ints_of es q2
          subst e
          obtain ⟨its, rv, pl, _⟩ := I.tuple h1
          rw [Vals.ref1 r]
          exact sum_tup (I.ok.hd hc) pl rv.ints fun h' tk t' hk => ⟨.int _, H, I.kept hk, ⟨_, rfl⟩, int (imI_some hf)⟩
      · cases hf
    · cases hf
  · obtain ⟨v, rfl, hw⟩ := hv.one
    obtain ⟨u, rfl, r1⟩ := Vals.one r
    split at hf
    · rename_i x xs q1
      split at hf
      · rename_i hc2
        rw [Bool.and_eq_true] at hc2
        have e := (Option.some.inj hf).symm
        subst e
        exact best_of (.inr ⟨rfl, rfl⟩) hc (by omega) I r1 hw q1 hc2.1 hc2.2 fun w hw => fin w H (Same.refl H) hw
      · cases hf
    · cases hf
  · obtain ⟨v, rfl, hw⟩ := hv.one
    obtain ⟨u, rfl, r1⟩ := Vals.one r
    split at hf
    · rename_i x xs q1
      split at hf
      · rename_i hc2
        rw [Bool.and_eq_true] at hc2
        have e := (Option.some.inj hf).symm
        subst e
        exact best_of (.inl ⟨rfl, rfl⟩) hc (by omega) I r1 hw q1 hc2.1 hc2.2 fun w hw => fin w H (Same.refl H) hw
      · cases hf
    · cases hf
  · obtain ⟨v, rfl, hw⟩ := hv.one
    obtain ⟨u, rfl, r1⟩ := Vals.one r
    split at hf
    · rename_i xs hc2
      simp only [Bool.and_eq_true, decide_eq_true_eq] at hc2
      have e := (Option.some.inj hf).symm
      subst e
      exact sorted_of hu zs I r1 hw hc2.1.1.1 hc2.1.1.2 hc2.1.2 hc2.2 fin
    · cases hf
  · obtain ⟨v, rfl, hw⟩ := hv.one
    obtain ⟨u, rfl, r1⟩ := Vals.one r
    split at hf
    · rename_i xs hc2
      simp only [Bool.and_eq_true, decide_eq_true_eq] at hc2
      have e := (Option.some.inj hf).symm
      subst e
      exact sorted_of_t hu zs I r1 hw hc2.1.1.1 hc2.1.1.2 hc2.1.2 hc2.2 fin
    · cases hf
  · obtain ⟨v, v', rfl, h1, h2⟩ := hv.two
    exact call_max2 hc pins s σ H _ us Q I r ⟨_, _, by rw [h1.int, h2.int], int (imI_some hf)⟩
  · obtain ⟨v, v', rfl, h1, h2⟩ := hv.two
    exact call_min2 hc pins s σ H _ us Q I r ⟨_, _, by rw [h1.int, h2.int], int (imI_some hf)⟩
  · rename_i i j k
    obtain ⟨v1, v2, v3, rfl, h1, h2, h3⟩ := hv.three
    rw [h1.int, h2.int, h3.int] at r
    obtain ⟨u, us', rfl, r1, r2⟩ := vals_cons r
    obtain ⟨u2, us2, rfl, r3, r4⟩ := vals_cons r2
    obtain ⟨u3, us3, rfl, r5, r6⟩ := vals_cons r4
    cases r6
    obtain ⟨t, rfl⟩ := r1
    obtain ⟨t', rfl⟩ := r3
    obtain ⟨t2, rfl⟩ := r5
    refine max_three_ints (I.ok.hd hc) fun h' tk kk => ⟨_, H, I.kept kk, ?_, int (imI_some hf)⟩
    by_cases a : j > i
    · by_cases b : k > j
      · rw [if_pos a, if_pos b, if_pos a, if_pos b]; exact ⟨_, rfl⟩
      · rw [if_pos a, if_neg b, if_pos a, if_neg b]; exact ⟨_, rfl⟩
    · by_cases b : k > i
      · rw [if_neg a, if_pos b, if_neg a, if_pos b]; exact ⟨_, rfl⟩
      · rw [if_neg a, if_neg b, if_neg a, if_neg b]; exact ⟨_, rfl⟩
  · obtain ⟨v, rfl, hw⟩ := hv.one
    split at hf
    · rename_i bs q2
      obtain ⟨a, vs, rfl, h1, es⟩ := hw.list
      have e := bools_of es q2
      subst e
      exact cr_any hc pins s σ H _ us Q I r ⟨a, bs, rfl, SqL.of h1, bl (imB_some hf)⟩
    · cases hf
  · obtain ⟨v, rfl, hw⟩ := hv.one
    split at hf
    · rename_i bs q2
      obtain ⟨a, vs, rfl, h1, es⟩ := hw.list
      have e := bools_of es q2
      subst e
      exact cr_all hc pins s σ H _ us Q I r ⟨a, bs, rfl, SqL.of h1, bl (imB_some hf)⟩
    · cases hf
  · obtain ⟨v, rfl, hw⟩ := hv.one
    split at hf
    · rename_i xs q1
      have e := (Option.some.inj hf).symm
      subst e
      rcases seq_cases q1 with rfl | rfl
      · obtain ⟨a, vs, rfl, h1, es⟩ := hw.list
        refine call_tuple_of pins s σ H _ us Q I r ⟨a, vs, rfl, .inl ⟨SqL.of h1, fun p np => ?_⟩⟩
        have sm : Same H (upd H p (.tup vs)) := same_new np
        exact fin _ _ sm (EncD.tup (.inl (.inl upd_same)) (es.mono (Same.le sm zs)))
      · obtain ⟨a, vs, rfl, h1, es⟩ := hw.tuple
        exact call_tuple_of pins s σ H _ us Q I r ⟨a, vs, rfl, .inr ⟨h1, fin _ H (Same.refl H) (EncD.tup h1 es)⟩⟩
    · cases hf
  · obtain ⟨v, rfl, hw⟩ := hv.one
    split at hf
    · rename_i xs q1
      have e := (Option.some.inj hf).symm
      subst e
      have go : ∀ {a : Addr} {vs : List V}, v = .ref a → (SqL X.K H a vs ∨ SqT X.K H a vs) → EncDs X.K Z H vs xs → wpAny (model X.prog X.w) X.A (call (bltVal .list) us) (EP X pins σ Q) X.xe s := by
        intro a vs e h1 es
        subst e
        refine call_list_of pins s σ H _ us Q I r ⟨a, vs, rfl, h1, fun p np => ?_⟩
        have sm : Same H (upd H p (.lst vs)) := same_new np
        exact fin _ _ sm ⟨p, vs, rfl, np, upd_same, es.mono (Same.le sm zs)⟩
      rcases seq_cases q1 with rfl | rfl
      · obtain ⟨a, vs, e, h1, es⟩ := hw.list
        exact go e (.inl (SqL.of h1)) es
      · obtain ⟨a, vs, e, h1, es⟩ := hw.tuple
        exact go e (.inr h1) es
    · cases hf
  · obtain ⟨v, rfl, hw⟩ := hv.one
    exact call_abs pins s σ H _ us Q I r ⟨_, by rw [hw.int], int (imI_some hf)⟩
  · obtain ⟨v, rfl, hw⟩ := hv.one
    exact call_int1 pins s σ H _ us Q I r (.inl ⟨_, by rw [hw.int], int (imI_some hf)⟩)
  · cases hf

end
/-! ### isinstance -/
def tyName : Ty → String
  | .int => "int" | .bool => "bool" | .str => "str" | .tuple => "tuple" | .list => "list" | .dict => "dict"
def tyV : D → String
  | .none => "NoneType" | .bool _ => "bool" | .int _ => "int" | .str _ => "str" | .list _ => "list" | .tuple _ => "tuple" | .dict _ => "dict"
theorem kit_tab : ∀ (n : String) (t : Ty), n ∈ ["NoneType", "bool", "int", "str", "list", "tuple", "dict"] → kitB n (tyName t) = some (decide (n = tyName t) || (decide (n = "bool") && decide (t = .int))) := by
  intro n t h
  simp only [List.mem_cons, List.not_mem_nil, or_false] at h
  rcases h with rfl | rfl | rfl | rfl | rfl | rfl | rfl <;> cases t <;> decide +kernel
theorem Vw.tyX {K : PySem.W.Frag} {Z : Addr → Prop} {H : Hp} {v : V} {d : D} {t : Ty} {b : Bool} (h : Vw K Z H v d) (q : tyD d t = some b) : TyX K H v (.type (tyV d)) ∧ kitB (tyV d) (tyName t) = some b := by
  have dct : ∀ {a : Addr} {kvs : List (D × D)}, DctAt K Z H a kvs → TyX K H (.ref a) (.type "dict") := fun {a kvs} h => by
    rcases h with ⟨m, h, _⟩ | ⟨m, h, _⟩
    · exact .base (.dK h)
    · exact .base (.dT h)
  constructor
  · cases h with
    | im h => cases h with
      | non => exact .base .non
      | bl b => exact .base (.bl b)
      | int i => exact .base (.int i)
      | str x => exact .base (.str x)
      | lst z h hs => exact .base (.lst h)
      | tup h hs =>
        rcases h with (h | ⟨o, h⟩) | ⟨o, its, n, h1, h2, _⟩
        · exact .base (.tup h)
        · exact .fTuple h
        · exact .kTuple h1 h2
      | scr _ _ => cases q
      | dK z h hs => exact dct (.inl ⟨_, h, hs⟩)
      | dT z h hs => exact dct (.inr ⟨_, h, hs⟩)
    | lst h hs => exact .base (.lst h)
    | dct h => exact dct h
  · rw [kit_tab _ _ (by cases d <;> simp [tyV])]
    unfold tyD at q
    split at q <;> (try (cases q; done)) <;> (have e := Option.some.inj q; subst e; cases t <;> rfl)
def isT (K : PySem.W.Frag) (t : Ty) (te : TE) : TE := tCB (rIsi K) (tCons te (tCons (tC (.ty (tyName t))) tNil))
theorem rd_isi {K : PySem.W.Frag} {mg : Str → Option Value} {W : WX} {m : ME} {σ : L2.St} {H : Hp} {Q : VK} {t : Ty} (h : RdE K T mg (isiE t m) W σ H Q) : isT K t (RdE K T mg m W) σ H Q := by
  obtain ⟨e, Z, G, s, h⟩ := h
  refine ⟨e, Z, G, s, (h.bind fun _ z => z).imp fun o e1 Z1 H1 l k h v x => ?_⟩
  cases q1 : vw o e1 with
  | none => rw [q1] at h; exact h.elim
  | some p =>
    rw [q1] at h
    dsimp only [lift] at h
    cases q2 : tyD p t with
    | none => rw [q2] at h; exact h.elim
    | some b =>
      rw [q2] at h
      obtain ⟨h1, h2⟩ := (x.ok.vw x.st q1).tyX q2
      exact ⟨v, .ty (tyName t), _, _, b, rfl, .ty _, h1, kit_ty h2, PostC.fin h x.st0 (Same.refl _) (EncD.bl b)⟩
theorem pe_isi {X : Cx} {m : ME} {W : WX} {a : Expr} {t : Ty} {Tn : Str} {p p2 pos : Pos} (ha : PE X a (RdE X.K T X.mg m W)) (hg : Gl X "isinstance") (hm : X.mg "isinstance" = none) (hgT : Gl X Tn) (hmT : X.mg Tn = none) (hT : tyOf Tn = some t) (hst : ∀ e q, a ≠ .Starred e q) :
    PE X (.Call (.Name "isinstance" p) [a, .Name Tn p2] [] pos) (RdE X.K T X.mg (isiE t m) W) := by
  have key : bootBuiltins Tn = some (.type (tyName t)) ∧ Tn ≠ "__name__" ∧ (Tn == ("__debug__" : Str)) = false := by
    unfold tyOf at hT
    repeat' split at hT
    all_goals first
      | (cases hT; done)
      | (rename_i e; subst e; cases hT; exact ⟨by decide +kernel, by decide, by decide⟩)
  have hp : PE X (.Name Tn p2) (tC (.ty (tyName t))) := pe_bltn hgT hmT key.1 rfl key.2.1 key.2.2
  have h1 : starEach [a, .Name Tn p2] X.env = (false, eval a X.env) :: starEach [.Name Tn p2] X.env := by
    cases a <;> first | rfl | exact absurd rfl (hst _ _)
  exact (pe_callB call_isi hg hm (by decide +kernel) (pa_cons ha (pa_cons hp pa_nil) h1) (he := h1)).weaken fun _ _ _ q => rd_isi q
end Ev
end
section
set_option maxHeartbeats 4000000
/-! EvS5: calls of defs of the text. -/
namespace Ev
open PySem PySem.Spec PyProof.Rows L2
variable {T : LT}

theorem gt_append : ∀ {ps e : Sl} {i : Nat}, gt (ps ++ e) i = if i < ps.length then gt ps i else gt e (i - ps.length)
  | [], e, i => by simp
  | x :: ps, e, 0 => by simp [gt]
  | x :: ps, e, i + 1 => by
    show gt (ps ++ e) i = _
    rw [gt_append]
    simp only [List.length_cons, Nat.add_lt_add_iff_right, Nat.add_sub_add_right]
    rfl
section
variable {K : PySem.W.Frag} {e : Sl} {σ : L2.St} {H : Hp} {Z G : Addr → Prop}
/-- an own slot's object is kept from now on, the slot emptied -/
theorem StOk.toFrame (s : StOk K T e σ H Z G) {i : Nat} {sv : Sv} {a : Addr} (h : gt e i = some sv) (o : sv.own = true) (hv : σ[i]? = some (some (V.ref a))) : StOk K T (pt e i none) σ H Z (fun b => G b ∨ b = a) := by
  obtain ⟨u, h1, _, nz, ng⟩ := s.notOwn h o hv
  obtain ⟨u', h1', hm, _, _⟩ := s.notOwn h o hv
  refine ⟨⟨s.tb.1, s.tb.2.1, fun b z => ?_⟩, s.zs, fun b g => ?_, fun j sj q => ?_, fun j k sj sk v q1 q2 o1 o2 => ?_⟩
  · rcases z with z | rfl
    · exact s.tb.2.2 b z
    · exact ⟨_, h1', hm⟩
  · rcases g with g | rfl
    · exact s.gs b g
    · exact ⟨by rw [h1]; simp, nz⟩
  · rcases gt_pt q with ⟨_, z⟩ | ⟨hj, z⟩
    · cases z
    · obtain ⟨v, e1, e2⟩ := s.sl j sj z
      refine ⟨v, e1, e2.mono Le.refl fun oj b eb => ?_⟩
      subst eb
      obtain ⟨_, _, _, n1, n2⟩ := s.notOwn z oj e1
      exact ⟨rfl, n1, fun g => g.elim n2 fun e3 => hj (s.inj j i sj sv (.ref a) z h oj o (e3 ▸ e1) hv)⟩
  · rcases gt_pt q1 with ⟨_, z⟩ | ⟨_, z1⟩
    · cases z
    · rcases gt_pt q2 with ⟨_, z⟩ | ⟨_, z2⟩
      · cases z
      · exact s.inj j k sj sk v z1 z2 o1 o2
theorem Outs.toFrame : ∀ {G : Addr → Prop} {vs : List V} {os : List Op} {i : Nat} {sv : Sv} {a : Addr}, Outs K T e σ H Z G vs os → gt e i = some sv → sv.own = true → σ[i]? = some (some (V.ref a)) → Outs K T (pt e i none) σ H Z (fun b => G b ∨ b = a) vs os
  | _, [], [], _, _, _, h, h1, h2, h3 => StOk.toFrame h h1 h2 h3
  | G, v :: vs, o :: os, i, sv, a, h, h1, h2, h3 => by
    obtain ⟨q1, q2, q3⟩ := h
    have ih := Outs.toFrame (a := a) q3 h1 h2 h3
    obtain ⟨_, _, _, _, ng⟩ := (Outs.st q3).notOwn h1 h2 h3
    refine ⟨q1, fun b hb g => g.elim (q2 b hb) fun e => ng (.inr (e ▸ hb)), ?_⟩
    have e : (fun b => Gx G v o b ∨ b = a) = Gx (fun b => G b ∨ b = a) v o := by
      funext b
      unfold Gx
      apply propext
      constructor
      · rintro ((h | h) | h)
        · exact .inl (.inl h)
        · exact .inr h
        · exact .inl (.inr h)
      · rintro ((h | h) | h)
        · exact .inl (.inl h)
        · exact .inr h
        · exact .inl (.inr h)
    rw [← e]
    exact ih
  | _, [], _ :: _, _, _, _, h, _, _, _ => h.elim
  | _, _ :: _, [], _, _, _, h, _, _, _ => h.elim
/-- a slot that holds an own object, frozen: the same for pending operands -/
theorem Outs.freeze : ∀ {G : Addr → Prop} {vs : List V} {os : List Op} {v : V} {i : Nat} {d : D} {e1 : Sl}, Outs K T e σ H Z G vs os → σ[i]? = some (some v) → fzO (.bor i) e = some (d, e1) →
    ∃ Z1, Le Z H Z1 H ∧ Outs K T e1 σ H Z1 G vs os ∧ EncD K Z1 H v d := by
  intro G vs
  induction vs generalizing G with
  | nil =>
    intro os v i d e1 h hv q
    cases os with
    | nil =>
      obtain ⟨Z1, l, s1, en⟩ := fz_ok (v := v) (o := .bor i) ⟨(show StOk K T e σ H Z G from h).less fun a z => z.elim id False.elim, hv, fun a z => z.elim⟩ q
      exact ⟨Z1, l, s1, en⟩
    | cons o os => exact h.elim
  | cons w vs ih =>
    intro os v i d e1 h hv q
    cases os with
    | nil => exact h.elim
    | cons o os =>
      obtain ⟨q1, q2, q3⟩ := h
      obtain ⟨Z1, l, o1, en⟩ := ih q3 hv q
      exact ⟨Z1, l, ⟨q1.mono l fun _ _ => rfl, q2, o1⟩, en⟩
/-- slots ahead of slots -/
theorem StOk.cons_im {ps : Sl} {τ : L2.St} {v : V} {d : D} (s : StOk K T ps τ H Z G) (h : EncD K Z H v d) : StOk K T (some (.im d) :: ps) (some v :: τ) H Z G := by
  refine ⟨s.tb, s.zs, s.gs, fun i sv q => ?_, fun i j si sj w q1 q2 o1 o2 e1 e2 => ?_⟩
  · cases i with
    | zero => cases q; exact ⟨v, rfl, h⟩
    | succ i => exact s.sl i sv q
  · cases i with
    | zero => cases q1; cases o1
    | succ i =>
      cases j with
      | zero => cases q2; cases o2
      | succ j => rw [s.inj i j si sj w q1 q2 o1 o2 e1 e2]
theorem StOk.cons_own {ps : Sl} {τ : L2.St} {a : Addr} {sv : Sv} (s : StOk K T ps τ H Z (fun b => G b ∨ b = a)) (ng : ¬ G a) (h : SvOk K T (fun _ => False) (fun _ => False) H (.ref a) sv → SvOk K T Z G H (.ref a) sv) (h0 : SvOk K T Z G H (.ref a) sv) (ow : sv.own = true) : StOk K T (some sv :: ps) (some (.ref a) :: τ) H Z G := by
  refine ⟨s.tb.less fun b z => .inl z, s.zs, fun b g => s.gs b (.inl g), fun i si q => ?_, fun i j si sj w q1 q2 o1 o2 e1 e2 => ?_⟩
  · cases i with
    | zero => cases q; exact ⟨_, rfl, h0⟩
    | succ i =>
      obtain ⟨v, h1, h2⟩ := s.sl i si q
      refine ⟨v, h1, h2.mono Le.refl fun o b eb => ?_⟩
      obtain ⟨b', _, eb', _, _, n1, n2⟩ := h2.addr o
      rw [eb] at eb'; cases eb'
      exact ⟨rfl, n1, fun g => n2 (.inl g)⟩
  · have no : ∀ {k : Nat} {sk : Sv}, gt ps k = some sk → sk.own = true → τ[k]? = some (some (V.ref a)) → False := fun {k sk} q o e => by
      obtain ⟨_, _, _, _, n⟩ := s.notOwn q o e
      exact n (.inr rfl)
    cases i with
    | zero =>
      cases j with
      | zero => rfl
      | succ j =>
        have e1 : some (some (V.ref a)) = some (some w) := e1
        cases e1
        exact (no q2 o2 e2).elim
    | succ i =>
      cases j with
      | zero =>
        have e2 : some (some (V.ref a)) = some (some w) := e2
        cases e2
        exact (no q1 o1 e1).elim
      | succ j => rw [s.inj i j si sj w q1 q2 o1 o2 e1 e2]
/-- operands become a def's arguments: arguments and slots stand apart -/
theorem toPar_ok : ∀ {G Z : Addr → Prop} {vs : List V} {os : List Op} {br : List Bool} {e e2 ps : Sl}, Outs K T e σ H Z G vs os → toPar os br e = some (ps, e2) →
    ∃ Z2, Le Z H Z2 H ∧ ps.length = vs.length ∧ StOk K T (ps ++ e2) (vs.map some ++ σ) H Z2 G := by
  intro G Z vs
  induction vs generalizing G Z with
  | nil =>
    intro os br e e2 ps h q
    cases os with
    | nil =>
      cases br with
      | cons b bs => cases q
      | nil =>
        simp only [toPar, Option.some.injEq, Prod.mk.injEq] at q
        obtain ⟨rfl, rfl⟩ := q
        exact ⟨Z, Le.refl, rfl, h⟩
    | cons o os => exact h.elim
  | cons v vs ih =>
    intro os br e e2 ps h q
    cases os with
    | nil => exact h.elim
    | cons o os =>
      obtain ⟨q1, q2, q3⟩ := h
      -- an unchanging one
      have imm : ∀ {Z' : Addr → Prop} {d : D} {e1 : Sl} {bs : List Bool}, Le Z H Z' H → Outs K T e1 σ H Z' G vs os → EncD K Z' H v d → ((toPar os bs e1).map fun r => (some (Sv.im d) :: r.1, r.2)) = some (ps, e2) →
          ∃ Z2, Le Z H Z2 H ∧ ps.length = (v :: vs).length ∧ StOk K T (ps ++ e2) ((v :: vs).map some ++ σ) H Z2 G := by
        intro Z' d e1 bs l o1 en q
        cases q5 : toPar os bs e1 with
        | none => rw [q5] at q; cases q
        | some r =>
          rw [q5] at q
          simp only [Option.map_some, Option.some.injEq, Prod.mk.injEq] at q
          obtain ⟨rfl, rfl⟩ := q
          obtain ⟨Z2, l2, hl, s2⟩ := ih o1 (ps := r.1) (e2 := r.2) q5
          exact ⟨Z2, l.trans l2, by simp [hl], s2.cons_im (en.mono l2)⟩
      -- an own one at a
      have own : ∀ {a : Addr} {sv : Sv} {e1 : Sl} {bs : List Bool}, v = .ref a → ¬ G a → sv.own = true → (∀ Z2, Le Z H Z2 H → ¬ Z2 a → SvOk K T Z2 G H (.ref a) sv) → Outs K T e1 σ H Z (fun b => G b ∨ b = a) vs os →
          ((toPar os bs e1).map fun r => (some sv :: r.1, r.2)) = some (ps, e2) → ∃ Z2, Le Z H Z2 H ∧ ps.length = (v :: vs).length ∧ StOk K T (ps ++ e2) ((v :: vs).map some ++ σ) H Z2 G := by
        intro a sv e1 bs ev ng ow hsv o1 q
        subst ev
        cases q5 : toPar os bs e1 with
        | none => rw [q5] at q; cases q
        | some r =>
          rw [q5] at q
          simp only [Option.map_some, Option.some.injEq, Prod.mk.injEq] at q
          obtain ⟨rfl, rfl⟩ := q
          obtain ⟨Z2, l2, hl, s2⟩ := ih o1 (ps := r.1) (e2 := r.2) q5
          exact ⟨Z2, l2, by simp [hl], s2.cons_own ng (fun _ => hsv Z2 l2 (s2.gs a (.inr rfl)).2) (hsv Z2 l2 (s2.gs a (.inr rfl)).2) ow⟩
      have frame : ∀ {a : Addr}, v = .ref a → (∀ b, OwnA v o b ↔ v = .ref b) → Outs K T e σ H Z (fun b => G b ∨ b = a) vs os := fun {a} ev hw => by
        have e1 : Gx G v o = fun b => G b ∨ b = a := by
          funext b
          unfold Gx
          apply propext
          rw [hw b, ev]
          constructor
          · rintro (h | h)
            · exact .inl h
            · cases h; exact .inr rfl
          · rintro (h | h)
            · exact .inl h
            · exact .inr (by rw [h])
        rw [← e1]
        exact q3
      have bare : (∀ b, ¬ OwnA v o b) → Outs K T e σ H Z G vs os := fun hw => by
        have e1 : Gx G v o = G := by
          funext b
          unfold Gx
          apply propext
          exact ⟨fun h => h.elim id fun z => (hw b z).elim, .inl⟩
        rw [← e1]
        exact q3
      cases o with
      | im d =>
        cases br with
        | nil => simp only [toPar] at q; cases q
        | cons b bs => exact imm Le.refl (bare fun _ z => z) q1 (by simpa only [toPar] using q)
      | tl xs =>
        cases br with
        | nil => simp only [toPar] at q; cases q
        | cons b bs =>
          obtain ⟨a, ws, ev, h1, es⟩ := q1
          exact own (sv := .ol xs) ev (q2 a ev) rfl (fun Z2 l2 nz => ⟨a, ws, rfl, h1, es.mono l2, nz, q2 a ev⟩) (frame ev fun b => Iff.rfl) (by simpa only [toPar] using q)
      | td kvs =>
        cases br with
        | nil => simp only [toPar] at q; cases q
        | cons b bs =>
          obtain ⟨a, ev, h1⟩ := q1
          exact own (sv := .od kvs) ev (q2 a ev) rfl (fun Z2 l2 nz => ⟨a, rfl, h1.mono l2 rfl, nz, q2 a ev⟩) (frame ev fun b => Iff.rfl) (by simpa only [toPar] using q)
      | bor i =>
        have hv : σ[i]? = some (some v) := q1
        have o0 := bare fun _ z => z
        cases br with
        | nil => simp only [toPar] at q; cases q
        | cons b bs =>
          have frz : ∀ {r : Option (Sl × Sl)}, r = some (ps, e2) → r = (match fzO (.bor i) e with | some (d, e1) => (toPar os bs e1).map fun r => (some (Sv.im d) :: r.1, r.2) | none => none) → ∃ Z2, Le Z H Z2 H ∧ ps.length = (v :: vs).length ∧ StOk K T (ps ++ e2) ((v :: vs).map some ++ σ) H Z2 G := by
            intro r q er
            rw [er] at q
            cases q6 : fzO (.bor i) e with
            | none => rw [q6] at q; cases q
            | some p =>
              obtain ⟨d, e1⟩ := p
              rw [q6] at q
              obtain ⟨Z1, l1, o1, en⟩ := o0.freeze hv q6
              exact imm l1 o1 en q
          cases qg : gt e i with
          | none => exact frz q (by cases b <;> simp only [toPar, qg] <;> rfl)
          | some sv =>
            obtain ⟨v', h1, h2⟩ := (Outs.st o0).sl i sv qg
            rw [hv] at h1; cases h1
            have byref : sv.own = true → ((toPar os bs (pt e i none)).map fun r => (some sv :: r.1, r.2)) = some (ps, e2) → ∃ Z2, Le Z H Z2 H ∧ ps.length = (v :: vs).length ∧ StOk K T (ps ++ e2) ((v :: vs).map some ++ σ) H Z2 G := by
              intro ow q
              obtain ⟨a, u, ev, h3, m, nz, ng⟩ := h2.addr ow
              subst ev
              exact own rfl ng ow (fun Z2 l2 nz2 => h2.mono l2 fun _ b eb => by cases eb; exact ⟨rfl, nz2, ng⟩) (o0.toFrame qg ow hv) q
            cases b with
            | false => exact frz q (by cases sv <;> simp only [toPar, qg] <;> rfl)
            | true =>
              cases sv with
              | im d => exact frz q (by simp only [toPar, qg] <;> rfl)
              | ex x => exact frz q (by simp only [toPar, qg] <;> rfl)
              | ol xs => exact byref rfl (by simpa only [toPar, qg] using q)
              | od xs => exact byref rfl (by simpa only [toPar, qg] using q)
/-- what slots own -/
def OwnS (e : Sl) (σ : L2.St) : Addr → Prop := fun a => ∃ i sv, gt e i = some sv ∧ sv.own = true ∧ σ[i]? = some (some (V.ref a))
theorem get_front {τ σ : L2.St} {i : Nat} (h : i < τ.length) : (τ ++ σ)[i]? = τ[i]? := List.getElem?_append_left h
theorem get_back {τ σ : L2.St} {i : Nat} : (τ ++ σ)[τ.length + i]? = σ[i]? := by
  rw [List.getElem?_append_right (Nat.le_add_right _ _), Nat.add_sub_cancel_left]
theorem gt_front {ps e : Sl} {i : Nat} {sv : Sv} (h : gt ps i = some sv) : gt (ps ++ e) i = some sv ∧ i < ps.length := by
  have hl : i < ps.length := by
    induction ps generalizing i with
    | nil => rw [gt_nil] at h; cases h
    | cons x r ih =>
      cases i with
      | zero => exact Nat.succ_pos _
      | succ i => exact Nat.succ_lt_succ (ih h)
  rw [gt_append, if_pos hl]
  exact ⟨h, hl⟩
theorem gt_back {ps e : Sl} {i : Nat} : gt (ps ++ e) (ps.length + i) = gt e i := by
  rw [gt_append, if_neg (by omega), Nat.add_sub_cancel_left]
/-- the arguments alone; what the slots own is kept -/
theorem StOk.args {ps : Sl} {τ : L2.St} (s : StOk K T (ps ++ e) (τ ++ σ) H Z G) (hl : ps.length = τ.length) : StOk K T ps τ H Z (fun a => G a ∨ OwnS e σ a) := by
  have own : ∀ {a : Addr}, OwnS e σ a → (∃ u, H a = some u ∧ Md u) ∧ ¬ Z a ∧ ¬ G a ∧ ∀ (i : Nat) (sv : Sv), gt ps i = some sv → sv.own = true → τ[i]? ≠ some (some (V.ref a)) := by
    rintro a ⟨i, sv, h1, h2, h3⟩
    have g1 : gt (ps ++ e) (ps.length + i) = some sv := by rw [gt_back]; exact h1
    have g2 : (τ ++ σ)[ps.length + i]? = some (some (V.ref a)) := by rw [hl, get_back]; exact h3
    obtain ⟨u, q1, q2, q3, q4⟩ := s.notOwn g1 h2 g2
    refine ⟨⟨u, q1, q2⟩, q3, q4, fun j sj q o eq => ?_⟩
    obtain ⟨f1, f2⟩ := gt_front (e := e) q
    have := s.inj _ _ _ _ (V.ref a) f1 g1 o h2 (by rw [get_front (by omega)]; exact eq) g2
    omega
  refine ⟨⟨s.tb.1, s.tb.2.1, fun a z => ?_⟩, s.zs, fun a g => ?_, fun i sv q => ?_, fun i j si sj v q1 q2 o1 o2 e1 e2 => ?_⟩
  · rcases z with z | z
    · exact s.tb.2.2 a z
    · exact (own z).1
  · rcases g with g | g
    · exact s.gs a g
    · obtain ⟨⟨u, h1, _⟩, h2, _⟩ := own g
      exact ⟨by rw [h1]; simp, h2⟩
  · obtain ⟨f1, f2⟩ := gt_front (e := e) q
    obtain ⟨v, h1, h2⟩ := s.sl i sv f1
    rw [get_front (by omega)] at h1
    refine ⟨v, h1, h2.mono Le.refl fun o a ea => ?_⟩
    obtain ⟨b, _, eb, _, _, n1, n2⟩ := h2.addr o
    rw [ea] at eb; cases eb
    exact ⟨rfl, n1, fun g => g.elim n2 fun g => (own g).2.2.2 i sv q o (by rw [h1, ea])⟩
  · obtain ⟨f1, l1⟩ := gt_front (e := e) q1
    obtain ⟨f2, l2⟩ := gt_front (e := e) q2
    exact s.inj i j si sj v f1 f2 o1 o2 (by rw [get_front (by omega)]; exact e1) (by rw [get_front (by omega)]; exact e2)
/-- behind a call: the arguments as they stand then, and the slots -/
theorem StOk.join {ps fin : Sl} {τ : L2.St} {H' : Hp} {Z' G' : Addr → Prop} (s : StOk K T (ps ++ e) (τ ++ σ) H Z G) (hl : ps.length = τ.length) (l : Le Z H Z' H') (k : KeepG (fun a => G a ∨ OwnS e σ a) H H') (f : StOk K T fin τ H' Z' G')
    (hf : fin.length = τ.length) (hG : ∀ a, G a ∨ OwnS e σ a → G' a) {Gr : Addr → Prop} (hr : ∀ a, Gr a → G' a ∧ ¬ OwnS e σ a) : StOk K T (fin ++ e) (τ ++ σ) H' Z' Gr := by
  have back : ∀ {i : Nat} {sv : Sv}, gt (fin ++ e) i = some sv → (gt fin i = some sv ∧ i < fin.length) ∨ ∃ j, i = fin.length + j ∧ gt e j = some sv := fun {i sv} q => by
    rw [gt_append] at q
    by_cases h : i < fin.length
    · rw [if_pos h] at q; exact .inl ⟨q, h⟩
    · rw [if_neg h] at q; exact .inr ⟨i - fin.length, by omega, q⟩
  refine ⟨f.tb.less fun a g => (hr a g).1, f.zs, fun a g => f.gs a (hr a g).1, fun i sv q => ?_, fun i j si sj v q1 q2 o1 o2 e1 e2 => ?_⟩
  · rcases back q with ⟨q5, h⟩ | ⟨j, rfl, q5⟩
    · obtain ⟨v, h1, h2⟩ := f.sl i sv q5
      refine ⟨v, by rw [get_front (by omega)]; exact h1, h2.mono Le.refl fun o a ea => ?_⟩
      obtain ⟨b, _, eb, _, _, n1, n2⟩ := h2.addr o
      rw [ea] at eb; cases eb
      exact ⟨rfl, n1, fun g => n2 (hr _ g).1⟩
    · have g1 : gt (ps ++ e) (ps.length + j) = some sv := by rw [gt_back]; exact q5
      obtain ⟨v, h1, h2⟩ := s.sl _ sv g1
      rw [hl, get_back] at h1
      refine ⟨v, by rw [hf, get_back]; exact h1, h2.mono l fun o a ea => ?_⟩
      have ow : OwnS e σ a := ⟨j, sv, q5, o, by rw [h1, ea]⟩
      exact ⟨k a (.inr ow), (f.gs a (hG a (.inr ow))).2, fun g => (hr a g).2 ow⟩
  · rcases back q1 with ⟨p1, l1⟩ | ⟨j1, rfl, p1⟩
    · rcases back q2 with ⟨p2, l2⟩ | ⟨j2, rfl, p2⟩
      · exact f.inj i j si sj v p1 p2 o1 o2 (by rw [get_front (by omega)] at e1; exact e1) (by rw [get_front (by omega)] at e2; exact e2)
      · exfalso
        rw [get_front (by omega)] at e1
        rw [hf, get_back] at e2
        obtain ⟨v', h1, h2⟩ := f.sl i si p1
        rw [e1] at h1; cases h1
        obtain ⟨b, _, eb, _, _, n1, n2⟩ := h2.addr o1
        subst eb
        exact n2 (hG b (.inr ⟨j2, sj, p2, o2, e2⟩))
    · rcases back q2 with ⟨p2, l2⟩ | ⟨j2, rfl, p2⟩
      · exfalso
        rw [get_front (by omega)] at e2
        rw [hf, get_back] at e1
        obtain ⟨v', h1, h2⟩ := f.sl j sj p2
        rw [e2] at h1; cases h1
        obtain ⟨b, _, eb, _, _, n1, n2⟩ := h2.addr o2
        subst eb
        exact n2 (hG b (.inr ⟨j1, si, p1, o1, e1⟩))
      · rw [hf, get_back] at e1 e2
        have g1 : gt (ps ++ e) (ps.length + j1) = some si := by rw [gt_back]; exact p1
        have g2 : gt (ps ++ e) (ps.length + j2) = some sj := by rw [gt_back]; exact p2
        have := s.inj _ _ _ _ v g1 g2 o1 o2 (by rw [hl, get_back]; exact e1) (by rw [hl, get_back]; exact e2)
        omega
/-- a slot ahead is forgotten -/
theorem StOk.tail {f : Option Sv} {v : Option V} {E : Sl} {τ : L2.St} (s : StOk K T (f :: E) (v :: τ) H Z G) : StOk K T E τ H Z G :=
  ⟨s.tb, s.zs, s.gs, fun i sv q => s.sl (i + 1) sv q, fun i j si sj w q1 q2 o1 o2 e1 e2 => Nat.succ.inj (s.inj (i + 1) (j + 1) si sj w q1 q2 o1 o2 e1 e2)⟩
/-- a slot ahead is moved to its place -/
theorem StOk.pull {f : Option Sv} {v : V} {E : Sl} {τ : L2.St} {j : Nat} (s : StOk K T (f :: E) (some v :: τ) H Z G) (hv : τ[j]? = some (some v)) : StOk K T (pt E j f) τ H Z G := by
  refine ⟨s.tb, s.zs, s.gs, fun i sv q => ?_, fun i k si sk w q1 q2 o1 o2 e1 e2 => ?_⟩
  · rcases gt_pt q with ⟨rfl, z⟩ | ⟨_, z⟩
    · subst z
      obtain ⟨v', h1, h2⟩ := s.sl 0 sv rfl
      cases h1
      exact ⟨v, hv, h2⟩
    · exact s.sl (i + 1) sv z
  · rcases gt_pt q1 with ⟨rfl, z1⟩ | ⟨n1, z1⟩
    · subst z1
      rw [hv] at e1; cases e1
      rcases gt_pt q2 with ⟨rfl, z2⟩ | ⟨n2, z2⟩
      · rfl
      · exact absurd (s.inj 0 (k + 1) si sk v rfl z2 o1 o2 rfl e2) (by omega)
    · rcases gt_pt q2 with ⟨rfl, z2⟩ | ⟨n2, z2⟩
      · subst z2
        rw [hv] at e2; cases e2
        exact absurd (s.inj (i + 1) 0 si sk v z1 rfl o1 o2 e1 rfl) (by omega)
      · exact Nat.succ.inj (s.inj (i + 1) (k + 1) si sk w z1 z2 o1 o2 e1 e2)
theorem pt_back : ∀ {fs e : Sl} {i : Nat} {v : Option Sv}, pt (fs ++ e) (fs.length + i) v = fs ++ pt e i v
  | [], e, i, v => by simp
  | x :: fs, e, i, v => by
    show pt (x :: (fs ++ e)) (fs.length + 1 + i) v = x :: (fs ++ pt e i v)
    rw [show fs.length + 1 + i = (fs.length + i) + 1 from by omega, ← pt_back]
    rfl
/-- the slots that the operands name -/
def Bors (σ : L2.St) : List V → List Op → Prop
  | v :: vs, .bor i :: os => σ[i]? = some (some v) ∧ Bors σ vs os
  | _ :: vs, _ :: os => Bors σ vs os
  | _, _ => True
theorem Outs.bors : ∀ {G : Addr → Prop} {vs : List V} {os : List Op}, Outs K T e σ H Z G vs os → Bors σ vs os
  | _, [], [], _ => trivial
  | _, v :: vs, o :: os, ⟨h1, _, h3⟩ => by
    cases o with
    | bor i => exact ⟨h1, Outs.bors h3⟩
    | im d => exact (Outs.bors h3 : Bors σ vs os)
    | tl d => exact (Outs.bors h3 : Bors σ vs os)
    | td d => exact (Outs.bors h3 : Bors σ vs os)
  | _, [], _ :: _, h => h.elim
  | _, _ :: _, [], h => h.elim
theorem backs_ok : ∀ {vs : List V} {os : List Op} {fin e : Sl}, StOk K T (fin ++ e) (vs.map some ++ σ) H Z G → fin.length = vs.length → Bors σ vs os → StOk K T (backs os fin e) σ H Z G
  | [], os, [], e, s, _, _ => by
    have : backs os [] e = e := by cases os with | nil => rfl | cons o os => cases o <;> rfl
    rw [this]
    exact s
  | v :: vs, os, f :: fs, e, s, hl, hb => by
    have hl' : fs.length = vs.length := Nat.succ.inj hl
    have s : StOk K T (f :: (fs ++ e)) (some v :: (vs.map some ++ σ)) H Z G := s
    have rest : ∀ {os' : List Op}, Bors σ vs os' → StOk K T (backs os' fs e) σ H Z G := fun h => backs_ok s.tail hl' h
    cases os with
    | nil =>
      have : backs [] (f :: fs) e = backs [] fs e := by cases fs <;> rfl
      rw [this]
      exact rest (by cases vs <;> trivial)
    | cons o os =>
      cases o with
      | im d => exact rest hb
      | tl d => exact rest hb
      | td d => exact rest hb
      | bor i =>
        obtain ⟨h1, h2⟩ := hb
        show StOk K T (match gt e i with | none => backs os fs (pt e i f) | some _ => backs os fs e) σ H Z G
        split
        · have hv : (vs.map some ++ σ)[fs.length + i]? = some (some v) := by
            rw [hl', show vs.length = (vs.map some).length from (List.length_map _).symm, get_back]
            exact h1
          have := s.pull hv
          rw [pt_back] at this
          exact backs_ok this hl' h2
        · exact rest h2
  | [], _, _ :: _, _, _, hl, _ => by cases hl
  | _ :: _, _, [], _, _, hl, _ => by cases hl
end
theorem toPar_len : ∀ {os : List Op} {br : List Bool} {e ps e2 : Sl}, toPar os br e = some (ps, e2) → ps.length = br.length := by
  intro os
  induction os with
  | nil =>
    intro br e ps e2 q
    cases br with
    | cons b bs => cases q
    | nil => cases q; rfl
  | cons o os ih =>
    intro br e ps e2 q
    have go : ∀ {sv : Sv} {bs : List Bool} {e1 : Sl}, ((toPar os bs e1).map fun r => (some sv :: r.1, r.2)) = some (ps, e2) → ps.length = bs.length + 1 := by
      intro sv bs e1 q
      cases q5 : toPar os bs e1 with
      | none => rw [q5] at q; cases q
      | some r => rw [q5] at q; cases q; exact congrArg (· + 1) (ih (ps := r.1) (e2 := r.2) q5)
    cases br with
    | nil => cases o <;> cases q
    | cons b bs =>
      cases o with
      | im d => exact go q
      | tl d => exact go q
      | td d => exact go q
      | bor i =>
        simp only [toPar] at q
        split at q
        · exact go q
        · exact go q
        · split at q
          · exact go q
          · cases q
/-- a def's contract: it does what F says -/
def CPost (K : PySem.W.Frag) (T : LT) (mg : Str → Option Value) (n : Nat) (vs : List V) (Z G : Addr → Prop) (H : Hp) (Q : VK) (E : XK) : CRes → Prop
  | .ok r fin => fin.length = n → ∀ v H' Z', Le Z H Z' H' → KeepG G H H' → StOk K T fin (vs.map some) H' Z' (Gx G v r) → OpOk K Z' H' [] v r → (∀ a, OwnA v r a → ¬ G a) → Q v H'
  | .er x fin => fin.length = n → ∀ cls d H' Z', Le Z H Z' H' → KeepG G H H' → StOk K T fin (vs.map some) H' Z' G → ExOk K mg Z' x cls d H' → E cls d H'
  | .bad => False
def SpD (K : PySem.W.Frag) (T : LT) (mg : Str → Option Value) (n : Nat) (F : Sl → CRes) : Sp := fun vs H Q E => vs.length = n ∧ ∃ ps Z G, ps.length = n ∧ StOk K T ps (vs.map some) H Z G ∧ CPost K T mg n vs Z G H Q E (F ps)
theorem OpOk.nil {K : PySem.W.Frag} {Z : Addr → Prop} {H : Hp} {σ : L2.St} {v : V} {o : Op} (h : OpOk K Z H [] v o) : OpOk K Z H σ v o := by
  cases o with
  | bor i => have : ([] : L2.St)[i]? = some (some v) := h; simp at this
  | im d => exact h
  | tl d => exact h
  | td d => exact h
theorem rd_call {K : PySem.W.Frag} {mg : Str → Option Value} {W : WX} {ms : List ME} {σ : L2.St} {H : Hp} {Q : VK} {F : Sl → CRes} {br : List Bool} {n : Nat} (hn : br.length = n) (h : RdE K T mg (callE br F ms) W σ H Q) : tCallS (SpD K T mg n F) (WE W) (RdAO K T mg ms W) σ H Q := by
  obtain ⟨e, Z, G, s, h⟩ := h
  refine ⟨e, Z, G, s, (h.bind fun _ z => z).imp fun os e1 Z1 H1 l k h vs xs => ?_⟩
  cases q1 : toPar os br e1 with
  | none => rw [q1] at h; exact h.elim
  | some r =>
    obtain ⟨ps, e2⟩ := r
    rw [q1] at h
    obtain ⟨Z2, l2, hl, js⟩ := toPar_ok xs q1
    have hl' : ps.length = (vs.map some).length := by rw [hl, List.length_map]
    have hb : ps.length = n := by rw [← hn]; exact toPar_len q1
    have ownG : ∀ a, OwnS e2 σ a → ¬ G a := by
      rintro a ⟨i, sv, h1, h2, h3⟩
      have := js.notOwn (i := ps.length + i) (a := a) (by rw [gt_back]; exact h1) h2 (by rw [hl', get_back]; exact h3)
      obtain ⟨_, _, _, _, h⟩ := this
      exact h
    refine ⟨by rw [← hl]; exact hb, ps, Z2, _, hb, js.args hl', ?_⟩
    simp only at h
    cases q2 : F ps with
    | bad => rw [q2] at h; exact h.elim
    | er x fin =>
      rw [q2] at h
      intro hf cls d H' Z' l' k' f ex
      have hfl : fin.length = (vs.map some).length := by rw [hf, ← hb, hl']
      have j := js.join (Gr := G) hl' l' k' f hfl (fun a z => z) fun a g => ⟨.inl g, fun z => ownG a z g⟩
      exact h cls d H' Z' (l2.trans l') (k'.less fun a z => .inl z) (backs_ok j (by rw [hf, ← hb, hl]) xs.bors) ex
    | ok r fin =>
      rw [q2] at h
      intro hf v H' Z' l' k' f ok ne
      have hfl : fin.length = (vs.map some).length := by rw [hf, ← hb, hl']
      have j := js.join (Gr := Gx G v r) hl' l' k' f hfl (fun a z => .inl z) fun a g => by
        rcases g with g | g
        · exact ⟨.inl (.inl g), fun z => ownG a z g⟩
        · exact ⟨.inr g, fun z => ne a g (.inr z)⟩
      exact h H' Z' (l2.trans l') (k'.less fun a z => .inl z) v ⟨backs_ok j (by rw [hf, ← hb, hl]) xs.bors, ok.nil, fun a g z => ne a g (.inl z)⟩
end Ev
end
section
set_option maxHeartbeats 4000000
/-! EvS6: what is walked. -/
namespace Ev
open PySem PySem.Spec PyProof.Rows L2
variable {T : LT}

/-- the slots in fx stand -/
def SameF (fx : List Nat) (σ σ' : L2.St) : Prop := σ'.length = σ.length ∧ ∀ i, i ∈ fx → σ'[i]? = σ[i]?
theorem SameF.refl {fx : List Nat} {σ : L2.St} : SameF fx σ σ := ⟨rfl, fun _ _ => rfl⟩
theorem SameF.trans {fx : List Nat} {σ σ1 σ2 : L2.St} (a : SameF fx σ σ1) (b : SameF fx σ1 σ2) : SameF fx σ σ2 := ⟨b.1.trans a.1, fun i h => (b.2 i h).trans (a.2 i h)⟩
/-- the frame and what is hidden -/
def Gh (σ : L2.St) : (Addr → Prop) → List (Nat × Sv) → Addr → Prop
  | G, [] => G
  | G, (i, _) :: r => Gh σ (fun b => G b ∨ σ[i]? = some (some (.ref b))) r
theorem Gh.in {σ : L2.St} : ∀ {hid : List (Nat × Sv)} {G : Addr → Prop} {a : Addr}, G a → Gh σ G hid a
  | [], _, _, h => h
  | (i, _) :: r, G, a, h => Gh.in (hid := r) (.inl h)
def HidOk (K : PySem.W.Frag) (fx : List Nat) (σ : L2.St) (Z : Addr → Prop) (H : Hp) : (Addr → Prop) → List (Nat × Sv) → Prop
  | _, [] => True
  | G, (i, sv) :: r => (∃ a vs xs, i ∈ fx ∧ sv = .ol xs ∧ σ[i]? = some (some (.ref a)) ∧ H a = some (.lst vs) ∧ EncDs K Z H vs xs ∧ ¬ G a) ∧ HidOk K fx σ Z H (fun b => G b ∨ σ[i]? = some (some (.ref b))) r
theorem HidOk.mono {K : PySem.W.Frag} {fx : List Nat} {σ : L2.St} {Z Z' : Addr → Prop} {H H' : Hp} : ∀ {hid : List (Nat × Sv)} {G : Addr → Prop}, HidOk K fx σ Z H G hid → Le Z H Z' H' → KeepG (Gh σ G hid) H H' → HidOk K fx σ Z' H' G hid
  | [], _, _, _, _ => trivial
  | (i, sv) :: r, G, h, l, k => by
    obtain ⟨⟨a, vs, xs, hi, e1, e2, e3, e4, e5⟩, h2⟩ := h
    exact ⟨⟨a, vs, xs, hi, e1, e2, by rw [k a (Gh.in (hid := r) (.inr e2))]; exact e3, e4.mono l, e5⟩, h2.mono l k⟩
theorem Gh.eq {fx : List Nat} {σ σ' : L2.St} {K : PySem.W.Frag} {Z : Addr → Prop} {H : Hp} (sf : SameF fx σ σ') : ∀ {hid : List (Nat × Sv)} {G : Addr → Prop}, HidOk K fx σ Z H G hid → Gh σ' G hid = Gh σ G hid
  | [], _, _ => rfl
  | (i, sv) :: r, G, ⟨⟨a, vs, xs, hi, _⟩, h⟩ => by
    show Gh σ' (fun b => G b ∨ σ'[i]? = some (some (.ref b))) r = Gh σ (fun b => G b ∨ σ[i]? = some (some (.ref b))) r
    rw [sf.2 i hi]
    exact Gh.eq sf h
theorem HidOk.slots {fx : List Nat} {σ σ' : L2.St} {K : PySem.W.Frag} {Z : Addr → Prop} {H : Hp} (sf : SameF fx σ σ') : ∀ {hid : List (Nat × Sv)} {G : Addr → Prop}, HidOk K fx σ Z H G hid → HidOk K fx σ' Z H G hid
  | [], _, _ => trivial
  | (i, sv) :: r, G, ⟨⟨a, vs, xs, hi, e1, e2, e3⟩, h⟩ => by
    refine ⟨⟨a, vs, xs, hi, e1, by rw [sf.2 i hi]; exact e2, e3⟩, ?_⟩
    rw [sf.2 i hi]
    exact h.slots sf
section
variable {K : PySem.W.Frag} {e : Sl} {σ : L2.St} {H : Hp} {Z G : Addr → Prop}
/-- a hidden one comes back -/
theorem StOk.back {i : Nat} {a : Addr} {vs : List V} {xs : List D} (s : StOk K T e σ H Z (fun b => G b ∨ b = a)) (hv : σ[i]? = some (some (.ref a))) (h : H a = some (.lst vs)) (es : EncDs K Z H vs xs) (ng : ¬ G a) : StOk K T (pt e i (some (.ol xs))) σ H Z G := by
  have nz : ¬ Z a := (s.gs a (.inr rfl)).2
  have no : ∀ {j : Nat} {sj : Sv}, gt e j = some sj → sj.own = true → σ[j]? = some (some (V.ref a)) → False := fun {j sj} q o e => by
    obtain ⟨_, _, _, _, n⟩ := s.notOwn q o e
    exact n (.inr rfl)
  refine ⟨s.tb.less fun b z => .inl z, s.zs, fun b g => s.gs b (.inl g), fun j sj q => ?_, fun j k sj sk w q1 q2 o1 o2 e1 e2 => ?_⟩
  · rcases gt_pt q with ⟨rfl, z⟩ | ⟨_, z⟩
    · cases z
      exact ⟨_, hv, a, vs, rfl, h, es, nz, ng⟩
    · obtain ⟨w, h1, h2⟩ := s.sl j sj z
      refine ⟨w, h1, h2.mono Le.refl fun o b eb => ?_⟩
      obtain ⟨b', _, eb', _, _, n1, n2⟩ := h2.addr o
      rw [eb] at eb'; cases eb'
      exact ⟨rfl, n1, fun g => n2 (.inl g)⟩
  · rcases gt_pt q1 with ⟨rfl, z1⟩ | ⟨_, z1⟩
    · rcases gt_pt q2 with ⟨rfl, _⟩ | ⟨_, z2⟩
      · rfl
      · rw [hv] at e1; cases e1
        exact (no z2 o2 e2).elim
    · rcases gt_pt q2 with ⟨rfl, z2⟩ | ⟨_, z2⟩
      · rw [hv] at e2; cases e2
        exact (no z1 o1 e1).elim
      · exact s.inj j k sj sk w z1 z2 o1 o2 e1 e2
theorem unh_ok {fx : List Nat} : ∀ {hid : List (Nat × Sv)} {G : Addr → Prop}, StOk K T e σ H Z (Gh σ G hid) → HidOk K fx σ Z H G hid → StOk K T (unhS hid e) σ H Z G
  | [], _, s, _ => s
  | (i, sv) :: r, G, s, h => by
    obtain ⟨⟨a, vs, xs, hi, rfl, e2, e3, e4, e5⟩, h2⟩ := h
    have s1 : StOk K T (unhS r e) σ H Z (fun b => G b ∨ σ[i]? = some (some (.ref b))) := unh_ok (fx := fx) s h2
    have eg : (fun b => G b ∨ σ[i]? = some (some (.ref b))) = fun b => G b ∨ b = a := by
      funext b
      rw [e2]
      apply propext
      constructor
      · rintro (h | h)
        · exact .inl h
        · cases h; exact .inr rfl
      · rintro (h | h)
        · exact .inl h
        · subst h; exact .inr rfl
    rw [eg] at s1
    show StOk K T (match gt (unhS r e) i with | none => _ | some _ => _) σ H Z G
    split
    · exact s1.back e2 e3 e4 e5
    · exact s1.less fun b g => .inl g
end
/-- an argument that is walked: it stands still, or is hidden -/
def HV (K : PySem.W.Frag) (Z G : Addr → Prop) (H : Hp) (v : V) (d : D) : Prop := EncD K Z H v d ∨ ∃ a vs xs, v = .ref a ∧ d = .list xs ∧ G a ∧ H a = some (.lst vs) ∧ EncDs K Z H vs xs
theorem HV.mono {K : PySem.W.Frag} {Z G Z' G' : Addr → Prop} {H H' : Hp} {v : V} {d : D} (h : HV K Z G H v d) (l : Le Z H Z' H') (k : KeepG G H H') (g : ∀ a, G a → G' a) : HV K Z' G' H' v d := by
  rcases h with h | ⟨a, vs, xs, e1, e2, e3, e4, e5⟩
  · exact .inl (h.mono l)
  · exact .inr ⟨a, vs, xs, e1, e2, g a e3, by rw [k a e3]; exact e4, e5.mono l⟩
inductive HVs (K : PySem.W.Frag) (Z G : Addr → Prop) (H : Hp) : List V → List D → Prop
  | nil : HVs K Z G H [] []
  | cons {v vs d ds} : HV K Z G H v d → HVs K Z G H vs ds → HVs K Z G H (v :: vs) (d :: ds)
def RdAI (K : PySem.W.Frag) (T : LT) (mg : Str → Option Value) (fx : List Nat) (ms : List ME) (W : WX) : TA := fun σ H Q => ∃ e Z G, StOk K T e σ H Z G ∧
  PostC K T mg W σ Z G H (fun p e' Z' H' => ∀ vs, StOk K T e' σ H' Z' (Gh σ G p.2) → HidOk K fx σ Z' H' G p.2 → HVs K Z' (Gh σ G p.2) H' vs p.1 → Q vs H') (argsI fx ms e)
section
variable {K : PySem.W.Frag} {mg : Str → Option Value} {W : WX} {m : ME} {ms : List ME} {σ : L2.St} {H : Hp} {e : Sl} {Z G : Addr → Prop} {fx : List Nat}
theorem hide_ok {v : V} {o : Op} {d : D} {hs : List (Nat × Sv)} {e1 : Sl} (x : Out K T e σ H Z G v o) (q : hideO fx o e = some (d, hs, e1)) :
    ∃ Z1, Le Z H Z1 H ∧ StOk K T e1 σ H Z1 (Gh σ G hs) ∧ HidOk K fx σ Z1 H G hs ∧ HV K Z1 (Gh σ G hs) H v d ∧ (hs = [] ∨ ∃ i sv, hs = [(i, sv)]) := by
  have frz : ∀ {o}, Out K T e σ H Z G v o → (fzO o e).map (fun r => (r.1, ([] : List (Nat × Sv)), r.2)) = some (d, hs, e1) → ∃ Z1, Le Z H Z1 H ∧ StOk K T e1 σ H Z1 (Gh σ G hs) ∧ HidOk K fx σ Z1 H G hs ∧ HV K Z1 (Gh σ G hs) H v d ∧ (hs = [] ∨ ∃ i sv, hs = [(i, sv)]) := by
    intro o x q
    cases q1 : fzO o e with
    | none => rw [q1] at q; cases q
    | some r =>
      obtain ⟨d', e'⟩ := r
      rw [q1] at q
      cases q
      obtain ⟨Z1, l, s1, en⟩ := fz_ok x q1
      exact ⟨Z1, l, s1, trivial, .inl en, .inl rfl⟩
  cases o with
  | im d' => exact frz x q
  | tl d' => exact frz x q
  | td d' => exact frz x q
  | bor i =>
    simp only [hideO] at q
    split at q
    · rename_i hi
      have hi : i ∈ fx := by simpa using hi
      have hv : σ[i]? = some (some v) := x.ok
      split at q
      · rename_i xs qg
        cases q
        obtain ⟨v', h1, a, vs, rfl, h3, es, nz, ng⟩ := x.st0.sl i _ qg
        rw [hv] at h1; cases h1
        have s1 := x.st0.toFrame qg rfl hv
        have eg : (fun b => G b ∨ σ[i]? = some (some (.ref b))) = fun b => G b ∨ b = a := by
          funext b
          rw [hv]
          apply propext
          constructor
          · rintro (h | h)
            · exact .inl h
            · cases h; exact .inr rfl
          · rintro (h | h)
            · exact .inl h
            · subst h; exact .inr rfl
        refine ⟨Z, Le.refl, ?_, ⟨⟨a, vs, xs, hi, rfl, hv, h3, es, ng⟩, trivial⟩, .inr ⟨a, vs, xs, rfl, rfl, .inr hv, h3, es⟩, .inr ⟨_, _, rfl⟩⟩
        show StOk K T _ σ H Z (fun b => G b ∨ σ[i]? = some (some (.ref b)))
        rw [eg]
        exact s1
      · rename_i d' qg
        cases q
        obtain ⟨v', h1, h2⟩ := x.st0.sl i _ qg
        rw [hv] at h1; cases h1
        exact ⟨Z, Le.refl, x.st0, trivial, .inl h2, .inl rfl⟩
      · cases q
    · exact frz x q
theorem Gh_append : ∀ {hs r : List (Nat × Sv)} {G : Addr → Prop}, Gh σ G (hs ++ r) = Gh σ (Gh σ G hs) r
  | [], _, _ => rfl
  | (i, _) :: hs, r, G => Gh_append (hs := hs)
theorem HidOk.append : ∀ {hs r : List (Nat × Sv)} {G : Addr → Prop}, HidOk K fx σ Z H G hs → HidOk K fx σ Z H (Gh σ G hs) r → HidOk K fx σ Z H G (hs ++ r)
  | [], _, _, _, h => h
  | (i, _) :: hs, r, G, ⟨h1, h2⟩, h => ⟨h1, h2.append h⟩
theorem rd_inil {Q : List V → Hp → Prop} (h : RdAI K T mg fx [] W σ H Q) : tNil σ H Q := by
  obtain ⟨e, Z, G, s, h⟩ := h
  exact h.ret [] s trivial .nil
theorem rd_icons {Q : List V → Hp → Prop} (h : RdAI K T mg fx (m :: ms) W σ H Q) : tCons (RdE K T mg m W) (RdAI K T mg fx ms W) σ H Q := by
  obtain ⟨e, Z, G, s, h⟩ := h
  refine ⟨e, Z, G, s, (h.bind fun _ z => z).imp fun o e1 Z1 H1 l k h v x => ?_⟩
  cases q1 : hideO fx o e1 with
  | none => rw [q1] at h; exact h.elim
  | some p =>
    obtain ⟨d, hs, e2⟩ := p
    rw [q1] at h
    obtain ⟨Z2, l2, s2, hk, hv, _⟩ := hide_ok x q1
    have h := PostC.trans l2 KeepG.refl h
    refine ⟨e2, Z2, Gh σ G hs, s2, (h.bind fun _ z => Gh.in z).imp fun p e3 Z3 H3 l3 k3 h vs s3 hk3 hvs => ?_⟩
    have k3' : KeepG (Gh σ G hs) H1 H3 := k3
    refine h.ret (v :: vs) (by rw [Gh_append]; exact s3) ((hk.mono l3 k3).append hk3) ?_
    refine .cons (hv.mono l3 k3 fun a g => ?_) ?_
    · show Gh σ G (hs ++ p.2) a
      rw [Gh_append]
      exact Gh.in g
    · show HVs K Z3 (Gh σ G (hs ++ p.2)) H3 vs p.1
      rw [Gh_append]
      exact hvs
end

/-- an iterator that gives the items -/
structure Feeds (K : PySem.W.Frag) (Z : Addr → Prop) (H : Hp) (G : Addr → Prop) (J : It) (items : List D) : Prop where
  go : ∀ i Z1 H1, i < items.length → Le Z H Z1 H1 → KeepG G H H1 → J.go i H1
  stop : ∀ Z1 H1, Le Z H Z1 H1 → KeepG G H H1 → J.stop items.length H1
  yld : ∀ i Z1 H1 x H2, i < items.length → Le Z H Z1 H1 → KeepG G H H1 → (∀ a, Z1 a → H1 a ≠ none) → J.yld i H1 x H2 → Same H1 H2 ∧ ∃ d, items[i]? = some d ∧ EncD K Z1 H2 x d
def RdI (K : PySem.W.Frag) (T : LT) (mg : Str → Option Value) (fx : List Nat) (mi : MI) (W : WX) : TI := fun σ H R => ∃ e Z G, StOk K T e σ H Z G ∧
  PostC K T mg W σ Z G H (fun m e' Z' H' => ∀ J, StOk K T e' σ H' Z' (Gh σ G m.hid) → HidOk K fx σ Z' H' G m.hid → Feeds K Z' H' (Gh σ G m.hid) J m.items → R J H') (mi e)
section
variable {K : PySem.W.Frag} {Z G : Addr → Prop} {H : Hp}
/-- the items of a list that is walked, at a turn -/
theorem HV.list {v : V} {xs : List D} (h : HV K Z G H v (.list xs)) : ∃ a vs, v = .ref a ∧ H a = some (.lst vs) ∧ EncDs K Z H vs xs ∧ ∀ Z1 H1, Le Z H Z1 H1 → KeepG G H H1 → H1 a = some (.lst vs) ∧ EncDs K Z1 H1 vs xs := by
  rcases h with h | ⟨a, vs, ys, e1, e2, e3, e4, e5⟩
  · cases h with
    | lst z h hs => exact ⟨_, _, rfl, h, hs, fun Z1 H1 l k => ⟨by rw [l.keep _ z]; exact h, hs.mono l⟩⟩
  · cases e2
    exact ⟨a, vs, e1, e4, e5, fun Z1 H1 l k => ⟨by rw [k a e3]; exact e4, e5.mono l⟩⟩
theorem HV.tuple {v : V} {xs : List D} (h : HV K Z G H v (.tuple xs)) : ∃ a vs, v = .ref a ∧ SqT K H a vs ∧ EncDs K Z H vs xs := by
  rcases h with h | ⟨a, vs, ys, e1, e2, e3, e4, e5⟩
  · cases h with
    | tup h hs => exact ⟨_, _, rfl, h, hs⟩
  · cases e2
theorem lt_get {α : Type} {xs : List α} {i : Nat} (h : i < xs.length) : xs[i]? = some xs[i] := by simp [h]
theorem feeds_list {a : Addr} {vs : List V} {xs : List D} (h : ∀ Z1 H1, Le Z H Z1 H1 → KeepG G H H1 → H1 a = some (.lst vs) ∧ EncDs K Z1 H1 vs xs) : Feeds K Z H G (Itl K a) xs := by
  have w := walk_list (K := K) (a := a) (xs := vs)
  have hl : vs.length = xs.length := (h Z H Le.refl KeepG.refl).2.length
  refine ⟨fun i Z1 H1 hi l k => w.goes i H1 (by omega) (SqL.of (h Z1 H1 l k).1), fun Z1 H1 l k => hl ▸ w.stops H1 (SqL.of (h Z1 H1 l k).1), fun i Z1 H1 x H2 hi l k zs y => ?_⟩
  obtain ⟨e, hx⟩ := w.yields i H1 x H2 (by omega) (SqL.of (h Z1 H1 l k).1) y
  subst e
  refine ⟨Same.refl _, _, lt_get hi, ?_⟩
  obtain ⟨u, h1, h2⟩ := (h Z1 H2 l k).2.get (lt_get hi)
  rw [hx] at h1; cases h1
  exact h2
theorem feeds_tup {a : Addr} {vs : List V} {xs : List D} (h : SqT K H a vs) (es : EncDs K Z H vs xs) : Feeds K Z H G (Itt K a) xs := by
  have w := walk_tup (K := K) (a := a) (xs := vs)
  have hl : vs.length = xs.length := es.length
  refine ⟨fun i Z1 H1 hi l k => w.goes i H1 (by omega) (SqT.mono' l h), fun Z1 H1 l k => hl ▸ w.stops H1 (SqT.mono' l h), fun i Z1 H1 x H2 hi l k zs y => ?_⟩
  obtain ⟨e, hx⟩ := w.yields i H1 x H2 (by omega) (SqT.mono' l h) y
  subst e
  refine ⟨Same.refl _, _, lt_get hi, ?_⟩
  obtain ⟨u, h1, h2⟩ := (es.mono l).get (lt_get hi)
  rw [hx] at h1; cases h1
  exact h2
theorem rangeI_get : ∀ {n : Nat} {lo : Int} {i : Nat}, i < n → (rangeI lo n)[i]? = some (.int (lo + i))
  | n + 1, lo, 0, _ => by simp [rangeI]
  | n + 1, lo, i + 1, h => by
    have := rangeI_get (n := n) (lo := lo + 1) (i := i) (by omega)
    simp only [rangeI, List.getElem?_cons_succ, this, Option.some.injEq, PyData.int.injEq]
    omega
theorem rangeI_length : ∀ {n : Nat} {lo : Int}, (rangeI lo n).length = n
  | 0, _ => rfl
  | n + 1, lo => by simp [rangeI, rangeI_length]
theorem feeds_range {lo : Int} {n : Nat} : Feeds K Z H G (Itr lo n) (rangeI lo n) := by
  have w := walk_range (lo := lo) (n := n)
  refine ⟨fun i Z1 H1 hi l k => w.goes i H1 (by rw [rangeI_length] at hi; exact hi) trivial, fun Z1 H1 l k => by rw [rangeI_length]; exact w.stops H1 trivial, fun i Z1 H1 x H2 hi l k zs y => ?_⟩
  rw [rangeI_length] at hi
  obtain ⟨e, hx⟩ := w.yields i H1 x H2 hi trivial y
  subst e hx
  exact ⟨Same.refl _, _, rangeI_get hi, .int _⟩
/-- pairs, made anew -/
theorem feeds_pair {J : It} {Gd : Hp → Prop} {X Y : Nat → Option V} {items : List D} (w : Walk J items.length Gd (YPair X Y)) (hG : ∀ Z1 H1, Le Z H Z1 H1 → KeepG G H H1 → Gd H1)
    (hi : ∀ i Z1 H1 x y, i < items.length → Le Z H Z1 H1 → KeepG G H H1 → X i = some x → Y i = some y → ∃ d d', items[i]? = some (.tuple [d, d']) ∧ EncD K Z1 H1 x d ∧ EncD K Z1 H1 y d') : Feeds K Z H G J items := by
  refine ⟨fun i Z1 H1 hi l k => w.goes i H1 hi (hG Z1 H1 l k), fun Z1 H1 l k => w.stops H1 (hG Z1 H1 l k), fun i Z1 H1 x0 H2 hi' l k zs y0 => ?_⟩
  obtain ⟨T, x, y, rfl, nT, rfl, hx, hy⟩ := w.yields i H1 x0 H2 hi' (hG Z1 H1 l k) y0
  obtain ⟨d, d', e, h1, h2⟩ := hi i Z1 H1 x y hi' l k hx hy
  have sm : Same H1 (upd H1 T (.tup [x, y])) := same_new nT
  exact ⟨sm, _, e, .tup (.inl (.inl upd_same)) (.cons (h1.mono (Same.le sm zs)) (.cons (h2.mono (Same.le sm zs)) .nil))⟩
theorem enumI_length : ∀ {xs : List D} {i : Int}, (enumI i xs).length = xs.length
  | [], _ => rfl
  | _ :: _, i => by simp [enumI, enumI_length]
theorem enumI_get : ∀ {xs : List D} {j : Int} {i : Nat} {d : D}, xs[i]? = some d → (enumI j xs)[i]? = some (.tuple [.int (j + i), d])
  | [], _, _, _, h => by simp at h
  | x :: xs, j, 0, d, h => by simp at h; subst h; simp [enumI]
  | x :: xs, j, i + 1, d, h => by
    have := enumI_get (xs := xs) (j := j + 1) (i := i) (by simpa using h)
    simp only [enumI, List.getElem?_cons_succ, this, Option.some.injEq, PyData.tuple.injEq, List.cons.injEq, PyData.int.injEq, and_true]
    omega
theorem zipI_length : ∀ {xs ys : List D}, (zipI xs ys).length = min xs.length ys.length
  | [], _ => by simp [zipI]
  | _ :: _, [] => by simp [zipI]
  | _ :: xs, _ :: ys => by simp only [zipI, List.length_cons, zipI_length]; omega
theorem zipI_get : ∀ {xs ys : List D} {i : Nat} {d d' : D}, xs[i]? = some d → ys[i]? = some d' → (zipI xs ys)[i]? = some (.tuple [d, d'])
  | [], _, _, _, _, h, _ => by simp at h
  | _ :: _, [], _, _, _, _, h => by simp at h
  | x :: xs, y :: ys, 0, d, d', h, h' => by simp at h h'; subst h h'; simp [zipI]
  | x :: xs, y :: ys, i + 1, d, d', h, h' => by
    have := zipI_get (xs := xs) (ys := ys) (i := i) (by simpa using h) (by simpa using h')
    simpa [zipI] using this
theorem feeds_enum {a : Addr} {vs : List V} {xs : List D} (h : ∀ Z1 H1, Le Z H Z1 H1 → KeepG G H H1 → H1 a = some (.lst vs) ∧ EncDs K Z1 H1 vs xs) : Feeds K Z H G (Ite K a) (enumI 0 xs) := by
  have hl : vs.length = xs.length := (h Z H Le.refl KeepG.refl).2.length
  have w := walk_enum (K := K) (a := a) (xs := vs)
  rw [hl, ← enumI_length (i := 0)] at w
  refine feeds_pair w (fun Z1 H1 l k => SqL.of (h Z1 H1 l k).1) fun i Z1 H1 x y hi l k hx hy => ?_
  rw [enumI_length] at hi
  cases hx
  obtain ⟨u, h1, h2⟩ := (h Z1 H1 l k).2.get (lt_get hi)
  rw [hy] at h1; cases h1
  refine ⟨_, _, ?_, .int _, h2⟩
  have := enumI_get (j := 0) (lt_get hi)
  rw [this]
  congr 4
  omega
theorem feeds_enumT {a : Addr} {vs : List V} {xs : List D} (h : SqT K H a vs) (es : EncDs K Z H vs xs) : Feeds K Z H G (IteT K a) (enumI 0 xs) := by
  have hl : vs.length = xs.length := es.length
  have w := walk_enumT (K := K) (a := a) (xs := vs)
  rw [hl, ← enumI_length (i := 0)] at w
  refine feeds_pair w (fun Z1 H1 l k => SqT.mono' l h) fun i Z1 H1 x y hi l k hx hy => ?_
  rw [enumI_length] at hi
  cases hx
  obtain ⟨u, h1, h2⟩ := (es.mono l).get (lt_get hi)
  rw [hy] at h1; cases h1
  refine ⟨_, _, ?_, .int _, h2⟩
  have := enumI_get (j := 0) (lt_get hi)
  rw [this]
  congr 4
  omega
theorem feeds_zipL {a b : Addr} {vs ws : List V} {xs ys : List D} (h : ∀ Z1 H1, Le Z H Z1 H1 → KeepG G H H1 → H1 a = some (.lst vs) ∧ EncDs K Z1 H1 vs xs) (h' : ∀ Z1 H1, Le Z H Z1 H1 → KeepG G H H1 → H1 b = some (.lst ws) ∧ EncDs K Z1 H1 ws ys) : Feeds K Z H G (Itz K a b) (zipI xs ys) := by
  have hl : vs.length = xs.length := (h Z H Le.refl KeepG.refl).2.length
  have hl' : ws.length = ys.length := (h' Z H Le.refl KeepG.refl).2.length
  have w := walk_zip (K := K) (a := a) (b := b) (xs := vs) (ys := ws) (n := (zipI xs ys).length) (by rw [zipI_length, hl, hl'])
  refine feeds_pair w (fun Z1 H1 l k => ⟨SqL.of (h Z1 H1 l k).1, SqL.of (h' Z1 H1 l k).1⟩) fun i Z1 H1 x y hi l k hx hy => ?_
  rw [zipI_length] at hi
  obtain ⟨u, h1, h2⟩ := (h Z1 H1 l k).2.get (lt_get (show i < xs.length by omega))
  rw [hx] at h1; cases h1
  obtain ⟨u', h1', h2'⟩ := (h' Z1 H1 l k).2.get (lt_get (show i < ys.length by omega))
  rw [hy] at h1'; cases h1'
  exact ⟨_, _, zipI_get (lt_get (by omega)) (lt_get (by omega)), h2, h2'⟩
theorem walk_zipT {a b : Addr} {xs ys : List V} {n : Nat} (hn : n = min xs.length ys.length) : Walk (RZ.ItzT K a b) n (fun H => SqT K H a xs ∧ SqT K H b ys) (YPair (fun i => xs[i]?) (fun i => ys[i]?)) := by
  subst hn
  refine ⟨fun i _ hi q => ?_, fun _ q => ⟨xs, ys, q.1, q.2, by omega⟩, fun i H v H' _ q y => ?_⟩
  · have h1 : i < xs.length := by omega
    have h2 : i < ys.length := by omega
    exact ⟨xs, ys, xs[i], ys[i], q.1, q.2, by simp [h1], by simp [h2]⟩
  · obtain ⟨T, x, z, h1, h2, h3, h4, h5⟩ := y
    exact ⟨T, x, z, h1, h2, h3, h4 xs q.1, h5 ys q.2⟩
theorem feeds_zipT {a b : Addr} {vs ws : List V} {xs ys : List D} (h : SqT K H a vs) (es : EncDs K Z H vs xs) (h' : SqT K H b ws) (es' : EncDs K Z H ws ys) : Feeds K Z H G (RZ.ItzT K a b) (zipI xs ys) := by
  have hl : vs.length = xs.length := es.length
  have hl' : ws.length = ys.length := es'.length
  have w := walk_zipT (K := K) (a := a) (b := b) (xs := vs) (ys := ws) (n := (zipI xs ys).length) (by rw [zipI_length, hl, hl'])
  refine feeds_pair w (fun Z1 H1 l k => ⟨SqT.mono' l h, SqT.mono' l h'⟩) fun i Z1 H1 x y hi l k hx hy => ?_
  rw [zipI_length] at hi
  obtain ⟨u, h1, h2⟩ := (es.mono l).get (lt_get (show i < xs.length by omega))
  rw [hx] at h1; cases h1
  obtain ⟨u', h1', h2'⟩ := (es'.mono l).get (lt_get (show i < ys.length by omega))
  rw [hy] at h1'; cases h1'
  exact ⟨_, _, zipI_get (lt_get (by omega)) (lt_get (by omega)), h2, h2'⟩
end
section
variable {K : PySem.W.Frag} {mg : Str → Option Value} {W : WX} {m : ME} {ms : List ME} {σ : L2.St} {H : Hp} {fx : List Nat}
theorem HVs.one {Z G : Addr → Prop} {vs : List V} {d : D} (h : HVs K Z G H vs [d]) : ∃ v, vs = [v] ∧ HV K Z G H v d := by
  cases h with
  | cons h t => cases t; exact ⟨_, rfl, h⟩
theorem HVs.two {Z G : Addr → Prop} {vs : List V} {d d' : D} (h : HVs K Z G H vs [d, d']) : ∃ v v', vs = [v, v'] ∧ HV K Z G H v d ∧ HV K Z G H v' d' := by
  cases h with
  | cons h t => cases t with
    | cons h' t => cases t; exact ⟨_, _, rfl, h, h'⟩
theorem HV.int {Z G : Addr → Prop} {v : V} {i : Int} (h : HV K Z G H v (.int i)) : v = .int i := by
  rcases h with h | ⟨a, vs, ys, e1, e2, _⟩
  · cases h; rfl
  · cases e2
theorem HVs.inv {Z G : Addr → Prop} {vs : List V} {ds : List D} {n : Nat} (h : HVs K Z G H vs ds) : vs.length = ds.length := by
  induction h with
  | nil => rfl
  | cons _ _ ih => simp [ih]
/-- from the arguments -/
theorem rd_it {f : List D → Option (List D)} {R : It → Hp → Prop} (h : RdI K T mg fx (itE fx f ms) W σ H R) :
    RdAI K T mg fx ms W σ H fun vs H1 => ∃ Z G ds xs, f ds = some xs ∧ HVs K Z G H1 vs ds ∧ ∀ J, Feeds K Z H1 G J xs → R J H1 := by
  obtain ⟨e, Z, G, s, h⟩ := h
  refine ⟨e, Z, G, s, (h.bind fun _ z => z).imp fun p e1 Z1 H1 l k h vs s1 hk hv => ?_⟩
  cases q1 : f p.1 with
  | none => rw [q1] at h; exact h.elim
  | some xs =>
    rw [q1] at h
    exact ⟨Z1, _, p.1, xs, q1, hv, fun J fd => PostC.ret h J s1 hk fd⟩
theorem RdAI.mono {Q Q' : List V → Hp → Prop} (h : RdAI K T mg fx ms W σ H Q) (f : ∀ vs H1, Q vs H1 → Q' vs H1) : RdAI K T mg fx ms W σ H Q' := by
  obtain ⟨e, Z, G, s, h⟩ := h
  exact ⟨e, Z, G, s, h.imp fun p e1 Z1 H1 l k h vs s1 hk hv => f vs H1 (h vs s1 hk hv)⟩
theorem rng_b {i : Int} (h : rngB i = true) : -(2 ^ 62) ≤ i ∧ i < 2 ^ 62 := by
  unfold rngB at h
  rw [Bool.and_eq_true] at h
  exact ⟨of_decide_eq_true h.1, of_decide_eq_true h.2⟩
theorem rd_range1 {R : It → Hp → Prop} (h : RdI K T mg fx (itE fx rangeF1 ms) W σ H R) : iRng1 (RdAI K T mg fx ms W) σ H R := by
  refine (rd_it h).mono fun vs H1 ⟨Z, G, ds, xs, hf, hv, q⟩ => ?_
  unfold rangeF1 at hf
  split at hf
  · rename_i n
    split at hf
    · rename_i hb
      cases hf
      obtain ⟨v, rfl, h1⟩ := hv.one
      exact ⟨n, by rw [h1.int], (rng_b hb).1, (rng_b hb).2, q _ feeds_range⟩
    · cases hf
  · cases hf
theorem rd_range2 {R : It → Hp → Prop} (h : RdI K T mg fx (itE fx rangeF2 ms) W σ H R) : iRng2 (RdAI K T mg fx ms W) σ H R := by
  refine (rd_it h).mono fun vs H1 ⟨Z, G, ds, xs, hf, hv, q⟩ => ?_
  unfold rangeF2 at hf
  split at hf
  · rename_i i j
    split at hf
    · rename_i hb
      rw [Bool.and_eq_true] at hb
      cases hf
      obtain ⟨v, v', rfl, h1, h2⟩ := hv.two
      exact ⟨i, j, by rw [h1.int, h2.int], ⟨(rng_b hb.1).1, (rng_b hb.1).2, (rng_b hb.2).1, (rng_b hb.2).2⟩, q _ feeds_range⟩
    · cases hf
  · cases hf
theorem rd_zip {R : It → Hp → Prop} {ms : List ME} (h : RdI K T mg fx (itE fx zipF ms) W σ H R) : RZ.iZipA K (RdAI K T mg fx ms W) σ H R := by
  refine (rd_it h).mono fun vs H1 ⟨Z, G, ds, xs, hf, hv, q⟩ => ?_
  unfold zipF at hf
  split at hf
  · cases hf
    obtain ⟨v, v', rfl, h1, h2⟩ := hv.two
    obtain ⟨a, ws, rfl, h3, es, k1⟩ := h1.list
    obtain ⟨b, ws', rfl, h4, es', k2⟩ := h2.list
    exact ⟨a, b, ws, ws', rfl, .inl ⟨SqL.of h3, SqL.of h4, q _ (feeds_zipL k1 k2)⟩⟩
  · cases hf
    obtain ⟨v, v', rfl, h1, h2⟩ := hv.two
    obtain ⟨a, ws, rfl, h3, es⟩ := h1.tuple
    obtain ⟨b, ws', rfl, h4, es'⟩ := h2.tuple
    exact ⟨a, b, ws, ws', rfl, .inr ⟨h3, h4, q _ (feeds_zipT h3 es h4 es')⟩⟩
  · cases hf
theorem rd_enum {R : It → Hp → Prop} {ms : List ME} (h : RdI K T mg fx (itE fx enumF ms) W σ H R) : iEnumA K (RdAI K T mg fx ms W) σ H R := by
  refine (rd_it h).mono fun vs H1 ⟨Z, G, ds, xs, hf, hv, q⟩ => ?_
  unfold enumF at hf
  split at hf
  · cases hf
    obtain ⟨v, rfl, h1⟩ := hv.one
    obtain ⟨a, ws, rfl, h3, es, k1⟩ := h1.list
    exact ⟨a, ws, rfl, .inl ⟨SqL.of h3, q _ (feeds_enum k1)⟩⟩
  · cases hf
    obtain ⟨v, rfl, h1⟩ := hv.one
    obtain ⟨a, ws, rfl, h3, es⟩ := h1.tuple
    exact ⟨a, ws, rfl, .inr ⟨h3, q _ (feeds_enumT h3 es)⟩⟩
  · cases hf
/-- a list or a tuple -/
def iSeq (K : PySem.W.Frag) (ta : TA) : TI := fun σ H R => ta σ H fun vs H1 => ∃ a xs, vs = [.ref a] ∧ ((SqL K H1 a xs ∧ R (Itl K a) H1) ∨ (SqT K H1 a xs ∧ R (Itt K a) H1))
theorem rd_seq {R : It → Hp → Prop} {ms : List ME} (h : RdI K T mg fx (itE fx seqF ms) W σ H R) : iSeq K (RdAI K T mg fx ms W) σ H R := by
  refine (rd_it h).mono fun vs H1 ⟨Z, G, ds, xs, hf, hv, q⟩ => ?_
  unfold seqF at hf
  split at hf
  · rename_i p
    obtain ⟨v, rfl, h1⟩ := hv.one
    rcases seq_cases hf with rfl | rfl
    · obtain ⟨a, ws, rfl, h3, es, k1⟩ := h1.list
      exact ⟨a, ws, rfl, .inl ⟨SqL.of h3, q _ (feeds_list k1)⟩⟩
    · obtain ⟨a, ws, rfl, h3, es⟩ := h1.tuple
      exact ⟨a, ws, rfl, .inr ⟨h3, q _ (feeds_tup h3 es)⟩⟩
  · cases hf
end
section
variable {X : Cx} {tg : Expr}
theorem pi_seq {l : Expr} {tl : TE} (hl : PE X l tl) : PI X tg l (iSeq X.K (tCons tl tNil)) := by
  refine ⟨fun pins s σ H R I h => ?_⟩
  refine thn (hl.run pins s σ H _ I h) fun v s1 ⟨x, H1, I1, r1, q1⟩ => ?_
  obtain ⟨a, xs, e, q1⟩ := q1
  cases e
  cases r1
  rcases q1 with ⟨hq, q⟩ | ⟨hq, q⟩
  · obtain ⟨its, rv, p, hz⟩ := I1.list hq
    refine wpAny_pyIter_list p.isList ?_
    refine ⟨s1.heap.objs.size, [s1.heap.objs.size], _, _, H1, rfl, I1.kept (t' := s1.toks) fun b o e => Heap.get?_push_of_some _ e, turn_list a _, ⟨_, Heap.get?_push_size _ rfl, rfl, rfl⟩, fun b hb => ?_, q⟩
    have e : b = s1.heap.objs.size := by simpa using hb
    subst e
    exact I1.fpOk (Nat.le_refl _) (I1.hok.fresh (Nat.le_refl _))
  · obtain ⟨its, rv, p, hz⟩ := I1.tuple hq
    refine wpAny_pyIter_tuple (show s1.heap.IsTuple a its.toArray from p) ?_
    refine ⟨s1.heap.objs.size, [s1.heap.objs.size], _, _, H1, rfl, I1.kept (t' := s1.toks) fun b o e => Heap.get?_push_of_some _ e, turn_tuple a _, ⟨_, Heap.get?_push_size _ rfl, rfl, rfl⟩, fun b hb => ?_, q⟩
    have e : b = s1.heap.objs.size := by simpa using hb
    subst e
    exact I1.fpOk (Nat.le_refl _) (I1.hok.fresh (Nat.le_refl _))
end
end Ev
end
section
set_option maxHeartbeats 4000000
/-! EvS7: targets, comprehensions. -/
namespace Ev
open PySem PySem.Spec PyProof.Rows L2
variable {T : LT}

def OffEq (is : List Nat) (σ σ' : L2.St) : Prop := σ'.length = σ.length ∧ ∀ j, j ∉ is → σ'[j]? = σ[j]?
theorem OffEq.refl {is : List Nat} {σ : L2.St} : OffEq is σ σ := ⟨rfl, fun _ _ => rfl⟩
theorem OffEq.trans {is js : List Nat} {σ σ1 σ2 : L2.St} (a : OffEq is σ σ1) (b : OffEq js σ1 σ2) : OffEq (is ++ js) σ σ2 :=
  ⟨b.1.trans a.1, fun j h => by
    rw [List.mem_append, not_or] at h
    exact (b.2 j h.2).trans (a.2 j h.1)⟩
theorem get_wipe {σ : L2.St} : ∀ {is : List Nat} {j : Nat}, (wipe σ is)[j]? = if j ∈ is ∧ j < σ.length then some none else σ[j]?
  | [], j => by simp [wipe]
  | i :: is, j => by
    unfold wipe
    rw [List.getElem?_set, wipe_length]
    by_cases h : i = j
    · subst h
      by_cases hl : i < σ.length
      · simp [hl]
      · simp [hl]
    · rw [if_neg h, get_wipe]
      have : j ≠ i := Ne.symm h
      simp [this]
theorem OffEq.wipe {is : List Nat} {σ σ' : L2.St} (h : OffEq is σ σ') : wipe σ' is = wipe σ is := by
  apply List.ext_getElem?
  intro j
  rw [get_wipe, get_wipe, h.1]
  by_cases hj : j ∈ is
  · by_cases hl : j < σ.length
    · rw [if_pos ⟨hj, hl⟩, if_pos ⟨hj, hl⟩]
    · rw [if_neg (fun z => hl z.2), if_neg (fun z => hl z.2), List.getElem?_eq_none (by rw [h.1]; omega), List.getElem?_eq_none (by omega)]
  · rw [if_neg (fun z => hj z.1), if_neg (fun z => hj z.1), h.2 j hj]
theorem wipe_wipe {is : List Nat} {σ : L2.St} : wipe (wipe σ is) is = wipe σ is := by
  apply OffEq.wipe
  exact ⟨wipe_length _ _, fun j hj => by rw [get_wipe, if_neg (fun z => hj z.1)]⟩
theorem gt_wipeS {e : Sl} : ∀ {is : List Nat} {j : Nat} {sv : Sv}, gt (wipeS e is) j = some sv → j ∉ is ∧ gt e j = some sv
  | [], j, sv, h => ⟨by simp, h⟩
  | i :: is, j, sv, h => by
    rcases gt_pt h with ⟨_, z⟩ | ⟨hj, z⟩
    · cases z
    · obtain ⟨h1, h2⟩ := gt_wipeS z
      exact ⟨by simp only [List.mem_cons, not_or]; exact ⟨hj, h1⟩, h2⟩
theorem gt_restS {e0 e : Sl} : ∀ {is : List Nat} {j : Nat} {sv : Sv}, gt (restS e0 e is) j = some sv → (j ∈ is ∧ gt e0 j = some sv) ∨ (j ∉ is ∧ gt e j = some sv)
  | [], j, sv, h => .inr ⟨by simp, h⟩
  | i :: is, j, sv, h => by
    rcases gt_pt h with ⟨rfl, z⟩ | ⟨hj, z⟩
    · exact .inl ⟨by simp, z⟩
    · rcases gt_restS z with ⟨h1, h2⟩ | ⟨h1, h2⟩
      · exact .inl ⟨by simp [h1], h2⟩
      · exact .inr ⟨by simp only [List.mem_cons, not_or]; exact ⟨hj, h1⟩, h2⟩
section
variable {K : PySem.W.Frag} {e : Sl} {σ : L2.St} {H : Hp} {Z G : Addr → Prop}
theorem set_ne {i j : Nat} {v : Option V} (h : j ≠ i) : (σ.set i v)[j]? = σ[j]? := List.getElem?_set_ne (Ne.symm h)
/-- an unchanging value is stored -/
theorem StOk.set_im (s : StOk K T e σ H Z G) {i : Nat} {v : V} {d : D} (hi : i < σ.length) (h : EncD K Z H v d) : StOk K T (pt e i (some (.im d))) (σ.set i (some v)) H Z G := by
  refine ⟨s.tb, s.zs, s.gs, fun j sv q => ?_, fun j k sj sk w q1 q2 o1 o2 e1 e2 => ?_⟩
  · rcases gt_pt q with ⟨rfl, z⟩ | ⟨hj, z⟩
    · cases z; exact ⟨v, List.getElem?_set_self hi, h⟩
    · rw [set_ne hj]; exact s.sl j sv z
  · rcases gt_pt q1 with ⟨_, z⟩ | ⟨h1, z1⟩
    · cases z; cases o1
    · rcases gt_pt q2 with ⟨_, z⟩ | ⟨h2, z2⟩
      · cases z; cases o2
      · rw [set_ne h1] at e1
        rw [set_ne h2] at e2
        exact s.inj j k sj sk w z1 z2 o1 o2 e1 e2
/-- a new one is stored -/
theorem StOk.set_own {i : Nat} {a : Addr} {sv : Sv} (s : StOk K T e σ H Z (fun b => G b ∨ b = a)) (hi : i < σ.length) (ng : ¬ G a) (h : SvOk K T Z G H (.ref a) sv) : StOk K T (pt e i (some sv)) (σ.set i (some (.ref a))) H Z G := by
  have no : ∀ {j : Nat} {sj : Sv}, gt e j = some sj → sj.own = true → σ[j]? = some (some (V.ref a)) → False := fun {j sj} q o e => by
    obtain ⟨_, _, _, _, n⟩ := s.notOwn q o e
    exact n (.inr rfl)
  refine ⟨s.tb.less fun b z => .inl z, s.zs, fun b g => s.gs b (.inl g), fun j sj q => ?_, fun j k sj sk w q1 q2 o1 o2 e1 e2 => ?_⟩
  · rcases gt_pt q with ⟨rfl, z⟩ | ⟨hj, z⟩
    · cases z; exact ⟨_, List.getElem?_set_self hi, h⟩
    · rw [set_ne hj]
      obtain ⟨w, h1, h2⟩ := s.sl j sj z
      refine ⟨w, h1, h2.mono Le.refl fun o b eb => ?_⟩
      obtain ⟨b', _, eb', _, _, n1, n2⟩ := h2.addr o
      rw [eb] at eb'; cases eb'
      exact ⟨rfl, n1, fun g => n2 (.inl g)⟩
  · rcases gt_pt q1 with ⟨rfl, z1⟩ | ⟨h1, z1⟩
    · rw [List.getElem?_set_self hi] at e1; cases e1
      rcases gt_pt q2 with ⟨rfl, z2⟩ | ⟨h2, z2⟩
      · rfl
      · rw [set_ne h2] at e2
        exact (no z2 o2 e2).elim
    · rw [set_ne h1] at e1
      rcases gt_pt q2 with ⟨rfl, z2⟩ | ⟨h2, z2⟩
      · rw [List.getElem?_set_self hi] at e2; cases e2
        exact (no z1 o1 e1).elim
      · rw [set_ne h2] at e2
        exact s.inj j k sj sk w z1 z2 o1 o2 e1 e2
theorem StOk.wiped (s : StOk K T e σ H Z G) (is : List Nat) : StOk K T (wipeS e is) (wipe σ is) H Z G := by
  have at' : ∀ {j : Nat}, j ∉ is → (wipe σ is)[j]? = σ[j]? := fun h => by rw [get_wipe, if_neg (fun z => h z.1)]
  refine ⟨s.tb, s.zs, s.gs, fun j sv q => ?_, fun j k sj sk w q1 q2 o1 o2 e1 e2 => ?_⟩
  · obtain ⟨h1, h2⟩ := gt_wipeS q
    rw [at' h1]; exact s.sl j sv h2
  · obtain ⟨h1, z1⟩ := gt_wipeS q1
    obtain ⟨h2, z2⟩ := gt_wipeS q2
    rw [at' h1] at e1
    rw [at' h2] at e2
    exact s.inj j k sj sk w z1 z2 o1 o2 e1 e2
/-- behind the block -/
theorem StOk.rested {e0 : Sl} {Z0 G0 : Addr → Prop} {H0 : Hp} {is : List Nat} (s : StOk K T e (wipe σ is) H Z G) (s0 : StOk K T e0 σ H0 Z0 G0) (l : Le Z0 H0 Z H) (im : imOnly e0 is = true) : StOk K T (restS e0 e is) σ H Z G := by
  have at' : ∀ {j : Nat}, j ∉ is → (wipe σ is)[j]? = σ[j]? := fun h => by rw [get_wipe, if_neg (fun z => h z.1)]
  have imm : ∀ {j : Nat} {sv : Sv}, j ∈ is → gt e0 j = some sv → ∃ d, sv = .im d := fun {j sv} hj q => by
    unfold imOnly at im
    rw [List.all_eq_true] at im
    have := im j hj
    rw [q] at this
    cases sv with
    | im d => exact ⟨d, rfl⟩
    | ol d => cases this
    | od d => cases this
    | ex d => cases this
  refine ⟨s.tb, s.zs, s.gs, fun j sv q => ?_, fun j k sj sk w q1 q2 o1 o2 e1 e2 => ?_⟩
  · rcases gt_restS q with ⟨hj, z⟩ | ⟨hj, z⟩
    · obtain ⟨d, rfl⟩ := imm hj z
      obtain ⟨v, h1, h2⟩ := s0.sl j _ z
      exact ⟨v, h1, EncD.mono l h2⟩
    · rw [← at' hj]; exact s.sl j sv z
  · rcases gt_restS q1 with ⟨hj, z⟩ | ⟨h1, z1⟩
    · obtain ⟨d, rfl⟩ := imm hj z
      cases o1
    · rcases gt_restS q2 with ⟨hj, z⟩ | ⟨h2, z2⟩
      · obtain ⟨d, rfl⟩ := imm hj z
        cases o2
      · rw [← at' h1] at e1
        rw [← at' h2] at e2
        exact s.inj j k sj sk w z1 z2 o1 o2 e1 e2
/-- a kept object is written by the one who keeps it -/
theorem le_write {a : Addr} {u w : HO} (h : H a = some u) (mu : Md u) (nz : ¬ Z a) : Le Z H Z (upd H a w) :=
  ⟨fun _ h => h, fun b z => upd_ne (fun e => nz (e ▸ z)), fun b xs e => by
    rw [upd_ne (fun z => by subst z; rw [h] at e; cases e; exact mu)]; exact e, fun b o x e => by
    rw [upd_ne (fun z => by subst z; rw [h] at e; cases e; exact mu)]; exact e⟩
/-- a table stands where another thing is written -/
theorem TbOk.write {T : LT} {H : Hp} {Z G : Addr → Prop} (t : TbOk T H Z G) {a : Addr} {u : HO} {ws : List V} (h : H a = some u) (mu : Md u) : TbOk T (upd H a (.lst ws)) Z G := by
  have ne : ∀ {c o}, H c = some o → (Md o → False) → upd H a (.lst ws) c = some o := fun {c o} e n => by
    rw [upd_ne (fun z => by subst z; rw [h] at e; cases e; exact n mu)]; exact e
  refine ⟨fun p hp => ?_, fun b z ps e => ?_, fun b g => ?_⟩
  · obtain ⟨ps, h1, h2, h3⟩ := t.1 p hp
    refine ⟨ps, ne h1 fun m => m, h2, fun pos cv hc => ?_⟩
    obtain ⟨c, e1, e2⟩ := h3 pos cv hc
    exact ⟨c, e1, ne e2 fun m => m⟩
  · by_cases hb : b = a
    · subst hb; rw [upd_same] at e; cases e
    · rw [upd_ne hb] at e; exact t.2.1 b z ps e
  · by_cases hb : b = a
    · subst hb; exact ⟨_, upd_same, trivial⟩
    · rw [upd_ne hb]; exact t.2.2 b g
theorem StOk.write (s : StOk K T e σ H Z G) {a : Addr} {u : HO} {ws : List V} (h : H a = some u) (mu : Md u) (g : G a) : StOk K T e σ (upd H a (.lst ws)) Z G := by
  have l := le_write (w := .lst ws) h mu (s.gs a g).2
  have some : ∀ {b}, H b ≠ none → upd H a (.lst ws) b ≠ none := fun {b} hb => by
    by_cases e : b = a
    · subst e; rw [upd_same]; simp
    · rw [upd_ne e]; exact hb
  refine ⟨s.tb.write h mu, fun b z => some (s.zs b z), fun b g => ⟨some (s.gs b g).1, (s.gs b g).2⟩, fun j sv q => ?_, s.inj⟩
  obtain ⟨v, h1, h2⟩ := s.sl j sv q
  refine ⟨v, h1, h2.mono l fun o b eb => ?_⟩
  obtain ⟨b', _, eb', _, _, n1, n2⟩ := h2.addr o
  rw [eb] at eb'; cases eb'
  exact ⟨upd_ne (fun z => n2 (z ▸ g)), n1, n2⟩
end

/-! ### targets -/
def RdG (K : PySem.W.Frag) (T : LT) (fx : List Nat) (t : MT) (is : List Nat) : TG := fun x σ H R => ∃ d e Z G e', StOk K T e σ H Z G ∧ EncD K Z H x d ∧ t d e = some e' ∧ ∀ σ', OffEq is σ σ' → SameF fx σ σ' → StOk K T e' σ' H Z G → R σ' H
def RdGs (K : PySem.W.Frag) (T : LT) (fx : List Nat) (ts : List MT) (is : List Nat) : TGs := fun xs σ H R => ∃ ds e Z G e', StOk K T e σ H Z G ∧ EncDs K Z H xs ds ∧ tupT ts ds e = some e' ∧ ∀ σ', OffEq is σ σ' → SameF fx σ σ' → StOk K T e' σ' H Z G → R σ' H
theorem _root_.L2.PG.weakenL {X : Cx} {tg : Expr} {g g' : TG} (h : PG X tg g) (w : ∀ x σ H R, σ.length = X.N.length → g' x σ H R → g x σ H R) : PG X tg g' := ⟨fun pins s σ H v u Q I r q => h.run pins s σ H v u Q I r (w v σ H Q I.len q)⟩
theorem _root_.L2.PGs.weaken {X : Cx} {ts : List Expr} {g g' : TGs} (h : PGs X ts g) (w : ∀ x σ H R, g' x σ H R → g x σ H R) : PGs X ts g' := ⟨fun pins s σ H v u Q I r q => h.run pins s σ H v u Q I r (w v σ H Q q)⟩
theorem _root_.L2.PS.weakenL {X : Cx} {st : Stmt} {t t' : TS} (h : PS X st t) (w : ∀ D σ H, σ.length = X.N.length → t' D σ H → t D σ H) : PS X st t' := ⟨fun pins s σ H D I q => h.run pins s σ H D I (w D σ H I.len q)⟩
theorem SameF.set {fx : List Nat} {σ : L2.St} {i : Nat} {v : Option V} (h : i ∉ fx) : SameF fx σ (σ.set i v) := ⟨List.length_set, fun j hj => set_ne (fun e => h (e ▸ hj))⟩
theorem stS_some {fx : List Nat} {i : Nat} {v : Sv} {e e' : Sl} (h : stS fx i v e = some e') : i ∉ fx ∧ e' = pt e i (some v) := by
  unfold stS at h
  split at h
  · cases h
  · rename_i hf
    cases h
    exact ⟨by simpa using hf, rfl⟩
section
variable {X : Cx} {K : PySem.W.Frag} {fx : List Nat}
theorem rd_gname {i : Nat} {x : V} {σ : L2.St} {H : Hp} {R : L2.St → Hp → Prop} (hi : i < σ.length) (h : RdG K T fx (nameT fx i) [i] x σ H R) : gName i x σ H R := by
  obtain ⟨d, e, Z, G, e', s, en, q, k⟩ := h
  obtain ⟨hf, rfl⟩ := stS_some q
  exact k _ ⟨List.length_set, fun j hj => set_ne (by simpa using hj)⟩ (SameF.set hf) (s.set_im hi en)
theorem rd_gnil {xs : List V} {σ : L2.St} {H : Hp} {R : L2.St → Hp → Prop} (h : RdGs K T fx [] [] xs σ H R) : gNil xs σ H R := by
  obtain ⟨ds, e, Z, G, e', s, en, q, k⟩ := h
  cases ds with
  | nil =>
    cases en
    cases q
    exact ⟨rfl, k _ OffEq.refl SameF.refl s⟩
  | cons d ds => cases q
theorem rd_gcons {t : MT} {ts : List MT} {is js : List Nat} {xs : List V} {σ : L2.St} {H : Hp} {R : L2.St → Hp → Prop} (h : RdGs K T fx (t :: ts) (is ++ js) xs σ H R) : gCons (RdG K T fx t is) (RdGs K T fx ts js) xs σ H R := by
  obtain ⟨ds, e, Z, G, e', s, en, q, k⟩ := h
  cases ds with
  | nil => cases q
  | cons d ds =>
    cases en with
    | cons en ens =>
      simp only [tupT] at q
      split at q
      · rename_i e1 q1
        exact ⟨_, _, rfl, d, e, Z, G, e1, s, en, q1, fun σ' o1 f1 s1 => ⟨ds, e1, Z, G, e', s1, ens, q, fun σ2 o2 f2 s2 => k σ2 (o1.trans o2) (f1.trans f2) s2⟩⟩
      · cases q
theorem tupT_len : ∀ {ts : List MT} {ds : List D} {e e' : Sl}, tupT ts ds e = some e' → ds.length = ts.length
  | [], [], _, _, _ => rfl
  | t :: ts, d :: ds, e, e', h => by
    simp only [tupT] at h
    split at h
    · exact congrArg (· + 1) (tupT_len h)
    · cases h
  | [], _ :: _, _, _, h => by cases h
  | _ :: _, [], _, _, h => by cases h
theorem rd_gtup {ts : List MT} {is : List Nat} {x : V} {σ : L2.St} {H : Hp} {R : L2.St → Hp → Prop} (h : RdG K T fx (unpT ts) is x σ H R) : gTup K ts.length (RdGs K T fx ts is) x σ H R := by
  obtain ⟨d, e, Z, G, e', s, en, q, k⟩ := h
  unfold unpT at q
  split at q
  · rename_i ds
    cases en with
    | tup h hs => exact ⟨_, _, rfl, h, by rw [hs.length]; exact tupT_len q, ds, e, Z, G, e', s, hs, q, k⟩
  · cases q
end

/-! ### comprehensions -/
def WF : WX := fun _ _ _ _ => False
section
variable {K : PySem.W.Frag} {mg : Str → Option Value} {W : WX} {fx : List Nat}
theorem PostC.noer {α β : Type} {σ σ' : L2.St} {Z G G1 : Addr → Prop} {H : Hp} {C : β → Sl → (Addr → Prop) → Hp → Prop} {r : Res α} {f : α → Sl → Res β} (hG : ∀ a, G a → G1 a) (h : PostC K T mg W σ Z G H C ((Ev.noer r).bind f)) :
    PostC K T mg WF σ' Z G1 H (fun a e1 Z1 H1 => PostC K T mg W σ Z1 G H1 C (f a e1)) r := by
  cases r with
  | ok a e => exact fun H' Z' l' k' => PostC.trans l' (k'.less hG) h
  | er x e => exact h.elim
  | bad => exact h.elim
theorem Gh_or {σ : L2.St} {P : Addr → Prop} : ∀ {hid : List (Nat × Sv)} {G : Addr → Prop}, Gh σ (fun a => G a ∨ P a) hid = fun a => Gh σ G hid a ∨ P a
  | [], _ => rfl
  | (i, _) :: r, G => by
    show Gh σ (fun b => (G b ∨ P b) ∨ σ[i]? = some (some (.ref b))) r = _
    have : (fun b => (G b ∨ P b) ∨ σ[i]? = some (some (.ref b))) = fun b => (G b ∨ σ[i]? = some (some (.ref b))) ∨ P b := by
      funext b
      apply propext
      constructor
      · rintro ((h | h) | h)
        · exact .inl (.inl h)
        · exact .inr h
        · exact .inl (.inr h)
      · rintro ((h | h) | h)
        · exact .inl (.inl h)
        · exact .inr h
        · exact .inl (.inr h)
    rw [this, Gh_or]
    rfl
theorem HidOk.or {σ : L2.St} {Z P : Addr → Prop} {H : Hp} : ∀ {hid : List (Nat × Sv)} {G : Addr → Prop}, HidOk K fx σ Z H G hid → (∀ a, Gh σ G hid a → ¬ P a) → HidOk K fx σ Z H (fun a => G a ∨ P a) hid
  | [], _, _, _ => trivial
  | (i, sv) :: r, G, ⟨⟨a, vs, xs, hi, e1, e2, e3, e4, e5⟩, h⟩, k => by
    refine ⟨⟨a, vs, xs, hi, e1, e2, e3, e4, fun z => z.elim e5 fun z => k a (Gh.in (hid := r) (.inr e2)) z⟩, ?_⟩
    have := HidOk.or h k
    have e : (fun b => (G b ∨ P b) ∨ σ[i]? = some (some (.ref b))) = fun b => (G b ∨ σ[i]? = some (some (.ref b))) ∨ P b := by
      funext b
      apply propext
      constructor
      · rintro ((h | h) | h)
        · exact .inl (.inl h)
        · exact .inr h
        · exact .inl (.inr h)
      · rintro ((h | h) | h)
        · exact .inl (.inl h)
        · exact .inr h
        · exact .inl (.inr h)
    rw [e]
    exact this
theorem rd_comp {is : List Nat} {it : MI} {tg : MT} {cond elt : ME} {σ : L2.St} {H : Hp} {Q : VK} (h : RdE K T mg (compE is it tg cond elt) W σ H Q) :
    tLc (RdI K T mg fx it W) (RdG K T fx tg is) (RdT K T mg cond WF) (RdE K T mg elt WF) is σ H Q := by
  obtain ⟨e, Z, G, s, h⟩ := h
  refine ⟨e, Z, G, s, (h.bind fun _ z => z).imp fun m e1 Z1 H1 l k h J s1 hk fd => ?_⟩
  split at h
  case isFalse => exact h.elim
  rename_i im
  intro Dn hD
  have nG : ∀ a, Gh σ G m.hid a → a ≠ Dn := fun a g z => (s1.gs a g).1 (z ▸ hD)
  have nZ : ¬ Z1 Dn := fun z => s1.zs Dn z hD
  -- at each turn
  let GD : Addr → Prop := fun a => Gh σ G m.hid a ∨ a = Dn
  let Pv : Nat → Hp → Prop := fun i H' => ∃ (e' : Sl) (Z' : Addr → Prop) (acc : List D) (vs : List V), StOk K T e' (wipe σ is) H' Z' GD ∧ Le Z1 H1 Z' H' ∧ KeepG (Gh σ G m.hid) H1 H' ∧ H' Dn = some (.lst vs) ∧ EncDs K Z' H' vs acc ∧
    PostC K T mg W σ Z' G H' (CE' K T σ G Q) ((compL is tg cond elt (m.items.drop i) acc e').bind fun acc e2 => .ok (.tl acc) (unhS m.hid (restS e1 e2 is)))
  have hid0 : Le Z1 H1 Z1 (upd H1 Dn (.lst [])) := Same.le (same_new hD) s1.zs
  have keep0 : KeepG (Gh σ G m.hid) H1 (upd H1 Dn (.lst [])) := fun a g => upd_ne (nG a g)
  have p0 : Pv 0 (upd H1 Dn (.lst [])) := by
    refine ⟨wipeS e1 is, Z1, [], [], ?_, hid0, keep0, upd_same, .nil, ?_⟩
    · have s2 : StOk K T e1 σ (upd H1 Dn (.lst [])) Z1 GD := by
        have s3 := s1.same (same_new (o := .lst []) hD)
        refine ⟨⟨s3.tb.1, s3.tb.2.1, fun a z => ?_⟩, s3.zs, fun a g => ?_, fun j sv q => ?_, s3.inj⟩
        · rcases z with z | rfl
          · exact s3.tb.2.2 a z
          · exact ⟨_, upd_same, trivial⟩
        · rcases g with g | rfl
          · exact s3.gs a g
          · exact ⟨by rw [upd_same]; simp, nZ⟩
        · obtain ⟨v, h1, h2⟩ := s3.sl j sv q
          refine ⟨v, h1, h2.mono Le.refl fun o a ea => ?_⟩
          subst ea
          obtain ⟨u, h3, _, n1, n2⟩ := s1.notOwn q o h1
          exact ⟨rfl, n1, fun z => z.elim n2 fun z => by rw [z, hD] at h3; cases h3⟩
      exact s2.wiped is
    · exact PostC.trans hid0 (keep0.less fun a g => Gh.in g) h
  refine ⟨fun i mm H' => mm = m.items.length - i ∧ i ≤ m.items.length ∧ Pv i H', ⟨_, rfl, Nat.zero_le _, p0⟩, ?_⟩
  rintro i mm H' ⟨rfl, hi, e', Z', acc, vs, st, l', k', hDn, es, h⟩
  by_cases hlt : i < m.items.length
  case neg =>
    have e0 : i = m.items.length := by omega
    subst e0
    refine .inl ⟨fd.stop Z' H' l' k', ?_⟩
    rw [List.drop_length] at h
    refine PostC.ret h (.ref Dn) ⟨?_, ⟨Dn, vs, rfl, hDn, es⟩, fun a ea g => ?_⟩
    · have s2 := st.rested s1 l' im
      have hk2 := (hk.mono l' k').or (P := fun a => a = Dn) nG
      have e2 : GD = Gh σ (fun a => G a ∨ a = Dn) m.hid := Gh_or.symm
      rw [e2] at s2
      have s3 := unh_ok s2 hk2
      have e3 : Gx G (.ref Dn) (.tl acc) = fun a => G a ∨ a = Dn := by
        funext b
        unfold Gx
        apply propext
        constructor
        · rintro (h | h)
          · exact .inl h
          · cases h; exact .inr rfl
        · rintro (h | h)
          · exact .inl h
          · exact .inr (by rw [h]; rfl)
      rw [e3]
      exact s3
    · cases ea
      exact nG _ (Gh.in g) rfl
  case pos =>
    refine .inr ⟨fd.go i Z' H' hlt l' k', Pv (i + 1), fun H2 p => ⟨m.items.length - (i + 1), by omega, rfl, hlt, p⟩, fun x H2 y => ?_⟩
    obtain ⟨sm, d, hd, en⟩ := fd.yld i Z' H' x H2 hlt l' k' st.zs y
    have st2 := st.same sm
    have l2 : Le Z1 H1 Z' H2 := l'.trans (Same.le sm st.zs)
    have kD : KeepG GD H' H2 := KeepG.of_same sm fun a g => (st.gs a g).1
    have es2 := es.mono (Same.le sm st.zs)
    have dr : m.items.drop i = d :: m.items.drop (i + 1) := by
      rw [List.drop_eq_getElem_cons hlt]
      rw [lt_get hlt] at hd
      cases hd
      rfl
    rw [dr] at h
    have h := PostC.trans (Same.le sm st.zs) (kD.less fun a g => .inl (Gh.in g)) h
    simp only [compL] at h
    cases q1 : tg d e' with
    | none => rw [q1] at h; exact h.elim
    | some e2 =>
      rw [q1] at h
      simp only at h
      have ass : ∀ {α β γ : Type} (r : Res α) (f : α → Sl → Res β) (g : β → Sl → Res γ), (r.bind f).bind g = r.bind fun a e => (f a e).bind g := fun r f g => by cases r <;> rfl
      rw [ass] at h
      refine ⟨d, e', Z', GD, e2, st2, en, q1, fun σ2 off sf st3 => ⟨by rw [off.wipe, wipe_wipe], ?_⟩⟩
      refine ⟨e2, Z', GD, st3, (PostC.noer (σ' := σ2) (fun a g => .inl (Gh.in g)) h).imp fun o e3 Z3 H3 l3 k3 h => ?_⟩
      cases qt : tru o with
      | none => rw [qt] at h; exact h.elim
      | some b =>
        rw [qt] at h
        refine ⟨b, qt, fun st4 => ?_⟩
        have l13 := l2.trans l3
        have k13 : KeepG (Gh σ G m.hid) H1 H3 := ((k'.trans (kD.less fun a g => .inl g))).trans (k3.less fun a g => .inl g)
        have hD3 : H3 Dn = some (.lst vs) := by rw [k3 Dn (.inr rfl), kD Dn (.inr rfl)]; exact hDn
        have back : ∀ {e4 : Sl} {H4 : Hp} {Z4 : Addr → Prop}, StOk K T e4 σ2 H4 Z4 GD → StOk K T (wipeS e4 is) (wipe σ is) H4 Z4 GD := fun {e4 H4 Z4} s => by
          have := s.wiped is
          rw [off.wipe, wipe_wipe] at this
          exact this
        cases b with
        | false =>
          refine iteF ?_
          exact ⟨wipeS e3 is, Z3, acc, vs, back st4, l13, k13, hD3, es2.mono l3, h⟩
        | true =>
          refine iteT ?_
          simp only at h
          rw [ass] at h
          refine ⟨e3, Z3, GD, st4, (PostC.noer (σ' := σ2) (fun a g => .inl (Gh.in g)) h).imp fun y e4 Z4 H4 l4 k4 h v x => ?_⟩
          cases q2 : fzO y e4 with
          | none => rw [q2] at h; exact h.elim
          | some p =>
            obtain ⟨z, e5⟩ := p
            rw [q2] at h
            simp only at h
            obtain ⟨Z5, l5, s5, en5⟩ := fz_ok x q2
            split at h
            case isFalse => exact h.elim
            rename_i hsz
            have hD4 : H4 Dn = some (.lst vs) := by rw [k4 Dn (.inr rfl)]; exact hD3
            have es4 : EncDs K Z5 H4 vs acc := (es2.mono l3).mono (l4.trans l5)
            refine ⟨vs, hD4, by rw [es4.length, ← sizeMax_eq]; exact hsz, ?_⟩
            have nz5 : ¬ Z5 Dn := (s5.gs Dn (.inr rfl)).2
            have lw : Le Z5 H4 Z5 (upd H4 Dn (.lst (vs ++ [v]))) := le_write hD4 trivial nz5
            have kw : KeepG (Gh σ G m.hid) H4 (upd H4 Dn (.lst (vs ++ [v]))) := fun a g => upd_ne (nG a g)
            refine ⟨wipeS e5 is, Z5, acc ++ [z], vs ++ [v], (back s5).write hD4 trivial (.inr rfl), (l13.trans (l4.trans l5)).trans lw, (k13.trans (k4.less fun a g => .inl g)).trans kw, upd_same, (es4.append (.cons en5 .nil)).mono lw, ?_⟩
            exact PostC.trans (l5.trans lw) (kw.less fun a g => Gh.in g) h
end
end Ev
end
section
set_option maxHeartbeats 4000000
/-! EvS8: statements. -/
namespace Ev
open PySem PySem.Spec PyProof.Rows L2
variable {T : LT}

def PostS (K : PySem.W.Frag) (T : LT) (mg : Str → Option Value) (W : WX) (fx : List Nat) (σ : L2.St) (Z G : Addr → Prop) (H : Hp) (D : Ends) : SR → Prop
  | .nx e' => ∀ σ' H' Z', Le Z H Z' H' → KeepG G H H' → SameF fx σ σ' → StOk K T e' σ' H' Z' G → D.nx σ' H'
  | .ct e' => ∀ σ' H' Z', Le Z H Z' H' → KeepG G H H' → SameF fx σ σ' → StOk K T e' σ' H' Z' G → D.ct σ' H'
  | .bk e' => ∀ σ' H' Z', Le Z H Z' H' → KeepG G H H' → SameF fx σ σ' → StOk K T e' σ' H' Z' G → D.bk σ' H'
  | .rt o e' => ∀ v σ' H' Z', Le Z H Z' H' → KeepG G H H' → SameF fx σ σ' → Out K T e' σ' H' Z' G v o → D.rt v H'
  | .er x e' => ∀ cls d σ' H' Z', Le Z H Z' H' → KeepG G H H' → SameF fx σ σ' → StOk K T e' σ' H' Z' G → ExOk K mg Z' x cls d H' → W cls d σ' H'
  | .bad => False
def RdS (K : PySem.W.Frag) (T : LT) (mg : Str → Option Value) (fx : List Nat) (m : MS) (W : WX) : TS := fun D σ H => ∃ e Z G, StOk K T e σ H Z G ∧ PostS K T mg W fx σ Z G H D (m e)
section
variable {K : PySem.W.Frag} {mg : Str → Option Value} {W : WX} {fx : List Nat} {σ σ1 : L2.St} {Z G Z1 G1 : Addr → Prop} {H H1 : Hp} {D D' : Ends}
theorem PostS.trans {r : SR} (l : Le Z H Z1 H1) (k : KeepG G H H1) (f : SameF fx σ σ1) (h : PostS K T mg W fx σ Z G H D r) : PostS K T mg W fx σ1 Z1 G H1 D r := by
  cases r with
  | nx e => exact fun σ' H' Z' l' k' f' s => h σ' H' Z' (l.trans l') (k.trans k') (f.trans f') s
  | ct e => exact fun σ' H' Z' l' k' f' s => h σ' H' Z' (l.trans l') (k.trans k') (f.trans f') s
  | bk e => exact fun σ' H' Z' l' k' f' s => h σ' H' Z' (l.trans l') (k.trans k') (f.trans f') s
  | rt o e => exact fun v σ' H' Z' l' k' f' s => h v σ' H' Z' (l.trans l') (k.trans k') (f.trans f') s
  | er x e => exact fun cls d σ' H' Z' l' k' f' s x => h cls d σ' H' Z' (l.trans l') (k.trans k') (f.trans f') s x
  | bad => exact h
theorem PostS.nx {e : Sl} (s : StOk K T e σ H Z G) (h : PostS K T mg W fx σ Z G H D (.nx e)) : D.nx σ H := h σ H Z Le.refl KeepG.refl SameF.refl s
/-- an expression ahead -/
theorem PostS.st {α : Type} {r : Res α} {f : α → Sl → SR} (hG : ∀ a, G a → G1 a) (h : PostS K T mg W fx σ Z G H D (r.st f)) : PostC K T mg W σ Z G1 H (fun a e1 Z1 H1 => PostS K T mg W fx σ Z1 G H1 D (f a e1)) r := by
  cases r with
  | ok a e => exact fun H' Z' l' k' => PostS.trans l' (k'.less hG) SameF.refl h
  | er x e => exact fun cls d H' Z' l' k' s x => h cls d σ H' Z' l' (k'.less hG) SameF.refl (s.less hG) x
  | bad => exact h
/-- a statement ahead -/
theorem rd_seq2 {a b : MS} (h : RdS K T mg fx (fun e => (a e).bind b) W D σ H) : tSeq (RdS K T mg fx a W) (RdS K T mg fx b W) D σ H := by
  obtain ⟨e, Z, G, s, h⟩ := h
  refine ⟨e, Z, G, s, ?_⟩
  have h : PostS K T mg W fx σ Z G H D ((a e).bind b) := h
  cases q : a e with
  | nx e1 => rw [q] at h; exact fun σ' H' Z' l k f s' => ⟨e1, Z', G, s', PostS.trans l k f h⟩
  | ct e1 => rw [q] at h; exact h
  | bk e1 => rw [q] at h; exact h
  | rt o e1 => rw [q] at h; exact h
  | er x e1 => rw [q] at h; exact h
  | bad => rw [q] at h; exact h
theorem rd_next (h : RdS K T mg fx (fun e => .nx e) W D σ H) : tNext D σ H := by
  obtain ⟨e, Z, G, s, h⟩ := h
  exact PostS.nx s h
theorem rd_brk (h : RdS K T mg fx (fun e => .bk e) W D σ H) : tBreak D σ H := by
  obtain ⟨e, Z, G, s, h⟩ := h
  exact h σ H Z Le.refl KeepG.refl SameF.refl s
theorem rd_ct (h : RdS K T mg fx (fun e => .ct e) W D σ H) : tCont D σ H := by
  obtain ⟨e, Z, G, s, h⟩ := h
  exact h σ H Z Le.refl KeepG.refl SameF.refl s
theorem rd_ret {a : ME} (h : RdS K T mg fx (retS a) W D σ H) : tRet (RdE K T mg a W) D σ H := by
  obtain ⟨e, Z, G, s, h⟩ := h
  exact ⟨e, Z, G, s, (PostS.st (fun _ z => z) h).imp fun o e1 Z1 H1 l k h v x => h v σ H1 Z1 Le.refl KeepG.refl SameF.refl x⟩
theorem rd_retN (h : RdS K T mg fx retN W D σ H) : tRetN D σ H := by
  obtain ⟨e, Z, G, s, h⟩ := h
  exact h .non σ H Z Le.refl KeepG.refl SameF.refl (s.im .non)
theorem rd_expr {a : ME} (h : RdS K T mg fx (exprS a) W D σ H) : tDrop (RdE K T mg a W) D σ H := by
  obtain ⟨e, Z, G, s, h⟩ := h
  exact ⟨e, Z, G, s, (PostS.st (fun _ z => z) h).imp fun o e1 Z1 H1 l k h v x => PostS.nx x.st0 h⟩
theorem PostS.tru {o : Op} {f : Bool → SR} (h : PostS K T mg W fx σ Z G H D (match Ev.tru o with | some true => f true | some false => f false | none => .bad)) : ∃ b, Ev.tru o = some b ∧ PostS K T mg W fx σ Z G H D (f b) := by
  cases qt : Ev.tru o with
  | none => rw [qt] at h; exact h.elim
  | some b =>
    rw [qt] at h
    cases b with
    | true => exact ⟨true, rfl, h⟩
    | false => exact ⟨false, rfl, h⟩
theorem rd_ifS {t : ME} {a b : MS} (h : RdS K T mg fx (ifS t a b) W D σ H) : tIfS (RdT K T mg t W) (RdS K T mg fx a W) (RdS K T mg fx b W) D σ H := by
  obtain ⟨e, Z, G, s, h⟩ := h
  refine ⟨e, Z, G, s, (PostS.st (f := fun o e1 => match tru o with | some true => a e1 | some false => b e1 | none => .bad) (fun _ z => z) h).imp fun o e1 Z1 H1 l k h => ?_⟩
  obtain ⟨bb, qt, h⟩ := PostS.tru (f := fun bb => if bb then a e1 else b e1) h
  refine ⟨bb, qt, fun s1 => ?_⟩
  cases bb with
  | true => exact iteT ⟨e1, Z1, G, s1, h⟩
  | false => exact iteF ⟨e1, Z1, G, s1, h⟩
/-- a name is stored -/
theorem nameG_ok {i : Nat} {o : Op} {e e2 : Sl} {v : V} (hi : i < σ.length) (x : Out K T e σ H Z G v o) (q : nameG fx i o e = some e2) : i ∉ fx ∧ ∃ Z1, Le Z H Z1 H ∧ StOk K T e2 (σ.set i (some v)) H Z1 G := by
  have frame : (fun b => G b ∨ v = .ref b) = fun b => Gx G v (.tl []) b := rfl
  cases o with
  | im d =>
    obtain ⟨hf, rfl⟩ := stS_some q
    exact ⟨hf, Z, Le.refl, x.st0.set_im hi x.ok⟩
  | tl xs =>
    obtain ⟨hf, rfl⟩ := stS_some q
    obtain ⟨a, vs, rfl, h1, es⟩ := x.ok
    have ng := x.ne a rfl
    have s := x.st
    have eg : Gx G (.ref a) (.tl xs) = fun b => G b ∨ b = a := by
      funext b
      unfold Gx
      apply propext
      constructor
      · rintro (h | h)
        · exact .inl h
        · cases h; exact .inr rfl
      · rintro (h | h)
        · exact .inl h
        · exact .inr (by rw [h]; rfl)
    rw [eg] at s
    exact ⟨hf, Z, Le.refl, s.set_own hi ng ⟨a, vs, rfl, h1, es, (s.gs a (.inr rfl)).2, ng⟩⟩
  | td xs =>
    obtain ⟨hf, rfl⟩ := stS_some q
    obtain ⟨a, rfl, h1⟩ := x.ok
    have ng := x.ne a rfl
    have s := x.st
    have eg : Gx G (.ref a) (.td xs) = fun b => G b ∨ b = a := by
      funext b
      unfold Gx
      apply propext
      constructor
      · rintro (h | h)
        · exact .inl h
        · cases h; exact .inr rfl
      · rintro (h | h)
        · exact .inl h
        · exact .inr (by rw [h]; rfl)
    rw [eg] at s
    exact ⟨hf, Z, Le.refl, s.set_own hi ng ⟨a, rfl, h1, (s.gs a (.inr rfl)).2, ng⟩⟩
  | bor j =>
    simp only [nameG] at q
    cases q1 : fzO (.bor j) e with
    | none => rw [q1] at q; cases q
    | some p =>
      obtain ⟨d, e1⟩ := p
      rw [q1] at q
      obtain ⟨hf, rfl⟩ := stS_some q
      obtain ⟨Z1, l, s1, en⟩ := fz_ok x q1
      exact ⟨hf, Z1, l, s1.set_im hi en⟩
theorem rd_asg {a : ME} {i : Nat} (hi : i < σ.length) (h : RdS K T mg fx (asgS (nameG fx i) a) W D σ H) : tAsg (RdE K T mg a W) (gName i) D σ H := by
  obtain ⟨e, Z, G, s, h⟩ := h
  refine ⟨e, Z, G, s, (PostS.st (fun _ z => z) h).imp fun o e1 Z1 H1 l k h v x => ?_⟩
  cases q1 : nameG fx i o e1 with
  | none => rw [q1] at h; exact h.elim
  | some e2 =>
    rw [q1] at h
    obtain ⟨hf, Z2, l2, s2⟩ := nameG_ok hi x q1
    exact h _ H1 Z2 l2 KeepG.refl (SameF.set hf) s2
theorem rd_asgT {a : ME} {t : MT} {is : List Nat} (h : RdS K T mg fx (asgT t a) W D σ H) : tAsg (RdE K T mg a W) (RdG K T fx t is) D σ H := by
  obtain ⟨e, Z, G, s, h⟩ := h
  refine ⟨e, Z, G, s, (PostS.st (fun _ z => z) h).imp fun o e1 Z1 H1 l k h v x => ?_⟩
  cases q1 : fzO o e1 with
  | none => rw [q1] at h; exact h.elim
  | some p =>
    obtain ⟨d, e2⟩ := p
    rw [q1] at h
    simp only at h
    cases q2 : t d e2 with
    | none => rw [q2] at h; exact h.elim
    | some e3 =>
      rw [q2] at h
      obtain ⟨Z2, l2, s2, en⟩ := fz_ok x q1
      exact ⟨d, e2, Z2, G, e3, s2, en, q2, fun σ' off sf st => h σ' H1 Z2 l2 KeepG.refl sf st⟩

/-! ### several names at once -/
def setAll : L2.St → List Nat → List V → L2.St
  | σ, i :: is, v :: vs => (setAll σ is vs).set i (some v)
  | σ, _, _ => σ
theorem setAll_len : ∀ {σ : L2.St} {is : List Nat} {vs : List V}, (setAll σ is vs).length = σ.length
  | σ, i :: is, v :: vs => by unfold setAll; rw [List.length_set, setAll_len]
  | σ, [], _ => by unfold setAll; rfl
  | σ, _ :: _, [] => by unfold setAll; rfl
/-- operands that nothing but the statement holds -/
def NoBor : List Op → Prop
  | [] => True
  | .bor _ :: _ => False
  | _ :: os => NoBor os
theorem Outs.slotsN {e : Sl} {i : Nat} : True := trivial
theorem parG_ok : ∀ {is : List Nat} {os : List Op} {vs : List V} {e e2 : Sl} {G : Addr → Prop}, (∀ i, i ∈ is → i < σ.length) → NoBor os → Outs K T e σ H Z G vs os → parG (is.map (nameG fx)) os e = some e2 →
    is.length = vs.length ∧ SameF fx σ (setAll σ is vs) ∧ StOk K T e2 (setAll σ is vs) H Z G
  | [], [], [], e, e2, G, _, _, h, q => by
    cases q
    exact ⟨rfl, SameF.refl, h⟩
  | [], [], _ :: _, _, _, _, _, _, h, _ => h.elim
  | [], _ :: _, _, _, _, _, _, _, _, q => by cases q
  | _ :: _, [], _, _, _, _, _, _, _, q => by cases q
  | _ :: _, _ :: _, [], _, _, _, _, _, h, _ => h.elim
  | i :: is, o :: os, v :: vs, e, e2, G, hi, nb, h, q => by
    obtain ⟨h1, h2, h3⟩ := h
    simp only [List.map_cons, parG] at q
    cases q1 : parG (is.map (nameG fx)) os e with
    | none => rw [q1] at q; cases q
    | some e1 =>
      rw [q1] at q
      have nb' : NoBor os := by cases o <;> first | exact nb | exact nb.elim
      obtain ⟨hl, sf, s1⟩ := parG_ok (fun j hj => hi j (List.mem_cons_of_mem _ hj)) nb' h3 q1
      have ok : OpOk K Z H (setAll σ is vs) v o := by
        cases o with
        | bor j => exact nb.elim
        | im d => exact h1
        | tl d => exact h1
        | td d => exact h1
      have x : Out K T e1 (setAll σ is vs) H Z G v o := ⟨s1, ok, h2⟩
      have hlt : i < (setAll σ is vs).length := by rw [setAll_len]; exact hi i List.mem_cons_self
      obtain ⟨hf, rest⟩ : i ∉ fx ∧ StOk K T e2 ((setAll σ is vs).set i (some v)) H Z G := by
        cases o with
        | bor j => exact nb.elim
        | im d =>
          obtain ⟨hf, rfl⟩ := stS_some q
          exact ⟨hf, x.st0.set_im hlt x.ok⟩
        | tl d =>
          obtain ⟨hf, Z1, l, s⟩ := nameG_ok hlt x q
          obtain ⟨hf, rfl⟩ := stS_some q
          obtain ⟨a, ws, rfl, h4, es⟩ := x.ok
          have ng := x.ne a rfl
          have s := x.st
          have eg : Gx G (.ref a) (.tl d) = fun b => G b ∨ b = a := by
            funext b
            unfold Gx
            apply propext
            constructor
            · rintro (h | h)
              · exact .inl h
              · cases h; exact .inr rfl
            · rintro (h | h)
              · exact .inl h
              · exact .inr (by rw [h]; rfl)
          rw [eg] at s
          exact ⟨hf, s.set_own hlt ng ⟨a, ws, rfl, h4, es, (s.gs a (.inr rfl)).2, ng⟩⟩
        | td d =>
          obtain ⟨hf, rfl⟩ := stS_some q
          obtain ⟨a, rfl, h4⟩ := x.ok
          have ng := x.ne a rfl
          have s := x.st
          have eg : Gx G (.ref a) (.td d) = fun b => G b ∨ b = a := by
            funext b
            unfold Gx
            apply propext
            constructor
            · rintro (h | h)
              · exact .inl h
              · cases h; exact .inr rfl
            · rintro (h | h)
              · exact .inl h
              · exact .inr (by rw [h]; rfl)
          rw [eg] at s
          exact ⟨hf, s.set_own hlt ng ⟨a, rfl, h4, (s.gs a (.inr rfl)).2, ng⟩⟩
      exact ⟨congrArg (· + 1) hl, sf.trans (SameF.set hf), rest⟩
end
/-- what stands in a parallel assignment -/
def RdAP (K : PySem.W.Frag) (T : LT) (mg : Str → Option Value) (ms : List ME) (W : WX) : TA := fun σ H Q => ∃ e Z G, StOk K T e σ H Z G ∧ PostC K T mg W σ Z G H (fun os e' Z' H' => ∀ vs, NoBor os → Outs K T e' σ H' Z' G vs os → Q vs H') (argsP ms e)
section
variable {K : PySem.W.Frag} {mg : Str → Option Value} {W : WX} {fx : List Nat} {σ σ1 : L2.St} {Z G Z1 G1 : Addr → Prop} {H H1 : Hp} {D D' : Ends} {m : ME} {ms : List ME}
theorem rd_pnil {Q : List V → Hp → Prop} (h : RdAP K T mg [] W σ H Q) : tNil σ H Q := by
  obtain ⟨e, Z, G, s, h⟩ := h
  exact h.ret [] trivial s
theorem rd_pcons {Q : List V → Hp → Prop} (h : RdAP K T mg (m :: ms) W σ H Q) : tCons (RdE K T mg m W) (RdAP K T mg ms W) σ H Q := by
  obtain ⟨e, Z, G, s, h⟩ := h
  refine ⟨e, Z, G, s, (h.bind fun _ z => z).imp fun o e1 Z1 H1 l k h v x => ?_⟩
  have keep : ∀ {o}, (∀ j, o ≠ .bor j) → Out K T e1 σ H1 Z1 G v o → PostC K T mg W σ Z1 G H1 (fun os e' Z' H' => ∀ vs, NoBor os → Outs K T e' σ H' Z' G vs os → Q vs H') ((argsP ms e1).bind fun os e3 => .ok (o :: os) e3) → RdAP K T mg ms W σ H1 fun vs H2 => Q (v :: vs) H2 := by
    intro o no x h
    refine ⟨e1, Z1, Gx G v o, x.st, (PostC.bind (fun _ z => .inl z) h).imp fun os e2 Z2 H2 l2 k2 h vs nb xs => ?_⟩
    refine PostC.ret h (v :: vs) ?_ ⟨x.ok.mono l2 fun a z => k2 a (.inr z), x.ne, xs⟩
    cases o with
    | bor j => exact absurd rfl (no j)
    | im d => exact nb
    | tl d => exact nb
    | td d => exact nb
  cases o with
  | im d => exact keep (o := .im d) (fun j e => nomatch e) x h
  | tl d => exact keep (o := .tl d) (fun j e => nomatch e) x h
  | td d => exact keep (o := .td d) (fun j e => nomatch e) x h
  | bor i =>
    simp only at h
    cases q1 : fzO (.bor i) e1 with
    | none => rw [q1] at h; exact h.elim
    | some p =>
      obtain ⟨d, e2⟩ := p
      rw [q1] at h
      obtain ⟨Z2, l2, s2, en⟩ := fz_ok x q1
      have h := PostC.trans l2 KeepG.refl h
      refine ⟨e2, Z2, G, s2, (PostC.bind (fun _ z => z) h).imp fun os e3 Z3 H3 l3 k3 h vs nb xs => ?_⟩
      have bare : Gx G v (.im d) = G := by
        funext b
        unfold Gx
        apply propext
        exact ⟨fun h => h.elim id fun z => z.elim, .inl⟩
      exact PostC.ret h (v :: vs) nb ⟨en.mono l3, fun a z => z.elim, by rw [bare]; exact xs⟩
def tParN (is : List Nat) (ta : TA) : TS := fun D σ H => ta σ H fun vs H1 => is.length = vs.length ∧ D.nx (setAll σ is vs) H1
theorem rd_par {is : List Nat} (hi : ∀ i, i ∈ is → i < σ.length) (h : RdS K T mg fx (parS (is.map (nameG fx)) ms) W D σ H) : tParN is (RdAP K T mg ms W) D σ H := by
  obtain ⟨e, Z, G, s, h⟩ := h
  refine ⟨e, Z, G, s, (PostS.st (fun _ z => z) h).imp fun os e1 Z1 H1 l k h vs nb xs => ?_⟩
  cases q1 : parG (is.map (nameG fx)) os e1 with
  | none => rw [q1] at h; exact h.elim
  | some e2 =>
    rw [q1] at h
    obtain ⟨hl, sf, s2⟩ := parG_ok hi nb xs q1
    exact ⟨hl, h _ H1 Z1 Le.refl KeepG.refl sf s2⟩

/-- names stored from the left -/
def gNm : List Nat → TGs
  | [] => gNil
  | i :: is => gCons (gName i) (gNm is)
theorem setAll_comm : ∀ {is : List Nat} {vs : List V} {σ : L2.St} {i : Nat} {v : V}, i ∉ is → setAll (σ.set i (some v)) is vs = (setAll σ is vs).set i (some v)
  | [], _, _, _, _, _ => by unfold setAll; rfl
  | _ :: _, [], _, _, _, _ => by unfold setAll; rfl
  | j :: is, w :: vs, σ, i, v, h => by
    have hj : i ≠ j := fun e => h (by rw [e]; exact List.mem_cons_self)
    unfold setAll
    rw [setAll_comm (fun z => h (List.mem_cons_of_mem _ z))]
    exact List.set_comm _ _ hj
theorem gNm_ok {R : L2.St → Hp → Prop} {H : Hp} : ∀ {is : List Nat} {vs : List V} {σ : L2.St}, is.Nodup → is.length = vs.length → R (setAll σ is vs) H → gNm is vs σ H R
  | [], [], σ, _, _, h => ⟨rfl, h⟩
  | [], _ :: _, _, _, e, _ => by cases e
  | _ :: _, [], _, _, e, _ => by cases e
  | i :: is, v :: vs, σ, nd, e, h => by
    obtain ⟨n1, n2⟩ := List.nodup_cons.mp nd
    refine ⟨v, vs, rfl, gNm_ok n2 (Nat.succ.inj e) ?_⟩
    rw [setAll_comm n1]
    exact h
/-- the same by a tuple that is made and taken apart -/
theorem rd_parT {is : List Nat} (nd : is.Nodup) (hl : is.length ≤ sizeLine) (hi : ∀ i, i ∈ is → i < σ.length) (h : RdS K T mg fx (parS (is.map (nameG fx)) ms) W D σ H) : tAsg (tTup (RdAP K T mg ms W)) (gTup K is.length (gNm is)) D σ H := by
  obtain ⟨e, Z, G, s, h⟩ := h
  refine ⟨e, Z, G, s, (PostS.st (fun _ z => z) h).imp fun os e1 Z1 H1 l k h vs nb xs => ?_⟩
  cases q1 : parG (is.map (nameG fx)) os e1 with
  | none => rw [q1] at h; exact h.elim
  | some e2 =>
    rw [q1] at h
    obtain ⟨hl', sf, s2⟩ := parG_ok hi nb xs q1
    refine ⟨by rw [← hl']; exact hl, fun p np => ?_⟩
    have sm : Same H1 (upd H1 p (.tup vs)) := same_new np
    exact ⟨p, vs, rfl, .inl (.inl upd_same), hl'.symm, gNm_ok nd hl' (h _ _ Z1 (Same.le sm s2.zs) (KeepG.of_same sm fun a g => (s2.gs a g).1) sf (s2.same sm))⟩

/-! ### loops -/
theorem rd_for {it : MI} {tg : MT} {is : List Nat} {body : MS} (h : RdS K T mg fx (forS it tg body) W D σ H) : tFor (RdI K T mg fx it W) (RdG K T fx tg is) (RdS K T mg fx body W) D σ H := by
  obtain ⟨e, Z, G, s, h⟩ := h
  refine ⟨e, Z, G, s, (PostS.st (fun _ z => z) h).imp fun m e1 Z1 H1 l k h J s1 hk fd => ?_⟩
  -- the ends behind the loop: what is hidden comes back
  let GH : Addr → Prop := Gh σ G m.hid
  have inG : ∀ a, G a → GH a := fun a g => Gh.in g
  let D2 : Ends := ⟨fun σ' H' => ∃ Z' e', Le Z1 H1 Z' H' ∧ KeepG GH H1 H' ∧ SameF fx σ σ' ∧ StOk K T e' σ' H' Z' GH, D.rt, D.nx, D.ct⟩
  -- what a run of the rest gives
  have fin : ∀ {e' : Sl} {σ' : L2.St} {H' : Hp} {Z' : Addr → Prop}, Le Z1 H1 Z' H' → KeepG GH H1 H' → SameF fx σ σ' → StOk K T e' σ' H' Z' GH → StOk K T (unhS m.hid e') σ' H' Z' G := fun {e' σ' H' Z'} l k f s => by
    have hk2 := (hk.mono l k).slots f
    have e := Gh.eq f (hk.mono l k)
    have s : StOk K T e' σ' H' Z' (Gh σ' G m.hid) := by rw [e]; exact s
    exact unh_ok s hk2
  let Pv : Nat → L2.St → Hp → Prop := fun i σ' H' => ∃ (e' : Sl) (Z' : Addr → Prop), StOk K T e' σ' H' Z' GH ∧ Le Z1 H1 Z' H' ∧ KeepG GH H1 H' ∧ SameF fx σ σ' ∧ PostS K T mg W fx σ' Z' G H' D (endL (unhS m.hid) (forL tg body (m.items.drop i) e'))
  refine ⟨fun i mm σ' H' => mm = m.items.length - i ∧ i ≤ m.items.length ∧ Pv i σ' H', ⟨_, rfl, Nat.zero_le _, e1, Z1, s1, Le.refl, KeepG.refl, SameF.refl, h⟩, ?_⟩
  rintro i mm σ' H' ⟨rfl, hi, e', Z', st, l', k', f', h⟩
  by_cases hlt : i < m.items.length
  case neg =>
    have e0 : i = m.items.length := by omega
    subst e0
    rw [List.drop_length] at h
    exact .inl ⟨fd.stop Z' H' l' k', PostS.nx (fin l' k' f' st) h⟩
  case pos =>
    refine .inr ⟨fd.go i Z' H' hlt l' k', Pv (i + 1), fun σ2 H2 p => ⟨m.items.length - (i + 1), by omega, rfl, hlt, p⟩, fun x H2 y => ?_⟩
    obtain ⟨sm, d, hd, en⟩ := fd.yld i Z' H' x H2 hlt l' k' st.zs y
    have st2 := st.same sm
    have l2 : Le Z' H' Z' H2 := Same.le sm st.zs
    have kH : KeepG GH H' H2 := KeepG.of_same sm fun a g => (st.gs a g).1
    have dr : m.items.drop i = d :: m.items.drop (i + 1) := by
      rw [List.drop_eq_getElem_cons hlt]
      rw [lt_get hlt] at hd
      cases hd
      rfl
    rw [dr] at h
    simp only [forL] at h
    cases q1 : tg d e' with
    | none => rw [q1] at h; exact h.elim
    | some e2 =>
      rw [q1] at h
      simp only at h
      refine ⟨d, e', Z', GH, e2, st2, en, q1, fun σ2 off sf st3 => ?_⟩
      refine ⟨e2, Z', GH, st3, ?_⟩
      have h := PostS.trans l2 (kH.less inG) sf h
      have step : ∀ {e3 : Sl} {σ3 : L2.St} {H3 : Hp} {Z3 : Addr → Prop}, Le Z' H2 Z3 H3 → KeepG GH H2 H3 → SameF fx σ2 σ3 → StOk K T e3 σ3 H3 Z3 GH → PostS K T mg W fx σ2 Z' G H2 D (endL (unhS m.hid) (forL tg body (m.items.drop (i + 1)) e3)) → Pv (i + 1) σ3 H3 :=
        fun {e3 σ3 H3 Z3} l3 k3 f3 s3 h => ⟨e3, Z3, s3, (l'.trans l2).trans l3, (k'.trans kH).trans k3, (f'.trans sf).trans f3, PostS.trans l3 (k3.less inG) f3 h⟩
      cases qb : body e2 with
      | nx e3 => rw [qb] at h; exact fun σ3 H3 Z3 l3 k3 f3 s3 => step l3 k3 f3 s3 h
      | ct e3 => rw [qb] at h; exact fun σ3 H3 Z3 l3 k3 f3 s3 => step l3 k3 f3 s3 h
      | bad => rw [qb] at h; exact h
      | bk e3 =>
        rw [qb] at h
        exact fun σ3 H3 Z3 l3 k3 f3 s3 => h σ3 H3 Z3 l3 (k3.less inG) f3 (fin ((l'.trans l2).trans l3) ((k'.trans kH).trans k3) ((f'.trans sf).trans f3) s3)
      | rt o e3 =>
        rw [qb] at h
        intro v σ3 H3 Z3 l3 k3 f3 x
        refine h v σ3 H3 Z3 l3 (k3.less inG) f3 ⟨?_, x.ok, fun a ha g => x.ne a ha (inG a g)⟩
        have lA := (l'.trans l2).trans l3
        have kA := (k'.trans kH).trans k3
        have fA := (f'.trans sf).trans f3
        have hk2 := ((hk.mono lA kA).or (P := OwnA v o) fun a g ha => x.ne a ha g).slots fA
        have e := Gh.eq fA ((hk.mono lA kA).or (P := OwnA v o) fun a g ha => x.ne a ha g)
        have s : StOk K T e3 σ3 H3 Z3 (Gh σ3 (fun a => G a ∨ OwnA v o a) m.hid) := by
          rw [e, Gh_or]
          exact x.st
        exact unh_ok s hk2
      | er x e3 =>
        rw [qb] at h
        exact fun cls d σ3 H3 Z3 l3 k3 f3 s3 x => h cls d σ3 H3 Z3 l3 (k3.less inG) f3 (fin ((l'.trans l2).trans l3) ((k'.trans kH).trans k3) ((f'.trans sf).trans f3) s3) x
theorem rd_while {t : ME} {body : MS} {w : Nat} (h : RdS K T mg fx (whL t body w) W D σ H) : tWhile (RdT K T mg t W) (RdS K T mg fx body W) D σ H := by
  obtain ⟨e, Z, G, s, h⟩ := h
  refine ⟨fun n σ' H' => ∃ e' Z', StOk K T e' σ' H' Z' G ∧ PostS K T mg W fx σ' Z' G H' D (whL t body n e'), ⟨w, e, Z, s, h⟩, ?_⟩
  rintro n σ' H' ⟨e', Z', s', h⟩
  cases n with
  | zero => exact h.elim
  | succ n =>
    refine ⟨e', Z', G, s', (PostS.st (f := fun o e1 => match tru o with | some true => (match body e1 with | .nx e2 => whL t body n e2 | .ct e2 => whL t body n e2 | .bk e2 => .nx e2 | r => r) | some false => .nx e1 | none => .bad) (fun _ z => z) h).imp fun o e1 Z1 H1 l k h => ?_⟩
    obtain ⟨b, qt, h⟩ := PostS.tru (f := fun b => if b then (match body e1 with | .nx e2 => whL t body n e2 | .ct e2 => whL t body n e2 | .bk e2 => .nx e2 | r => r) else .nx e1) h
    refine ⟨b, qt, fun s1 => ?_⟩
    cases b with
    | false => exact iteF (PostS.nx s1 h)
    | true =>
      refine iteT ⟨fun σ2 H2 => ∃ e2 Z2, StOk K T e2 σ2 H2 Z2 G ∧ PostS K T mg W fx σ2 Z2 G H2 D (whL t body n e2), fun σ2 H2 p => ⟨n, Nat.lt_succ_self n, p⟩, e1, Z1, G, s1, ?_⟩
      simp only [if_true] at h
      cases qb : body e1 with
      | nx e3 => rw [qb] at h; exact fun σ3 H3 Z3 l3 k3 f3 s3 => ⟨e3, Z3, s3, PostS.trans l3 k3 f3 h⟩
      | ct e3 => rw [qb] at h; exact fun σ3 H3 Z3 l3 k3 f3 s3 => ⟨e3, Z3, s3, PostS.trans l3 k3 f3 h⟩
      | bk e3 => rw [qb] at h; exact h
      | rt o e3 => rw [qb] at h; exact h
      | er x e3 => rw [qb] at h; exact h
      | bad => rw [qb] at h; exact h
end
end Ev
end
section
set_option maxHeartbeats 4000000
/-! EvS9: an own list is written; several names stored at once; own exceptions made. -/
namespace Ev
open PySem PySem.Spec PyProof.Rows L2
variable {T : LT}

section
variable {K : PySem.W.Frag} {e : Sl} {σ : L2.St} {H : Hp} {Z G : Addr → Prop}
/-- the object of an own slot is written -/
theorem StOk.slotWrite (s : StOk K T e σ H Z G) {i : Nat} {xs ys : List D} {a : Addr} {ws : List V} {u : HO} (h : gt e i = some (.ol xs)) (hv : σ[i]? = some (some (.ref a))) (hu : H a = some u) (mu : Md u) (es : EncDs K Z (upd H a (.lst ws)) ws ys) :
    StOk K T (pt e i (some (.ol ys))) σ (upd H a (.lst ws)) Z G ∧ Le Z H Z (upd H a (.lst ws)) ∧ KeepG G H (upd H a (.lst ws)) := by
  obtain ⟨u', hu', _, nz, ng⟩ := s.notOwn h rfl hv
  have l := le_write (w := .lst ws) hu mu nz
  have k : KeepG G H (upd H a (.lst ws)) := fun b g => upd_ne (fun e => ng (e ▸ g))
  have sm : ∀ {b}, H b ≠ none → upd H a (.lst ws) b ≠ none := fun {b} hb => by
    by_cases e : b = a
    · subst e; rw [upd_same]; simp
    · rw [upd_ne e]; exact hb
  refine ⟨⟨s.tb.write hu mu, fun b z => sm (s.zs b z), fun b g => ⟨sm (s.gs b g).1, (s.gs b g).2⟩, fun j sv q => ?_, fun j k sj sk w q1 q2 o1 o2 e1 e2 => ?_⟩, l, k⟩
  · rcases gt_pt q with ⟨rfl, z⟩ | ⟨hj, z⟩
    · cases z
      exact ⟨_, hv, a, ws, rfl, upd_same, es, nz, ng⟩
    · obtain ⟨v, h1, h2⟩ := s.sl j sv z
      refine ⟨v, h1, h2.mono l fun o b eb => ?_⟩
      obtain ⟨b', _, eb', _, _, n1, n2⟩ := h2.addr o
      rw [eb] at eb'; cases eb'
      refine ⟨upd_ne (fun z2 => hj ?_), n1, n2⟩
      subst z2
      exact s.inj j i sv _ _ z h o rfl (by rw [h1, eb]) hv
  · have own : ∀ {j : Nat} {sj : Sv}, gt (pt e i (some (Sv.ol ys))) j = some sj → sj.own = true → ∃ sj', gt e j = some sj' ∧ sj'.own = true := fun {j sj} q o => by
      rcases gt_pt q with ⟨rfl, z⟩ | ⟨_, z⟩
      · exact ⟨_, h, rfl⟩
      · exact ⟨sj, z, o⟩
    obtain ⟨sj', p1, p2⟩ := own q1 o1
    obtain ⟨sk', p3, p4⟩ := own q2 o2
    exact s.inj j k sj' sk' w p1 p3 p2 p4 e1 e2
end
theorem isOl_some {o : Option Sv} (h : isOl o = true) : ∃ xs, o = some (.ol xs) := by
  unfold isOl at h
  split at h
  · exact ⟨_, rfl⟩
  · cases h
section
variable {K : PySem.W.Frag} {mg : Str → Option Value} {W : WX} {fx : List Nat} {σ : L2.St} {H : Hp} {D : Ends} {m : ME} {ms : List ME}
theorem rd_mut {i : Nat} {f : List Ev.D → List Ev.D → Option (Ev.D × List Ev.D)} {r : V → List V → Hp → VK → Prop} {Q : VK}
    (hr : ∀ {a : Addr} {vs ws : List V} {xs ys : List Ev.D} {ds : List Ev.D} {res : Ev.D} {H1 : Hp} {Z1 : Addr → Prop} {Q : VK}, f xs ds = some (res, ys) → H1 a = some (.lst vs) → EncDs K Z1 H1 vs xs → EncDs K Z1 H1 ws ds →
      (∀ w us, EncD K Z1 H1 w res → EncDs K Z1 H1 us ys → Q w (upd H1 a (.lst us))) → r (.ref a) ws H1 Q)
    (h : RdE K T mg (mutE i f ms) W σ H Q) : tBM K "list" r (tVar i) (RdAD K T mg ms W) σ H Q := by
  obtain ⟨e, Z, G, s, h⟩ := h
  simp only [mutE] at h
  split at h
  case isFalse => exact h.elim
  rename_i ho
  obtain ⟨xs0, ho⟩ := isOl_some ho
  obtain ⟨v, hv, a, vs0, rfl, h1, es0, nz, ng⟩ := s.sl i _ ho
  refine ⟨.ref a, hv, .inl ⟨rfl, vs0, SqL.of h1⟩, e, Z, G, s, (PostC.bind (fun _ z => z) h).imp fun ds e1 Z1 H1 l k h ws s1 es le => ?_⟩
  split at h
  · rename_i xs q1
    cases q2 : f xs ds with
    | none => rw [q2] at h; exact h.elim
    | some p =>
      obtain ⟨res, ys⟩ := p
      rw [q2] at h
      simp only at h
      obtain ⟨v', hv', a', vs, rfl, h3, es1, nz1, ng1⟩ := s1.sl i _ q1
      rw [hv] at hv'; cases hv'
      refine hr q2 h3 es1 es fun w us ew en => ?_
      have lw := le_write (w := .lst us) h3 trivial nz1
      obtain ⟨s2, l2, k2⟩ := s1.slotWrite (ys := ys) (ws := us) q1 hv h3 trivial (en.mono lw)
      exact h _ Z1 l2 k2 w (s2.im (ew.mono l2))
  · exact h.elim
theorem rd_append {i : Nat} {Q : VK} (h : RdE K T mg (mutE i appF ms) W σ H Q) : tBM K "list" rAppend (tVar i) (RdAD K T mg ms W) σ H Q := by
  refine rd_mut (fun {a vs ws xs ys ds res H1 Z1 Q} q h1 es ed k => ?_) h
  unfold appF at q
  split at q
  · split at q
    · rename_i hl
      cases q
      cases ed with
      | cons en t =>
        cases t
        exact ⟨a, vs, _, rfl, rfl, h1, by rw [es.length, ← sizeMax_eq]; exact hl, k _ _ .non (es.append (.cons en .nil))⟩
    · cases q
  · cases q
theorem rd_extend {i : Nat} {Q : VK} (h : RdE K T mg (mutE i extF ms) W σ H Q) : tBM K "list" rExtend (tVar i) (RdAD K T mg ms W) σ H Q := by
  refine rd_mut (fun {a vs ws xs ys ds res H1 Z1 Q} q h1 es ed k => ?_) h
  unfold extF at q
  split at q
  · split at q
    · rename_i hl
      cases q
      cases ed with
      | cons en t =>
        cases t
        cases en with
        | lst z h2 hs =>
          exact ⟨a, _, vs, _, rfl, rfl, h1, h2, by rw [es.length, hs.length, ← sizeMax_eq]; exact hl, k _ _ .non (es.append hs)⟩
    · cases q
  · cases q
theorem EncDs.eraseIdx {K Z H} : ∀ {vs : List V} {ds : List Ev.D} {k : Nat}, EncDs K Z H vs ds → EncDs K Z H (vs.eraseIdx k) (ds.eraseIdx k)
  | _, _, _, .nil => .nil
  | _, _, 0, .cons _ t => t
  | _, _, k + 1, .cons h t => .cons h (EncDs.eraseIdx (k := k) t)
theorem ixD_seq {n : Nat} {i : Int} : ixD n i = seqIndex? i n := by
  unfold ixD seqIndex?
  simp only
  by_cases h : 0 ≤ i
  · have h1 : ¬ i < 0 := by omega
    rw [if_pos h, if_neg h1]
    by_cases h2 : i < n <;> simp [h, h2]
  · have h1 : i < 0 := by omega
    rw [if_neg h, if_pos h1]
    by_cases h2 : -(n : Int) ≤ i
    · have h3 : 0 ≤ i + n := by omega
      have h4 : i + n < n := by omega
      rw [if_pos h2]
      simp [h3, h4]
    · have h3 : ¬ 0 ≤ i + n := by omega
      rw [if_neg h2]
      simp [h3]
theorem rd_pop {i : Nat} {Q : VK} (h : RdE K T mg (mutE i popF ms) W σ H Q) : tBM K "list" rPopAt (tVar i) (RdAD K T mg ms W) σ H Q := by
  refine rd_mut (fun {a vs ws xs ys ds res H1 Z1 Q} q h1 es ed k => ?_) h
  unfold popF at q
  split at q
  · rename_i j
    split at q
    · rename_i hb
      rw [Bool.and_eq_true, decide_eq_true_eq, decide_eq_true_eq] at hb
      split at q
      · rename_i n hn
        cases q1 : xs[n]? with
        | none => rw [q1] at q; cases q
        | some d =>
          rw [q1] at q
          cases q
          obtain ⟨w, hw, ew⟩ := es.get q1
          cases ed with
          | cons en t =>
            cases t
            cases en
            rw [← es.length, ixD_seq] at hn
            exact ⟨a, vs, j, n, w, rfl, rfl, h1, by omega, by omega, hn, hw, k _ _ ew es.eraseIdx⟩
      · cases q
    · cases q
  · cases q
theorem rd_seti {j : Nat} {ix v : ME} (h : RdS K T mg fx (setiS j setF ix v) W D σ H) : tAsg (RdE K T mg v W) (gSub (tVar j) (RdE K T mg ix W) rSetL) D σ H := by
  obtain ⟨e, Z, G, s, h⟩ := h
  refine ⟨e, Z, G, s, (PostS.st (fun _ z => z) h).imp fun o e1 Z1 H1 l k h w x => ?_⟩
  cases q1 : fzO o e1 with
  | none => rw [q1] at h; exact h.elim
  | some p =>
    obtain ⟨d, e2⟩ := p
    rw [q1] at h
    simp only at h
    obtain ⟨Z2, l2, s2, en⟩ := fz_ok x q1
    split at h
    case isFalse => exact h.elim
    rename_i ho
    obtain ⟨xs0, ho⟩ := isOl_some ho
    obtain ⟨v', hv, a, vs0, rfl, h1, es0, nz, ng⟩ := s2.sl j _ ho
    have h := PostS.trans l2 KeepG.refl SameF.refl h
    refine ⟨.ref a, hv, e2, Z2, G, s2, (PostS.st (fun _ z => z) h).imp fun p e3 Z3 H3 l3 k3 h iv xi => ?_⟩
    cases q3 : vw p e3 with
    | none => rw [q3] at h; exact h.elim
    | some kd =>
      rw [q3] at h
      split at h
      · rename_i kd' xs e0 q4
        cases e0
        cases q5 : setF xs kd d with
        | none => rw [q5] at h; exact h.elim
        | some ys =>
          rw [q5] at h
          unfold setF at q5
          split at q5
          · rename_i i
            cases q6 : ixD xs.length i with
            | none => rw [q6] at q5; cases q5
            | some jj =>
              rw [q6] at q5
              cases q5
              obtain ⟨v'', hv', a', vs, rfl, h3, es1, nz1, ng1⟩ := xi.st0.sl j _ q4
              rw [hv] at hv'; cases hv'
              have iv' := (xi.ok.vw xi.st q3).int
              refine ⟨a, vs, i, jj, rfl, iv', h3, by rw [es1.length, ← ixD_eq]; exact q6, ?_⟩
              have lw := le_write (w := .lst (vs.set jj w)) h3 trivial nz1
              obtain ⟨s5, l5, k5⟩ := xi.st0.slotWrite (ys := xs.set jj d) (ws := vs.set jj w) q4 hv h3 trivial ((EncDs.set (en.mono l3) jj es1).mono lw)
              exact h σ _ Z3 l5 k5 SameF.refl s5
          · cases q5
      · exact h.elim
/-- raise C() -/
theorem rd_raise0 {C : Str} {c : Addr} (hm : mg C = some (.ref c)) (h : RdS K T mg fx (raiseS C) W D σ H) : W (.ref c) none σ H := by
  obtain ⟨e, Z, G, s, h⟩ := h
  exact h (.ref c) none σ H Z Le.refl KeepG.refl SameF.refl s ⟨c, hm, rfl, rfl⟩
end
section
variable {X : Cx}
/-- X() of an own class without own __init__ -/
theorem pmk_own0 {C : Addr} {bmB : List Value} {B newId initId : String} {x : Str} {p pos : Pos} (F : ExcBaseFacts B newId initId bmB) (q : PySem.W.excIn X.K C bmB newId = true) (gC : X.mg x = some (.ref C)) (kC : PySem.W.keepIn X.K (.ref C) = true) (r : Raises X (.ref C)) (hg : Gl X x)
    (hdb : (x == ("__debug__" : Str)) = false := by decide) : PMk X (.Call (.Name x p) [] [] pos) (fun _ H Q => Q (.ref C) none H) := by
  intro pins s σ H Q I h
  refine wpAny_Call_Name_kw (ld_glob I hg gC ?_ hdb)
  refine PySem.W.callWith_K0 I.kIn kC ?_
  show wpAny _ _ (call (.ref C) []) _ _ _
  obtain ⟨bm, N, nm, qn, bs, hdct, sn, sub, ab, col, dd, k0, k1, k2, k3, k5, mN, hC, hN, hni, T⟩ := exc_obj I.kIn q
  refine wpAny_call_exc_subT F T hC hN hni (fun h' e hm => ?_) (by show 0 ≤ sizeLine; exact Nat.zero_le _)
  exact mk_of I hm r h (I.hok.gone hm.new)
end
end Ev
end
section
set_option maxHeartbeats 4000000
/-! EvSa: a, b, c = x, y, z. -/
namespace Ev
open PySem PySem.Spec PyProof.Rows L2
variable {T : LT}

/-- names stored one after another -/
def setF' : L2.St → List Nat → List V → L2.St
  | σ, i :: is, v :: vs => setF' (σ.set i (some v)) is vs
  | σ, _, _ => σ
theorem setF'_snoc : ∀ {is : List Nat} {vs : List V} {σ : L2.St} {i : Nat} {v : V}, is.length = vs.length → setF' σ (is ++ [i]) (vs ++ [v]) = (setF' σ is vs).set i (some v)
  | [], [], _, _, _, _ => rfl
  | j :: is, w :: vs, σ, i, v, h => by
    show setF' (σ.set j (some w)) (is ++ [i]) (vs ++ [v]) = (setF' (σ.set j (some w)) is vs).set i (some v)
    exact setF'_snoc (Nat.succ.inj h)
  | [], _ :: _, _, _, _, h => by cases h
  | _ :: _, [], _, _, _, h => by cases h
theorem setF'_rev : ∀ {is : List Nat} {vs : List V} {σ : L2.St}, is.length = vs.length → setF' σ is.reverse vs.reverse = setAll σ is vs
  | [], [], _, _ => rfl
  | i :: is, v :: vs, σ, h => by
    rw [List.reverse_cons, List.reverse_cons, setF'_snoc (by simpa using Nat.succ.inj h), setF'_rev (Nat.succ.inj h)]
    rfl
  | [], _ :: _, _, h => by cases h
  | _ :: _, [], _, h => by cases h
section
variable {X : Cx}
inductive LocN (X : Cx) : List Str → List Nat → Prop
  | nil : LocN X [] []
  | cons {x : Str} {i : Nat} {ns is} : X.N[i]? = some x → X.env.scope.names.lookup x = some .local → LocN X ns is → LocN X (x :: ns) (i :: is)
theorem LocN.append {ns ms : List Str} {is js : List Nat} (h : LocN X ns is) (h' : LocN X ms js) : LocN X (ns ++ ms) (is ++ js) := by
  induction h with
  | nil => exact h'
  | cons a b _ ih => exact .cons a b ih
theorem LocN.rev {ns : List Str} {is : List Nat} (h : LocN X ns is) : LocN X ns.reverse is.reverse := by
  induction h with
  | nil => exact .nil
  | cons a b _ ih =>
    rw [List.reverse_cons, List.reverse_cons]
    exact ih.append (.cons a b .nil)
theorem LocN.len {ns : List Str} {is : List Nat} (h : LocN X ns is) : ns.length = is.length := by
  induction h with
  | nil => rfl
  | cons _ _ _ ih => simp [ih]
theorem names_ok (hN : X.N.Nodup) {ns : List Str} {is : List Nat} (h : LocN X ns is) : ∀ {pins : List (Addr × Obj)} {σ : L2.St} {H : Hp} {s : Shared} {vs : List V} {us : List Value} {Q : Unit → Shared → Prop}, Inv X pins σ H s → Vals vs us → vs.length = is.length →
    (∀ s', Inv X pins (setF' σ is vs) H s' → Q () s') → wpAny (model X.prog X.w) X.A (assignInOrder (ns.map fun n v => bindName X.env n v) us) Q X.xe s := by
  induction h with
  | nil =>
    intro pins σ H s vs us Q I r hl k
    cases vs with
    | nil => cases r; exact assignInOrder_nil (k s I)
    | cons v vs => cases hl
  | cons hx hloc _ ih =>
    intro pins σ H s vs us Q I r hl k
    cases vs with
    | nil => cases hl
    | cons v vs =>
      cases r with
      | cons r rs =>
        refine assignInOrder_cons (wpAny_bindName (store_ok I hN hx (.inl hloc) r (fun s2 I2 => ?_) (.inr hloc)))
        exact ih I2 rs (Nat.succ.inj hl) k
theorem ps_parN {ns : List Str} {is : List Nat} {ts es : List Expr} {ta : TA} {kt k2 : Nat} {pt pt2 pos : Pos} (hc : X.calm = true) (hN : X.N.Nodup) (hn : LocN X ns is) (hz : ns.length ≤ 3) (ha : PA X es ta)
    (hw : swappedStores [.Tuple ts kt pt] (.Tuple es k2 pt2) X.env = pure (some ns)) : PS X (.Assign [.Tuple ts kt pt] (.Tuple es k2 pt2) pos) (tParN is ta) := by
  refine ⟨fun pins s σ H D I h => ?_⟩
  rw [exec_Assign_arm]
  refine wpAny_bind (wpAny_standAt ?_)
  rw [show swapsWithSole [.Tuple ts kt pt] (.Tuple es k2 pt2) pos.line X.env = pure false from rfl]
  refine wpAny_bind (wpAny_pure ?_)
  rw [if_neg (by decide)]
  refine wpAny_bind (Tuple_ (thn (ha.run _ pins s σ H _ I h) fun us s1 ⟨vs, H1, I1, r1, hl, q1⟩ => ?_))
  have hlen : us.length = ns.length := by rw [← r1.length, ← hl, hn.len]
  refine wpAny_newObj_type ?_ (by show us.toArray.size ≤ sizeLine; rw [List.size_toArray, hlen, sizeLine_eq]; omega)
  have I2 : Inv X pins σ H1 { s1 with heap := s1.heap.push { cls := .type "tuple", data := .seq us.toArray } } := I1.kept (t' := s1.toks) fun b o e => Heap.get?_push_of_some _ e
  rw [hw]
  refine wpAny_bind (wpAny_pure ?_)
  show wpAny (model X.prog X.w) X.A (do rule "assign.swapped-stores"; let items ← unpackItems (.ref s1.heap.objs.size) ns.length none; assignInOrder (ns.reverse.map fun n => bindName X.env n) items.reverse; pure Flow.next) _ _ _
  have hn2 : ns.length = us.toArray.size := by simp [hlen]
  rw [hn2]
  refine wpAny_bind (wpAny_rule (wpAny_bind (unpackItems_tuple (items := us.toArray) (I.ok.hd hc) (IsTup.new s1.heap _) fun h' hx' => ?_)))
  have I3 := I2.kept (h' := h') (t' := s1.toks) fun b o e => hx' b o (Nat.ne_of_lt (Heap.lt_size e)) e
  refine wpAny_bind ?_
  refine names_ok hN hn.rev (vs := vs.reverse) I3 ?_ (by simp [hl]) fun s' I' => wpAny_pure ?_
  · show Vals vs.reverse us.toArray.toList.reverse
    exact Vals.reverse r1
  · rw [setF'_rev hl] at I'
    exact ⟨_, H1, I', q1⟩
end
theorem swp_ok {loc : Str → Bool} {ts es : List Expr} {r : Option (List Str)} {env : Env} {k k2 : Nat} {p p2 : Pos} (hb : env.blockKind = .function) (hl : ∀ id, (env.kindOf id == some .local) = loc id) (h : swp loc ts es = some r) :
    swappedStores [.Tuple ts k p] (.Tuple es k2 p2) env = pure r := by
  have el : loc = fun id => env.kindOf id == some .local := funext fun id => (hl id).symm
  subst el
  let N := ts.filterMap (nameOn (fun id => env.kindOf id == some .local) ((ts.head?.map (·.pos.line)).getD 0))
  have e : swappedStores [.Tuple ts k p] (.Tuple es k2 p2) env = (if (!(ts.length == 2 || ts.length == 3) || es.length != ts.length || env.blockKind != .function) = true then pure none else if es.any isStar = true then pure none else
      if (N.length != ts.length || N.eraseDups.length != N.length) = true then pure none else if es.all (foldedForSure 8) = true then pure none else
        if es.all (constantsAlone 8) = true then ((unsupported "assign.tuple-of-constant-expressions:order-of-the-stores" : Sem PUnit) >>= fun _ => pure (some N)) else pure (some N)) := by
    unfold swappedStores
    simp only [pure_bind]
    rfl
  rw [e, hb]
  have h : (if (!(ts.length == 2 || ts.length == 3) || es.length != ts.length) = true then some none else if es.any isStar = true then some none else if (N.length != ts.length || N.eraseDups.length != N.length) = true then some none else
    if es.all (foldedForSure 8) = true then some none else if es.all (constantsAlone 8) = true then none else some (some N)) = some r := h
  rw [show (ScopeKind.function != ScopeKind.function) = false from rfl, Bool.or_false]
  split
  · rename_i c; rw [if_pos c] at h; cases h; rfl
  · rename_i c; rw [if_neg c] at h
    split
    · rename_i c; rw [if_pos c] at h; cases h; rfl
    · rename_i c; rw [if_neg c] at h
      split
      · rename_i c; rw [if_pos c] at h; cases h; rfl
      · rename_i c; rw [if_neg c] at h
        split
        · rename_i c; rw [if_pos c] at h; cases h; rfl
        · rename_i c; rw [if_neg c] at h
          split
          · rename_i c; rw [if_pos c] at h; cases h
          · rename_i c; rw [if_neg c] at h; cases h; rfl
theorem swp_len {loc : Str → Bool} {ts es : List Expr} {ns : List Str} (h : swp loc ts es = some (some ns)) : ns.length ≤ 3 := by
  unfold swp at h
  split at h
  · cases h
  · rename_i c
    split at h
    · cases h
    · split at h
      · cases h
      · rename_i c2
        split at h
        · cases h
        · split at h
          · cases h
          · cases h
            simp only [Bool.or_eq_true, bne_iff_ne, ne_eq, not_or, Decidable.not_not] at c2
            rw [c2.1]
            simp only [Bool.or_eq_true, Bool.not_eq_true', Bool.or_eq_false_iff, beq_eq_false_iff_ne, bne_iff_ne, ne_eq, not_or, not_and, Decidable.not_not] at c
            by_cases h2 : ts.length = 2
            · omega
            · have := c.1 h2
              omega
end Ev
end
section
set_option maxHeartbeats 4000000
/-! EvSb: dict displays, methods that read a list, isinstance of several. -/
namespace Ev
open PySem PySem.Spec PyProof.Rows L2
variable {T : LT}

section
variable {K : PySem.W.Frag} {e : Sl} {σ : L2.St} {H : Hp} {Z G : Addr → Prop}
/-- a new object, kept from now on -/
theorem StOk.fresh (s : StOk K T e σ H Z G) {p : Addr} {o : HO} (hp : H p = none) (mo : Md o) : StOk K T e σ (upd H p o) Z (fun a => G a ∨ a = p) ∧ Le Z H Z (upd H p o) ∧ ¬ G p ∧ ¬ Z p := by
  have nG : ¬ G p := fun g => (s.gs p g).1 hp
  have nZ : ¬ Z p := fun z => s.zs p z hp
  have s3 := s.same (same_new (o := o) hp)
  refine ⟨⟨⟨s3.tb.1, s3.tb.2.1, fun a z => ?_⟩, s3.zs, fun a g => ?_, fun j sv q => ?_, s3.inj⟩, Same.le (same_new hp) s.zs, nG, nZ⟩
  · rcases z with z | rfl
    · exact s3.tb.2.2 a z
    · exact ⟨_, upd_same, mo⟩
  · rcases g with g | rfl
    · exact s3.gs a g
    · exact ⟨by rw [upd_same]; simp, nZ⟩
  · obtain ⟨v, h1, h2⟩ := s3.sl j sv q
    refine ⟨v, h1, h2.mono Le.refl fun o a ea => ?_⟩
    subst ea
    obtain ⟨u, h3, _, n1, n2⟩ := s.notOwn q o h1
    exact ⟨rfl, n1, fun z => z.elim n2 fun z => by rw [z, hp] at h3; cases h3⟩
/-- the same, by any list or dict -/
theorem TbOk.put {a : Addr} {u w : HO} (t : TbOk T H Z G) (h : H a = some u) (mu : Md u) (mw : Md w) : TbOk T (upd H a w) Z G := by
  have ne : ∀ {c o}, H c = some o → (Md o → False) → upd H a w c = some o := fun {c o} e n => by
    rw [upd_ne (fun z => by subst z; rw [h] at e; cases e; exact n mu)]; exact e
  refine ⟨fun p hp => ?_, fun b z ps e => ?_, fun b g => ?_⟩
  · obtain ⟨ps, h1, h2, h3⟩ := t.1 p hp
    refine ⟨ps, ne h1 fun m => m, h2, fun pos cv hc => ?_⟩
    obtain ⟨c, e1, e2⟩ := h3 pos cv hc
    exact ⟨c, e1, ne e2 fun m => m⟩
  · by_cases hb : b = a
    · subst hb; rw [upd_same] at e; cases e; exact mw
    · rw [upd_ne hb] at e; exact t.2.1 b z ps e
  · by_cases hb : b = a
    · subst hb; exact ⟨_, upd_same, mw⟩
    · rw [upd_ne hb]; exact t.2.2 b g
theorem StOk.put (s : StOk K T e σ H Z G) {a : Addr} {u w : HO} (h : H a = some u) (mu : Md u) (mw : Md w) (g : G a) : StOk K T e σ (upd H a w) Z G := by
  have l := le_write (w := w) h mu (s.gs a g).2
  have some : ∀ {b}, H b ≠ none → upd H a w b ≠ none := fun {b} hb => by
    by_cases e : b = a
    · subst e; rw [upd_same]; simp
    · rw [upd_ne e]; exact hb
  refine ⟨s.tb.put h mu mw, fun b z => some (s.zs b z), fun b g => ⟨some (s.gs b g).1, (s.gs b g).2⟩, fun j sv q => ?_, s.inj⟩
  obtain ⟨v, h1, h2⟩ := s.sl j sv q
  refine ⟨v, h1, h2.mono l fun o b eb => ?_⟩
  obtain ⟨b', _, eb', _, _, n1, n2⟩ := h2.addr o
  rw [eb] at eb'; cases eb'
  exact ⟨upd_ne (fun z => n2 (z ▸ g)), n1, n2⟩
end
section
variable {K : PySem.W.Frag} {mg : Str → Option Value} {W : WX} {m ma mb : ME} {σ : L2.St} {H : Hp} {Q : VK}
theorem rd_dnew (h : RdE K T mg (fun e => .ok (.td []) e) W σ H Q) : tDNewK σ H Q := by
  obtain ⟨e, Z, G, s, h⟩ := h
  intro p hp
  exact PostC.fin h s (same_new hp) ⟨p, rfl, hp, .inl ⟨[], upd_same, .nil⟩⟩
theorem key_of {Z : Addr → Prop} {v : V} {d : D} (h : EncD K Z H v d) (k : keyB d = true) : ∃ kk, v = kV kk ∧ d = keyD kk := by
  unfold keyB at k
  split at k
  · cases h; exact ⟨.inl _, rfl, rfl⟩
  · cases h; exact ⟨.inr _, rfl, rfl⟩
  · cases k
theorem rd_disp1 (h : RdE K T mg (dct1E ma mb) W σ H Q) : tDisp [(RdE K T mg ma W, RdE K T mg mb W)] σ H Q := by
  obtain ⟨e, Z, G, s, h⟩ := h
  intro p hp
  obtain ⟨s1, l1, nG, nZ⟩ := s.fresh (o := .dK []) hp trivial
  have kG : KeepG G H (upd H p (.dK [])) := fun a g => upd_ne (fun e => nG (e ▸ g))
  have h := PostC.trans l1 kG h
  refine ⟨e, Z, _, s1, (PostC.bind (fun _ z => .inl z) h).imp fun o e1 Z1 H1 l2 k2 h x ox => ?_⟩
  cases q1 : fzO o e1 with
  | none => rw [q1] at h; exact h.elim
  | some pr =>
    obtain ⟨dk, e2⟩ := pr
    rw [q1] at h
    obtain ⟨Z2, l3, s2, en⟩ := fz_ok ox q1
    have h := PostC.trans l3 KeepG.refl h
    refine ⟨e2, Z2, _, s2, (PostC.bind (fun _ z => .inl z) h).imp fun y e3 Z3 H3 l4 k4 h v oy => ?_⟩
    cases q2 : fzO y e3 with
    | none => rw [q2] at h; exact h.elim
    | some pr =>
      obtain ⟨dv, e4⟩ := pr
      rw [q2] at h
      obtain ⟨Z4, l5, s4, en2⟩ := fz_ok oy q2
      simp only at h
      split at h
      case isFalse => exact h.elim
      rename_i hk
      obtain ⟨kk, rfl, rfl⟩ := key_of en hk
      have hp3 : H3 p = some (.dK []) := by rw [k4 p (.inr rfl), k2 p (.inr rfl)]; exact upd_same
      refine ⟨hp3, [(kk, v)], rfl, Nat.succ_le_of_lt (Nat.succ_pos 14), ?_⟩
      have s5 := s4.put (w := .dK (mergeK [] [(kk, v)])) hp3 trivial trivial (.inr rfl)
      have lw : Le Z4 H3 Z4 (upd H3 p (.dK (mergeK [] [(kk, v)]))) := le_write hp3 trivial (s4.gs p (.inr rfl)).2
      have kw : KeepG G H3 (upd H3 p (.dK (mergeK [] [(kk, v)]))) := fun a g => upd_ne (fun e => nG (e ▸ g))
      refine h _ Z4 (l5.trans lw) kw (.ref p) ⟨?_, ⟨p, rfl, .inl ⟨_, upd_same, .cons (en2.mono lw) .nil⟩⟩, fun a ea g => by cases ea; exact nG g⟩
      have eg : Gx G (.ref p) (.td [(keyD kk, dv)]) = fun b => G b ∨ b = p := by
        funext b
        unfold Gx
        apply propext
        constructor
        · rintro (h | h)
          · exact .inl h
          · cases h; exact .inr rfl
        · rintro (h | h)
          · exact .inl h
          · exact .inr (by rw [h]; rfl)
      rw [eg]
      exact s5
/-- a method that reads a list -/
def rM (K : PySem.W.Frag) (f : List D → D → Option Op) : V → List V → Hp → VK → Prop := fun x vs H Q => ∃ Z xs q o y, (∀ a, Z a → H a ≠ none) ∧ vs = [y] ∧ f xs q = some o ∧ Vw K Z H x (.list xs) ∧ Vw K Z H y q ∧ ∀ w H', Same H H' → NewOk K Z H H' w o → Q w H'
theorem rd_met {f : List D → D → Option Op} (h : RdE K T mg (metE f ma mb) W σ H Q) : tBM K "list" (rM K f) (RdE K T mg ma W) (tCons (RdE K T mg mb W) tNil) σ H Q := by
  obtain ⟨e, Z, G, s, h⟩ := h
  refine ⟨e, Z, G, s, (PostC.bind (fun _ z => z) h).imp fun o1 e1 Z1 H1 l1 k1 h v ox => ?_⟩
  split at h
  · rename_i xs0 q0
    obtain ⟨a, vs0, rfl, h0, _⟩ := (ox.ok.vw ox.st q0).list
    refine ⟨.inl ⟨rfl, vs0, SqL.of h0⟩, e1, Z1, Gx G (.ref a) o1, ox.st, (PostC.bind (fun _ z => .inl z) h).imp fun o2 e2 Z2 H2 l2 k2 h u oy => ?_⟩
    have s2 := oy.st
    split at h
    · rename_i xs q q1 q2
      simp only [lift] at h
      cases q3 : f xs q with
      | none => rw [q3] at h; exact h.elim
      | some o =>
        rw [q3] at h
        have ox2 : OpOk K Z2 H2 σ (.ref a) o1 := ox.ok.mono l2 fun a z => k2 a (.inr z)
        exact ⟨Z2, xs, q, o, u, s2.zs, rfl, q3, ox2.vw s2 q1, oy.ok.vw s2 q2, fun w H3 sm nw => PostC.fin h (s2.less fun a z => .inl (.inl z)) sm nw⟩
    · exact h.elim
  · exact h.elim
end
section
variable {X : Cx}
theorem mt_cnt (hu : X.A.units + 66 < cLine) : MtR X "list.count" (rM X.K cntD) := by
  intro pins s σ H x xs v us Q I rx rxs h
  obtain ⟨Z, ds, q, o, y, zs, rfl, hf, vx, vy, fin⟩ := h
  unfold cntD at hf
  split at hf
  case isFalse => cases hf
  rename_i hc
  rw [Bool.and_eq_true] at hc
  obtain ⟨c1, d1⟩ := shps_ok hc.1
  have hq : PyData.plain q = true ∧ PyData.depth q ≤ 60 := by
    have := hc.2
    unfold shp at this
    rw [Bool.and_eq_true] at this
    exact ⟨this.1, of_decide_eq_true this.2⟩
  obtain ⟨a, vs, rfl, ha, es⟩ := vx.list
  cases rx
  obtain ⟨u, rfl, ru⟩ := rxs.one
  obtain ⟨its, rv, pl, _⟩ := I.list (SqL.of ha)
  obtain ⟨as, h4⟩ := Dp.readsAll I ds vs its (es.dp c1) rv
  obtain ⟨bs, r2⟩ := vy.reads I ru hq.1
  refine PySem.SeqAt.count_list_data pl.isList (by simpa using h4) r2 c1 hq.1 (by omega) ?_
  exact ⟨.int _, H, I.tok _, ⟨_, rfl⟩, fin _ H (Same.refl H) (by have := imI_some hf; subst this; exact EncD.int _)⟩
theorem mt_idx (hu : X.A.units + 66 < cLine) : MtR X "list.index" (rM X.K idxD) := by
  intro pins s σ H x xs v us Q I rx rxs h
  obtain ⟨Z, ds, q, o, y, zs, rfl, hf, vx, vy, fin⟩ := h
  unfold idxD at hf
  split at hf
  case isFalse => cases hf
  rename_i hc
  rw [Bool.and_eq_true, Bool.and_eq_true] at hc
  obtain ⟨⟨hc1, hc2⟩, hc3⟩ := hc
  obtain ⟨c1, d1⟩ := shps_ok hc1
  have hq : PyData.plain q = true ∧ PyData.depth q ≤ 60 := by
    have := hc2
    unfold shp at this
    rw [Bool.and_eq_true] at this
    exact ⟨this.1, of_decide_eq_true this.2⟩
  split at hf
  case h_2 => cases hf
  rename_i j hj
  obtain ⟨a, vs, rfl, ha, es⟩ := vx.list
  cases rx
  obtain ⟨u, rfl, ru⟩ := rxs.one
  obtain ⟨its, rv, pl, hz⟩ := I.list (SqL.of ha)
  obtain ⟨as, h4⟩ := Dp.readsAll I ds vs its (es.dp c1) rv
  obtain ⟨bs, r2⟩ := vy.reads I ru hq.1
  have h4' : PySem.ReadsAll s.heap its.toArray.toList ds as := by simpa using h4
  obtain ⟨hj1, hit, hno⟩ := PySem.SeqAt.hit_at (d := q) h4' c1 hj
  obtain ⟨⟨cls, dd, data, sls⟩, ho, hcl, n, hdt⟩ := pl.isList
  simp only at hcl hdt
  subst hcl hdt
  have hlen := es.length
  have hrl := rv.length
  have hsl := sizeLine_eq
  refine call_meets PySem.F.slot_list_index ⟨_, ho, rfl⟩ PySem.F.entry_list_index (PySem.F.args_list_index_2 _ _)
    (PySem.SeqAt.list_indexAt a its.toArray n dd sls u (fun u => PyData.eqv (PySem.SeqAt.readOf s.heap u) q) j hj1 (by have : its.toArray.size = its.length := by simp
                                                                                                                       omega) hit hno) ⟨ho, PySem.SeqAt.items_plain h4' r2 c1 hq.1 (by omega), ?_⟩
  exact ⟨.int _, H, I.tok _, ⟨_, rfl⟩, fin _ H (Same.refl H) (by have := imI_some hf; subst this; exact EncD.int _)⟩
end
/-! ### isinstance of one of several -/
theorem vw_same {K : PySem.W.Frag} {Z : Addr → Prop} {H H' : Hp} {v : V} {d : D} (h : Vw K Z H v d) (sm : Same H H') (zs : ∀ a, Z a → H a ≠ none) : Vw K Z H' v d := by
  cases h with
  | im h => exact .im (h.mono (Same.le sm zs))
  | lst h hs => exact .lst (sm _ _ h) (hs.mono (Same.le sm zs))
  | dct h =>
    obtain ⟨u, hu, _⟩ := h.some
    exact .dct (h.mono (Same.le sm zs) (by rw [hu]; exact sm _ _ hu))
def tTys : List Ty → TA
  | [] => tNil
  | t :: r => tCons (tC (.ty (tyName t))) (tTys r)
theorem tTys_is : ∀ {ts : List Ty} {σ : L2.St} {H : Hp} {R : List V → Hp → Prop}, R (ts.map fun t => V.ty (tyName t)) H → tTys ts σ H R
  | [], _, _, _, h => h
  | t :: r, σ, H, R, h => tTys_is (ts := r) (R := fun xs H2 => R (V.ty (tyName t) :: xs) H2) h
theorem tys_paired : ∀ (ts : List Ty), Paired ClsV (ts.map fun t => V.ty (tyName t)) (ts.map fun t => Value.type (tyName t))
  | [] => .nil
  | t :: r => .cons (.ty _) (tys_paired r)
theorem kit_several {K : PySem.W.Frag} {Z : Addr → Prop} {H : Hp} {v : V} {d : D} (h : Vw K Z H v d) : ∀ {ts : List Ty} {b : Bool}, tyDs d ts = some b → PySem.W.kitAny K (.type (tyV d)) (ts.map fun t => Value.type (tyName t)) = some b ∧ (ts ≠ [] → TyX K H v (.type (tyV d)))
  | [], b, q => by cases q; exact ⟨kitAny_nil, fun z => absurd rfl z⟩
  | t :: r, b, q => by
    simp only [tyDs] at q
    split at q
    · rename_i e
      cases q
      obtain ⟨h1, h2⟩ := h.tyX e
      exact ⟨kitAny_cons (kit_ty h2) (fun z => Bool.noConfusion z) (fun _ => rfl), fun _ => h1⟩
    · rename_i e
      obtain ⟨h1, h2⟩ := h.tyX e
      obtain ⟨h3, _⟩ := kit_several h q
      exact ⟨kitAny_cons (kit_ty h2) (fun _ => h3) (fun z => Bool.noConfusion z), fun _ => h1⟩
    · cases q
theorem rd_isis {K : PySem.W.Frag} {mg : Str → Option Value} {W : WX} {m : ME} {σ : L2.St} {H : Hp} {Q : VK} {ts : List Ty} (hne : ts ≠ []) (hl : ts.length ≤ sizeLine) (h : RdE K T mg (isisE ts m) W σ H Q) :
    tCB (rIsiT K) (tCons (RdE K T mg m W) (tCons (tTup (tTys ts)) tNil)) σ H Q := by
  obtain ⟨e, Z, G, s, h⟩ := h
  refine ⟨e, Z, G, s, (h.bind fun _ z => z).imp fun o e1 Z1 H1 l k h v x => ?_⟩
  cases q1 : vw o e1 with
  | none => rw [q1] at h; exact h.elim
  | some p =>
    rw [q1] at h
    dsimp only [lift] at h
    cases q2 : tyDs p ts with
    | none => rw [q2] at h; exact h.elim
    | some b =>
      rw [q2] at h
      refine tTys_is ⟨by rw [List.length_map]; exact hl, fun tp np => ?_⟩
      have sm : Same H1 (upd H1 tp (.tup (ts.map fun t => V.ty (tyName t)))) := same_new np
      obtain ⟨h1, h2⟩ := kit_several (vw_same (x.ok.vw x.st q1) sm x.st.zs) q2
      exact ⟨v, tp, _, _, _, b, rfl, upd_same, tys_paired ts, h2 hne, h1, PostC.fin h x.st0 sm (EncD.bl b)⟩
theorem pa_tys {X : Cx} (hb : ∀ t ty, tyOf t = some ty → X.mg t = none) {sc : Scope} (hsc : X.env.scope = sc) : ∀ {es : List Expr} {ts : List Ty}, glBs sc es = true → tysOf es = some ts → PA X es (tTys ts)
  | [], ts, _, h => by cases h; exact pa_nil
  | e :: es, ts, hg, h => by
    cases e <;> first | (cases h; done) | skip
    rename_i t p
    simp only [glBs, Bool.and_eq_true] at hg
    simp only [tysOf] at h
    cases q1 : tyOf t with
    | none => rw [q1] at h; cases h
    | some ty =>
      cases q2 : tysOf es with
      | none => rw [q1, q2] at h; cases h
      | some r =>
        rw [q1, q2] at h
        cases h
        have key : bootBuiltins t = some (.type (tyName ty)) ∧ t ≠ "__name__" ∧ (t == ("__debug__" : Str)) = false := by
          unfold tyOf at q1
          repeat' split at q1
          all_goals first
            | (cases q1; done)
            | (rename_i e; subst e; cases q1; exact ⟨by decide +kernel, by decide, by decide⟩)
        have gl : Gl X t := by
          show X.env.scope.names.lookup t = _
          rw [hsc]
          have := hg.1
          unfold glB at this
          rw [Bool.and_eq_true, Bool.and_eq_true] at this
          have := this.1.1
          split at this
          · assumption
          · cases this
        exact pa_cons (pe_bltn gl (hb t ty q1) key.1 rfl key.2.1 key.2.2) (pa_tys hb hsc hg.2 q2)
theorem pe_isis {X : Cx} {m : ME} {W : WX} {a : Expr} {es : List Expr} {ts : List Ty} {sc : Scope} {k : Nat} {p p2 pos : Pos} (ha : PE X a (RdE X.K T X.mg m W)) (hg : Gl X "isinstance") (hm : X.mg "isinstance" = none) (hb : ∀ t ty, tyOf t = some ty → X.mg t = none) (hsc : X.env.scope = sc) (hgs : glBs sc es = true) (ht : tysOf es = some ts)
    (hne : ts ≠ []) (hl : ts.length ≤ sizeLine) (hst : ∀ e q, a ≠ .Starred e q) : PE X (.Call (.Name "isinstance" p) [a, .Tuple es k p2] [] pos) (RdE X.K T X.mg (isisE ts m) W) := by
  have h1 : starEach [a, .Tuple es k p2] X.env = (false, eval a X.env) :: starEach [.Tuple es k p2] X.env := by
    cases a <;> first | rfl | exact absurd rfl (hst _ _)
  exact (pe_callB call_isiT hg hm (by decide +kernel) (pa_cons ha (pa_cons (pe_tup (pa_tys hb hsc hgs ht)) pa_nil) h1) (he := h1)).weaken fun _ _ _ q => rd_isis hne hl q
end Ev
end
section
set_option maxHeartbeats 4000000
/-! EvL: a lambda handed to a def that calls it: the caller's side. -/
namespace Ev
open PySem PySem.Spec PyProof.Rows L2
variable {T : LT}

section
variable {K : PySem.W.Frag} {e : Sl} {σ : L2.St} {H H' : Hp} {Z Z' G : Addr → Prop}
theorem StOk.bare (s : StOk K T e σ H Z G) : StOk K T [] [] H Z G :=
  ⟨s.tb, s.zs, s.gs, fun i sv q => (by rw [gt_nil] at q; cases q), fun i j si sj v q => (by rw [gt_nil] at q; cases q)⟩
theorem gt_imS : ∀ {e : Sl} {i : Nat} {sv : Sv}, gt (imS e) i = some sv → gt e i = some sv ∧ ∃ d, sv = .im d
  | [], i, sv, h => by rw [show imS [] = [] from rfl, gt_nil] at h; cases h
  | x :: r, 0, sv, h => by
    cases x with
    | none => cases h
    | some y =>
      cases y with
      | im d => cases h; exact ⟨rfl, d, rfl⟩
      | ol d => cases h
      | od d => cases h
      | ex d => cases h
  | x :: r, i + 1, sv, h => by
    have h : gt (imS r) i = some sv := by
      cases x with
      | none => exact h
      | some y => cases y <;> exact h
    exact gt_imS (e := r) h
/-- what does not change; what the slots own is kept -/
theorem StOk.ims (s : StOk K T e σ H Z G) : StOk K T (imS e) σ H Z (fun a => G a ∨ OwnS e σ a) := by
  have own : ∀ {a : Addr}, OwnS e σ a → ∃ u, H a = some u ∧ Md u ∧ ¬ Z a := by
    rintro a ⟨i, sv, h1, h2, h3⟩
    obtain ⟨u, q1, q2, q3, _⟩ := s.notOwn h1 h2 h3
    exact ⟨u, q1, q2, q3⟩
  refine ⟨⟨s.tb.1, s.tb.2.1, fun a g => ?_⟩, s.zs, fun a g => ?_, fun i sv q => ?_, fun i j si sj v q1 q2 o1 => ?_⟩
  · rcases g with g | g
    · exact s.tb.2.2 a g
    · obtain ⟨u, h1, h2, _⟩ := own g; exact ⟨u, h1, h2⟩
  · rcases g with g | g
    · exact s.gs a g
    · obtain ⟨u, h1, _, h3⟩ := own g; exact ⟨by rw [h1]; simp, h3⟩
  · obtain ⟨h1, d, rfl⟩ := gt_imS q
    obtain ⟨v, h2, h3⟩ := s.sl i _ h1
    exact ⟨v, h2, h3⟩
  · obtain ⟨_, d, rfl⟩ := gt_imS q1
    cases o1
/-- later on: what the slots own was kept -/
theorem StOk.later (s : StOk K T e σ H Z G) (l : Le Z H Z' H') (k : KeepG (fun a => G a ∨ OwnS e σ a) H H') (b : StOk K T [] [] H' Z' (fun a => G a ∨ OwnS e σ a)) : StOk K T e σ H' Z' G := by
  refine ⟨b.tb.less fun a g => .inl g, b.zs, fun a g => b.gs a (.inl g), fun i sv q => ?_, s.inj⟩
  obtain ⟨v, h1, h2⟩ := s.sl i sv q
  refine ⟨v, h1, h2.mono l fun o a ea => ?_⟩
  subst ea
  have ow : OwnS e σ a := ⟨i, sv, q, o, h1⟩
  obtain ⟨_, _, _, _, ng⟩ := s.notOwn q o h1
  exact ⟨k a (.inr ow), (b.gs a (.inr ow)).2, ng⟩
theorem StOk.laterIm {Gx : Addr → Prop} (s : StOk K T (imS e) σ H Z Gx) (l : Le Z H Z' H') (b : StOk K T [] [] H' Z' Gx) : StOk K T (imS e) σ H' Z' Gx := by
  refine ⟨b.tb, b.zs, b.gs, fun i sv q => ?_, s.inj⟩
  obtain ⟨v, h1, h2⟩ := s.sl i sv q
  obtain ⟨_, d, rfl⟩ := gt_imS q
  exact ⟨v, h1, EncD.mono l h2⟩
/-- all but the tables stay -/
theorem StOk.extN (s : StOk K T e σ H Z G) (x : LamX.ExtN H H') (t : LamX.Tabs T.tabs H') : StOk K T e σ H' Z G ∧ Le Z H Z H' ∧ KeepG G H H' := by
  have kz : ∀ a, Z a → H' a = H a := fun a z => by
    cases q : H a with
    | none => exact absurd q (s.zs a z)
    | some o => exact x a o q fun ps e => s.tb.2.1 a z ps (by rw [q, e])
  have md : ∀ {a u}, H a = some u → Md u → H' a = some u := fun {a u} h m => x a u h fun ps e => by subst e; exact m
  have kg : KeepG G H H' := fun a g => by
    obtain ⟨u, h, m⟩ := s.tb.2.2 a g
    rw [h]; exact md h m
  have l : Le Z H Z H' := ⟨fun _ z => z, kz, fun a xs h => x a _ h (fun ps e => by cases e), fun a o u h => x a _ h (fun ps e => by cases e)⟩
  refine ⟨⟨⟨t, fun a z ps e => ?_, fun a g => ?_⟩, fun a z => ?_, fun a g => ⟨?_, (s.gs a g).2⟩, fun i sv q => ?_, s.inj⟩, l, kg⟩
  · rw [kz a z] at e; exact s.tb.2.1 a z ps e
  · rw [kg a g]; exact s.tb.2.2 a g
  · rw [kz a z]; exact s.zs a z
  · rw [kg a g]; exact (s.gs a g).1
  · obtain ⟨v, h1, h2⟩ := s.sl i sv q
    refine ⟨v, h1, h2.mono l fun o a ea => ?_⟩
    subst ea
    obtain ⟨u, h3, m, n1, n2⟩ := s.notOwn q o h1
    exact ⟨by rw [h3]; exact md h3 m, n1, n2⟩
theorem frz_ok {fx : List Nat} : ∀ {fv : List Nat} {e : Sl} {Z : Addr → Prop}, StOk K T e σ H Z G → ∃ Z1, Le Z H Z1 H ∧ StOk K T (frzS fx fv e) σ H Z1 G
  | [], e, Z, s => ⟨Z, Le.refl, s⟩
  | i :: r, e, Z, s => by
    unfold frzS
    split
    · exact frz_ok s
    · have go : ∀ {sv : Sv} {d : D} {e1 : Sl}, gt e i = some sv → fzO (.bor i) e = some (d, e1) → ∃ Z1, Le Z H Z1 H ∧ StOk K T (frzS fx r e1) σ H Z1 G := fun {sv d e1} hg q => by
        obtain ⟨v, h1, h2⟩ := s.sl i sv hg
        have x : Out K T e σ H Z G v (.bor i) := ⟨s.less fun a z => z.elim id False.elim, h1, fun a z => z.elim⟩
        obtain ⟨Z1, l1, s1, _⟩ := fz_ok x q
        obtain ⟨Z2, l2, s2⟩ := frz_ok s1 (fx := fx) (fv := r)
        exact ⟨Z2, l1.trans l2, s2⟩
      split
      · rename_i xs hg
        exact go (d := .list xs) hg (by simp only [fzO, hg])
      · rename_i xs hg
        exact go (d := .dict xs) hg (by simp only [fzO, hg])
      · exact frz_ok s
end
/-- what is wanted of what comes of the lambda -/
def LPost (K : PySem.W.Frag) (T : LT) (mg : Str → Option Value) (Z G : Addr → Prop) (H : Hp) (E : XK) (Q : VK) : LRes → Prop
  | .ok d => ∀ v H' Z', Le Z H Z' H' → KeepG G H H' → StOk K T [] [] H' Z' G → EncD K Z' H' v d → Q v H'
  | .er x => ∀ cls dd H' Z', Le Z H Z' H' → KeepG G H H' → StOk K T [] [] H' Z' G → ExOk K mg Z' x cls dd H' → E cls dd H'
def FPost (K : PySem.W.Frag) (T : LT) (Z G : Addr → Prop) (H : Hp) (Q : VK) : CRes → Prop
  | .ok (.im d) _ => ∀ v H' Z', Le Z H Z' H' → KeepG G H H' → StOk K T [] [] H' Z' G → EncD K Z' H' v d → Q v H'
  | _ => False
/-- what the def makes of the lambda -/
def TTd (K : PySem.W.Frag) (T : LT) (mg : Str → Option Value) (L : LRes → CRes) : (XK → Hp → VK → Prop) → Hp → VK → Prop := fun tl H Q => ∃ r Z G, StOk K T [] [] H Z G ∧
  (∀ H' Z', Le Z H Z' H' → KeepG G H H' → StOk K T [] [] H' Z' G → ∀ E Q', LPost K T mg Z' G H' E Q' r → tl E H' Q') ∧ FPost K T Z G H Q (L r)
theorem rd_lam {K : PySem.W.Frag} {mg : Str → Option Value} {W : WX} {m : ME} {σ : L2.St} {H : Hp} {Q : VK} {fx fv : List Nat} {L : LRes → CRes} (h : RdE K T mg (lamE fx fv L m) W σ H Q) :
    LamX.tLam T.tabs (TTd K T mg L) (fun E => RdE K T mg m (fun cls d _ H => E cls d H)) σ H Q := by
  obtain ⟨e, Z, G, s, h⟩ := h
  refine ⟨s.tb.1, fun H1 eN T1 => ?_⟩
  obtain ⟨Z1, l1, s1⟩ := frz_ok (fx := fx) (fv := fv) s
  obtain ⟨s2, l2, k2⟩ := s1.extN eN T1
  have si := s2.ims
  simp only [lamE] at h
  cases qr : lres (m (imS (frzS fx fv e))) with
  | none => rw [qr] at h; exact h.elim
  | some r =>
    rw [qr] at h
    simp only at h
    refine ⟨r, Z1, _, si.bare, fun H' Z' l k st E Q' lp => ⟨imS (frzS fx fv e), Z', _, si.laterIm l st, ?_⟩, ?_⟩
    · cases qm : m (imS (frzS fx fv e)) with
      | bad => rw [qm] at qr; cases qr
      | er x e1 =>
        rw [qm] at qr
        cases qr
        exact fun cls d H'' Z'' l' k' s' ex => lp cls d H'' Z'' l' k' s'.bare ex
      | ok o e1 =>
        rw [qm] at qr
        simp only [lres] at qr
        cases qf : fzO o e1 with
        | none => rw [qf] at qr; cases qr
        | some p =>
          rw [qf] at qr
          cases qr
          intro H'' Z'' l' k' v x
          obtain ⟨Z3, l3, s3, en⟩ := fz_ok x (d := p.1) (e1 := p.2) qf
          exact lp v H'' Z3 (l'.trans l3) k' s3.bare en
    · cases qL : L r with
      | bad => rw [qL] at h; exact h.elim
      | er x fin => rw [qL] at h; exact h.elim
      | ok op fin =>
        rw [qL] at h
        cases op with
        | im d =>
          intro v H' Z' l k st en
          exact h H' Z' ((l1.trans l2).trans l) (k2.trans (k.less fun a g => .inl g)) v ((s2.later l k st).im en)
        | tl d => exact h.elim
        | td d => exact h.elim
        | bor d => exact h.elim
end Ev
end
section
set_option maxHeartbeats 4000000
/-! EvSc: what the evaluator says of an expression is so. -/
namespace Ev
open PySem PySem.Spec PyProof.Rows L2
variable {T : LT}

theorem o1_some {α β : Type} {f : α → β} {o : Option α} {r : β} (h : o1 f o = some r) : ∃ a, o = some a ∧ r = f a := by
  cases o with
  | none => cases h
  | some a => cases h; exact ⟨a, rfl, rfl⟩
theorem o2_some {α β γ : Type} {f : α → β → γ} {o : Option α} {p : Option β} {r : γ} (h : o2 f o p = some r) : ∃ a b, o = some a ∧ p = some b ∧ r = f a b := by
  cases o with
  | none => cases h
  | some a => cases p with
    | none => cases h
    | some b => cases h; exact ⟨a, b, rfl, rfl, rfl⟩
theorem o3_some {α β γ δ : Type} {f : α → β → γ → δ} {o : Option α} {p : Option β} {q : Option γ} {r : δ} (h : o3 f o p q = some r) : ∃ a b c, o = some a ∧ p = some b ∧ q = some c ∧ r = f a b c := by
  cases o with
  | none => cases h
  | some a => cases p with
    | none => cases h
    | some b => cases q with
      | none => cases h
      | some c => cases h; exact ⟨a, b, c, rfl, rfl, rfl, rfl⟩
theorem iff_some {α : Type} {b : Bool} {o : Option α} {r : α} (h : iff b o = some r) : b = true ∧ o = some r := by
  unfold iff at h
  split at h
  · rename_i hb; exact ⟨hb, h⟩
  · cases h
/-- member by member -/
inductive Each {α β : Type} (R : α → β → Prop) : List α → List β → Prop
  | nil : Each R [] []
  | cons {a b as bs} : R a b → Each R as bs → Each R (a :: as) (b :: bs)
theorem allO_each {α β : Type} {f : α → Option β} : ∀ {es : List α} {ms : List β}, allO (es.map f) = some ms → Each (fun e m => f e = some m) es ms
  | [], ms, h => by cases h; exact .nil
  | e :: es, ms, h => by
    obtain ⟨a, b, h1, h2, rfl⟩ := o2_some h
    exact .cons h1 (allO_each h2)
theorem Each.imp {α β : Type} {R R' : α → β → Prop} (f : ∀ a b, R a b → R' a b) : ∀ {as : List α} {bs : List β}, Each R as bs → Each R' as bs
  | _, _, .nil => .nil
  | _, _, .cons h t => .cons (f _ _ h) (Each.imp f t)
theorem Each.len {α β : Type} {R : α → β → Prop} : ∀ {as : List α} {bs : List β}, Each R as bs → as.length = bs.length
  | _, _, .nil => rfl
  | _, _, .cons _ t => congrArg (· + 1) (Each.len t)

theorem visB_ok {sc : Scope} {x : Str} (h : visB sc x = true) : Vis sc x := by
  unfold visB at h
  split at h
  · exact .inl (by assumption)
  · exact .inr (.inl (by assumption))
  · exact .inr (.inr (by assumption))
  · cases h
theorem locB_ok {sc : Scope} {x : Str} (h : locB sc x = true) : Loc sc x := by
  unfold locB at h
  split at h
  · exact .inl (by assumption)
  · exact .inr (by assumption)
  · cases h
theorem glB_ok {sc : Scope} {x : Str} (h : glB sc x = true) : sc.names.lookup x = some .globalImplicit ∧ (x == ("__debug__" : Str)) = false ∧ x ≠ ("__name__" : Str) := by
  unfold glB at h
  rw [Bool.and_eq_true, Bool.and_eq_true] at h
  refine ⟨?_, by simpa using h.1.2, by simpa using h.2⟩
  have := h.1.1
  split at this
  · assumption
  · cases this
theorem ixN_ok : ∀ {N : List Str} {x : Str} {i : Nat}, ixN N x = some i → N[i]? = some x
  | [], _, _, h => by cases h
  | y :: r, x, i, h => by
    unfold ixN at h
    split at h
    · rename_i e
      cases h
      simp [e]
    · cases q : ixN r x with
      | none => rw [q] at h; cases h
      | some j =>
        rw [q] at h
        cases h
        simpa using ixN_ok q
theorem ixN_lt {N : List Str} {x : Str} {i : Nat} (h : ixN N x = some i) : i < N.length := (List.getElem?_eq_some_iff.mp (ixN_ok h)).1
theorem starEach_cons {e : Expr} {es : List Expr} {env : Env} (h : isStar e = false) : starEach (e :: es) env = (false, eval e env) :: starEach es env := by
  cases e <;> first | rfl | cases h
theorem noStar_cons {e : Expr} {es : List Expr} (h : noStar (e :: es) = true) : isStar e = false ∧ noStar es = true := by
  unfold noStar at h
  rw [List.all_cons, Bool.and_eq_true] at h
  exact ⟨by simpa using h.1, h.2⟩
theorem backTo_any {pos : Pos} {env : Env} : ∀ {es : List Expr}, noStar es = true → (backTo pos (starEach es env)).any (·.1) = false
  | [], _ => rfl
  | e :: es, h => by
    obtain ⟨h1, h2⟩ := noStar_cons h
    rw [starEach_cons h1]
    show (false || (backTo pos (starEach es env)).any (·.1)) = false
    rw [backTo_any h2]
    rfl
theorem blkB_eq {N : List Str} {sc scope : Scope} {own : List (Str × Nat)} : blkB N sc scope own = blkC N sc scope own := rfl

def bltNames : List Str := ["len", "sum", "max", "min", "any", "all", "tuple", "list", "abs", "int", "sorted", "range", "enumerate", "zip", "isinstance", "bool", "str", "dict"]
/-- a def that calls the lambda that it gets -/
structure Taker (X : Cx) (k : Nat) (T : LT) (g : Str) (ga : Addr) (fd : FuncData) (a : Str) (L : LRes → CRes) : Prop where
  ex : ∃ (Ng : List Str) (pg : Arguments) (bg : List Stmt) (sg : Scope) (dV kV doc pm cdv ct oc : Value) (an od : Option Addr) (osl : Array (Option Value)), fd = PySem.W.fnOf g g pg bg sg dV kV doc pm an cdv ct ∧
    X.K.lookup ga = some ⟨oc, od, .func fd, osl⟩ ∧ PySem.W.codeIn X.K cdv g = true ∧ FnScope Ng [a] sg ∧ Ng[0]? = some a ∧ Vis sg a ∧
    ∀ X' : Cx, X'.prog = X.prog → X'.w = X.w → X'.K = X.K → X'.mg = X.mg → X'.base = X.base → Room k X'.A → ∀ q, LamX.GivesTo X' Ng g sg ga cdv bg a q (TTd X.K T X.mg L)
  bd : L2.Binds X.K fd [a] []
  nd : (a == ("__debug__" : Str)) = false
  nc : (a == ("__classdict__" : Str)) = false
/-- the class that a name names -/
def ClsIs (mg : Str → Option Value) (y : Str) (cv : Value) : Prop := (∃ C, cv = .ref C ∧ mg y = some (.ref C)) ∨ ∃ t, cv = .type t ∧ mg y = none ∧ bootBuiltins y = some (.type t)
/-- what the evaluator is told of the module is so -/
structure CtxOk (T : LT) (X : Cx) (W : WX) (c : Cfg) (k : Nat) (sc : Scope) : Prop where
  hsc : X.env.scope = sc
  hN : X.N = c.N
  nd : X.N.Nodup
  calm : c.calm = true → X.calm = true
  tk : Takes X W
  room : c.calm = true → Room k X.A
  un : X.A.units + 66 < cLine
  fns : ∀ f br F, c.fns f = some (br, F) → ∃ a fd ps, X.mg f = some (.ref a) ∧ PySem.W.keepIn X.K (.ref a) = true ∧ Binds X.K fd ps [] ∧ FnOk X.prog X.w X.K X.mg X.base (L2.CX X.prog X.w) k a fd ps (SpD X.K T X.mg br.length F)
  blt : ∀ f, f ∈ bltNames → X.mg f = none
  cst : ∀ x d, c.cst x = some d → ∃ u v, X.mg x = some u ∧ RelV v u ∧ ∀ Z H, EncD X.K Z H v d
  fns2 : ∀ f br F, c.fns2 f = some (br, F) → ∃ a fd ps, X.mg f = some (.ref a) ∧ PySem.W.keepIn X.K (.ref a) = true ∧ Binds X.K fd ps [] ∧ FnOk X.prog X.w X.K X.mg X.base (L2.CX X.prog X.w) (k - 2) a fd ps (SpD X.K T X.mg br.length F)
  tab : c.tab = true → 2 ≤ k ∧ ∃ cA P, X.env.code = .ref cA ∧ LamX.TabB X.base X.mg cA P ∧ (P, X.env.qual ++ "<lambda>") ∈ T.tabs ∧ ∀ p ∈ T.tabs, p.1 = P → p.2 = X.env.qual ++ "<lambda>"
  lams : ∀ g L, c.lam g = some L → ∃ ga fd a, X.mg g = some (.ref ga) ∧ PySem.W.keepIn X.K (.ref ga) = true ∧ Taker X k T g ga fd a L
  hot : c.hot = true → ∃ a oe cls d pn X0, T.exc = some (a, cls, d) ∧ T.mg = X.mg ∧ X = L2.Cx.suite X0 a ((a, oe) :: pn) ∧ Zc cls d oe ∧ ∃ vs, oe.data = .fields vs
  sub : ∀ x y b, c.sub x y = some b → ∃ D, X.mg x = some (.ref D) ∧ ExcC X.K D ∧ ∃ cv, ClsIs X.mg y cv ∧ PySem.W.kitOne X.K (.ref D) cv = some b ∧ PySem.W.exmOne X.K (.ref D) cv = some b
/-- which names may be stored; rw: the scope as it is written -/
def StoOk (X : Cx) (rw : Scope) : Prop := ∀ x, locB rw x = true → L2.Loc X.env.scope x ∧ (X.fn x = true ∨ X.env.scope.names.lookup x = some .local)
section
variable {X : Cx} {W : WX} {c : Cfg} {k : Nat} {sc : Scope}
theorem CtxOk.gl (g : CtxOk T X W c k sc) {x : Str} (h : glB sc x = true) : Gl X x := by
  show X.env.scope.names.lookup x = _
  rw [g.hsc]
  exact (glB_ok h).1
theorem CtxOk.vis (g : CtxOk T X W c k sc) {x : Str} (h : visB sc x = true) : Vis X.env.scope x := by
  rw [g.hsc]
  exact visB_ok h
theorem CtxOk.u (g : CtxOk T X W c k sc) : X.A.units + 66 < cLine := by
  have := g.un
  omega
abbrev SE (T : LT) (X : Cx) (W : WX) (e : Expr) (m : ME) : Prop := PE X e (RdE X.K T X.mg m W)
abbrev ST (T : LT) (X : Cx) (W : WX) (e : Expr) (m : ME) : Prop := PT X e (RdT X.K T X.mg m W)

/-! ### lists of expressions -/
theorem pa_D {es : List Expr} {ms : List ME} (h : Each (SE T X W) es ms) : noStar es = true → PA X es (RdAD X.K T X.mg ms W) := by
  induction h with
  | nil => exact fun _ => pa_nil.weaken fun _ _ _ q => rd_nil q
  | cons h _ ih =>
    intro ns
    obtain ⟨h1, h2⟩ := noStar_cons ns
    exact (pa_cons h (ih h2) (starEach_cons h1)).weaken fun _ _ _ q => rd_cons q
theorem pa_O {es : List Expr} {ms : List ME} (h : Each (SE T X W) es ms) : noStar es = true → PA X es (RdAO X.K T X.mg ms W) := by
  induction h with
  | nil => exact fun _ => pa_nil.weaken fun _ _ _ q => rd_onil q
  | cons h _ ih =>
    intro ns
    obtain ⟨h1, h2⟩ := noStar_cons ns
    exact (pa_cons h (ih h2) (starEach_cons h1)).weaken fun _ _ _ q => rd_ocons q
theorem pa_I {fx : List Nat} {es : List Expr} {ms : List ME} (h : Each (SE T X W) es ms) : noStar es = true → PA X es (RdAI X.K T X.mg fx ms W) := by
  induction h with
  | nil => exact fun _ => pa_nil.weaken fun _ _ _ q => rd_inil q
  | cons h _ ih =>
    intro ns
    obtain ⟨h1, h2⟩ := noStar_cons ns
    exact (pa_cons h (ih h2) (starEach_cons h1)).weaken fun _ _ _ q => rd_icons q
theorem pa_P {es : List Expr} {ms : List ME} (h : Each (SE T X W) es ms) : noStar es = true → PA X es (RdAP X.K T X.mg ms W) := by
  induction h with
  | nil => exact fun _ => pa_nil.weaken fun _ _ _ q => rd_pnil q
  | cons h _ ih =>
    intro ns
    obtain ⟨h1, h2⟩ := noStar_cons ns
    exact (pa_cons h (ih h2) (starEach_cons h1)).weaken fun _ _ _ q => rd_pcons q

/-! ### and, or: the value, the test -/
theorem se_and {es : List Expr} {ms : List ME} {pos : Pos} (h : Each (SE T X W) es ms) : SE T X W (.BoolOp .And es pos) (andE ms) := by
  induction h with
  | nil => exact ⟨fun _ _ _ _ _ _ ⟨_, _, _, _, h⟩ => h.elim⟩
  | cons h t ih =>
    cases t with
    | nil => exact pe_one h
    | cons h' t => exact (pe_and h ih).weaken fun _ _ _ q => rd_andV q
theorem se_or {es : List Expr} {ms : List ME} {pos : Pos} (h : Each (SE T X W) es ms) : SE T X W (.BoolOp .Or es pos) (orE ms) := by
  induction h with
  | nil => exact ⟨fun _ _ _ _ _ _ ⟨_, _, _, _, h⟩ => h.elim⟩
  | cons h t ih =>
    cases t with
    | nil => exact pe_one h
    | cons h' t => exact (pe_or h ih).weaken fun _ _ _ q => rd_orV q
theorem sw_and {es : List Expr} {ms : List ME} {pos : Pos} (h : Each (ST T X W) es ms) : PW X (.BoolOp .And es pos) (RdT X.K T X.mg (andE ms) W) := by
  induction h with
  | nil => exact ⟨fun _ _ _ _ _ _ _ ⟨_, _, _, _, h⟩ => h.elim⟩
  | cons h t ih =>
    cases t with
    | nil => exact pw_and1 h
    | cons h' t => exact (pw_and h ih).weaken fun _ _ _ q => rd_andT q
theorem sw_or {es : List Expr} {ms : List ME} {pos : Pos} (h : Each (ST T X W) es ms) : PW X (.BoolOp .Or es pos) (RdT X.K T X.mg (orE ms) W) := by
  induction h with
  | nil => exact ⟨fun _ _ _ _ _ _ _ ⟨_, _, _, _, h⟩ => h.elim⟩
  | cons h t ih =>
    cases t with
    | nil => exact pw_or1 h
    | cons h' t => exact (pw_or h ih).weaken fun _ _ _ q => rd_orT q
/-- a if c else b as a test -/
theorem st_ifE {t a b : Expr} {mt ma mb : ME} {pos : Pos} (ht : ST T X W t mt) (ha : ST T X W a ma) (hb : ST T X W b mb) : ST T X W (.IfExp t a b pos) (ifE mt ma mb) := by
  refine ⟨fun pins s σ H Q I h => ?_⟩
  obtain ⟨e, Z, G, st, h⟩ := h
  refine isTrue_IfExp (thn (ht.run pins s σ H (fun bb H1 => if bb = true then RdT X.K T X.mg ma W σ H1 Q else RdT X.K T X.mg mb W σ H1 Q) I ⟨e, Z, G, st, ?_⟩) fun bb s1 ⟨H1, I1, q⟩ => ?_)
  · refine (PostC.bind (f := fun o e1 => match tru o with | some true => ma e1 | some false => mb e1 | none => .bad) (fun _ z => z) h).imp fun o e1 Z1 H1 l k h => ?_
    obtain ⟨b, qt, h⟩ := PostC.tru (f := fun b => if b then ma e1 else mb e1) h
    refine ⟨b, qt, fun s1 => ?_⟩
    cases b with
    | true => exact iteT ⟨e1, Z1, G, s1, h⟩
    | false => exact iteF ⟨e1, Z1, G, s1, h⟩
  · cases bb with
    | true => exact ha.run pins s1 σ H1 Q I1 q
    | false => exact hb.run pins s1 σ H1 Q I1 q
/-- a def called with nothing -/
theorem pe_callS0 {CX : CXT} {k : Nat} {f : Addr} {fd : FuncData} {ps : List Str} {sp : Sp} {E : L2.St → XK} {x : Str} {p pos : Pos} (F : FnOk X.prog X.w X.K X.mg X.base CX k f fd ps sp) (hr : Room k X.A) (hg : Gl X x) (hm : X.mg x = some (.ref f)) (hk : PySem.W.keepIn X.K (.ref f) = true) (hb : Binds X.K fd ps [])
    (hx : ∀ σ, PassesAt CX X σ (E σ)) (hdb : (x == ("__debug__" : Str)) = false) : PE X (.Call (.Name x p) [] [] pos) (tCallS sp E tNil) := by
  refine ⟨fun pins s σ H Q I h => ?_⟩
  refine wpAny_Call_Name_kw (ld_glob I hg hm ?_ hdb)
  exact PySem.W.callWith_K0 I.kIn hk (run_fnS F hr hb (hx σ) I .nil h)
theorem blt_name {f : Str} {b : Bl} (h : bltOf f = some b) : f ∈ bltNames ∧ bootBuiltins f = some (bltVal b) ∧ f ≠ ("__name__" : Str) ∧ (f == ("__debug__" : Str)) = false := by
  unfold bltOf at h
  repeat' split at h
  all_goals first
    | (cases h; done)
    | (rename_i e; subst e; cases h; exact ⟨by simp [bltNames], by decide +kernel, by decide, by decide⟩)
theorem blt_ty {b : Bl} : (∃ id, bltVal b = .builtin id) ∨ ∃ T, bltVal b = .type T := by cases b <;> first | exact .inl ⟨_, rfl⟩ | exact .inr ⟨_, rfl⟩
theorem ty_name {t : Str} {ty : Ty} (h : tyOf t = some ty) : t ∈ bltNames := by
  unfold tyOf at h
  repeat' split at h
  all_goals first
    | (cases h; done)
    | (rename_i e; subst e; simp [bltNames])
end
end Ev
end
section
set_option maxHeartbeats 4000000
/-! EvSd: targets, what is walked, comprehensions; the induction over expressions. -/
namespace Ev
open PySem PySem.Spec PyProof.Rows L2
variable {T : LT}

theorem ixNs_append {N : List Str} : ∀ {a b : List Str} {is : List Nat}, ixNs N (a ++ b) = some is → ∃ i1 i2, ixNs N a = some i1 ∧ ixNs N b = some i2 ∧ is = i1 ++ i2
  | [], b, is, h => ⟨[], is, rfl, h, rfl⟩
  | x :: a, b, is, h => by
    simp only [List.cons_append, ixNs] at h
    split at h
    · rename_i i is' h1 h2
      cases h
      obtain ⟨i1, i2, e1, e2, rfl⟩ := ixNs_append h2
      exact ⟨i :: i1, i2, by simp only [ixNs, h1, e1], e2, rfl⟩
    · cases h
theorem RdE.mono {K : PySem.W.Frag} {mg : Str → Option Value} {m : ME} {W : WX} {σ : L2.St} {H : Hp} {Q Q' : VK} (h : RdE K T mg m W σ H Q) (f : ∀ v H1, Q v H1 → Q' v H1) : RdE K T mg m W σ H Q' := by
  obtain ⟨e, Z, G, s, h⟩ := h
  exact ⟨e, Z, G, s, h.imp fun o e1 Z1 H1 l k h v x => f v H1 (h v x)⟩
theorem assignEach_cons {e : Expr} {es : List Expr} {env : Env} (h : isStar e = false) : assignEach (e :: es) env = (false, PySem.assign e env) :: assignEach es env := by
  cases e <;> first | rfl | cases h
theorem assignEach_len {env : Env} : ∀ {es : List Expr}, noStar es = true → (assignEach es env).length = es.length ∧ (assignEach es env).findIdx? (·.1) = none
  | [], _ => ⟨rfl, rfl⟩
  | e :: es, h => by
    obtain ⟨h1, h2⟩ := noStar_cons h
    obtain ⟨q1, q2⟩ := assignEach_len (es := es) h2
    rw [assignEach_cons h1]
    exact ⟨congrArg (· + 1) q1, by rw [List.findIdx?_cons]; simp [q2]⟩
section
variable {X : Cx} {W : WX} {c : Cfg} {k : Nat} {sc rw : Scope}
theorem se_tgs {n : Nat} (ih : ∀ tg t is, tgE n rw c tg = some t → ixNs c.N (tgN n tg) = some is → PG X tg (RdG X.K T c.fx t is)) : ∀ {es : List Expr} {ts : List MT} {is : List Nat}, noStar es = true → allO (es.map (tgE n rw c)) = some ts → ixNs c.N (es.map (tgN n)).flatten = some is →
    PGs X es (RdGs X.K T c.fx ts is)
  | [], ts, is, _, h, hi => by
    cases h
    cases hi
    exact pgs_nil.weaken fun _ _ _ _ q => rd_gnil q
  | e :: es, ts, is, ns, h, hi => by
    obtain ⟨h1, h2⟩ := noStar_cons ns
    obtain ⟨t, ts', e1, e2, rfl⟩ := o2_some h
    obtain ⟨i1, i2, e3, e4, rfl⟩ := ixNs_append (by simpa using hi)
    exact (pgs_cons (ih e t i1 e1 e3) (se_tgs ih h2 e2 e4) (by rw [assignEach_cons h1]; rfl)).weaken fun _ _ _ _ q => rd_gcons q
theorem se_tg (g : CtxOk T X W c k sc) (hc : X.calm = true) (st : StoOk X rw) : ∀ {n : Nat} {tg : Expr} {t : MT} {is : List Nat}, tgE n rw c tg = some t → ixNs c.N (tgN n tg) = some is → PG X tg (RdG X.K T c.fx t is)
  | 0, _, _, _, h, _ => by cases h
  | n + 1, tg, t, is, h, hi => by
    unfold tgE at h
    split at h
    · rename_i x pos
      obtain ⟨hl, h⟩ := iff_some h
      obtain ⟨i, hx, rfl⟩ := o1_some h
      simp only [tgN, ixNs, hx, Option.some.injEq] at hi
      subst hi
      have hi : X.N[i]? = some x := by rw [g.hN]; exact ixN_ok hx
      refine (pg_name g.nd hi (st x hl).1 (st x hl).2).weakenL fun x σ H R hlen q => rd_gname ?_ q
      rw [hlen, g.hN]
      exact ixN_lt hx
    · rename_i es ctx pos
      obtain ⟨ns, h2⟩ := iff_some h
      obtain ⟨ts, h3, rfl⟩ := o1_some h2
      have hs := se_tgs (X := X) (fun tg t is => se_tg g hc st (n := n)) ns h3 hi
      obtain ⟨q1, q2⟩ := assignEach_len (env := X.env) ns
      have hl : ts.length = es.length := (allO_each h3).len.symm
      exact (pg_tup hc hs (q1.trans hl.symm) q2).weakenL fun x σ H R _ q => rd_gtup q
    · cases h
/-- what is walked -/
theorem se_iter (g : CtxOk T X W c k sc) {ev : Expr → Option ME} (ih : ∀ e m, ev e = some m → SE T X W e m) {fx : List Nat} {tg it : Expr} {mi : MI} (h : evI sc fx (isTup tg) ev it = some mi) : PI X tg it (RdI X.K T X.mg fx mi W) := by
  have seq : ∀ {e : Expr} {m : ME}, ev e = some m → PI X tg e (RdI X.K T X.mg fx (itE fx seqF [m]) W) := fun {e m} he =>
    (pi_seq (ih e m he)).weaken fun σ H R q => by
      have q := rd_icons (rd_seq q)
      exact q.mono fun v H1 q => rd_inil q
  have tup : isTup tg = true → ∃ elts kk tpos, tg = .Tuple elts kk tpos := fun h => by
    cases tg <;> first | exact ⟨_, _, _, rfl⟩ | cases h
  have one : ∀ {a : Expr} {m : ME}, ev a = some m → noStar [a] = true → PA X [a] (RdAI X.K T X.mg fx [m] W) := fun {a m} he ns => pa_I (.cons (ih a m he) .nil) ns
  have two : ∀ {a b : Expr} {m m' : ME}, ev a = some m → ev b = some m' → noStar [a, b] = true → PA X [a, b] (RdAI X.K T X.mg fx [m, m'] W) := fun {a b m m'} he he' ns => pa_I (.cons (ih a m he) (.cons (ih b m' he') .nil)) ns
  unfold evI at h
  split at h
  · rename_i f p as pos
    split at h
    · rename_i hf
      subst hf
      obtain ⟨hb, h2⟩ := iff_some h
      rw [Bool.and_eq_true] at hb
      obtain ⟨hg, ns⟩ := hb
      have hm := g.blt ("range" : Str) (by simp [bltNames])
      split at h2
      · rename_i a
        obtain ⟨m, he, rfl⟩ := o1_some h2
        obtain ⟨s1, _⟩ := noStar_cons ns
        exact (pi_range1 (g.gl hg) hm (one he ns) (by rw [starEach_cons s1]; rfl)).weaken fun _ _ _ q => rd_range1 q
      · rename_i a b
        obtain ⟨m, m', he, he', rfl⟩ := o2_some h2
        obtain ⟨s1, ns'⟩ := noStar_cons ns
        obtain ⟨s2, _⟩ := noStar_cons ns'
        exact (pi_range2 (g.gl hg) hm (two he he' ns) (by rw [starEach_cons s1, starEach_cons s2]; rfl) (by rw [starEach_cons s2]; rfl)).weaken fun _ _ _ q => rd_range2 q
      · cases h2
    · split at h
      · rename_i hf
        subst hf
        obtain ⟨hb, h2⟩ := iff_some h
        rw [Bool.and_eq_true, Bool.and_eq_true] at hb
        obtain ⟨⟨hg, ns⟩, ht⟩ := hb
        obtain ⟨elts, kk, tpos, rfl⟩ := tup ht
        have hm := g.blt ("enumerate" : Str) (by simp [bltNames])
        split at h2
        · rename_i a
          obtain ⟨m, he, rfl⟩ := o1_some h2
          obtain ⟨s1, _⟩ := noStar_cons ns
          exact (pi_enumA (g.gl hg) hm (one he ns) (by rw [starEach_cons s1]; rfl)).weaken fun _ _ _ q => rd_enum q
        · cases h2
      · split at h
        · rename_i hf
          subst hf
          obtain ⟨hb, h2⟩ := iff_some h
          rw [Bool.and_eq_true, Bool.and_eq_true] at hb
          obtain ⟨⟨hg, ns⟩, ht⟩ := hb
          obtain ⟨elts, kk, tpos, rfl⟩ := tup ht
          have hm := g.blt ("zip" : Str) (by simp [bltNames])
          split at h2
          · rename_i a b
            obtain ⟨m, m', he, he', rfl⟩ := o2_some h2
            obtain ⟨s1, ns'⟩ := noStar_cons ns
            exact (RZ.pi_zipA (g.gl hg) hm (two he he' ns) (starEach_cons s1) (backTo_any ns')).weaken fun _ _ _ q => rd_zip q
          · cases h2
        · obtain ⟨m, he, rfl⟩ := o1_some h
          exact seq he
  · obtain ⟨_, h2⟩ := iff_some h
    obtain ⟨m, he, rfl⟩ := o1_some h2
    exact seq he
/-- a comprehension's block is of the same kind -/
theorem CtxOk.blk (g : CtxOk T X W c k sc) (hc : X.calm = true) {scope : Scope} {s : Shared} {H : Hp} {C : Addr} {cl : List (Str × Addr)} {fp : List Addr} : CtxOk T (X.blk s H scope (compEnvC scope cl C X.env) fp) WF c k (relB scope sc) where
  hsc := by rw [← g.hsc]; rfl
  hN := g.hN
  nd := g.nd
  calm := g.calm
  tk := fun u s' ⟨_, _, _, _, _, _, _, _, _, _, _, _, _, _, _, _, w⟩ => w.elim
  room := g.room
  un := g.un
  fns := g.fns
  blt := g.blt
  cst := g.cst
  fns2 := g.fns2
  tab := g.tab
  lams := fun gg L h => by
    obtain ⟨ga, fd, a, h1, h2, h3⟩ := g.lams gg L h
    exact ⟨ga, fd, a, h1, h2, ⟨h3.ex, h3.bd, h3.nd, h3.nc⟩⟩
  hot := fun h => by
    obtain ⟨a, oe, cls, d, pn, X0, _, _, e, _⟩ := g.hot h
    rw [e] at hc
    cases hc
  sub := g.sub
theorem StoOk.blk (g : CtxOk T X W c k sc) {scope : Scope} {s : Shared} {H : Hp} {C : Addr} {cl : List (Str × Addr)} {fp : List Addr} : StoOk (X.blk s H scope (compEnvC scope cl C X.env) fp) scope := fun x h => by
  have keep : ∀ {kk : NameKind}, kk ≠ .free → scope.names.lookup x = some kk → (X.blk s H scope (compEnvC scope cl C X.env) fp).env.scope.names.lookup x = some kk := fun {kk} hk e => lookup_relS_keep (sc := X.env.scope) hk e
  rcases locB_ok h with h | h
  · exact ⟨.inl (keep (by decide) h), .inr (keep (by decide) h)⟩
  · refine ⟨.inr (keep (by decide) h), .inl ?_⟩
    show (scope.names.lookup x == some .cell) = true
    rw [h]
    rfl
theorem pts_cond {ifs : List Expr} {cs : List ME} (h : Each (ST T X W) ifs cs) (hl : ifs.length ≤ 1) : PTs X ifs (RdT X.K T X.mg (condE cs) W) := by
  cases h with
  | nil => exact ⟨fun pins s σ H Q I h => pts_nil.run pins s σ H Q I (by
      obtain ⟨e, Z, G, st, h⟩ := h
      obtain ⟨b, q, h⟩ := PostC.ret h
      cases q
      exact h st)⟩
  | cons h t =>
    cases t with
    | nil => exact pts_one h
    | cons _ _ => simp at hl
end
end Ev
end
section
set_option maxHeartbeats 4000000
/-! EvRg: list(range(..)), tuple(range(..)). -/
namespace Ev
open PySem PySem.Spec PyProof.Rows L2
variable {T : LT}
theorem rngArg_some {f : Str} {as : List Expr} {t : Bool} {rs : List Expr} (h : rngArg f as = some (t, rs)) : ∃ p pos, as = [.Call (.Name "range" p) rs [] pos] ∧ ((f = "list" ∧ t = false) ∨ (f = "tuple" ∧ t = true)) := by
  unfold rngArg at h
  split at h
  · rename_i r p rs' pos
    split at h
    · rename_i e
      subst e
      split at h
      · rename_i e; cases h; exact ⟨_, _, rfl, .inl ⟨e, rfl⟩⟩
      · split at h
        · rename_i e; cases h; exact ⟨_, _, rfl, .inr ⟨e, rfl⟩⟩
        · cases h
    · cases h
  · cases h
theorem enc_rg {K : PySem.W.Frag} {Z : Addr → Prop} {H : Hp} : ∀ {n : Nat} {a : Int}, EncDs K Z H ((List.range n).map fun i => V.int (a + (i : Nat))) (rangeI a n)
  | 0, _ => .nil
  | n + 1, a => by
    rw [List.range_succ_eq_map, List.map_cons, List.map_map]
    have e : (fun i : Nat => V.int (a + (i : Nat))) ∘ Nat.succ = fun i => V.int (a + 1 + (i : Nat)) := by
      funext i
      show V.int (a + ((i + 1 : Nat) : Int)) = V.int (a + 1 + (i : Nat))
      congr 1
      omega
    rw [e]
    refine .cons ?_ enc_rg
    have : a + ((0 : Nat) : Int) = a := by omega
    rw [this]
    exact .int _
theorem rngOk_ok {a b : Int} (h : rngOk a b = true) : RgOk a b := by
  simp only [rngOk, rngB, Bool.and_eq_true, decide_eq_true_eq] at h
  exact ⟨h.1.1.1, h.1.1.2, h.1.2.1, h.1.2.2, h.2⟩
section
variable {K : PySem.W.Frag} {mg : Str → Option Value} {W : WX} {m m' : ME} {σ : L2.St} {H : Hp} {Q : VK}
theorem rd_rg1 {F : List Ev.D → Option Op} (h : RdE K T mg (bltE F [m]) W σ H Q) : RdE K T mg m W σ H (fun v H1 => rB K F [v] H1 Q) := by
  have h1 : RdAO K T mg [m] W σ H (fun vs H1 => rB K F vs H1 Q) := rd_blt h
  have h2 := rd_ocons h1
  exact h2.mono fun v H1 q => rd_onil q
theorem rd_rg2 {F : List Ev.D → Option Op} (h : RdE K T mg (bltE F [m, m']) W σ H Q) : RdE K T mg m W σ H (fun v H1 => RdE K T mg m' W σ H1 (fun u H2 => rB K F [v, u] H2 Q)) := by
  have h1 : RdAO K T mg [m, m'] W σ H (fun vs H1 => rB K F vs H1 Q) := rd_blt h
  have h2 := rd_ocons h1
  exact h2.mono fun v H1 q => (rd_ocons q).mono fun u H2 q => rd_onil q
theorem rng_new {H1 : Hp} {Z : Addr → Prop} {n : Nat} {a : Int} (t : Bool) (zs : ∀ a, Z a → H1 a ≠ none) (fin : ∀ w H', Same H1 H' → NewOk K Z H1 H' w (rngO t (rangeI a n)) → Q w H') :
    ∀ q, H1 q = none → Q (.ref q) (upd H1 q (if t then .tup ((List.range n).map fun i => V.int (a + (i : Nat))) else .lst ((List.range n).map fun i => V.int (a + (i : Nat))))) := by
  intro q nq
  cases t with
  | false =>
    have sm : Same H1 (upd H1 q (.lst ((List.range n).map fun i => V.int (a + (i : Nat))))) := same_new nq
    exact fin _ _ sm ⟨q, _, rfl, nq, upd_same, enc_rg⟩
  | true =>
    have sm : Same H1 (upd H1 q (.tup ((List.range n).map fun i => V.int (a + (i : Nat))))) := same_new nq
    exact fin _ _ sm (EncD.tup (.inl (.inl upd_same)) enc_rg)
end
section
variable {X : Cx} {W : WX} {c : Cfg} {k : Nat} {sc : Scope}
theorem se_rng (g : CtxOk T X W c k sc) {ev : Expr → Option ME} (ih : ∀ e m, ev e = some m → SE T X W e m) {f : Str} {p pos : Pos} {as rs : List Expr} {t : Bool} {m : ME} (hg : glB sc f = true) (ha : rngArg f as = some (t, rs))
    (h : iff (c.calm && glB sc "range" && noStar rs) (match rs with
        | [a] => o1 (fun m => bltE (rngD t) [m]) (ev a)
        | [a, b] => o2 (fun m m' => bltE (rngD t) [m, m']) (ev a) (ev b)
        | _ => none) = some m) : SE T X W (.Call (.Name f p) as [] pos) m := by
  obtain ⟨pr, rpos, rfl, hf⟩ := rngArg_some ha
  obtain ⟨hb, h2⟩ := iff_some h
  simp only [Bool.and_eq_true] at hb
  obtain ⟨⟨hc, hgr⟩, ns⟩ := hb
  have hcalm := g.calm hc
  have hm := g.blt ("range" : Str) (by simp [bltNames])
  split at h2
  · rename_i a
    obtain ⟨x, he, rfl⟩ := o1_some h2
    obtain ⟨s1, _⟩ := noStar_cons ns
    have pr1 := prg_1 (pos := rpos) (p := pr) (g.gl hgr) hm (ih a x he) (starEach_cons s1)
    have key : ∀ {σ : L2.St} {H : Hp} {Q : VK}, RdE X.K T X.mg (bltE (rngD t) [x]) W σ H Q → RdE X.K T X.mg x W σ H (fun v H1 => ∃ n, v = V.int n ∧ RgOk 0 n ∧ ∀ q, H1 q = none → Q (.ref q) (upd H1 q (if t then .tup (rgV 0 n) else .lst (rgV 0 n)))) := fun {σ H Q} q => (rd_rg1 q).mono fun v H1 ⟨Z, ds, o, zs, hF, vw, fin⟩ => by
      obtain ⟨d, e, vd⟩ : ∃ d, ds = [d] ∧ Vw X.K Z H1 v d := by
        cases vw with
        | cons h t => cases t; exact ⟨_, rfl, h⟩
      subst e
      unfold rngD at hF
      split at hF
      · rename_i n e
        cases e
        split at hF
        · rename_i ok
          cases hF
          exact ⟨n, vd.int, rngOk_ok ok, rng_new t zs fin⟩
        · cases hF
      · rename_i e; cases e
      · cases hF
    rcases hf with ⟨rfl, rfl⟩ | ⟨rfl, rfl⟩
    · exact (pe_listRg (p := p) (pos := pos) hcalm (g.gl hg) (g.blt _ (by simp [bltNames])) pr1).weaken fun σ H Q q => key q
    · exact (pe_tupRg (p := p) (pos := pos) hcalm (g.gl hg) (g.blt _ (by simp [bltNames])) pr1).weaken fun σ H Q q => key q
  · rename_i a b
    obtain ⟨x, y, he, he', rfl⟩ := o2_some h2
    obtain ⟨s1, ns'⟩ := noStar_cons ns
    obtain ⟨s2, _⟩ := noStar_cons ns'
    have pr1 := prg_2 (pos := rpos) (p := pr) (g.gl hgr) hm (ih a x he) (ih b y he') (starEach_cons s1) (starEach_cons s2) (backTo_any ns')
    have key : ∀ {σ : L2.St} {H : Hp} {Q : VK}, RdE X.K T X.mg (bltE (rngD t) [x, y]) W σ H Q → RdE X.K T X.mg x W σ H (fun v H1 => RdE X.K T X.mg y W σ H1 (fun u H2 => ∃ i j, v = V.int i ∧ u = V.int j ∧ RgOk i j ∧ ∀ q, H2 q = none → Q (.ref q) (upd H2 q (if t then .tup (rgV i j) else .lst (rgV i j))))) := fun {σ H Q} q => (rd_rg2 q).mono fun v H1 q => q.mono fun u H2 ⟨Z, ds, o, zs, hF, vw, fin⟩ => by
      obtain ⟨d, d', e, vd, vd'⟩ : ∃ d d', ds = [d, d'] ∧ Vw X.K Z H2 v d ∧ Vw X.K Z H2 u d' := by
        cases vw with
        | cons h t => cases t with
          | cons h' t => cases t; exact ⟨_, _, rfl, h, h'⟩
      subst e
      unfold rngD at hF
      split at hF
      · rename_i e; cases e
      · rename_i i j e
        cases e
        split at hF
        · rename_i ok
          cases hF
          exact ⟨i, j, vd.int, vd'.int, rngOk_ok ok, rng_new t zs fin⟩
        · cases hF
      · cases hF
    rcases hf with ⟨rfl, rfl⟩ | ⟨rfl, rfl⟩
    · exact (pe_listRg (p := p) (pos := pos) hcalm (g.gl hg) (g.blt _ (by simp [bltNames])) pr1).weaken fun σ H Q q => key q
    · exact (pe_tupRg (p := p) (pos := pos) hcalm (g.gl hg) (g.blt _ (by simp [bltNames])) pr1).weaken fun σ H Q q => key q
  · cases h2
end
end Ev
end
section
set_option maxHeartbeats 4000000
/-! EvSe: the induction over expressions. -/
namespace Ev
open PySem PySem.Spec PyProof.Rows L2
variable {T : LT}

section
variable {X : Cx} {W : WX} {c : Cfg} {k : Nat} {sc : Scope}
theorem ixN_none : True := trivial
theorem se_name (g : CtxOk T X W c k sc) {x : Str} {pos : Pos} {m : ME} (h : iff (!(x == ("__debug__" : Str)) && !(x == ("__classdict__" : Str))) (match ixN c.N x with
      | some i => iff (visB sc x) (some (varE i))
      | none => iff (glB sc x) (o1 immE (c.cst x))) = some m) : SE T X W (.Name x pos) m := by
  obtain ⟨hb, h⟩ := iff_some h
  rw [Bool.and_eq_true] at hb
  have d1 : (x == ("__debug__" : Str)) = false := by simpa using hb.1
  have d2 : (x == ("__classdict__" : Str)) = false := by simpa using hb.2
  split at h
  · rename_i i hx
    obtain ⟨hv, h⟩ := iff_some h
    cases h
    exact se_var (by rw [g.hN]; exact ixN_ok hx) (g.vis hv) d1 d2
  · obtain ⟨hg, h⟩ := iff_some h
    obtain ⟨d, hc, rfl⟩ := o1_some h
    obtain ⟨u, v, hm, r, hd⟩ := g.cst x d hc
    exact se_imm (pe_glob (g.gl hg) hm r d1) hd
/-- both readings: the value, the test -/
def Both (T : LT) (X : Cx) (W : WX) (e : Expr) (m : ME) : Prop := SE T X W e m ∧ ST T X W e m
theorem both_of {e : Expr} {m : ME} (h : SE T X W e m) (he : ∀ whole, isTrue e X.env whole = (do let v ← whole; standAt e.pos; holding [v] (truthy v))) : Both T X W e m := ⟨h, pt_of h he⟩
theorem each_se {es : List Expr} {ms : List ME} (h : Each (Both T X W) es ms) : Each (SE T X W) es ms := h.imp fun _ _ h => h.1
theorem each_st {es : List Expr} {ms : List ME} (h : Each (Both T X W) es ms) : Each (ST T X W) es ms := h.imp fun _ _ h => h.2
theorem se_part {o : Option Expr} {mo : Option ME} {ev : Expr → Option ME} (ih : ∀ e m, ev e = some m → SE T X W e m) (h : oo (o.map ev) = some mo) : ∃ t, PO X o t ∧ OptT X.K T X.mg W mo t := by
  cases o with
  | none => cases h; exact ⟨_, po_none, .inl ⟨rfl, rfl⟩⟩
  | some e =>
    simp only [Option.map_some] at h
    cases q : ev e with
    | none => rw [q] at h; cases h
    | some m => rw [q] at h; cases h; exact ⟨_, po_some (ih e m q), .inr ⟨m, rfl, rfl⟩⟩
theorem se_call (g : CtxOk T X W c k sc) {f : Str} {p pos : Pos} {as : List Expr} {r : Option (List ME)} {m : ME} (hg : glB sc f = true) (ns : noStar as = true) (ihr : ∀ ms, r = some ms → Each (SE T X W) as ms)
    (h : (match bltOf f with
      | some b => iff (c.calm && decide (as ≠ [])) (o1 (bltE (bltD b)) r)
      | none => (match c.fns f with
        | some (br, F) => iff (c.calm && decide (as.length = br.length)) (o1 (callE br F) r)
        | none => none)) = some m) : SE T X W (.Call (.Name f p) as [] pos) m := by
  have hdb := (glB_ok hg).2.1
  split at h
  · rename_i b hb
    obtain ⟨hne, h⟩ := iff_some h
    rw [Bool.and_eq_true] at hne
    have hcalm := g.calm hne.1
    have hne := hne.2
    obtain ⟨ms, hr, rfl⟩ := o1_some h
    have ih := ihr ms hr
    obtain ⟨h1, h2, h3, h4⟩ := blt_name hb
    cases as with
    | nil => simp at hne
    | cons a as =>
      obtain ⟨s1, s2⟩ := noStar_cons ns
      rcases blt_ty (b := b) with ⟨id, e⟩ | ⟨T, e⟩
      · exact (pe_callB (id := id) (e ▸ callR_blt hcalm g.u) (g.gl hg) (g.blt f h1) (h2.trans (congrArg some e)) (pa_O ih ns) h3 h4 (starEach_cons s1) (backTo_any s2)).weaken fun _ _ _ q => rd_blt q
      · exact (pe_callTy (T := T) (e ▸ callR_blt hcalm g.u) (g.gl hg) (g.blt f h1) (h2.trans (congrArg some e)) (pa_O ih ns) h3 h4 (starEach_cons s1) (backTo_any s2)).weaken fun _ _ _ q => rd_blt q
  · split at h
    · rename_i br F hf
      obtain ⟨hl, h⟩ := iff_some h
      rw [Bool.and_eq_true] at hl
      have hroom := g.room hl.1
      obtain ⟨ms, hr, rfl⟩ := o1_some h
      have ih := ihr ms hr
      obtain ⟨a, fd, ps, hm, hk, hb, fn⟩ := g.fns f br F hf
      cases as with
      | nil =>
        exact (pe_callS0 fn hroom (g.gl hg) hm hk hb (fun σ => passAt g.tk σ) hdb).weaken fun σ H Q q => by
          cases ih
          have q := rd_call (n := br.length) rfl q
          exact rd_onil q
      | cons a as =>
        obtain ⟨s1, s2⟩ := noStar_cons ns
        exact (pe_callS fn hroom (g.gl hg) hm hk hb (fun σ => passAt g.tk σ) (pa_O ih ns) hdb (starEach_cons s1) (backTo_any s2)).weaken fun _ _ _ q => rd_call rfl q
    · cases h
theorem zip_snd : ∀ {a : List Str} {b : List Nat}, a.length = b.length → (a.zip b).map (·.2) = b
  | [], [], _ => rfl
  | _ :: a, _ :: b, h => by simp [zip_snd (Nat.succ.inj h)]
  | [], _ :: _, h => by cases h
  | _ :: _, [], h => by cases h
theorem ixNs_len {N : List Str} : ∀ {l : List Str} {is : List Nat}, ixNs N l = some is → l.length = is.length
  | [], _, h => by cases h; rfl
  | x :: l, is, h => by
    simp only [ixNs] at h
    split at h
    · rename_i h2; cases h; exact congrArg (· + 1) (ixNs_len h2)
    · cases h
theorem folded_of {it : Expr} {env : Env} (h : isSet it = false) : ∀ x, foldedSetIterable it env x = pure x := by
  intro x
  cases it <;> first | rfl | cases h
/-- the parts of a comprehension -/
structure Parts (T : LT) (X : Cx) (W : WX) (m : ME) (elt tg it : Expr) (ifs : List Expr) (scope : Scope) (own : List (Str × Nat)) (wi : TI) (gt : TG) (tt : TT) (te : TE) : Prop where
  pi : PI X tg it wi
  ok : BlkOk X.N X.env.scope scope own
  pg : ∀ (s : Shared) (H : Hp) (C : Addr) (cl : List (Str × Addr)) (fp : List Addr), PG (X.blk s H scope (compEnvC scope cl C X.env) fp) tg gt
  pt : ∀ (s : Shared) (H : Hp) (C : Addr) (cl : List (Str × Addr)) (fp : List Addr), PTs (X.blk s H scope (compEnvC scope cl C X.env) fp) ifs tt
  pe : ∀ (s : Shared) (H : Hp) (C : Addr) (cl : List (Str × Addr)) (fp : List Addr), PE (X.blk s H scope (compEnvC scope cl C X.env) fp) elt te
  hs : ∀ x, foldedSetIterable it X.env x = pure x
  rd : ∀ σ H Q, RdE X.K T X.mg m W σ H Q → tLc wi gt tt te (own.map (·.2)) σ H Q
theorem parts_of (g : CtxOk T X W c k sc) {n : Nat} (IH : ∀ (X : Cx) (W : WX) (c : Cfg) (k : Nat) (sc : Scope), CtxOk T X W c k sc → ∀ (e : Expr) (m : ME), evE n sc c e = some m → Both T X W e m) {elt tg it : Expr} {ifs : List Expr} {scope : Scope} {m : ME}
    (h : (match ixNs c.N (tgN n tg) with
      | some own => iff (c.calm && blkB c.N sc scope ((tgN n tg).zip own) && !isSet it && decide (ifs.length ≤ 1)) (match evI sc c.fx (isTup tg) (evE n sc c) it, tgE n scope c tg, allO (ifs.map (evE n (relB scope sc) c)), evE n (relB scope sc) c elt with
        | some m, some t, some cs, some x => some (compE own m t (condE cs) x)
        | _, _, _, _ => none)
      | none => none) = some m) : X.calm = true ∧ ∃ own wi gt tt te, Parts T X W m elt tg it ifs scope own wi gt tt te := by
  split at h
  · rename_i own ho
    obtain ⟨hb, h⟩ := iff_some h
    rw [Bool.and_eq_true, Bool.and_eq_true, Bool.and_eq_true] at hb
    obtain ⟨⟨⟨hb0, hb1⟩, hb2⟩, hb3⟩ := hb
    have hcalm := g.calm hb0
    split at h
    · rename_i mi t cs x h1 h2 h3 h4
      cases h
      have blk := blkOk_by (show blkC c.N sc scope ((tgN n tg).zip own) = true from hb1)
      refine ⟨hcalm, (tgN n tg).zip own, RdI X.K T X.mg c.fx mi W, RdG X.K T c.fx t own, RdT X.K T X.mg (condE cs) WF, RdE X.K T X.mg x WF, se_iter g (fun e m h => (IH X W c k sc g e m h).1) h1, by rw [g.hN, g.hsc]; exact blk, fun s H C cl fp => se_tg (g.blk hcalm) hcalm (StoOk.blk g) h2 ho, fun s H C cl fp => ?_, fun s H C cl fp => (IH _ WF c k _ (g.blk hcalm) elt x h4).1, folded_of (by simpa using hb2), fun σ H Q q => ?_⟩
      · exact pts_cond (((allO_each h3).imp fun e m h => IH _ WF c k _ (g.blk hcalm) e m h).imp fun _ _ h => h.2) (of_decide_eq_true hb3)
      · rw [zip_snd (ixNs_len ho)]
        exact rd_comp q
    · cases h
  · cases h
theorem plainIx_of {i : Expr} (h : ∀ lo hi p, i ≠ .Slice lo hi none p) : PlainIx i := by
  intro o v
  cases i with
  | Slice lo hi st p =>
    cases st with
    | none => exact absurd rfl (h lo hi p)
    | some st => rfl
  | _ => rfl
end
section
variable {X : Cx} {W : WX} {c : Cfg} {k : Nat} {sc : Scope}
/-- isinstance(e, C), e what is held -/
theorem se_isx (g : CtxOk T X W c k sc) {x t : Str} {p px pt pos : Pos} {i : Nat} (hg : glB sc "isinstance" = true) (hh : c.hot = true) (hv : visB sc x = true) (ht : glB sc t = true) (d1 : (x == ("__debug__" : Str)) = false) (d2 : (x == ("__classdict__" : Str)) = false) (hx : ixN c.N x = some i) :
    SE T X W (.Call (.Name "isinstance" p) [.Name x px, .Name t pt] [] pos) (isxE c.sub t i) := by
  refine ⟨fun pins s σ H Q I h => ?_⟩
  obtain ⟨e, Z, G, st, h⟩ := h
  obtain ⟨a, oe, cls, d, pn, X0, hT, hmg, hX, hz, hf⟩ := g.hot hh
  simp only [isxE] at h
  split at h
  · rename_i cl qg
    split at h
    · rename_i b hb
      obtain ⟨v, hv', a', cls', d', e1, rfl, C, h1, h2, h3⟩ := st.sl i _ qg
      rw [hT] at e1
      cases e1
      obtain ⟨D, hD, ec, cv, hcv, hk, _⟩ := g.sub cl t b hb
      rw [hmg, hD] at h1
      cases h1
      subst h2
      simp only at h3
      subst h3
      have po : PE X (.Name x px) (tVar i) := pe_var (by rw [g.hN]; exact ixN_ok hx) (g.vis hv) d1 d2
      have fin : Q (.bl b) H := PostC.ret h _ (st.im (.bl b))
      obtain ⟨gl1, gl2, gl3⟩ := glB_ok ht
      have hi := g.blt ("isinstance" : Str) (by simp [bltNames])
      have gi := g.gl hg
      have gt' := g.gl ht
      rcases hcv with ⟨C', rfl, hm⟩ | ⟨ty, rfl, hm, hbt⟩
      · have pc : PE X (.Name t pt) (tC (.ref C')) := pe_glob gt' hm rfl gl2
        subst hX
        exact (pe_callB (call_isE ec hz hf) gi hi (by decide +kernel) (pa_cons po (pa_cons pc pa_nil))).run pins s σ H Q I ⟨_, hv', .ref C', .ref C', b, rfl, fun u r => r, hk, fin⟩
      · have pc : PE X (.Name t pt) (tC (.ty ty)) := pe_bltn gt' hm hbt rfl gl3 gl2
        subst hX
        exact (pe_callB (call_isE ec hz hf) gi hi (by decide +kernel) (pa_cons po (pa_cons pc pa_nil))).run pins s σ H Q I ⟨_, hv', .ty ty, .type ty, b, rfl, fun u r => r, hk, fin⟩
    · exact h.elim
  · exact h.elim
theorem lamB_eq {sc scope : Scope} : lamB sc scope = LamX.lamSB sc scope := rfl
theorem noPar_eq {p : Arguments} (h : noPar p = true) : p = { posonlyargs := [], args := [], vararg := none, kwonlyargs := [], kw_defaults := [], kwarg := none, defaults := [] } := by
  obtain ⟨a, b, c, d, e, f, g⟩ := p
  unfold noPar at h
  simp only [Bool.and_eq_true, List.isEmpty_iff, Option.isNone_iff_eq_none] at h
  obtain ⟨⟨⟨⟨⟨⟨h1, h2⟩, h3⟩, h4⟩, h5⟩, h6⟩, h7⟩ := h
  subst h1 h2 h3 h4 h5 h6 h7
  rfl
/-- g(lambda: body) -/
theorem se_lam (g : CtxOk T X W c k sc) {n : Nat} (IH : ∀ (X : Cx) (W : WX) (c : Cfg) (k : Nat) (sc : Scope), CtxOk T X W c k sc → ∀ (e : Expr) (m : ME), evE n sc c e = some m → Both T X W e m) {gn : Str} {p lpos pos : Pos} {params : Arguments} {body : Expr} {scope : Scope} {m : ME}
    (h : iff (c.calm && glB sc gn && c.tab && noPar params && lamB sc scope) (o2 (lamE c.fx (freesOf c.N scope)) (c.lam gn) (evE n scope { c with fns := c.fns2, fns2 := fun _ => none, lam := fun _ => none, tab := false, calm := true, hot := false } body)) = some m) :
    SE T X W (.Call (.Name gn p) [.Lambda params body scope lpos] [] pos) m := by
  obtain ⟨hb, h'⟩ := iff_some h
  clear h
  simp only [Bool.and_eq_true] at hb
  obtain ⟨⟨⟨⟨hcc, hg⟩, ht⟩, hn⟩, hl⟩ := hb
  have hroom := g.room hcc
  have hp := noPar_eq hn
  subst hp
  obtain ⟨L, mb, hL, hm, rfl⟩ := o2_some h'
  obtain ⟨ga, fd, a, hmg, hk, tk⟩ := g.lams gn L hL
  obtain ⟨Ng, pg, bg, sg, dV, kV, doc, pm, cdv, ct, oc, an, od, osl, rfl, lk, hcd, S, hN0, hva, gives⟩ := tk.ex
  obtain ⟨h2, cA, P, hcode, TB, hT, hu⟩ := g.tab ht
  obtain ⟨k2, rfl⟩ : ∃ k2, k = k2 + 2 := ⟨k - 2, by omega⟩
  have LS : LamX.LamS X.env.scope scope := by rw [g.hsc]; exact LamX.lamS_by (lamB_eq ▸ hl)
  refine (LamX.pe_lamcall (T := T.tabs) (TT := TTd X.K T X.mg L) (t := fun E => RdE X.K T X.mg mb (fun cls d _ H => E cls d H)) (g.gl hg) hmg hk lk hcd tk.bd S hN0 hva (gives X rfl rfl rfl rfl rfl hroom _) TB hcode hT hu hroom LS rfl (fun _ _ _ _ _ => rfl) (fun A outer s H E f c' hr => ?_) (glB_ok hg).2.1 tk.nd tk.nc).weaken fun σ H Q q => rd_lam q
  refine (IH (LamX.lamCx X A outer s H E scope f c') (fun cls d _ H => E cls d H) { c with fns := c.fns2, fns2 := fun _ => none, lam := fun _ => none, tab := false, calm := true, hot := false } k2 scope ?_ body mb hm).1
  exact {
    hsc := rfl
    hN := g.hN
    nd := g.nd
    calm := fun _ => rfl
    tk := takes_of rfl rfl rfl rfl
    room := fun _ => hr
    un := by
      have := hr.un
      show (A.deeper (LamX.lamEnv X scope s.heap.objs.size f c')).units + 66 < cLine
      omega
    fns := fun f br F h => g.fns2 f br F h
    blt := g.blt
    cst := g.cst
    fns2 := fun f br F h => by cases h
    tab := fun h => by cases h
    lams := fun gg L h => by cases h
    hot := fun h => by cases h
    sub := g.sub }
end
theorem sound_E : ∀ (n : Nat) (X : Cx) (W : WX) (c : Cfg) (k : Nat) (sc : Scope), CtxOk T X W c k sc → ∀ (e : Expr) (m : ME), evE n sc c e = some m → Both T X W e m
  | 0, _, _, _, _, _, _, _, _, h => by cases h
  | n + 1, X, W, c, k, sc, g, e, m, h => by
    have ih : ∀ e m, evE n sc c e = some m → Both T X W e m := fun e m h => sound_E n X W c k sc g e m h
    have ihs : ∀ {es : List Expr} {ms : List ME}, allO (es.map (evE n sc c)) = some ms → Each (Both T X W) es ms := fun {es ms} h => (allO_each h).imp fun e m h => ih e m h
    unfold evE at h
    split at h
    · cases h; exact both_of (se_imm pe_int fun _ _ => .int _) fun _ => rfl
    · cases h; exact both_of (se_imm pe_bl fun _ _ => .bl _) fun _ => rfl
    · cases h; exact both_of (se_imm pe_non fun _ _ => .non) fun _ => rfl
    · cases h; exact both_of (se_imm pe_str fun _ _ => .str _) fun _ => rfl
    · exact both_of (se_name g h) fun _ => rfl
    · obtain ⟨x, y, h1, h2, rfl⟩ := o2_some h
      exact both_of ((pe_op opR_bin (ih _ _ h1).1 (ih _ _ h2).1).weaken fun _ _ _ q => rd_op2 q) fun _ => rfl
    · obtain ⟨x, h1, rfl⟩ := o1_some h
      exact ⟨(pe_not (ih _ _ h1).1).weaken fun _ _ _ q => rd_notV q, (pt_not (ih _ _ h1).2).weaken fun _ _ _ q => rd_not q⟩
    · obtain ⟨x, h1, rfl⟩ := o1_some h
      exact both_of ((pe_un unR_neg (ih _ _ h1).1).weaken fun _ _ _ q => rd_un1 q) fun _ => rfl
    · obtain ⟨ms, h1, rfl⟩ := o1_some h
      exact ⟨se_and (each_se (ihs h1)), (sw_and (each_st (ihs h1))).pt⟩
    · obtain ⟨ms, h1, rfl⟩ := o1_some h
      exact ⟨se_or (each_se (ihs h1)), (sw_or (each_st (ihs h1))).pt⟩
    · obtain ⟨x, y, z, h1, h2, h3, rfl⟩ := o3_some h
      exact ⟨(pe_ifExp (ih _ _ h1).2 (ih _ _ h2).1 (ih _ _ h3).1).weaken fun _ _ _ q => rd_if q, st_ifE (ih _ _ h1).2 (ih _ _ h2).2 (ih _ _ h3).2⟩
    · obtain ⟨hb, h⟩ := iff_some h
      obtain ⟨x, y, h1, h2, rfl⟩ := o2_some h
      have hu := g.u
      have hm := by simpa using hb
      exact ⟨(pe_cmpR (opR_cmp (by omega)) (ih _ _ h1).1 (ih _ _ h2).1 hm).weaken fun _ _ _ q => rd_op2 q, (pt_cmpR (opR_cmp (by omega)) (ih _ _ h1).1 (ih _ _ h2).1 hm).weaken fun _ _ _ q => rd_op2 (rd_T q)⟩
    · obtain ⟨hb, h⟩ := iff_some h
      obtain ⟨x, y, z, h1, h2, h3, rfl⟩ := o3_some h
      have hu := g.u
      have hm := by simpa using hb
      exact ⟨(pe_chain (opR_cmp (by omega)) (opR_cmp (by omega)) (ih _ _ h1).1 (ih _ _ h2).1 (ih _ _ h3).1 hm).weaken fun _ _ _ q => rd_chain q, (pt_chain (opR_cmp (by omega)) (opR_cmp (by omega)) (ih _ _ h1).1 (ih _ _ h2).1 (ih _ _ h3).1 hm).weaken fun _ _ _ q => rd_chain (rd_T q)⟩
    · obtain ⟨hb, h⟩ := iff_some h
      rw [Bool.and_eq_true] at hb
      obtain ⟨ms, h1, rfl⟩ := o1_some h
      have hl : ms.length ≤ sizeLine := by rw [← (ihs h1).len, ← sizeMax_eq]; exact of_decide_eq_true hb.2
      exact both_of ((pe_tup (pa_D (each_se (ihs h1)) hb.1)).weaken fun _ _ _ q => rd_tup hl q) fun _ => rfl
    · obtain ⟨hb, h⟩ := iff_some h
      rw [Bool.and_eq_true] at hb
      obtain ⟨ms, h1, rfl⟩ := o1_some h
      have hl : ms.length ≤ sizeLine := by rw [← (ihs h1).len, ← sizeMax_eq]; exact of_decide_eq_true hb.2
      exact both_of ((pe_lst (pa_D (each_se (ihs h1)) hb.1)).weaken fun _ _ _ q => rd_lst hl q) fun _ => rfl
    · obtain ⟨x, lo, hi, h1, h2, h3, rfl⟩ := o3_some h
      obtain ⟨tl, p1, q1⟩ := se_part (fun e m h => (ih e m h).1) h2
      obtain ⟨th, p2, q2⟩ := se_part (fun e m h => (ih e m h).1) h3
      exact both_of ((pe_slice slR_cut (ih _ _ h1).1 p1 p2).weaken fun _ _ _ q => rd_slice q q1 q2) fun _ => rfl
    · rename_i hne
      obtain ⟨x, y, h1, h2, rfl⟩ := o2_some h
      have hu := g.u
      exact both_of ((pe_ix (ixR_sub (by omega)) (ih _ _ h1).1 (ih _ _ h2).1 (plainIx_of hne)).weaken fun _ _ _ q => rd_op2 q) fun _ => rfl
    · rename_i elt tg it ifs scope pos
      obtain ⟨hcalm, own, wi, gt, tt, te, P⟩ := parts_of g (fun X W c k sc g e m h => sound_E n X W c k sc g e m h) h
      exact both_of ((pe_lc hcalm g.nd P.pi P.ok P.pg P.pt P.pe P.hs).weaken fun σ H Q q => P.rd σ H Q q) fun _ => rfl
    · cases h; exact both_of (pe_dnewK.weaken fun _ _ _ q => rd_dnew q) fun _ => rfl
    · obtain ⟨x, y, h1, h2, rfl⟩ := o2_some h
      exact both_of ((pe_disp (pps_cons (ih _ _ h1).1 (ih _ _ h2).1 pps_nil) rfl rfl (by simp) (by simp)).weaken fun _ _ _ q => rd_disp1 q) fun _ => rfl
    · obtain ⟨_, h⟩ := iff_some h
      cases h
      exact both_of se_bad fun _ => rfl
    · exact both_of (se_lam g (fun X W c k sc g e m h => sound_E n X W c k sc g e m h) h) fun _ => rfl
    · rename_i f p as pos _
      obtain ⟨hb, h'⟩ := iff_some h
      rw [Bool.and_eq_true] at hb
      obtain ⟨hg, ns⟩ := hb
      clear h
      split at h'
      · rename_i t rs hr
        exact both_of (se_rng g (fun e m h => (ih e m h).1) hg hr h') fun _ => rfl
      rename_i hrn
      clear hrn
      split at h'
      · rename_i hf
        subst hf
        split at h'
        · rename_i x px t pt _
          split at h'
          · rename_i ty hty
            obtain ⟨hgt, h2⟩ := iff_some h'
            obtain ⟨y, h3, rfl⟩ := o1_some h2
            have h4 : evE n sc c (.Name x px) = some y := by
              cases n with
              | zero => cases h3
              | succ n => exact h3
            refine both_of (pe_isi (ih _ _ h4).1 (g.gl hg) (g.blt _ (by simp [bltNames])) (g.gl hgt) (g.blt t (ty_name hty)) hty fun e q z => by cases z) fun _ => rfl
          · obtain ⟨hb2, h2⟩ := iff_some h'
            simp only [Bool.and_eq_true] at hb2
            obtain ⟨⟨⟨⟨hh, hv⟩, ht⟩, d1⟩, d2⟩ := hb2
            obtain ⟨i, hx, rfl⟩ := o1_some h2
            exact both_of (se_isx g hg hh hv ht (by simpa using d1) (by simpa using d2) hx) fun _ => rfl
        · rename_i a t pt _ _
          obtain ⟨hgt, h2⟩ := iff_some h'
          obtain ⟨ty, x, h1, h3, rfl⟩ := o2_some h2
          refine both_of (pe_isi (ih _ _ h3).1 (g.gl hg) (g.blt _ (by simp [bltNames])) (g.gl hgt) (g.blt t (ty_name h1)) h1 fun e q z => ?_) fun _ => rfl
          subst z
          cases (noStar_cons ns).1
        · rename_i a ts kk pt _
          obtain ⟨hgt, h2⟩ := iff_some h'
          rw [Bool.and_eq_true, Bool.and_eq_true] at hgt
          obtain ⟨tys, x, h1, h3, rfl⟩ := o2_some h2
          have hne : tys ≠ [] := by
            intro z
            subst z
            cases ts with
            | nil => simp at hgt
            | cons t ts =>
              cases t <;> first | (cases h1; done) | (obtain ⟨_, _, _, _, z⟩ := o2_some h1; cases z)
          have hl : tys.length ≤ sizeLine := by
            have : ∀ {ts : List Expr} {tys : List Ty}, tysOf ts = some tys → tys.length = ts.length := by
              intro ts
              induction ts with
              | nil => intro tys h; cases h; rfl
              | cons t ts ih =>
                intro tys h
                cases t <;> first | (cases h; done) | (obtain ⟨_, _, _, h4, rfl⟩ := o2_some h; exact congrArg (· + 1) (ih h4))
            rw [this h1, ← sizeMax_eq]
            exact of_decide_eq_true hgt.2
          refine both_of (pe_isis (ih _ _ h3).1 (g.gl hg) (g.blt _ (by simp [bltNames])) (fun t ty ht => g.blt t (ty_name ht)) g.hsc hgt.1.1 h1 hne hl fun e q z => ?_) fun _ => rfl
          subst z
          cases (noStar_cons ns).1
        · cases h'
      · exact both_of (se_call g hg ns (fun ms h => each_se (ihs h)) h') fun _ => rfl
    · rename_i o m' apos a cpos
      split at h
      · rename_i f hm
        split at h
        · rename_i x p
          obtain ⟨hb, h'⟩ := iff_some h
          simp only [Bool.and_eq_true] at hb
          obtain ⟨⟨⟨⟨hv, ns⟩, hl⟩, d1⟩, d2⟩ := hb
          have d1 : (x == ("__debug__" : Str)) = false := by simpa using d1
          have d2 : (x == ("__classdict__" : Str)) = false := by simpa using d2
          have ns : isStar a = false := by simpa using ns
          obtain ⟨i, y, hx, h1, rfl⟩ := o2_some h'
          have po : PE X (.Name x p) (tVar i) := pe_var (by rw [g.hN]; exact ixN_ok hx) (g.vis hv) d1 d2
          have na : noStar [a] = true := by simp [noStar, ns]
          have pa := pa_D (.cons (ih _ _ h1).1 .nil) na
          have e1 := starEach_cons (env := X.env) (es := []) ns
          have hf : ((backTo cpos (starEach [a] X.env)).all (fun x => !x.1) && (backToKw cpos (keywordEach [] X.env)).all (fun x => x.1.isSome) && decide ([a].length + ([] : List Keyword).length + (if ([] : List Keyword).isEmpty then 0 else 1) < 30)) = true := by
            rw [e1]; rfl
          unfold mtOf at hm
          split at hm
          · rename_i e; subst e; cases hm
            exact both_of ((pe_bm PySem.F.plainAttrs_list PySem.F.slot_list_append PySem.F.type_list_append mt_append po pa rfl hf hl e1 rfl).weaken fun _ _ _ q => rd_append q) fun _ => rfl
          · split at hm
            · rename_i e; subst e; cases hm
              exact both_of ((pe_bm PySem.F.plainAttrs_list PySem.F.slot_list_extend PySem.F.type_list_extend mt_extend po pa rfl hf hl e1 rfl).weaken fun _ _ _ q => rd_extend q) fun _ => rfl
            · split at hm
              · rename_i e; subst e; cases hm
                exact both_of ((pe_bm PySem.F.plainAttrs_list PySem.F.slot_list_pop PySem.F.type_list_pop mt_popAt po pa rfl hf hl e1 rfl).weaken fun _ _ _ q => rd_pop q) fun _ => rfl
              · cases hm
        · cases h
      · split at h
        · rename_i f hm
          obtain ⟨hb, h'⟩ := iff_some h
          simp only [Bool.and_eq_true] at hb
          obtain ⟨⟨hoc, ns⟩, hl⟩ := hb
          have ns : isStar a = false := by simpa using ns
          have hoc : isCall o = false := by simpa using hoc
          obtain ⟨x, y, h1, h2, rfl⟩ := o2_some h'
          have na : noStar [a] = true := by simp [noStar, ns]
          have e1 := starEach_cons (env := X.env) (es := []) ns
          have pa := pa_cons (ih _ _ h2).1 pa_nil e1
          have hf : ((backTo cpos (starEach [a] X.env)).all (fun x => !x.1) && (backToKw cpos (keywordEach [] X.env)).all (fun x => x.1.isSome) && decide ([a].length + ([] : List Keyword).length + (if ([] : List Keyword).isEmpty then 0 else 1) < 30)) = true := by
            rw [e1]; rfl
          have hbase : ∀ nm, attributeBase o nm X.env (eval o X.env) = eval o X.env := fun nm => by
            cases o <;> first | rfl | cases hoc
          have hu := g.u
          unfold vmOf at hm
          split at hm
          · rename_i e; subst e; cases hm
            exact both_of ((pe_bm PySem.F.plainAttrs_list PySem.F.slot_list_count PySem.F.type_list_count (mt_cnt hu) (ih _ _ h1).1 pa (hbase _) hf hl e1 rfl).weaken fun _ _ _ q => rd_met q) fun _ => rfl
          · split at hm
            · rename_i e; subst e; cases hm
              exact both_of ((pe_bm PySem.F.plainAttrs_list PySem.F.slot_list_index PySem.F.type_list_index (mt_idx hu) (ih _ _ h1).1 pa (hbase _) hf hl e1 rfl).weaken fun _ _ _ q => rd_met q) fun _ => rfl
            · cases hm
        · cases h
    · cases h
end Ev
end
section
set_option maxHeartbeats 4000000
/-! EvSf: the induction over statements. -/
namespace Ev
open PySem PySem.Spec PyProof.Rows L2
variable {T : LT}

theorem rd_var {K : PySem.W.Frag} {mg : Str → Option Value} {W : WX} {i : Nat} {σ : L2.St} {H : Hp} {Q : VK} (q : RdE K T mg (varE i) W σ H Q) : tVar i σ H Q := by
  obtain ⟨e, Z, G, s, h⟩ := q
  cases qg : gt e i with
  | none => simp only [varE, qg] at h; exact h.elim
  | some sv =>
    obtain ⟨v, h1, h2⟩ := s.sl i sv qg
    have bor : PostC K T mg W σ Z G H (CE' K T σ G Q) (.ok (.bor i) e) → tVar i σ H Q := fun h => ⟨v, h1, h.ret v ⟨s.less fun a z => z.elim id False.elim, h1, fun a z => z.elim⟩⟩
    cases sv with
    | im d =>
      simp only [varE, qg] at h
      exact ⟨v, h1, h.ret v (s.im h2)⟩
    | ex x => simp only [varE, qg] at h; exact h.elim
    | ol xs => simp only [varE, qg] at h; exact bor h
    | od xs => simp only [varE, qg] at h; exact bor h
section
variable {X : Cx} {W : WX} {c : Cfg} {k : Nat} {sc : Scope}
abbrev SS (T : LT) (X : Cx) (W : WX) (fx : List Nat) (s : Stmt) (m : MS) : Prop := PS X s (RdS X.K T X.mg fx m W)
theorem rd_aug {i : Nat} {f : Ev.D → Ev.D → Option Op} {m : ME} {D : Ends} {σ : L2.St} {H : Hp} {fx : List Nat} (hi : i < σ.length) (h : RdS X.K T X.mg fx (asgS (nameG fx i) (op2 f (varE i) m)) W D σ H) : tAug i (RdE X.K T X.mg m W) (rF X.K f) D σ H := by
  have q := rd_op2 (rd_asg hi h)
  obtain ⟨v, h1, h2⟩ := rd_var q
  exact ⟨v, h1, h2⟩
theorem pip_aug {op : Operator} : PIp X op (rF X.K (augD op)) := by
  intro pins s σ H x y v u Q I rx ry h
  obtain ⟨Z, p, q, o, zs, hf, vx, vy, fin⟩ := h
  have int : ∀ {i : Int}, o = .im (.int i) → Q (.int i) H := fun {i} e => fin _ H (Same.refl H) (by subst e; exact EncD.int i)
  unfold augD at hf
  split at hf
  · exact iop_add pins s σ H x y v u Q I rx ry ⟨_, _, vx.int, vy.int, int (imI_some hf)⟩
  · exact iop_sub pins s σ H x y v u Q I rx ry ⟨_, _, vx.int, vy.int, int (imI_some hf)⟩
  · cases hf
theorem ss_block {fx : List Nat} {b : List Stmt} {ms : List MS} (h : Each (SS T X W fx) b ms) : PSs X b (RdS X.K T X.mg fx (seqS ms) W) := by
  induction h with
  | nil => exact pss_nil.weaken fun _ _ _ q => rd_next q
  | cons h t ih =>
    cases t with
    | nil => exact pss_one h
    | cons h' t => exact (pss_cons h ih).weaken fun _ _ _ q => rd_seq2 q
theorem plainN_star : ∀ {ts : List Expr} {ns : List Str}, plainN ts = some ns → noStar ts = true
  | [], _, _ => rfl
  | t :: r, ns, h => by
    cases t <;> simp only [plainN] at h <;> first | cases h | skip
    cases q : plainN r with
    | none => rw [q] at h; cases h
    | some ns' =>
      have := plainN_star q
      unfold noStar at this ⊢
      rw [List.all_cons, this]
      rfl
theorem plainN_len {N : List Str} : ∀ {ts : List Expr} {ns : List Str} {is : List Nat}, plainN ts = some ns → ixNs N ns = some is → ts.length = is.length
  | [], ns, is, h, h2 => by cases h; cases h2; rfl
  | t :: r, ns, is, h, h2 => by
    cases t <;> simp only [plainN] at h <;> first | cases h | skip
    cases q : plainN r with
    | none => rw [q] at h; cases h
    | some ns' =>
      rw [q] at h
      cases h
      simp only [ixNs] at h2
      split at h2
      · rename_i i is' h3 h4
        cases h2
        exact congrArg (· + 1) (plainN_len q h4)
      · cases h2
theorem se_gnm {T : LT} {X : Cx} {W : WX} {c : Cfg} {k : Nat} {sc : Scope} (g : CtxOk T X W c k sc) (st : StoOk X sc) : ∀ {ts : List Expr} {ns : List Str} {is : List Nat}, plainN ts = some ns → ns.all (locB sc) = true → ixNs c.N ns = some is → PGs X ts (gNm is) ∧ ∀ i, i ∈ is → i < X.N.length
  | [], ns, is, h, _, h2 => by
    cases h
    cases h2
    exact ⟨pgs_nil, fun i hi => by cases hi⟩
  | t :: r, ns, is, h, hl, h2 => by
    cases t <;> simp only [plainN] at h <;> first | cases h | skip
    rename_i x pos
    cases q : plainN r with
    | none => rw [q] at h; cases h
    | some ns' =>
      rw [q] at h
      cases h
      rw [List.all_cons, Bool.and_eq_true] at hl
      simp only [ixNs] at h2
      split at h2
      · rename_i i is' h3 h4
        cases h2
        obtain ⟨hs, hlt⟩ := se_gnm g st q hl.2 h4
        have hi : X.N[i]? = some x := by rw [g.hN]; exact ixN_ok h3
        refine ⟨pgs_cons (pg_name g.nd hi (st x hl.1).1 (st x hl.1).2) hs (by rw [assignEach_cons rfl]; rfl), fun j hj => ?_⟩
        rcases List.mem_cons.mp hj with rfl | hj
        · rw [g.hN]; exact ixN_lt h3
        · exact hlt j hj
      · cases h2
theorem sw_tup {e : Expr} {ts : List Expr} {kk : Nat} {p : Pos} {l : Nat} {env : Env} : swapsWithSole [.Tuple ts kk p] e l env = pure false := by
  show swapsWith e (some (.Tuple ts kk p)) l env = pure false
  cases e <;> rfl
theorem sw_sub {e : Expr} {o i : Expr} {p : Pos} {l : Nat} {env : Env} : swapsWithSole [.Subscript o i p] e l env = pure false := by
  show swapsWith e (some (.Subscript o i p)) l env = pure false
  cases e <;> rfl
theorem locN_of (hX : ∀ x, locOnly sc x = true → X.env.scope.names.lookup x = some .local) (hN : X.N = c.N) : ∀ {ns : List Str} {is : List Nat}, allLoc sc ns = true → ixNs c.N ns = some is → LocN X ns is
  | [], _, _, h => by cases h; exact .nil
  | x :: ns, is, hl, h => by
    unfold allLoc at hl
    rw [List.all_cons, Bool.and_eq_true] at hl
    simp only [ixNs] at h
    split at h
    · rename_i i is' h1 h2
      cases h
      exact .cons (by rw [hN]; exact ixN_ok h1) (hX x hl.1) (locN_of hX hN hl.2 h2)
    · cases h
theorem locN_lt {ns : List Str} {is : List Nat} (h : LocN X ns is) : ∀ i, i ∈ is → i < X.N.length := by
  induction h with
  | nil => intro i hi; cases hi
  | cons h1 _ _ ih =>
    intro i hi
    rcases List.mem_cons.mp hi with rfl | hi
    · exact (List.getElem?_eq_some_iff.mp h1).1
    · exact ih i hi
/-- name = e -/
theorem ss_asg (g : CtxOk T X W c k sc) (st : StoOk X sc) {n : Nat} {x : Str} {px pos : Pos} {e : Expr} {i : Nat} {m : ME} (hl : locB sc x = true) (hx : ixN c.N x = some i) (he : evE n sc c e = some m) : SS T X W c.fx (.Assign [.Name x px] e pos) (asgS (nameG c.fx i) m) := by
  have hi : X.N[i]? = some x := by rw [g.hN]; exact ixN_ok hx
  have hlt : ∀ {σ : L2.St}, σ.length = X.N.length → i < σ.length := fun {σ} q => by rw [q, g.hN]; exact ixN_lt hx
  have hE := (sound_E n X W c k sc g e m he).1
  have plain : swapsWith e (some (.Name x px)) pos.line X.env = pure false → SS T X W c.fx (.Assign [.Name x px] e pos) (asgS (nameG c.fx i) m) := fun hs =>
    (ps_set g.nd hi (st x hl).1 hE hs (st x hl).2).weakenL fun D σ H q h => rd_asg (hlt q) h
  cases n with
  | zero => cases he
  | succ n =>
    cases e with
    | SetComp _ _ _ _ => cases he
    | DictComp _ _ _ _ _ => cases he
    | ListComp elt gens scope cpos =>
      by_cases hb : (X.env.blockKind == .function && X.env.kindOf x == some .local && px.line == (Expr.ListComp elt gens scope cpos).pos.line && !(scope.names.any fun (n, k) => n == x && (k == .local || k == .cell))) = true
      · have hs : swapsWith (.ListComp elt gens scope cpos) (some (.Name x px)) pos.line X.env = pure true := by
          show (pure _ : Sem Bool) = pure true
          rw [← hb]
        unfold evE at he
        split at he
        case h_18 =>
          rename_i elt' tg it ifs scope' pos' heq
          cases heq
          obtain ⟨hcalm, own, wi, gt, tt, te, P⟩ := parts_of g (sound_E n) he
          have hyl : X.env.scope.names.lookup x = some .local := by
            simp only [Bool.and_eq_true] at hb
            have := hb.1.1.2
            exact eq_of_beq this
          exact (ps_setLc hcalm g.nd hi hyl hs P.pi P.ok P.pg P.pt P.pe P.hs).weakenL fun D σ H q h => P.rd σ H _ (rd_asg (hlt q) h)
        all_goals first
          | (rename_i heq; cases heq; done)
          | (cases he; done)
          | skip
      · refine plain ?_
        show (pure _ : Sem Bool) = pure false
        have hb2 : (X.env.blockKind == .function && X.env.kindOf x == some .local && px.line == (Expr.ListComp elt gens scope cpos).pos.line && !(scope.names.any fun (n, k) => n == x && (k == .local || k == .cell))) = false := Bool.eq_false_iff.mpr hb
        rw [← hb2]
    | _ => exact plain rfl
/-- what a def's body stands in -/
structure BodyOk (T : LT) (X : Cx) (W : WX) (c : Cfg) (k : Nat) (sc : Scope) : Prop where
  cx : CtxOk T X W c k sc
  st : StoOk X sc
  bk : X.env.blockKind = .function
  po : c.calm = true → PassesOwn (model X.prog X.w) X.A X.env X.xe
  clo : c.clo = none
  exs : ∀ C, c.exs C = true → ∃ a, X.mg C = some (.ref a) ∧ ∀ p pos, Gl X C → PMk X (.Call (.Name C p) [] [] pos) (fun _ H Q => Q (.ref a) none H)
theorem sound_S : ∀ (n : Nat), BodyOk T X W c k sc → ∀ (s : Stmt) (m : MS), evS n sc c s = some m → SS T X W c.fx s m
  | 0, _, _, _, h => by cases h
  | n + 1, b, s, m, h => by
    have g := b.cx
    have ihE : ∀ {e : Expr} {m : ME}, evE n sc c e = some m → Both T X W e m := fun {e m} h => sound_E n X W c k sc g e m h
    have ihB : ∀ {b' : List Stmt} {m : MS}, o1 seqS (allO (b'.map (evS n sc c))) = some m → PSs X b' (RdS X.K T X.mg c.fx m W) := fun {b' m} h => by
      obtain ⟨ms, h1, rfl⟩ := o1_some h
      exact ss_block ((allO_each h1).imp fun s m h => sound_S n b s m h)
    unfold evS at h
    split at h
    · obtain ⟨x, h1, rfl⟩ := o1_some h
      exact (ps_ret (ihE h1).1).weaken fun _ _ _ q => rd_ret q
    · cases h
      exact ps_retN.weaken fun _ _ _ q => rd_retN q
    · rename_i e pos
      obtain ⟨hc, h'⟩ := iff_some h
      obtain ⟨x, h1, rfl⟩ := o1_some h'
      refine (ps_expr (ihE h1).1 ?_).weaken fun _ _ _ q => rd_expr q
      cases e <;> first | rfl | cases hc
    · obtain ⟨x, y, z, h1, h2, h3, rfl⟩ := o3_some h
      exact (ps_if (ihE h1).2 (ihB h2) (ihB h3)).weaken fun _ _ _ q => rd_ifS q
    · split at h
      · rename_i own ho
        obtain ⟨hs, h'⟩ := iff_some h
        rw [Bool.and_eq_true] at hs
        have hcalm := g.calm hs.1
        have hs2 := hs.2
        obtain ⟨x, y, z, h1, h2, h3, rfl⟩ := o3_some h'
        exact (ps_for (b.po hs.1) hcalm (se_iter g (fun e m h => (ihE h).1) h1) (se_tg g hcalm b.st h2 ho) (ihB h3) (folded_of (by simpa using hs2))).weaken fun _ _ _ q => rd_for q
      · cases h
    · obtain ⟨hcc, h'⟩ := iff_some h
      obtain ⟨x, y, h1, h2, rfl⟩ := o2_some h'
      exact (ps_while (b.po hcc) (ihE h1).2 (ihB h2)).weaken fun _ _ _ q => rd_while q
    · obtain ⟨hl, h'⟩ := iff_some h
      obtain ⟨i, x, h1, h2, rfl⟩ := o2_some h'
      exact ss_asg g b.st hl h1 h2
    · rename_i ts kk p e pos
      have tgt : ∀ {e : Expr} {x : ME} {own : List Nat} {t : MT}, ixNs c.N (tgN n (.Tuple ts kk p)) = some own → tgE n sc c (.Tuple ts kk p) = some t → X.calm = true → evE n sc c e = some x → swappedStores [.Tuple ts kk p] e X.env = pure none → SS T X W c.fx (.Assign [.Tuple ts kk p] e pos) (asgT t x) := fun {e x own t} h1 h2 hc h3 hw =>
        (ps_asg (ihE h3).1 (se_tg g hc b.st h2 h1) sw_tup hw rfl).weaken fun _ _ _ q => rd_asgT q
      split at h
      · rename_i es k2 p2
        have hloc : ∀ id, (X.env.kindOf id == some .local) = locOnly sc id := fun id => by
          show (X.env.scope.names.lookup id == some .local) = _
          rw [g.hsc]
          rfl
        split at h
        · rename_i ns hw
          obtain ⟨hb0, h'⟩ := iff_some h
          rw [Bool.and_eq_true, Bool.and_eq_true] at hb0
          have hcalm := g.calm hb0.1.1
          have hb : noStar es = true ∧ allLoc sc ns = true := ⟨hb0.1.2, hb0.2⟩
          obtain ⟨is, ms, h1, h2, rfl⟩ := o2_some h'
          have ln : LocN X ns is := locN_of (sc := sc) (fun x hx => by
            have := (hloc x).trans hx
            exact eq_of_beq this) g.hN hb.2 h1
          refine (ps_parN hcalm g.nd ln (swp_len hw) (pa_P ((allO_each h2).imp fun e m h => (ihE h).1) hb.1) (swp_ok b.bk hloc hw)).weakenL fun D σ H q h => rd_par (fun i hi => ?_) h
          rw [q]
          exact locN_lt ln i hi
        · rename_i hw
          split at h
          · rename_i ns hp
            split at h
            · rename_i is h1
              obtain ⟨hb, h'⟩ := iff_some h
              simp only [Bool.and_eq_true, decide_eq_true_eq] at hb
              obtain ⟨⟨⟨⟨hc0, hst⟩, hlc⟩, hnd⟩, hle⟩ := hb
              have hcalm := g.calm hc0
              obtain ⟨ms, h2, rfl⟩ := o1_some h'
              obtain ⟨hs, hlt⟩ := se_gnm g b.st hp hlc h1
              obtain ⟨q1, q2⟩ := assignEach_len (env := X.env) (plainN_star hp)
              have hlen : ts.length = is.length := plainN_len hp h1
              refine (ps_asg (pe_tup (pa_P ((allO_each h2).imp fun e m h => (ihE h).1) hst)) (pg_tup hcalm hs (q1.trans hlen) q2) sw_tup (swp_ok b.bk hloc hw) rfl).weakenL fun D σ H q h => rd_parT hnd hle (fun i hi => ?_) h
              rw [q]
              exact hlt i hi
            · cases h
          · split at h
            · rename_i own ho
              obtain ⟨hcc, h'⟩ := iff_some h
              obtain ⟨t, x, h1, h2, rfl⟩ := o2_some h'
              exact tgt ho h1 (g.calm hcc) h2 (swp_ok b.bk hloc hw)
            · cases h
        · cases h
      · rename_i e' hne
        split at h
        · rename_i own ho
          obtain ⟨hcc, h'⟩ := iff_some h
          obtain ⟨t, x, h1, h2, rfl⟩ := o2_some h'
          refine tgt ho h1 (g.calm hcc) h2 ?_
          cases e <;> first | rfl | exact absurd rfl (hne _ _ _)
        · cases h
    · rename_i x p i p2 e pos
      obtain ⟨hb, h'⟩ := iff_some h
      simp only [Bool.and_eq_true] at hb
      obtain ⟨⟨hv, d1⟩, d2⟩ := hb
      have d1 : (x == ("__debug__" : Str)) = false := by simpa using d1
      have d2 : (x == ("__classdict__" : Str)) = false := by simpa using d2
      obtain ⟨j, mi, me, h1, h2, h3, rfl⟩ := o3_some h'
      have po : PE X (.Name x p) (tVar j) := pe_var (by rw [g.hN]; exact ixN_ok h1) (g.vis hv) d1 d2
      refine (ps_asg (ihE h3).1 (pg_sub po (ihE h2).1 set_list (fun v => ?_)) sw_sub rfl rfl).weaken fun _ _ _ q => rd_seti q
      cases i with
      | Slice lo hi st p =>
        exfalso
        cases n with
        | zero => cases h2
        | succ n => cases h2
      | _ => rfl
    · obtain ⟨hl, h'⟩ := iff_some h
      obtain ⟨i, x, h1, h2, rfl⟩ := o2_some h'
      rename_i y p op e pos
      have hi : X.N[i]? = some y := by rw [g.hN]; exact ixN_ok h1
      refine (ps_aug g.nd hi (b.st y hl).1 (ihE h2).1 pip_aug (b.st y hl).2).weakenL fun D σ H q h => rd_aug ?_ h
      rw [q, g.hN]
      exact ixN_lt h1
    · rename_i C p pos pos2
      obtain ⟨hb, h'⟩ := iff_some h
      rw [Bool.and_eq_true, Bool.and_eq_true] at hb
      cases h'
      obtain ⟨a, hm, hp⟩ := b.exs C hb.2
      exact (ps_raise (g.calm hb.1.1) g.tk (hp _ _ (g.gl hb.1.2))).weaken fun _ _ _ q => rd_raise0 hm q
    · obtain ⟨_, h'⟩ := iff_some h
      rw [b.clo] at h'
      cases h'
    · cases h
      exact ps_pass.weaken fun _ _ _ q => rd_next q
    · cases h
      exact ps_break.weaken fun _ _ _ q => rd_brk q
    · cases h
      exact ps_continue.weaken fun _ _ _ q => rd_ct q
    · cases h
end
end Ev
end
section
set_option maxHeartbeats 4000000
/-! EvT1: try with several clauses, each of which names what it has caught. -/
namespace Ev
open PySem PySem.Spec PyProof.Rows L2

/-- what the clauses wish of an exception of the body -/
def wManyA (K : PySem.W.Frag) (Wout : WX) (D : Ends) : List (Value × Nat × (Addr → Value → Option Addr → TS)) → WX
  | [] => Wout
  | (c, i, ts) :: r => fun cls d σ H => ∃ b, PySem.W.exmOne K cls c = some b ∧ (b = true → ∀ a, H a = none → ts a cls d { nx := fun σ' H' => D.nx (σ'.set i none) H', rt := D.rt, bk := fun σ' H' => D.bk (σ'.set i none) H', ct := fun σ' H' => D.ct (σ'.set i none) H' } (σ.set i (some (.ref a))) H) ∧
    (b = false → wManyA K Wout D r cls d σ H)
inductive HdsA (X : Cx) : List ExceptHandler → List (Value × Nat × (Addr → Value → Option Addr → TS)) → Prop
  | nil : HdsA X [] []
  | cons {x n : Str} {i : Nat} {c : Value} {ts : Addr → Value → Option Addr → TS} {b₀ : Stmt} {suite : List Stmt} {np pos' : Pos} {hds : List ExceptHandler} {l : List (Value × Nat × (Addr → Value → Option Addr → TS))} (hc : Names X x c) (hi : X.N[i]? = some n) (hln : X.env.kindOf n = some .local)
      (hsu : ∀ (a : Addr) (oe : Obj) (cls : Value) (d : Option Addr) (pn : List (Addr × Obj)), Zc cls d oe → (∃ vs, oe.data = .fields vs) → PSs (X.suite a ((a, oe) :: pn)) (b₀ :: suite) (ts a cls d)) (r : HdsA X hds l) :
      HdsA X (.ExceptHandler (some (.Name x np)) (some n) (b₀ :: suite) pos' :: hds) ((c, i, ts) :: l)
section
variable {X : Cx} {body : List Stmt} {h₀ : ExceptHandler} {hds : List ExceptHandler} {l : List (Value × Nat × (Addr → Value → Option Addr → TS))} {pos : Pos} {tb : WX → TS} {Wout : WX}
theorem ps_try_mas (hs : X.stack = X.env :: X.outer) (hf : X.env.frame = some X.env.locals) (hN : X.N.Nodup) (tk : Takes X Wout)
    (hb : ∀ (W : WX) (pn : List (Addr × Obj)) (xe : Value → Shared → Prop), Takes (X.tr pn xe) W → PassesOwn (model X.prog X.w) X.A X.env xe → PSs (X.tr pn xe) body (tb W))
    (hh : HdsA X (h₀ :: hds) l) : PS X (.Try body (h₀ :: hds) [] [] pos) (fun D σ H => tb (wManyA X.K Wout D l) D σ H) := by
  refine ⟨fun pins s σ H D I h => ?_⟩
  have ok := I.ok
  have hfr : X.A.frames = some (X.env :: X.outer) := by rw [ok.frames, hs]
  refine wpAny_Try_except ?_
  refine wpAny_mono ((hb (wManyA X.K Wout D l) (X.pn ++ pins) (fun e s₁ => wpAny (model X.prog X.w) X.A (noteFrame e X.env) (fun _ s₂ => wpAny (model X.prog X.w) X.A (setFlight e none) (fun _ s₃ =>
    wpAny (model X.prog X.w) X.A (handleBy e X.env (h₀ :: hds)) (SP X pins D) X.xe s₃) X.xe s₂) X.xe s₁) (fun u s' xx => ?_) PassesOwn.looking).run [] s σ H D (I.toTry _) h) (fun f s1 hsp => ?_) (fun e s1 he => he)
  · obtain ⟨a, B, sI, pins', σ', H', cls, d, rfl, J', nb, up, sky, na, os, ag, w⟩ := xx
    have J : Inv X pins σ' H' sI := J'.ofTry ok
    have sky' : Sky B (X.env :: X.outer) a (Zc cls d) X.env.locals s'.heap := by rw [← hs]; exact sky
    show wpAny (model X.prog X.w) X.A (noteFrame (.ref a) X.env) _ _ _
    refine Sky.land Zc.steady hfr hf sky' fun h3 fl3 up3 => ?_
    have J3 : Inv X pins σ' H' { s' with heap := h3 } := J.landed nb fl3.1 (up.trans up3) os ag
    obtain ⟨oe3, vs3, he3, hz3, hd3⟩ := fl3.there
    have notFr : ∀ {h : Heap} {o : Obj} {vs : Array Value}, h.FunFrames B (X.env :: X.outer) → h.get? a = some o → o.data = .fields vs → a ∉ frs (X.env :: X.outer) := fun {h o vs} ff e dd hm => by
      obtain ⟨_, o', e', hnf⟩ := ff.mem hm
      rw [e] at e'; cases e'
      exact hnf _ dd
    have nfr := notFr fl3.2.2.1 he3 hd3
    have nL : a ≠ X.env.locals := fun z => nfr (List.mem_filterMap.mpr ⟨X.env, List.mem_cons_self, by rw [hf, z]⟩)
    have nF : a ∉ X.fs := fun hm => by
      obtain ⟨e, he, q⟩ := List.mem_filterMap.mp hm
      exact nfr (List.mem_filterMap.mpr ⟨e, List.mem_cons_of_mem _ he, q⟩)
    have S3 := J3.suite he3 hd3 na nL nF
    have go : ∀ {hds' : List ExceptHandler} {l' : List (Value × Nat × (Addr → Value → Option Addr → TS))}, HdsA X hds' l' → wManyA X.K Wout D l' cls d σ' H' →
        wpAny (model X.prog X.w) X.A (handleBy (.ref a) X.env hds') (SP X pins D) X.xe { s' with heap := h3 } := by
      intro hds' l' hk
      induction hk with
      | nil =>
        intro w
        refine wpAny_handleBy_nil ?_
        obtain ⟨k1, k2, k3, oe, vs, T, oT, ts', he, hz, hd, h1, hr⟩ := id fl3
        unfold PySem.passOn
        refine wpAny_bind (wpAny_field he hd h1 ?_)
        rw [if_neg (show ¬ ((Value.ref T == Value.none) = true) from by simp)]
        have fin : wpAny (model X.prog X.w) X.A (setFlight (.ref a) X.env.frame) (fun _ s4 => wpAny (model X.prog X.w) X.A (throw (.ref a) : Sem Flow) (SP X pins D) X.xe s4) X.xe { s' with heap := h3 } := by
          rw [hf]
          refine HandSPX.setFlight_upZ fl3 fun h4 hh4 up4 => wpAny_throw (tk _ _ ?_)
          exact ⟨a, B, sI, pins, σ', H', cls, d, rfl, J, nb, (up.trans up3).trans up4, .inr (.inr (by rw [hs]; exact hh4)), na, os, ag, w⟩
        first
          | exact wpAny_bind (wpAny_pure (wpAny_bind fin))
          | exact wpAny_bind fin
      | @cons x n i c ts b₀ suite np pos' hds2 l2 hc hi hln hsu r ih =>
        intro w
        obtain ⟨b, hb1, hyes, hno⟩ := w
        refine wpAny_handleBy_cons (codeAny_handlers_test ?_) (by intro q; cases q)
        have LT : PySem.W.Looks (model X.prog X.w) h3 (typeOf (.ref a)) cls := fun A Q E s k q => wpAny_typeOf_ref (k _ _ he3) (by rw [hz3.1]; exact q)
        have LM := PySem.W.exm_one (M := model X.prog X.w) (J3.kIn) LT hb1
        have test : ∀ {Q : Value → Shared → Prop} {E : Value → Shared → Prop}, Q c { s' with heap := h3 } → wpAny (model X.prog X.w) (X.A.mark (some (.ref a))) (eval (.Name x np) X.env) Q E { s' with heap := h3 } := fun {Q E} q => by
          obtain ⟨hg, hdbg, hm | ⟨hm, hv, hnn⟩⟩ := hc
          · exact ld_glob (X := X.suite a ((a, oe3) :: (X.pn ++ pins))) S3 hg hm q hdbg
          · exact ld_blt (X := X.suite a ((a, oe3) :: (X.pn ++ pins))) S3 hg hm hv q hnn hdbg
        refine test (LM.here ?_)
        cases b with
        | true =>
          refine codeAny_handlers_suite_as ?_
          refine HandSPX.lands_againZ fl3 fun h4 fl4 up4 => ?_
          have J4 : Inv X pins σ' H' { s' with heap := h4 } := J.landed nb fl4.1 ((up.trans up3).trans up4) os ag
          obtain ⟨oe4, vs4, he4, hz4, hd4⟩ := fl4.there
          have S4 := J4.suite he4 hd4 na nL nF
          refine store_ok (X := X.suite a ((a, oe4) :: (X.pn ++ pins))) (v := .ref a) S4 hN hi (.inl hln) rfl (fun s5 S5 => ?_) (.inr hln)
          refine wpAny_mono ((hsu a oe4 cls d (X.pn ++ pins) hz4 ⟨_, hd4⟩).run [] s5 _ H' _ S5 (hyes rfl a na)) (fun f s6 hsp => ?_) (fun _ _ z => False.elim z)
          have end_ : ∀ {σ6 : L2.St} {H6 : Hp} {Q : Shared → Prop}, Inv (X.suite a ((a, oe4) :: (X.pn ++ pins))) [] σ6 H6 s6 → (∀ s7, Inv X pins (σ6.set i none) H6 s7 → Q s7) →
              wpAny (model X.prog X.w) X.A (do bindName X.env n .none; unbindBehindTheSuite X.env n pos') (fun _ s7 => Q s7) X.xe s6 := fun {σ6 H6 Q} S6 hq => gone_ok (S6.unsuite ok) hN hi hln hq
          cases f with
          | next =>
            obtain ⟨σ6, H6, S6, q6⟩ := hsp
            exact end_ S6 fun s7 J7 => ⟨_, _, J7, q6⟩
          | brk =>
            obtain ⟨σ6, H6, S6, q6⟩ := hsp
            exact end_ S6 fun s7 J7 => ⟨_, _, J7, q6⟩
          | cont =>
            obtain ⟨σ6, H6, S6, q6⟩ := hsp
            exact end_ S6 fun s7 J7 => ⟨_, _, J7, q6⟩
          | ret u =>
            obtain ⟨v6, σ6, H6, S6, r6, q6⟩ := hsp
            exact end_ S6 fun s7 J7 => ⟨_, _, _, J7, r6, q6⟩
        | false =>
          show wpAny _ X.A (handleBy (.ref a) X.env hds2) _ _ _
          exact ih (hno rfl)
    exact go hh w
  · cases f with
    | next =>
      obtain ⟨σ', H', J', q⟩ := hsp
      exact wpAny_execs_nil ⟨σ', H', J'.ofTry ok, q⟩
    | brk =>
      obtain ⟨σ', H', J', q⟩ := hsp
      exact ⟨σ', H', J'.ofTry ok, q⟩
    | cont =>
      obtain ⟨σ', H', J', q⟩ := hsp
      exact ⟨σ', H', J'.ofTry ok, q⟩
    | ret u =>
      obtain ⟨v, σ', H', J', r, q⟩ := hsp
      exact ⟨v, σ', H', J'.ofTry ok, r, q⟩
end
end Ev
end
section
set_option maxHeartbeats 4000000
/-! EvT2: a def that calls the lambda that it gets, within a try. -/
namespace Ev
open PySem PySem.Spec PyProof.Rows L2
variable {T : LT}

/-- the same, an exception held -/
def LT.hold (T : LT) (a : Addr) (cls : Value) (d : Option Addr) : LT := { T with exc := some (a, cls, d) }
section
variable {K : PySem.W.Frag} {mg : Str → Option Value} {W : WX} {e : Sl} {σ σ1 : L2.St} {H H1 : Hp} {Z Z1 G : Addr → Prop} {D : Ends} {fx : List Nat}
theorem gt_noEx : ∀ {e : Sl} {i : Nat} {sv : Sv}, gt (noEx e) i = some sv → gt e i = some sv ∧ ∀ x, sv ≠ .ex x
  | [], i, sv, h => by rw [show noEx [] = [] from rfl, gt_nil] at h; cases h
  | x :: r, 0, sv, h => by
    cases x with
    | none => cases h
    | some y =>
      cases y with
      | im d => cases h; exact ⟨rfl, fun x z => by cases z⟩
      | ol d => cases h; exact ⟨rfl, fun x z => by cases z⟩
      | od d => cases h; exact ⟨rfl, fun x z => by cases z⟩
      | ex d => cases h
  | x :: r, i + 1, sv, h => by
    have h : gt (noEx r) i = some sv := by
      cases x with
      | none => exact h
      | some y => cases y <;> exact h
    exact gt_noEx (e := r) h
/-- what is held is let go -/
theorem StOk.unhold {a : Addr} {cls : Value} {d : Option Addr} (s : StOk K (T.hold a cls d) e σ H Z G) (j : Nat) : StOk K T (pt (noEx e) j none) σ H Z G ∧ StOk K T (pt (noEx e) j none) (σ.set j none) H Z G := by
  have back : ∀ {i : Nat} {sv : Sv}, gt (pt (noEx e) j none) i = some sv → i ≠ j ∧ gt e i = some sv ∧ ∀ x, sv ≠ .ex x := fun {i sv} q => by
    rcases gt_pt q with ⟨_, z⟩ | ⟨hi, z⟩
    · cases z
    · obtain ⟨h1, h2⟩ := gt_noEx z; exact ⟨hi, h1, h2⟩
  have sv' : ∀ {v : V} {sv : Sv}, (∀ x, sv ≠ .ex x) → SvOk K (T.hold a cls d) Z G H v sv → SvOk K T Z G H v sv := fun {v sv} n h => by
    cases sv with
    | im d => exact h
    | ol d => exact h
    | od d => exact h
    | ex x => exact absurd rfl (n x)
  constructor
  · refine ⟨s.tb, s.zs, s.gs, fun i sv q => ?_, fun i k si sk w q1 q2 o1 o2 e1 e2 => ?_⟩
    · obtain ⟨_, h1, h2⟩ := back q
      obtain ⟨v, h3, h4⟩ := s.sl i sv h1
      exact ⟨v, h3, sv' h2 h4⟩
    · exact s.inj i k si sk w (back q1).2.1 (back q2).2.1 o1 o2 e1 e2
  · refine ⟨s.tb, s.zs, s.gs, fun i sv q => ?_, fun i k si sk w q1 q2 o1 o2 e1 e2 => ?_⟩
    · obtain ⟨hi, h1, h2⟩ := back q
      obtain ⟨v, h3, h4⟩ := s.sl i sv h1
      exact ⟨v, by rw [set_ne hi]; exact h3, sv' h2 h4⟩
    · obtain ⟨h1, p1, _⟩ := back q1
      obtain ⟨h2, p2, _⟩ := back q2
      rw [set_ne h1] at e1
      rw [set_ne h2] at e2
      exact s.inj i k si sk w p1 p2 o1 o2 e1 e2
theorem bare_nothing {n : Nat} (b : StOk K T [] [] H Z G) : StOk K T (List.replicate n none) σ H Z G :=
  ⟨b.tb, b.zs, b.gs, fun i sv q => (by rw [gt_repl'] at q; cases q), fun i j si sj v q => (by rw [gt_repl'] at q; cases q)⟩
where gt_repl' : ∀ {m i : Nat}, gt (List.replicate m (none : Option Sv)) i = none
  | 0, i => gt_nil
  | m + 1, 0 => rfl
  | m + 1, i + 1 => by rw [List.replicate_succ]; exact gt_repl' (m := m) (i := i)
/-- a statement ahead, in which the first slot stands -/
theorem PostS.bindF {r : SR} {k : Sl → SR} (h : PostS K T mg W [] σ Z G H D (r.bind k)) :
    PostS K T mg W [0] σ Z G H { D with nx := fun σ' H' => ∃ e' Z', Le Z H Z' H' ∧ KeepG G H H' ∧ SameF [0] σ σ' ∧ StOk K T e' σ' H' Z' G ∧ PostS K T mg W [] σ' Z' G H' D (k e') } r := by
  have w : ∀ {σ' : L2.St}, SameF [0] σ σ' → SameF [] σ σ' := fun f => ⟨f.1, fun i z => by cases z⟩
  cases r with
  | nx e => exact fun σ' H' Z' l kk f s => ⟨e, Z', l, kk, f, s, PostS.trans l kk (w f) h⟩
  | ct e => exact fun σ' H' Z' l kk f s => h σ' H' Z' l kk (w f) s
  | bk e => exact fun σ' H' Z' l kk f s => h σ' H' Z' l kk (w f) s
  | rt o e => exact fun v σ' H' Z' l kk f s => h v σ' H' Z' l kk (w f) s
  | er x e => exact fun cls d σ' H' Z' l kk f s x => h cls d σ' H' Z' l kk (w f) s x
  | bad => exact h
theorem PostS.bind0 {r : SR} {k : Sl → SR} (h : PostS K T mg W [] σ Z G H D (r.bind k)) :
    PostS K T mg W [] σ Z G H { D with nx := fun σ' H' => ∃ e' Z', StOk K T e' σ' H' Z' G ∧ PostS K T mg W [] σ' Z' G H' D (k e') } r := by
  cases r with
  | nx e => exact fun σ' H' Z' l kk f s => ⟨e, Z', s, PostS.trans l kk f h⟩
  | ct e => exact h
  | bk e => exact h
  | rt o e => exact h
  | er x e => exact h
  | bad => exact h
/-- statements ahead of the try -/
def tPre (K : PySem.W.Frag) (T : LT) (mg : Str → Option Value) : List MS → TS → TS
  | [], u => u
  | m :: ms, u => tSeq (RdS K T mg [0] m WF) (tPre K T mg ms u)
theorem seqS_cons {m : MS} {ms : List MS} {e : Sl} {k : Sl → SR} : (seqS (m :: ms) e).bind k = (m e).bind fun e1 => (seqS ms e1).bind k := by
  cases ms with
  | nil =>
    show (m e).bind k = _
    cases m e <;> rfl
  | cons m' ms =>
    show ((m e).bind (seqS (m' :: ms))).bind k = _
    cases m e <;> rfl
theorem pre_ok {Z0 : Addr → Prop} {H0 : Hp} {σ0 : L2.St} {u : TS} {k : Sl → SR}
    (hu : ∀ e' σ' H' Z', Le Z0 H0 Z' H' → KeepG G H0 H' → SameF [0] σ0 σ' → StOk K T e' σ' H' Z' G → PostS K T mg WF [] σ' Z' G H' D (k e') → u D σ' H') :
    ∀ {ms : List MS} {e : Sl} {σ : L2.St} {H : Hp} {Z : Addr → Prop}, Le Z0 H0 Z H → KeepG G H0 H → SameF [0] σ0 σ → StOk K T e σ H Z G → PostS K T mg WF [] σ Z G H D ((seqS ms e).bind k) → tPre K T mg ms u D σ H
  | [], e, σ, H, Z, l, kk, f, s, h => hu e σ H Z l kk f s h
  | m :: ms, e, σ, H, Z, l, kk, f, s, h => by
    rw [seqS_cons] at h
    refine ⟨e, Z, G, s, ?_⟩
    have h2 := PostS.bindF h
    cases q : m e with
    | nx e1 =>
      rw [q] at h2
      intro σ' H' Z' l' k' f' s'
      obtain ⟨e2, Z2, l2, k2, f2, s2, h3⟩ := h2 σ' H' Z' l' k' f' s'
      exact pre_ok hu (l.trans l2) (kk.trans k2) (f.trans f2) s2 h3
    | ct e1 => rw [q] at h2; exact h2
    | bk e1 => rw [q] at h2; exact h2
    | rt o e1 => rw [q] at h2; exact h2
    | er x e1 => rw [q] at h2; exact h2
    | bad => rw [q] at h2; exact h2
theorem pss_pre {X : Cx} {pre : List Stmt} {ms : List MS} {rest : List Stmt} {u : TS} (h : Each (SS T X WF [0]) pre ms) (hr : PSs X rest u) : PSs X (pre ++ rest) (tPre X.K T X.mg ms u) := by
  induction h with
  | nil => exact hr
  | cons h _ ih => exact pss_cons h ih
end
end Ev
end
section
set_option maxHeartbeats 4000000
/-! EvT3: the try of a def that calls a lambda; the def gives what the evaluator says. -/
namespace Ev
open PySem PySem.Spec PyProof.Rows L2
variable {T : LT}

/-- a clause's suite, by the evaluator -/
def tSuite (K : PySem.W.Frag) (T : LT) (mg : Str → Option Value) (n : Nat) (m : MS) : Addr → Value → Option Addr → TS := fun a cls d D σ H => σ.length = n → RdS K (T.hold a cls d) mg [] m WF D σ H
/-- what is known of classes -/
def SubOk (K : PySem.W.Frag) (mg : Str → Option Value) (sub : Str → Str → Option Bool) : Prop :=
  ∀ x y b, sub x y = some b → ∃ D, mg x = some (.ref D) ∧ ExcC K D ∧ ∃ cv, ClsIs mg y cv ∧ PySem.W.kitOne K (.ref D) cv = some b ∧ PySem.W.exmOne K (.ref D) cv = some b
/-- clauses as the evaluator has them, and as the rule wants them -/
inductive Clauses (K : PySem.W.Frag) (T : LT) (mg : Str → Option Value) (n : Nat) : List (Str × Nat × MS) → List (Value × Nat × (Addr → Value → Option Addr → TS)) → Prop
  | nil : Clauses K T mg n [] []
  | cons {C : Str} {j : Nat} {m : MS} {cv : Value} {hs l} : ClsIs mg C cv → j < n → Clauses K T mg n hs l → Clauses K T mg n ((C, j, m) :: hs) ((cv, j, tSuite K T mg n m) :: l)
theorem clsIs_inj {mg : Str → Option Value} {y : Str} {a b : Value} (h : ClsIs mg y a) (h' : ClsIs mg y b) : a = b := by
  rcases h with ⟨C, rfl, h⟩ | ⟨t, rfl, h, q⟩
  · rcases h' with ⟨C', rfl, h'⟩ | ⟨t', rfl, h', q'⟩
    · rw [h] at h'; cases h'; rfl
    · rw [h] at h'; cases h'
  · rcases h' with ⟨C', rfl, h'⟩ | ⟨t', rfl, h', q'⟩
    · rw [h] at h'; cases h'
    · rw [q] at q'; cases q'; rfl
section
variable {K : PySem.W.Frag} {mg : Str → Option Value} {sub : Str → Str → Option Bool} {n : Nat} {σ : L2.St} {H : Hp} {Z G : Addr → Prop} {D : Ends} {x : Exc}
theorem bare_hold {a : Addr} {cls : Value} {d : Option Addr} (b : StOk K T [] [] H Z G) : StOk K (T.hold a cls d) [] [] H Z G :=
  ⟨b.tb, b.zs, b.gs, fun i sv q => (by rw [gt_nil] at q; cases q), fun i j si sj v q => (by rw [gt_nil] at q; cases q)⟩
/-- the clauses take what is raised -/
theorem clauses_ok (hmg : T.mg = mg) (hsub : SubOk K mg sub) (hl : σ.length = n) {hs : List (Str × Nat × MS)} {l : List (Value × Nat × (Addr → Value → Option Addr → TS))} (hc : Clauses K T mg n hs l) :
    PostS K T mg WF [] σ Z G H D (tryH sub x n hs) → ∀ (cls : Value) (dd : Option Addr) (σ2 : L2.St) (H2 : Hp) (Z2 : Addr → Prop), Le Z H Z2 H2 → KeepG G H H2 → StOk K T [] [] H2 Z2 G → ExOk K mg Z2 x cls dd H2 → wManyA K WF D l cls dd σ2 H2 := by
  induction hc with
  | nil => exact fun h => h.elim
  | @cons C j m cv hs l hcv hj _ ih =>
    intro h cls dd σ2 H2 Z2 l2 k2 b ex
    simp only [tryH] at h
    obtain ⟨D', hD, ecls, _⟩ := id ex
    cases hsb : sub x.cls C with
    | none => rw [hsb] at h; exact h.elim
    | some bb =>
      obtain ⟨D2, hD2, _, cv2, hcv2, _, hex⟩ := hsub _ _ _ hsb
      rw [hD] at hD2; cases hD2
      have := clsIs_inj hcv hcv2
      subst this
      subst ecls
      refine ⟨bb, hex, fun hbb a na => ?_, fun hbb => ?_⟩
      · subst hbb
        rw [hsb] at h
        simp only at h
        intro hlen
        have hlen2 : σ2.length = n := by simpa using hlen
        have sj : StOk K (T.hold a (.ref D') dd) (pt (List.replicate n none) j (some (.ex x))) (σ2.set j (some (.ref a))) H2 Z2 G := by
          have b2 := bare_nothing (n := n) (σ := σ2) (bare_hold (a := a) (cls := .ref D') (d := dd) b)
          refine ⟨b2.tb, b2.zs, b2.gs, fun i sv q => ?_, fun i k si sk w q1 q2 o1 => ?_⟩
          · rcases gt_pt q with ⟨rfl, z⟩ | ⟨_, z⟩
            · cases z
              refine ⟨.ref a, List.getElem?_set_self (by omega), a, .ref D', dd, rfl, rfl, ?_⟩
              show ExOk K T.mg Z2 x (.ref D') dd H2
              rw [hmg]
              exact ex
            · rw [bare_nothing.gt_repl'] at z; cases z
          · rcases gt_pt q1 with ⟨rfl, z⟩ | ⟨_, z⟩
            · cases z; cases o1
            · rw [bare_nothing.gt_repl'] at z; cases z
        refine ⟨_, Z2, G, sj, ?_⟩
        have f0 : ∀ {σ4 : L2.St}, SameF [] (σ2.set j (some (V.ref a))) σ4 → SameF [] σ σ4 := fun {σ4} f => ⟨by rw [f.1, List.length_set, hlen2, hl], fun i z => by cases z⟩
        have f1 : ∀ {σ4 : L2.St}, SameF [] (σ2.set j (some (V.ref a))) σ4 → SameF [] σ (σ4.set j none) := fun {σ4} f => ⟨by rw [List.length_set, f.1, List.length_set, hlen2, hl], fun i z => by cases z⟩
        cases qm : m (pt (List.replicate n none) j (some (.ex x))) with
        | nx e4 =>
          rw [qm] at h
          exact fun σ4 H4 Z4 l4 k4 f4 s4 => h _ H4 Z4 (l2.trans l4) (k2.trans k4) (f1 f4) (s4.unhold j).2
        | ct e4 =>
          rw [qm] at h
          exact fun σ4 H4 Z4 l4 k4 f4 s4 => h _ H4 Z4 (l2.trans l4) (k2.trans k4) (f1 f4) (s4.unhold j).2
        | bk e4 =>
          rw [qm] at h
          exact fun σ4 H4 Z4 l4 k4 f4 s4 => h _ H4 Z4 (l2.trans l4) (k2.trans k4) (f1 f4) (s4.unhold j).2
        | bad => rw [qm] at h; exact h.elim
        | er y e4 =>
          rw [qm] at h
          exact fun cls d σ4 H4 Z4 l4 k4 f4 s4 ex4 => h cls d σ4 H4 Z4 (l2.trans l4) (k2.trans k4) (f0 f4) (s4.unhold j).1 ex4
        | rt o e4 =>
          rw [qm] at h
          exact fun v σ4 H4 Z4 l4 k4 f4 x4 => h v σ4 H4 Z4 (l2.trans l4) (k2.trans k4) (f0 f4) ⟨(x4.st.unhold j).1, by
            have := x4.ok
            cases o with
            | im d => exact this
            | tl d => exact this
            | td d => exact this
            | bor i => exact this, x4.ne⟩
      · subst hbb
        rw [hsb] at h
        exact ih h (.ref D') dd σ2 H2 Z2 l2 k2 b ex
end
section
/-- the try, with its call: what is wanted of it -/
def tTryB (K : PySem.W.Frag) (ret : Bool) (f c' : Addr) (q : Str) (tl : XK → Hp → VK → Prop) : WX → TS := fun W D σ H => ∃ Ech : XK, (∀ cls d σ' H', Ech cls d H' → W cls d σ' H') ∧ σ[0]? = some (some (.ref f)) ∧ H c' = some (LamX.CodeO c' q) ∧ tl Ech H (if ret then D.rt else fun _ H1 => D.nx σ H1)
theorem pss_tryB {X : Cx} {b : Stmt} {ret : Bool} {f c' : Addr} {q a : Str} {tl : XK → Hp → VK → Prop} {W : WX} {c : Cfg} (hb : tryB c b = some ret) (hN : c.N.head? = some a)
    (act : ∀ (E : XK) (p1 p2 : Pos), (∀ cls d σ' H', E cls d H' → W cls d σ' H') → PE X (.Call (.Name a p1) [] [] p2) (fun σZ HZ Q => σZ[0]? = some (some (.ref f)) ∧ HZ c' = some (LamX.CodeO c' q) ∧ tl E HZ Q)) : PSs X [b] (tTryB X.K ret f c' q tl W) := by
  unfold tryB at hb
  split at hb
  · rename_i a' p1 p2 p3
    obtain ⟨h1, h2⟩ := iff_some hb
    cases h2
    have : a' = a := by
      have h1 := eq_of_beq h1
      rw [hN] at h1
      exact (Option.some.inj h1).symm
    subst this
    refine ⟨fun pins s σ H D I h => ?_⟩
    obtain ⟨Ech, hW, h3, h4, h5⟩ := h
    exact (pss_one (ps_expr (act Ech p1 p2 hW) rfl)).run pins s σ H D I ⟨h3, h4, h5⟩
  · rename_i a' p1 p2 p3
    obtain ⟨h1, h2⟩ := iff_some hb
    cases h2
    have : a' = a := by
      have h1 := eq_of_beq h1
      rw [hN] at h1
      exact (Option.some.inj h1).symm
    subst this
    refine ⟨fun pins s σ H D I h => ?_⟩
    obtain ⟨Ech, hW, h3, h4, h5⟩ := h
    exact (pss_one (ps_ret (act Ech p1 p2 hW))).run pins s σ H D I ⟨h3, h4, h5⟩
  · cases hb
/-- what is known where a def that calls a lambda runs -/
structure LmOk (K : PySem.W.Frag) (mg : Str → Option Value) (c : Cfg) : Prop where
  blt : ∀ f, f ∈ bltNames → mg f = none
  cst : ∀ x d, c.cst x = some d → ∃ u v, mg x = some u ∧ RelV v u ∧ ∀ Z H, EncD K Z H v d
  sub : SubOk K mg c.sub
theorem ctx_lm {X : Cx} {c : Cfg} {d : Df} {k : Nat} {fx : List Nat} {W : WX} (M : LmOk X.K X.mg c) (hs : X.env.scope = d.sc) (hN : X.N = d.N) (nd : X.N.Nodup) (hc : X.calm = true) (tk : Takes X W) (hr : Room k X.A) : CtxOk T X W { lmCfg c d with fx := fx } k d.sc where
  hsc := hs
  hN := hN
  nd := nd
  calm := fun _ => hc
  tk := tk
  room := fun _ => hr
  un := by have := hr.un; omega
  fns := fun f br F h => by cases h
  blt := M.blt
  cst := M.cst
  fns2 := fun f br F h => by cases h
  tab := fun h => by cases h
  lams := fun g L h => by cases h
  hot := fun h => by cases h
  sub := M.sub
theorem ctx_suite {X : Cx} {c : Cfg} {d : Df} {k : Nat} {a : Addr} {oe : Obj} {cls : Value} {dd : Option Addr} {pn : List (Addr × Obj)} (hT : T.mg = X.mg) (M : LmOk X.K X.mg c) (hs : X.env.scope = d.sc) (hN : X.N = d.N) (nd : X.N.Nodup) (hr : Room k X.A) (hz : Zc cls dd oe) (hf : ∃ vs, oe.data = .fields vs) :
    CtxOk (T.hold a cls dd) (X.suite a ((a, oe) :: pn)) WF { lmCfg c d with clo := none, calm := false, hot := true } k d.sc where
  hsc := hs
  hN := hN
  nd := nd
  calm := fun h => by cases h
  tk := fun u s' ⟨_, _, _, _, _, _, _, _, _, _, _, _, _, _, _, _, w⟩ => w.elim
  room := fun h => by cases h
  un := by have := hr.un; show X.A.units + 66 < cLine; omega
  fns := fun f br F h => by cases h
  blt := M.blt
  cst := M.cst
  fns2 := fun f br F h => by cases h
  tab := fun h => by cases h
  lams := fun g L h => by cases h
  hot := fun _ => ⟨a, oe, cls, dd, pn, X, rfl, hT, rfl, hz, hf⟩
  sub := M.sub
end
end Ev
end
section
set_option maxHeartbeats 4000000
/-! EvT4: a def that calls the lambda that it gets does what the evaluator says. -/
namespace Ev
open PySem PySem.Spec PyProof.Rows L2
variable {T : LT}

theorem _root_.L2.PSs.weakenL {X : Cx} {st : List Stmt} {t t' : TS} (h : PSs X st t) (w : ∀ D σ H, σ.length = X.N.length → t' D σ H → t D σ H) : PSs X st t' := ⟨fun pins s σ H D I q => h.run pins s σ H D I (w D σ H I.len q)⟩
section
variable {X : Cx} {c : Cfg} {d : Df} {k n : Nat}
/-- one clause -/
def hdlr (n : Nat) (sc : Scope) (c : Cfg) : ExceptHandler → Option (Str × Nat × MS) := fun h => match h with
  | .ExceptHandler (some (.Name C _)) (some y) (s₀ :: ss) _ => iff (glB sc C && locOnly sc y && (c.sub C C).isSome) (o2 (fun j ms => (C, j, seqS ms)) (ixN c.N y) (allO ((s₀ :: ss).map (evS n sc { c with fx := [], calm := false, hot := true, clo := none }))))
  | _ => none
theorem try_is {r : LRes} {b : Stmt} {h₀ : ExceptHandler} {hs : List ExceptHandler} {pos : Pos} {m : MS} (hr : c.clo = some r) (hc : c.calm = true) {sc : Scope} (h : evS (n + 1) sc c (.Try [b] (h₀ :: hs) [] [] pos) = some m) :
    ∃ ret hs', tryB c b = some ret ∧ Each (fun h x => hdlr n sc c h = some x) (h₀ :: hs) hs' ∧ m = tryS c.N.length ret r c.sub hs' := by
  unfold evS at h
  simp only [hr, hc] at h
  obtain ⟨ret, hs', h1, h2, rfl⟩ := o2_some (show o2 (fun ret hs => tryS c.N.length ret r c.sub hs) (tryB c b) (allO ((h₀ :: hs).map (hdlr n sc c))) = some m from h)
  exact ⟨ret, hs', h1, allO_each h2, rfl⟩
theorem hdsA_of (hT : T.mg = X.mg) (M : LmOk X.K X.mg c) (hs : X.env.scope = d.sc) (hN : X.N = d.N) (nd : X.N.Nodup) (hr : Room k X.A) (hfn : ∀ x, X.fn x = true) (hbk : X.env.blockKind = .function) {cc : Cfg} (hcc : cc = { lmCfg c d with clo := cc.clo }) :
    ∀ {es : List ExceptHandler} {hs' : List (Str × Nat × MS)}, Each (fun h x => hdlr n d.sc cc h = some x) es hs' → ∃ l, HdsA X es l ∧ Clauses X.K T X.mg d.N.length hs' l := by
  intro es hs' h
  induction h with
  | nil => exact ⟨[], .nil, .nil⟩
  | @cons e y es ys h _ ih =>
    obtain ⟨l, ih1, ih2⟩ := ih
    unfold hdlr at h
    split at h
    · rename_i C np y' s₀ ss pos'
      obtain ⟨hb, h'⟩ := iff_some h
      rw [Bool.and_eq_true, Bool.and_eq_true] at hb
      obtain ⟨⟨hg, hl⟩, hsub⟩ := hb
      obtain ⟨j, ms, hj, hms, rfl⟩ := o2_some h'
      rw [hcc] at hj hms hsub
      obtain ⟨bb, hbb⟩ := Option.isSome_iff_exists.mp hsub
      obtain ⟨D, hD, _, cv, hcv, _⟩ := M.sub C C bb hbb
      obtain ⟨gl1, gl2, gl3⟩ := glB_ok hg
      have nm : Names X C cv := by
        refine ⟨?_, gl2, ?_⟩
        · show X.env.scope.names.lookup C = _
          rw [hs]; exact gl1
        · rcases hcv with ⟨C', rfl, hm⟩ | ⟨t, rfl, hm, hbt⟩
          · exact .inl hm
          · exact .inr ⟨hm, hbt, gl3⟩
      have hj' : d.N[j]? = some y' := ixN_ok hj
      refine ⟨_, .cons nm (by rw [hN]; exact hj') ?_ (fun a oe cls dd pn hz hf => ?_) ih1, .cons hcv (ixN_lt hj) ih2⟩
      · show X.env.scope.names.lookup y' = _
        rw [hs]
        exact eq_of_beq hl
      · have cx := ctx_suite (T := T) (k := k) (a := a) (oe := oe) (cls := cls) (dd := dd) (pn := pn) hT M hs hN nd hr hz hf
        have b : BodyOk (T.hold a cls dd) (X.suite a ((a, oe) :: pn)) WF { lmCfg c d with clo := none, calm := false, hot := true } k d.sc :=
          { cx := cx
            st := fun x h => ⟨by show L2.Loc X.env.scope x; rw [hs]; exact locB_ok h, .inl (hfn x)⟩
            bk := hbk
            po := fun h => by cases h
            clo := rfl
            exs := fun C h => by cases h }
        have blk := ss_block (X := X.suite a ((a, oe) :: pn)) (fx := []) (T := T.hold a cls dd) (W := WF) ((allO_each hms).imp fun s m h => sound_S n b s m h)
        exact blk.weakenL fun D σ H hlen q => q (hlen.trans (congrArg List.length hN))
    · cases h
theorem splitT_app : ∀ (l : List Stmt), l = (splitT l).1 ++ (splitT l).2 ∧ ∀ t r, (splitT l).2 = t :: r → isTry t = true
  | [] => ⟨rfl, fun t r h => by cases h⟩
  | s :: l => by
    obtain ⟨h1, h2⟩ := splitT_app l
    unfold splitT
    split
    · rename_i hs
      exact ⟨rfl, fun t r h => by cases h; exact hs⟩
    · exact ⟨congrArg (s :: ·) h1, h2⟩
theorem try_shape {sc : Scope} {t : Stmt} {m : MS} (ht : isTry t = true) (h : evS (n + 1) sc c t = some m) : ∃ b h₀ hs pos, t = .Try [b] (h₀ :: hs) [] [] pos := by
  cases t <;> first | (cases ht; done) | skip
  rename_i body hs o f pos
  unfold evS at h
  split at h
  all_goals first
    | (rename_i heq; cases heq; done)
    | (cases h; done)
    | skip
  all_goals first
    | (rename_i heq; injection heq with e1 e2 e3 e4 e5; subst e1 e2 e3 e4; exact ⟨_, _, _, _, rfl⟩)
    | skip
theorem fpost_ok {K : PySem.W.Frag} {mg : Str → Option Value} {Z Z1 G : Addr → Prop} {H : Hp} {Q : VK} {σ : L2.St} {R : SR} (hz : ∀ a, Z a → Z1 a) (h : FPost K T Z G H Q (endF [] R)) : PostS K T mg WF [] σ Z1 G H { nx := fun _ H' => Q .non H', rt := Q } R := by
  have le : ∀ {Z' H'}, Le Z1 H Z' H' → Le Z H Z' H' := fun l => ⟨fun a z => l.z a (hz a z), fun a z => l.keep a (hz a z), l.tup, l.frz⟩
  cases R with
  | nx e' => exact fun σ' H' Z' l k f st => h .non H' Z' (le l) k st.bare .non
  | bk e' => exact h.elim
  | ct e' => exact h.elim
  | bad => exact h.elim
  | er x e' => exact h.elim
  | rt o e' =>
    intro v σ' H' Z' l k f x
    simp only [endF] at h
    have hfx : fxOf 0 [] = [] := rfl
    rw [hfx] at h
    cases o with
    | im d => exact h v H' Z' (le l) k x.st0.bare x.ok
    | tl d => exact h.elim
    | td d => exact h.elim
    | bor i =>
      have hv : σ'[i]? = some (some v) := x.ok
      simp only [outO, List.contains_nil, Bool.false_eq_true, if_false] at h
      split at h
      · rename_i op e1 q
        split at q
        · cases q; exact h.elim
        · cases q; exact h.elim
        · rename_i dd qg
          cases q
          obtain ⟨v', h1, h2⟩ := x.st0.sl i _ qg
          rw [hv] at h1; cases h1
          exact h v H' Z' (le l) k x.st0.bare h2
        · cases q
      · exact h.elim
theorem PostS.bindR {K : PySem.W.Frag} {mg : Str → Option Value} {Z G : Addr → Prop} {H : Hp} {σ : L2.St} {D : Ends} {r : SR} {k : MS} (h : PostS K T mg WF [] σ Z G H D (r.bind k)) : PostS K T mg WF [] σ Z G H { D with nx := RdS K T mg [] k WF D } r := by
  cases r with
  | nx e => exact fun σ' H' Z' l kk f s => ⟨e, Z', G, s, PostS.trans l kk f h⟩
  | ct e => exact h
  | bk e => exact h
  | rt o e => exact h
  | er x e => exact h
  | bad => exact h
/-- a def that calls the lambda it gets gives what the evaluator says -/
theorem gives_of {g : Str} {ga : Addr} {cdv : Value} {a q : Str} (hT : T.mg = X.mg) (M : LmOk X.K X.mg c) (S : FnScope d.N [a] d.sc) (hr : Room (k + 1) X.A) :
    LamX.GivesTo X d.N g d.sc ga cdv d.body a q (TTd X.K T X.mg (callLm fuel c d)) := by
  intro f c' s H Q tl act hc hTT
  obtain ⟨r, Z, G, st0, htl, hf⟩ := hTT
  let X' := (cxOf C8.CX0 X.prog X.w X.K X.mg X.base d.N g d.sc ga cdv X.A X.stack s H C8.E0).nox
  have hr' : Room k X'.A := hr.deeper _
  obtain ⟨hbody, htry⟩ := splitT_app d.body
  unfold callLm at hf
  cases hsp : splitT d.body with
  | mk pre rest =>
  rw [hsp] at hf hbody htry
  cases rest with
  | nil => exact hf.elim
  | cons t post =>
    have htt := htry t post rfl
    simp only at hf hbody
    cases qa : allO (pre.map (evS fuel d.sc { lmCfg c d with fx := [0] })) with
    | none => rw [qa] at hf; exact hf.elim
    | some ma =>
      cases qm : evS fuel d.sc { lmCfg c d with clo := some r } t with
      | none => rw [qa, qm] at hf; exact hf.elim
      | some m =>
        cases qb : allO (post.map (evS fuel d.sc (lmCfg c d))) with
        | none => rw [qa, qm, qb] at hf; exact hf.elim
        | some mb =>
          rw [qa, qm, qb] at hf
          simp only at hf
          obtain ⟨b, h₀, hs, pos, rfl⟩ := try_shape (n := 39) htt qm
          obtain ⟨ret, hs', hb, hcl, rfl⟩ := try_is (n := 39) (c := { lmCfg c d with clo := some r }) rfl rfl qm
          obtain ⟨l, hA, hC⟩ := hdsA_of (X := X') (T := T) (d := d) (k := k) hT M rfl rfl S.nd hr' (fun _ => rfl) (by show (if d.sc.kind.isAnnotationScope then ScopeKind.function else d.sc.kind) = .function; rw [S.kind]; rfl) (cc := { lmCfg c d with clo := some r }) rfl hcl
          have body : ∀ {fx : List Nat}, BodyOk T X' WF { lmCfg c d with fx := fx } k d.sc := fun {fx} =>
            { cx := ctx_lm M rfl rfl S.nd rfl takes_none5 hr'
              st := fun x h => ⟨locB_ok h, .inl rfl⟩
              bk := by show (if d.sc.kind.isAnnotationScope then ScopeKind.function else d.sc.kind) = .function; rw [S.kind]; rfl
              po := fun _ => PassesOwn.never
              clo := rfl
              exs := fun C h => by cases h }
          have hpre : Each (SS T X' WF [0]) pre ma := (allO_each qa).imp fun s m h => sound_S fuel (body (fx := [0])) s m h
          have hpost : PSs X' post (RdS X'.K T X'.mg [] (seqS mb) WF) := ss_block ((allO_each qb).imp fun s m h => sound_S fuel (body (fx := [])) s m h)
          have hN0 : d.N.head? = some a := by
            have := S.pre
            cases hN : d.N with
            | nil => rw [hN] at this; cases this
            | cons y ys => rw [hN] at this; cases this; rfl
          have psT : PS X' (.Try [b] (h₀ :: hs) [] [] pos) (fun D σ H => σ.length = d.N.length → tTryB X.K ret f c' q tl (wManyA X.K WF D l) D σ H) :=
            (ps_try_mas (X := X') (Wout := WF) (tb := tTryB X.K ret f c' q tl) rfl rfl S.nd takes_none5 (fun W pn xe tk _ => pss_tryB hb hN0 (fun E p1 p2 hW => act W pn xe E p1 p2 tk hW)) hA).weakenL fun D σ H hlen q => q hlen
          have st1 : StOk X.K T (List.replicate d.N.length none) (L2.start d.N [.ref f]) H (fun x => Z x ∨ x = c') G := by
            refine ⟨⟨st0.tb.1, fun x z ps e => ?_, st0.tb.2.2⟩, fun x z => ?_, fun x gx => ⟨(st0.gs x gx).1, fun z => ?_⟩, fun i sv q => ?_, fun i j si sj v q => ?_⟩
            · rcases z with z | rfl
              · exact st0.tb.2.1 x z ps e
              · rw [hc] at e; exact LamX.codeO_ne ps (Option.some.inj e)
            · rcases z with z | rfl
              · exact st0.zs x z
              · rw [hc]; simp
            · rcases z with z | rfl
              · exact (st0.gs x gx).2 z
              · obtain ⟨u, h1, h2⟩ := st0.tb.2.2 _ gx
                rw [hc] at h1; cases h1; exact h2
            · rw [bare_nothing.gt_repl'] at q; cases q
            · rw [bare_nothing.gt_repl'] at q; cases q
          have h0 := fpost_ok (mg := X.mg) (σ := L2.start d.N [.ref f]) (Z1 := fun x => Z x ∨ x = c') (fun a z => .inl z) hf
          rw [hbody]
          refine ⟨_, pss_pre hpre (pss_cons psT hpost), pre_ok (k := fun e => (tryS d.N.length ret r c.sub hs' e).bind (seqS mb)) (fun e' σ' H' Z' le ke fe se he => ?_) Le.refl KeepG.refl SameF.refl st1 h0⟩
          have le0 : Le Z H Z' H' := ⟨fun a z => le.z a (.inl z), fun a z => le.keep a (.inl z), le.tup, le.frz⟩
          have h2 := PostS.bindR he
          intro hlen
          have s0 : σ'[0]? = some (some (.ref f)) := (fe.2 0 (by simp)).trans rfl
          have cc : H' c' = some (LamX.CodeO c' q) := by rw [le.keep c' (.inr rfl)]; exact hc
          have si : StOk X.K T (imS e') σ' H' Z' G := se.ims.less fun a z => .inl z
          cases r with
          | ok dd =>
            refine ⟨fun _ _ _ => False, fun _ _ _ _ z => z.elim, s0, cc, htl H' Z' le0 ke se.bare _ _ fun v H'' Z'' l'' k'' b'' en => ?_⟩
            cases ret with
            | true => exact h2 v σ' H'' Z'' l'' k'' SameF.refl ((si.laterIm l'' b'').im en)
            | false => exact h2 σ' H'' Z'' l'' k'' SameF.refl (si.laterIm l'' b'')
          | er x =>
            refine ⟨fun cls dd H'' => ∃ Z'', Le Z' H' Z'' H'' ∧ KeepG G H' H'' ∧ StOk X.K T [] [] H'' Z'' G ∧ ExOk X.K X.mg Z'' x cls dd H'', fun cls dd σ'' H'' ⟨Z'', l'', k'', b'', ex⟩ => ?_, s0, cc, htl H' Z' le0 ke se.bare _ _ fun cls dd H'' Z'' l'' k'' b'' ex => ⟨Z'', l'', k'', b'', ex⟩⟩
            exact clauses_ok hT M.sub hlen hC h2 cls dd σ'' H'' Z'' l'' k'' b'' ex
end
end Ev
end
section
set_option maxHeartbeats 1000000
/-! EvSg: defs keep what the evaluator says of them. -/
namespace Ev
open PySem PySem.Spec PyProof.Rows L2
variable {T : LT}

theorem gt_repl : ∀ {m i : Nat}, gt (List.replicate m (none : Option Sv)) i = none
  | 0, i => gt_nil
  | m + 1, 0 => rfl
  | m + 1, i + 1 => by rw [List.replicate_succ]; exact gt_repl (m := m) (i := i)
theorem finsOf_len : ∀ {br : List Bool} {e : Sl}, (finsOf br e).length = br.length
  | [], e => by cases e <;> rfl
  | b :: bs, [] => by simp [finsOf, finsOf_len]
  | b :: bs, x :: r => by simp [finsOf, finsOf_len]
theorem gt_fins : ∀ {br : List Bool} {e : Sl} {i : Nat} {sv : Sv}, gt (finsOf br e) i = some sv → br[i]? = some true ∧ gt e i = some sv
  | [], e, i, sv, h => by
    have : finsOf [] e = [] := by cases e <;> rfl
    rw [this, gt_nil] at h; cases h
  | b :: bs, [], 0, sv, h => by cases h
  | b :: bs, [], i + 1, sv, h => by
    have := gt_fins (br := bs) (e := []) (i := i) h
    rw [gt_nil] at this
    cases this.2
  | b :: bs, x :: r, 0, sv, h => by
    have h : (if b = true then x else none) = some sv := h
    split at h
    · rename_i hb; subst hb; exact ⟨rfl, h⟩
    · cases h
  | b :: bs, x :: r, i + 1, sv, h => gt_fins (br := bs) (e := r) (i := i) h
theorem mem_fx : ∀ {br : List Bool} {i j : Nat}, br[i]? = some true → j + i ∈ fxOf j br
  | [], i, j, h => by simp at h
  | b :: bs, 0, j, h => by
    simp at h; subst h
    simp [fxOf]
  | b :: bs, i + 1, j, h => by
    have := mem_fx (br := bs) (i := i) (j := j + 1) (by simpa using h)
    rw [show j + 1 + i = j + (i + 1) from by omega] at this
    unfold fxOf
    split
    · exact List.mem_cons_of_mem _ this
    · exact this
section
variable {K : PySem.W.Frag} {e : Sl} {σ : L2.St} {H : Hp} {Z G : Addr → Prop}
theorem StOk.pad {ps : Sl} {τ ρ : L2.St} {m : Nat} (s : StOk K T ps τ H Z G) (hl : ps.length ≤ τ.length) : StOk K T (ps ++ List.replicate m none) (τ ++ ρ) H Z G := by
  have back : ∀ {i : Nat} {sv : Sv}, gt (ps ++ List.replicate m none) i = some sv → gt ps i = some sv ∧ (τ ++ ρ)[i]? = τ[i]? := fun {i sv} q => by
    rw [gt_append] at q
    split at q
    · exact ⟨q, get_front (by omega)⟩
    · rw [gt_repl] at q; cases q
  refine ⟨s.tb, s.zs, s.gs, fun i sv q => ?_, fun i j si sj v q1 q2 o1 o2 e1 e2 => ?_⟩
  · obtain ⟨h1, h2⟩ := back q
    rw [h2]
    exact s.sl i sv h1
  · obtain ⟨h1, h2⟩ := back q1
    obtain ⟨h3, h4⟩ := back q2
    rw [h2] at e1
    rw [h4] at e2
    exact s.inj i j si sj v h1 h3 o1 o2 e1 e2
theorem fins_ok {br : List Bool} {N : List Str} {vs : List V} (hl : vs.length = br.length) (s : StOk K T e σ H Z G) (f : SameF (fxOf 0 br) (start N vs) σ) : StOk K T (finsOf br e) (vs.map some) H Z G := by
  have back : ∀ {i : Nat} {sv : Sv}, gt (finsOf br e) i = some sv → gt e i = some sv ∧ (vs.map some)[i]? = σ[i]? := fun {i sv} q => by
    obtain ⟨h1, h2⟩ := gt_fins q
    have hi : i < br.length := (List.getElem?_eq_some_iff.mp h1).1
    refine ⟨h2, ?_⟩
    have := f.2 i (by have := mem_fx (j := 0) h1; rwa [Nat.zero_add] at this)
    rw [this]
    show _ = (vs.map some ++ List.replicate (N.length - vs.length) none)[i]?
    exact (get_front (by rw [List.length_map]; omega)).symm
  refine ⟨s.tb, s.zs, s.gs, fun i sv q => ?_, fun i j si sj v q1 q2 o1 o2 e1 e2 => ?_⟩
  · obtain ⟨h1, h2⟩ := back q
    rw [h2]
    exact s.sl i sv h1
  · obtain ⟨h1, h2⟩ := back q1
    obtain ⟨h3, h4⟩ := back q2
    rw [h2] at e1
    rw [h4] at e2
    exact s.inj i j si sj v h1 h3 o1 o2 e1 e2
theorem outO_ok {fx : List Nat} {v : V} {o r : Op} {e1 : Sl} (x : Out K T e σ H Z G v o) (q : outO fx o e = some (r, e1)) :
    ∃ Z1, Le Z H Z1 H ∧ StOk K T e1 σ H Z1 (Gx G v r) ∧ OpOk K Z1 H [] v r ∧ ∀ a, OwnA v r a → ¬ G a := by
  have bare : ∀ {d}, Gx G v (.im d) = G := fun {d} => by
    funext b
    unfold Gx
    apply propext
    exact ⟨fun h => h.elim id fun z => z.elim, .inl⟩
  cases o with
  | im d => cases q; exact ⟨Z, Le.refl, x.st, x.ok, x.ne⟩
  | tl d => cases q; exact ⟨Z, Le.refl, x.st, x.ok, x.ne⟩
  | td d => cases q; exact ⟨Z, Le.refl, x.st, x.ok, x.ne⟩
  | bor i =>
    have hv : σ[i]? = some (some v) := x.ok
    simp only [outO] at q
    split at q
    · cases q1 : fzO (.bor i) e with
      | none => rw [q1] at q; cases q
      | some p =>
        rw [q1] at q
        cases q
        obtain ⟨Z1, l, s1, en⟩ := fz_ok x (d := p.1) (e1 := p.2) q1
        exact ⟨Z1, l, by rw [bare]; exact s1, en, fun a z => z.elim⟩
    · split at q
      · rename_i xs qg
        cases q
        obtain ⟨v', h1, a, vs, rfl, h3, es, nz, ng⟩ := x.st0.sl i _ qg
        rw [hv] at h1; cases h1
        have s1 := x.st0.toFrame qg rfl hv
        have eg : Gx G (.ref a) (.tl xs) = fun b => G b ∨ b = a := by
          funext b
          unfold Gx
          apply propext
          constructor
          · rintro (h | h)
            · exact .inl h
            · cases h; exact .inr rfl
          · rintro (h | h)
            · exact .inl h
            · exact .inr (by rw [h]; rfl)
        exact ⟨Z, Le.refl, by rw [eg]; exact s1, ⟨a, vs, rfl, h3, es⟩, fun b hb g => by cases hb; exact ng g⟩
      · rename_i xs qg
        cases q
        obtain ⟨v', h1, a, rfl, h3, nz, ng⟩ := x.st0.sl i _ qg
        rw [hv] at h1; cases h1
        have s1 := x.st0.toFrame qg rfl hv
        have eg : Gx G (.ref a) (.td xs) = fun b => G b ∨ b = a := by
          funext b
          unfold Gx
          apply propext
          constructor
          · rintro (h | h)
            · exact .inl h
            · cases h; exact .inr rfl
          · rintro (h | h)
            · exact .inl h
            · exact .inr (by rw [h]; rfl)
        exact ⟨Z, Le.refl, by rw [eg]; exact s1, ⟨a, rfl, h3⟩, fun b hb g => by cases hb; exact ng g⟩
      · rename_i d qg
        cases q
        obtain ⟨v', h1, h2⟩ := x.st0.sl i _ qg
        rw [hv] at h1; cases h1
        exact ⟨Z, Le.refl, by rw [bare]; exact x.st0, h2, fun a z => z.elim⟩
      · cases q
/-- a body that ends as the contract wants -/
theorem body_ok {mg : Str → Option Value} {br : List Bool} {N : List Str} {ms : MS} {vs : List V} {ps : Sl} {Q : VK} {E : XK} (hv : vs.length = br.length) (hp : ps.length = br.length) (s : StOk K T ps (vs.map some) H Z G)
    (h : CPost K T mg br.length vs Z G H Q E (endF br (ms (ps ++ List.replicate (N.length - br.length) none)))) :
    RdS K T mg (fxOf 0 br) ms (fun cls d _ H => E cls d H) { nx := fun _ H' => Q .non H', rt := Q } (start N vs) H := by
  refine ⟨_, Z, G, s.pad (m := N.length - br.length) (ρ := List.replicate (N.length - vs.length) none) (by rw [List.length_map]; omega), ?_⟩
  have bare : ∀ {d v}, Gx G v (.im d) = G := fun {d v} => by
    funext b
    unfold Gx
    apply propext
    exact ⟨fun h => h.elim id fun z => z.elim, .inl⟩
  cases q : ms (ps ++ List.replicate (N.length - br.length) none) with
  | nx e' =>
    rw [q] at h
    intro σ' H' Z' l k f st
    exact h finsOf_len .non H' Z' l k (by rw [bare]; exact fins_ok hv st f) .non fun a z => z.elim
  | bk e' => rw [q] at h; exact h.elim
  | ct e' => rw [q] at h; exact h.elim
  | bad => rw [q] at h; exact h.elim
  | er x e' =>
    rw [q] at h
    intro cls d σ' H' Z' l k f st ex
    exact h finsOf_len cls d H' Z' l k (fins_ok hv st f) ex
  | rt o e' =>
    rw [q] at h
    intro v σ' H' Z' l k f x
    simp only [endF] at h
    cases q1 : outO (fxOf 0 br) o e' with
    | none => rw [q1] at h; exact h.elim
    | some p =>
      obtain ⟨r, e1⟩ := p
      rw [q1] at h
      obtain ⟨Z1, l1, s1, ok, ne⟩ := outO_ok x q1
      exact h finsOf_len v H' Z1 (l.trans l1) k (fins_ok hv s1 f) ok ne
end

/-! ### the module -/
/-- a def stands in the module; cs: the code objects with their tables -/
structure DefOk (K : PySem.W.Frag) (T : LT) (cs : List (Addr × Addr)) (a : Addr) (d : Df) (fd : FuncData) (ps : List Str) : Prop where
  fn : ∃ (oc : Value) (od : Option Addr) (osl : Array (Option Value)) (name qual : Str) (params : Arguments) (dV kV doc pm cdv ct : Value) (an : Option Addr),
    fd = PySem.W.fnOf name qual params d.body d.sc dV kV doc pm an cdv ct ∧ K.lookup a = some ⟨oc, od, .func fd, osl⟩ ∧ PySem.W.codeIn K cdv qual = true ∧
    (d.tab = true → ∃ cA P, cdv = .ref cA ∧ (cA, P) ∈ cs ∧ (P, (qual ++ ".<locals>.") ++ "<lambda>") ∈ T.tabs ∧ ∀ p ∈ T.tabs, p.1 = P → p.2 = (qual ++ ".<locals>.") ++ "<lambda>")
  sc : FnScope d.N ps d.sc
  len : ps.length = d.br.length
  bd : Binds K fd ps []
/-- a def that calls a lambda stands in the module -/
structure LamOk (K : PySem.W.Frag) (g : Str) (ga : Addr) (d : Df) (fd : FuncData) (a : Str) : Prop where
  fn : ∃ (oc : Value) (od : Option Addr) (osl : Array (Option Value)) (params : Arguments) (dV kV doc pm cdv ct : Value) (an : Option Addr),
    fd = PySem.W.fnOf g g params d.body d.sc dV kV doc pm an cdv ct ∧ K.lookup ga = some ⟨oc, od, .func fd, osl⟩ ∧ PySem.W.codeIn K cdv g = true
  sc : FnScope d.N [a] d.sc
  bd : Binds K fd [a] []
  nd : (a == ("__debug__" : Str)) = false
  nc : (a == ("__classdict__" : Str)) = false
structure ExcOk (K : PySem.W.Frag) (a : Addr) : Prop where
  ex : ∃ (bmB : List Value) (B newId initId : String), ExcBaseFacts B newId initId bmB ∧ PySem.W.excIn K a bmB newId = true
  keep : PySem.W.keepIn K (.ref a) = true
  sub : PySem.W.subIn K (.ref a) (.type "BaseException") = some true
  ty : PySem.W.typeIn K (.ref a) = some (.type "type")
structure ModOk (K : PySem.W.Frag) (T : LT) (cs : List (Addr × Addr)) (mg : Str → Option Value) (Pr : Prg) : Prop where
  blt : ∀ f, f ∈ bltNames → mg f = none
  cst : ∀ x d, Pr.cst.lookup x = some d → ∃ u v, mg x = some u ∧ RelV v u ∧ ∀ Z H, EncD K Z H v d
  exs : ∀ C, Pr.exs.contains C = true → ∃ a, mg C = some (.ref a) ∧ (C == ("__debug__" : Str)) = false ∧ ExcOk K a
  defs : ∀ f d, Pr.defs.lookup f = some d → ∃ a fd ps, mg f = some (.ref a) ∧ PySem.W.keepIn K (.ref a) = true ∧ DefOk K T cs a d fd ps
  lams : ∀ g d, Pr.lams.lookup g = some d → ∃ ga fd a, mg g = some (.ref ga) ∧ PySem.W.keepIn K (.ref ga) = true ∧ LamOk K g ga d fd a
  sub : SubOk K mg fun x y => (Pr.sub.lookup x).bind fun r => r.lookup y
  mgT : T.mg = mg
theorem sound_D {P : Program} {w : World} {K : PySem.W.Frag} {mg : Str → Option Value} {base : Heap} {cs : List (Addr × Addr)} {Pr : Prg} (M : ModOk K T cs mg Pr) (TB : ∀ p ∈ cs, LamX.TabB base mg p.1 p.2) : ∀ (k : Nat) (a : Addr) (d : Df) (fd : FuncData) (ps : List Str), DefOk K T cs a d fd ps →
    FnOk P w K mg base (L2.CX P w) k a fd ps (SpD K T mg d.br.length (Pr.run k d))
  | 0, a, d, fd, ps, D => ⟨fun vs H Q E h => by rw [h.1, D.len], fun _ _ _ _ _ _ _ _ _ _ _ _ _ ⟨_, _, _, _, _, _, h⟩ => h.elim⟩
  | 1, a, d, fd, ps, D => ⟨fun vs H Q E h => by rw [h.1, D.len], fun _ _ _ _ _ _ _ _ _ _ _ _ _ ⟨_, _, _, _, _, _, h⟩ => h.elim⟩
  | 2, a, d, fd, ps, D => ⟨fun vs H Q E h => by rw [h.1, D.len], fun _ _ _ _ _ _ _ _ _ _ _ _ _ ⟨_, _, _, _, _, _, h⟩ => h.elim⟩
  | k + 3, a, d, fd, ps, D => by
    obtain ⟨oc, od, osl, name, qual, params, dV, kV, doc, pm, cdv, ct, an, rfl, lk, hcd, htab⟩ := D.fn
    refine fn_of lk hcd D.sc (fun vs H Q E h => by rw [h.1, D.len]) fun A outer s H vs Q E hr hsp => ?_
    obtain ⟨hv, sl, Z, G, hl, st, h⟩ := hsp
    let c : Cfg := { Pr.cfg d.tab (Pr.run (k + 2)) (Pr.run k) (callLm fuel (Pr.cfg false (Pr.run k) (fun _ _ => .bad) fun _ _ => .bad)) with N := d.N, fx := fxOf 0 d.br }
    have h : CPost K T mg d.br.length vs Z G H Q E (callDf fuel (Pr.cfg d.tab (Pr.run (k + 2)) (Pr.run k) (callLm fuel (Pr.cfg false (Pr.run k) (fun _ _ => .bad) fun _ _ => .bad))) d sl) := h
    unfold callDf at h
    cases q : allO (d.body.map (evS fuel d.sc c)) with
    | none =>
      have q' := q
      simp only [c] at q'
      rw [q'] at h; exact h.elim
    | some ms =>
      have q' := q
      simp only [c] at q'
      rw [q'] at h
      refine ⟨RdS K T mg (fxOf 0 d.br) (seqS ms) (fun cls d _ H => E cls d H), ?_, body_ok hv hl st h⟩
      let X := cxOf (L2.CX P w) P w K mg base d.N qual d.sc a cdv A outer s H E
      have defs : ∀ {j : Nat} {f : Str} {br : List Bool} {F : Sl → CRes}, (∀ a' d' fd' ps', DefOk K T cs a' d' fd' ps' → FnOk P w K mg base (L2.CX P w) j a' fd' ps' (SpD K T mg d'.br.length (Pr.run j d'))) → ((Pr.defs.lookup f).map fun d => (d.br, Pr.run j d)) = some (br, F) →
          ∃ a fd ps, mg f = some (.ref a) ∧ PySem.W.keepIn K (.ref a) = true ∧ Binds K fd ps [] ∧ FnOk P w K mg base (L2.CX P w) j a fd ps (SpD K T mg br.length F) := fun {j f br F} ih hf => by
        cases q1 : Pr.defs.lookup f with
        | none => rw [q1] at hf; cases hf
        | some d' =>
          rw [q1] at hf
          cases hf
          obtain ⟨a', fd', ps', h1, h2, h3⟩ := M.defs f d' q1
          exact ⟨a', fd', ps', h1, h2, h3.bd, ih a' d' fd' ps' h3⟩
      have ec : c.tab = d.tab := rfl
      have ecode : X.env.code = cdv := rfl
      have equal : X.env.qual = qual ++ ".<locals>." := rfl
      have tabOk : c.tab = true → 2 ≤ k + 2 ∧ ∃ cA P, X.env.code = .ref cA ∧ LamX.TabB X.base X.mg cA P ∧ (P, X.env.qual ++ "<lambda>") ∈ T.tabs ∧ ∀ p ∈ T.tabs, p.1 = P → p.2 = X.env.qual ++ "<lambda>" := by
        intro ht
        rw [ec] at ht
        obtain ⟨cA, P', e1, e2, e3, e4⟩ := htab ht
        rw [ecode, equal]
        exact ⟨Nat.le_add_left 2 k, cA, P', e1, TB _ e2, e3, e4⟩
      have g : CtxOk T X (fun cls d _ H => E cls d H) c (k + 2) d.sc :=
        { hsc := rfl
          hN := rfl
          nd := D.sc.nd
          calm := fun _ => rfl
          tk := takes_of rfl rfl rfl rfl
          room := fun _ => hr
          un := by
            have := hr.un
            show (A.deeper (envOfC qual d.sc s.heap.objs.size a cdv)).units + 66 < cLine
            omega
          fns := fun f br F hf => defs (fun a' d' fd' ps' h3 => sound_D M TB (k + 2) a' d' fd' ps' h3) hf
          blt := M.blt
          cst := M.cst
          fns2 := fun f br F hf => defs (fun a' d' fd' ps' h3 => sound_D M TB k a' d' fd' ps' h3) hf
          tab := tabOk
          lams := fun gg L hL => by
            have hL : ((Pr.lams.lookup gg).map fun d => callLm fuel (Pr.cfg false (Pr.run k) (fun _ _ => .bad) fun _ _ => .bad) d) = some L := hL
            cases q1 : Pr.lams.lookup gg with
            | none => rw [q1] at hL; cases hL
            | some d' =>
              rw [q1] at hL
              cases hL
              obtain ⟨ga, fd', a', h1, h2, h3⟩ := M.lams gg d' q1
              obtain ⟨oc, od, osl, params, dV, kV, doc, pm, cdv', ct, an, rfl, lk', hcd'⟩ := h3.fn
              have hN0 : d'.N[0]? = some a' := by
                have := h3.sc.pre
                cases hN : d'.N with
                | nil => rw [hN] at this; cases this
                | cons y ys => rw [hN] at this; cases this; rfl
              have hvis : Vis d'.sc a' := (h3.sc.par a' (by simp)).elim .inl fun z => .inr (.inl z)
              refine ⟨ga, _, a', h1, h2, ⟨⟨d'.N, params, d'.body, d'.sc, dV, kV, doc, pm, cdv', ct, oc, an, od, osl, rfl, lk', hcd', h3.sc, hN0, hvis, fun X' e1 e2 e3 e4 e5 hr2 q => ?_⟩, h3.bd, h3.nd, h3.nc⟩⟩
              have hT : T.mg = X'.mg := by rw [e4]; exact M.mgT
              have lm : LmOk X'.K X'.mg (Pr.cfg false (Pr.run k) (fun _ _ => .bad) fun _ _ => .bad) := by
                rw [e3, e4]
                exact ⟨M.blt, M.cst, M.sub⟩
              have := gives_of (X := X') (T := T) (d := d') (k := k + 1) (g := gg) (ga := ga) (cdv := cdv') (a := a') (q := q) hT lm h3.sc hr2
              rw [e3, e4] at this
              exact this
          hot := fun h => by cases h
          sub := M.sub }
      have b : BodyOk T X (fun cls d _ H => E cls d H) c (k + 2) d.sc :=
        { cx := g
          st := fun x h => ⟨locB_ok h, .inl rfl⟩
          bk := by
            show (if d.sc.kind.isAnnotationScope then ScopeKind.function else d.sc.kind) = .function
            rw [D.sc.kind]
            rfl
          po := fun _ => passes_of rfl
          clo := rfl
          exs := fun C hC => by
            obtain ⟨a', hm, hdb, ex⟩ := M.exs C hC
            obtain ⟨bmB, B, newId, initId, F, q⟩ := ex.ex
            exact ⟨a', hm, fun p pos hg => pmk_own0 F q hm ex.keep (raises_own ex.sub ex.ty) hg hdb⟩ }
      exact ss_block ((allO_each q).imp fun s m h => sound_S fuel b s m h)
end Ev
end
section
set_option maxHeartbeats 4000000
/-! EvSh: from the evaluator's word to the row. -/
namespace Ev
open PySem PySem.Spec PyProof.Rows L2
variable {T : LT}

/-- the script as a value -/
def scr (ns : List Int) : D := .dict [(.none, .list (ns.map .int))]
/-- what the law's def is called with -/
def arg (ns : List Int) : Sl := [some (.im (scr ns))]
def Pays (Pr : Prg) (k : Nat) (d : Df) (n : Nat) : Prop := ∀ ns : List Int, ns.length ≤ n → ∃ fin, Pr.run k d (arg ns) = .ok (.im (.bool true)) fin
def spLaw (T : LT) (n : Nat) (K : PySem.W.Frag) : Sp := fun vs H Q _ => ∃ (a : Addr) (ns : List Int), vs = [.ref a] ∧ ns.length ≤ n ∧ LamX.Tabs T.tabs H ∧ SqL K H a (ns.map V.int) ∧ ∀ H', Q (.bl true) H'
theorem enc_ints {K : PySem.W.Frag} {Z : Addr → Prop} {H : Hp} : ∀ {ns : List Int}, EncDs K Z H (ns.map V.int) (ns.map PyData.int)
  | [] => .nil
  | n :: ns => .cons (.int n) enc_ints
theorem law_ok {P : Program} {w : World} {K : PySem.W.Frag} {mg : Str → Option Value} {base : Heap} {cs : List (Addr × Addr)} {Pr : Prg} {k n : Nat} {a : Addr} {d : Df} {fd : FuncData} {x : Str} (M : ModOk K T cs mg Pr) (TB : ∀ p ∈ cs, LamX.TabB base mg p.1 p.2) (D : DefOk K T cs a d fd [x]) (h : Pays Pr k d n) :
    FnOk P w K mg base (L2.CX P w) k a fd [x] (spLaw T n K) :=
  (sound_D (T := T) M TB k a d fd [x] D).imp fun vs H Q E ⟨b, ns, ev, hl, hT, hs, q⟩ => by
    subst ev
    have hb : d.br.length = 1 := D.len.symm
    obtain ⟨fin, hr⟩ := h ns hl
    refine ⟨by rw [hb]; rfl, arg ns, fun c => c = b ∧ H b = some (.lst (ns.map V.int)), fun _ => False, by rw [hb]; rfl, ⟨⟨hT, fun c z ps e => ?_, fun _ z => z.elim⟩, fun c z e => ?_, fun _ z => z.elim, fun i sv g => ?_, fun i j si sj v q1 q2 o1 => ?_⟩, ?_⟩
    · obtain ⟨rfl, z⟩ := z; rw [z] at e; cases e
    · obtain ⟨rfl, z⟩ := z; rw [z] at e; cases e
    · cases i with
      | zero =>
        cases g
        refine ⟨_, rfl, .scr ?_ enc_ints⟩
        rcases hs with (h | ⟨o, h⟩) | h
        · exact .inl ⟨⟨rfl, h⟩, h⟩
        · exact .inr (.inl ⟨o, h⟩)
        · exact .inr (.inr h)
      | succ i =>
        rw [show gt (arg ns) (i + 1) = gt [] i from rfl, gt_nil] at g
        cases g
    · cases i with
      | zero => cases q1; cases o1
      | succ i =>
        rw [show gt (arg ns) (i + 1) = gt [] i from rfl, gt_nil] at q1
        cases q1
    · rw [hr]
      intro _ v H' Z' _ _ _ ok _
      cases (show EncD K Z' H' v (.bool true) from ok)
      exact q H'
open PySem PySem.W in
/-- the end without tables -/
theorem walk_ev {l : PySem.W.OpenLaw} {n k : Nat} {q : Program} {loose : List Str} {XP : (Str → Option Value) → Heap → Prop} {YP : World → Heap → Prop} {d : DefRec} {K : Params → PySem.W.Frag} {x : Str} (hn : l.most = some n) (hn2 : n ≤ sizeLine) (hdf : d.params.defaults = []) (hr : Room k callerA)
    (hY : ∀ (w : World) (h : Heap), YP w h → (K w.params).In h)
    (F : ∀ (w : World) (mg : Str → Option Value) (fa : Addr) (h : Heap), (K w.params).In h → h.Ns mainGlobals mg → mg d.name = some (.ref fa) →
      ∃ fd : FuncData, (∀ (s : Shared) (u : Value), BindsTo s fd ⟨[u], []⟩ [(x, u)]) ∧ ∀ base : Heap, (K w.params).In base → base.Ns mainGlobals mg → FnOk l.prog w (K w.params) mg base (L2.CX l.prog w) k fa fd [x] (spLaw ⟨[], fun _ => none, none⟩ n (K w.params))) :
    PySem.W.WalkO q loose XP YP l.row.toRowW d [] (fun f vs => PySem.call f vs) :=
  L2.walk_of (n := n) (k := k) (x := x) (CX := fun w => L2.CX l.prog w) (sp := fun w => spLaw ⟨[], fun _ => none, none⟩ n (K w.params)) hn hn2 hdf hr hY F
    (fun w H a ns hl hO hS => ⟨a, ns, rfl, hl, (fun p hp => absurd (show p ∈ ([] : List (Addr × Str)) from hp) (by simp)), hS, fun _ => rfl⟩) fun w H s e s' ⟨_, _, _, _, _, _, _, _, _, _, _, _, z⟩ => z
/-! ### the facts that the top gives, def by def -/
inductive DefsOk (K : PySem.W.Frag) (T : LT) (cs : List (Addr × Addr)) (mg : Str → Option Value) : List (Str × Df) → Prop
  | nil : DefsOk K T cs mg []
  | cons {x : Str} {d : Df} {r : List (Str × Df)} {a : Addr} {fd : FuncData} {ps : List Str} : mg x = some (.ref a) → PySem.W.keepIn K (.ref a) = true → DefOk K T cs a d fd ps → DefsOk K T cs mg r → DefsOk K T cs mg ((x, d) :: r)
theorem DefsOk.get {K : PySem.W.Frag} {cs : List (Addr × Addr)} {mg : Str → Option Value} : ∀ {l : List (Str × Df)} {f : Str} {d : Df}, DefsOk K T cs mg l → l.lookup f = some d → ∃ a fd ps, mg f = some (.ref a) ∧ PySem.W.keepIn K (.ref a) = true ∧ DefOk K T cs a d fd ps
  | _, f, d, .nil, h => by cases h
  | _, f, d, .cons (x := x) h1 h2 h3 t, h => by
    rw [List.lookup_cons] at h
    split at h
    · rename_i e
      cases h
      have e := eq_of_beq e
      subst e
      exact ⟨_, _, _, h1, h2, h3⟩
    · exact DefsOk.get t h
/-- one def more that makes no lambda: what k_is shows of it -/
theorem DefsOk.add {K : PySem.W.Frag} {cs : List (Addr × Addr)} {mg : Str → Option Value} {h : Heap} {r : List (Str × Df)} (r0 : DefsOk K T cs mg r) (X : K.In h) (G : h.Ns mainGlobals mg) {x : Str} {st : Stmt} {f : Addr} {od an : Option Addr} {sl : Array (Option Value)} {oc kV dc pm cd ct : Value} {N ps : List Str} {br : List Bool}
    (a : PySem.W.nsIn K mainGlobals x = some (some (.ref f))) (l : K.lookup f = some ⟨oc, od, .func (PySem.W.fnOf x x (defArgs st) (defBody st) (defScope st) .none kV dc pm an cd ct), sl⟩) (c : PySem.W.codeIn K cd x = true) (k : PySem.W.keepIn K (.ref f) = true)
    (S : FnScope N ps (defScope st)) (hl : ps.length = br.length) (b : ∀ (kV doc pm : Value) (an : Option Addr) (cdv ct : Value) (us : List Value), us.length = ps.length → bindArgs (PySem.W.fnOf x x (defArgs st) (defBody st) (defScope st) .none kV doc pm an cdv ct) ⟨us, []⟩ = pure (ps.zip us)) :
    DefsOk K T cs mg ((x, ⟨N, defScope st, br, false, defBody st⟩) :: r) :=
  .cons (PySem.W.mg_of X G a) k ⟨⟨oc, od, sl, x, x, defArgs st, .none, kV, dc, pm, cd, ct, an, rfl, l, c, fun z => by cases z⟩, S, hl, .all (b kV dc pm an cd ct)⟩ r0
/-- one that makes lambdas -/
theorem DefsOk.addT {K : PySem.W.Frag} {cs : List (Addr × Addr)} {mg : Str → Option Value} {h : Heap} {r : List (Str × Df)} (r0 : DefsOk K T cs mg r) (X : K.In h) (G : h.Ns mainGlobals mg) {x : Str} {st : Stmt} {f cA P : Addr} {od an : Option Addr} {sl : Array (Option Value)} {oc kV dc pm ct : Value} {N ps : List Str} {br : List Bool}
    (a : PySem.W.nsIn K mainGlobals x = some (some (.ref f))) (l : K.lookup f = some ⟨oc, od, .func (PySem.W.fnOf x x (defArgs st) (defBody st) (defScope st) .none kV dc pm an (.ref cA) ct), sl⟩) (c : PySem.W.codeIn K (.ref cA) x = true) (k : PySem.W.keepIn K (.ref f) = true)
    (hc : (cA, P) ∈ cs) (hT : (P, (x ++ ".<locals>.") ++ "<lambda>") ∈ T.tabs) (hu : ∀ p ∈ T.tabs, p.1 = P → p.2 = (x ++ ".<locals>.") ++ "<lambda>")
    (S : FnScope N ps (defScope st)) (hl : ps.length = br.length) (b : ∀ (kV doc pm : Value) (an : Option Addr) (cdv ct : Value) (us : List Value), us.length = ps.length → bindArgs (PySem.W.fnOf x x (defArgs st) (defBody st) (defScope st) .none kV doc pm an cdv ct) ⟨us, []⟩ = pure (ps.zip us)) :
    DefsOk K T cs mg ((x, ⟨N, defScope st, br, true, defBody st⟩) :: r) :=
  .cons (PySem.W.mg_of X G a) k ⟨⟨oc, od, sl, x, x, defArgs st, .none, kV, dc, pm, .ref cA, ct, an, rfl, l, c, fun _ => ⟨cA, P, rfl, hc, hT, hu⟩⟩, S, hl, .all (b kV dc pm an (.ref cA) ct)⟩ r0
end Ev
end
section
set_option maxHeartbeats 4000000
/-! EvSi: what the top of a row gives, read by facts; the row's end. -/
namespace Ev
open PySem PySem.Spec PyProof.Rows L2

/-- a class that is an exception -/
def exCB (K : PySem.W.Frag) (D : Addr) : Bool :=
  He.eqO (PySem.W.findIn K (.ref D) "__getattribute__") (some (some (.builtin "BaseException.__getattribute__"))) && (He.eqO (PySem.W.findIn K (.ref D) "__getattr__") (some none) &&
  (decide (PySem.W.subIn K (.ref D) (.type "BaseException") = some true) && (PySem.W.hasDictIn K D && (He.eqO (PySem.W.findIn K (.ref D) "__class__") (some (some (.builtin "object.__class__"))) &&
  (He.eqO (PySem.W.specialIn K (.builtin "object.__class__") "__get__") (some (some (.builtin "getset_descriptor.__get__"))) && (decide (PySem.W.takesIn K (.builtin "object.__class__") = some true) && decide (PySem.W.mroIn K D (.type "object") = some true)))))))
theorem exCB_ok {K : PySem.W.Frag} {D : Addr} (h : exCB K D = true) : ExcC K D := by
  obtain ⟨h1, h⟩ := He.ba h
  obtain ⟨h2, h⟩ := He.ba h
  obtain ⟨h3, h⟩ := He.ba h
  obtain ⟨h4, h⟩ := He.ba h
  obtain ⟨h5, h⟩ := He.ba h
  obtain ⟨h6, h⟩ := He.ba h
  obtain ⟨h7, h8⟩ := He.ba h
  exact ⟨He.eqO_ok h1, He.eqO_ok h2, of_decide_eq_true h3, h4, He.eqO_ok h5, He.eqO_ok h6, of_decide_eq_true h7, of_decide_eq_true h8⟩
abbrev SubL : Type := List (Str × List (Str × Bool))
def subF (l : SubL) (x y : Str) : Option Bool := (l.lookup x).bind fun r => r.lookup y
/-- one class against another: of the module, or ValueError -/
def subOneB (K : PySem.W.Frag) (x : Str) (q : Str × Bool) : Bool :=
  ((He.Fa.glo q.1).ok K && (decide (PySem.W.kitOne K (.ref (He.ga K x)) (.ref (He.ga K q.1)) = some q.2) && decide (PySem.W.exmOne K (.ref (He.ga K x)) (.ref (He.ga K q.1)) = some q.2))) ||
  (decide (q.1 = ("ValueError" : Str)) && ((He.Fa.free "ValueError").ok K && (decide (PySem.W.kitOne K (.ref (He.ga K x)) (.type "ValueError") = some q.2) && decide (PySem.W.exmOne K (.ref (He.ga K x)) (.type "ValueError") = some q.2))))
def subKB (K : PySem.W.Frag) (l : SubL) : Bool := l.all fun p => (He.Fa.glo p.1).ok K && (exCB K (He.ga K p.1) && p.2.all (subOneB K p.1))
theorem boot_value : bootBuiltins ("ValueError" : Str) = some (.type "ValueError") := by decide +kernel
theorem lookup_mem {α : Type} {x : Str} {v : α} : ∀ {l : List (Str × α)}, l.lookup x = some v → (x, v) ∈ l
  | [], h => by cases h
  | (y, u) :: r, h => by
    rw [List.lookup_cons] at h
    split at h
    · rename_i e
      cases h
      rw [eq_of_beq e]
      exact List.mem_cons_self
    · exact List.mem_cons_of_mem _ (lookup_mem h)
theorem subK_ok {K : PySem.W.Frag} {mg : Str → Option Value} {h : Heap} {l : SubL} (X : K.In h) (G : h.Ns mainGlobals mg) (c : subKB K l = true) : SubOk K mg (subF l) := fun x y b hb => by
  unfold subF at hb
  cases e : l.lookup x with
  | none => rw [e] at hb; cases hb
  | some r =>
    rw [e] at hb
    obtain ⟨h1, h2⟩ := He.ba (List.all_eq_true.mp c _ (lookup_mem e))
    obtain ⟨h3, h4⟩ := He.ba h2
    rcases (Bool.or_eq_true _ _).mp (List.all_eq_true.mp h4 _ (lookup_mem (show r.lookup y = some b from hb))) with hq | hq
    · obtain ⟨h5, h6⟩ := He.ba hq
      obtain ⟨h7, h8⟩ := He.ba h6
      exact ⟨_, He.glo_ok X G h1, exCB_ok h3, _, .inl ⟨_, rfl, He.glo_ok X G h5⟩, of_decide_eq_true h7, of_decide_eq_true h8⟩
    · obtain ⟨h5, h6⟩ := He.ba hq
      obtain ⟨h7, h8⟩ := He.ba h6
      obtain ⟨h9, h10⟩ := He.ba h8
      have e : y = ("ValueError" : Str) := of_decide_eq_true h5
      subst e
      exact ⟨_, He.glo_ok X G h1, exCB_ok h3, _, .inr ⟨_, rfl, He.free_ok X G h7, boot_value⟩, of_decide_eq_true h9, of_decide_eq_true h10⟩
/-- a constant of the top -/
def cstKB (K : PySem.W.Frag) (x : Str) : D → Bool
  | .int i => (He.Fa.int x i).ok K
  | .str z => (He.Fa.str x z).ok K
  | _ => false
theorem cstK_ok {K : PySem.W.Frag} {mg : Str → Option Value} {h : Heap} (X : K.In h) (G : h.Ns mainGlobals mg) {x : Str} {d : D} (c : cstKB K x d = true) : ∃ u v, mg x = some u ∧ RelV v u ∧ ∀ Z H, EncD K Z H v d := by
  cases d with
  | int i =>
    obtain ⟨t, e⟩ := He.int_ok X G (show (He.Fa.int x i).ok K = true from c)
    exact ⟨_, .int i, e, ⟨t, rfl⟩, fun _ _ => .int i⟩
  | str z =>
    obtain ⟨t, e⟩ := He.str_ok X G (show (He.Fa.str x z).ok K = true from c)
    exact ⟨_, .str z, e, ⟨t, rfl⟩, fun _ _ => .str z⟩
  | _ => cases c
def excKB (K : PySem.W.Frag) (x : Str) : Bool := (He.Fa.glo x).ok K && (!(x == ("__debug__" : Str)) && (He.Fa.exc x).ok K)
def ltOf (K : PySem.W.Frag) (mg : Str → Option Value) (tf : List He.Defn) : LT := ⟨tf.map fun p => ((He.cT K p).2, (p.1 ++ ".<locals>.") ++ "<lambda>"), mg, none⟩
def csOf (K : PySem.W.Frag) (tf : List He.Defn) : List (Addr × Addr) := tf.map (He.cT K)
def uniqB (K : PySem.W.Frag) (tf : List He.Defn) : Bool := tf.all fun p => tf.all fun q => !decide ((He.cT K p).2 = (He.cT K q).2) || decide (p.1 = q.1)
/-- all that the row's end leans on beyond the defs -/
def modB (Pr : Prg) (tf : List He.Defn) (K : PySem.W.Frag) : Bool :=
  (bltNames.all fun x => (He.Fa.free x).ok K) && ((Pr.cst.all fun p => cstKB K p.1 p.2) && ((Pr.exs.all (excKB K)) && (subKB K Pr.sub && (uniqB K tf && ((Pr.defs.all fun p => (He.Fa.glo p.1).ok K) && Pr.lams.all fun p => (He.Fa.glo p.1).ok K)))))
section
variable {K : PySem.W.Frag} {mg : Str → Option Value} {h : Heap} {Pr : Prg} {tf : List He.Defn}
theorem defF {x : Str} {st : Stmt} {fd : FuncData} {N ps : List Str} {br : List Bool} {tab : Bool} (hu : uniqB K tf = true)
    (F : FunD K x x (defArgs st) (defBody st) (defScope st) [] [] (He.fAd K (x, none)) fd) (ht : tab = true → (x, none) ∈ tf)
    (S : FnScope N ps (defScope st)) (hl : ps.length = br.length) (b : ∀ (kV doc pm : Value) (an : Option Addr) (cdv ct : Value) (us : List Value), us.length = ps.length → bindArgs (PySem.W.fnOf x x (defArgs st) (defBody st) (defScope st) .none kV doc pm an cdv ct) ⟨us, []⟩ = pure (ps.zip us)) :
    DefOk K (ltOf K mg tf) (csOf K tf) (He.ga K x) ⟨N, defScope st, br, tab, defBody st⟩ fd ps := by
  have bd := F.bindsN b
  obtain ⟨oc, od, dV, kV, doc, pm, an, cdv, ct, osl, rfl, lk, hcd, hD, hK⟩ := F.ex
  refine ⟨⟨oc, od, osl, x, x, defArgs st, dV, kV, doc, pm, cdv, ct, an, rfl, lk, hcd, fun z => ?_⟩, S, hl, bd⟩
  obtain ⟨c, rfl⟩ := He.codeIn_ref hcd
  have e : He.codeOf K (x, none) = c := He.codeOf_eq lk rfl
  have hm := ht z
  have ec : He.cT K (x, none) = (c, (He.cT K (x, none)).2) := by rw [← e] <;> rfl
  refine ⟨c, (He.cT K (x, none)).2, rfl, List.mem_map.mpr ⟨_, hm, ec⟩, List.mem_map.mpr ⟨_, hm, rfl⟩, fun p hp hp1 => ?_⟩
  obtain ⟨q, hq, rfl⟩ := List.mem_map.mp hp
  have h2 := List.all_eq_true.mp (List.all_eq_true.mp hu _ hq) _ hm
  have h3 : (!decide ((He.cT K q).2 = (He.cT K (x, none)).2) || decide (q.1 = x)) = true := h2
  rw [show decide ((He.cT K q).2 = (He.cT K (x, none)).2) = true from decide_eq_true hp1] at h3
  have h4 : q.1 = x := of_decide_eq_true h3
  show (q.1 ++ ".<locals>.") ++ "<lambda>" = _
  rw [h4]
theorem DefsOk.addF {r : List (Str × Df)} (r0 : DefsOk K (ltOf K mg tf) (csOf K tf) mg r) {x : Str} {st : Stmt} {fd : FuncData} {N ps : List Str} {br : List Bool} {tab : Bool} (hu : uniqB K tf = true)
    (g : mg x = some (.ref (He.ga K x))) (F : FunD K x x (defArgs st) (defBody st) (defScope st) [] [] (He.fAd K (x, none)) fd) (ht : tab = true → (x, none) ∈ tf)
    (S : FnScope N ps (defScope st)) (hl : ps.length = br.length) (b : ∀ (kV doc pm : Value) (an : Option Addr) (cdv ct : Value) (us : List Value), us.length = ps.length → bindArgs (PySem.W.fnOf x x (defArgs st) (defBody st) (defScope st) .none kV doc pm an cdv ct) ⟨us, []⟩ = pure (ps.zip us)) :
    DefsOk K (ltOf K mg tf) (csOf K tf) mg ((x, ⟨N, defScope st, br, tab, defBody st⟩) :: r) :=
  .cons g F.kp (defF hu F ht S hl b) r0
inductive LamsOk (K : PySem.W.Frag) (mg : Str → Option Value) : List (Str × Df) → Prop
  | nil : LamsOk K mg []
  | cons {x : Str} {d : Df} {r : List (Str × Df)} {ga : Addr} {fd : FuncData} {a : Str} : mg x = some (.ref ga) → PySem.W.keepIn K (.ref ga) = true → LamOk K x ga d fd a → LamsOk K mg r → LamsOk K mg ((x, d) :: r)
theorem LamsOk.get : ∀ {l : List (Str × Df)} {g : Str} {d : Df}, LamsOk K mg l → l.lookup g = some d → ∃ ga fd a, mg g = some (.ref ga) ∧ PySem.W.keepIn K (.ref ga) = true ∧ LamOk K g ga d fd a
  | _, f, d, .nil, h => by cases h
  | _, f, d, .cons (x := x) h1 h2 h3 t, h => by
    rw [List.lookup_cons] at h
    split at h
    · rename_i e
      cases h
      have e := eq_of_beq e
      subst e
      exact ⟨_, _, _, h1, h2, h3⟩
    · exact LamsOk.get t h
theorem LamsOk.addF {r : List (Str × Df)} (r0 : LamsOk K mg r) {x a : Str} {st : Stmt} {fd : FuncData} {N : List Str} {br : List Bool} {tab : Bool}
    (g : mg x = some (.ref (He.ga K x))) (F : FunD K x x (defArgs st) (defBody st) (defScope st) [] [] (He.fAd K (x, none)) fd)
    (S : FnScope N [a] (defScope st)) (nd : (a == ("__debug__" : Str)) = false) (nc : (a == ("__classdict__" : Str)) = false)
    (b : ∀ (kV doc pm : Value) (an : Option Addr) (cdv ct : Value) (us : List Value), us.length = [a].length → bindArgs (PySem.W.fnOf x x (defArgs st) (defBody st) (defScope st) .none kV doc pm an cdv ct) ⟨us, []⟩ = pure ([a].zip us)) :
    LamsOk K mg ((x, ⟨N, defScope st, br, tab, defBody st⟩) :: r) := by
  have kp := F.kp
  have bd := F.bindsN b
  obtain ⟨oc, od, dV, kV, doc, pm, an, cdv, ct, osl, rfl, lk, hcd, hD, hK⟩ := F.ex
  exact .cons g kp ⟨⟨oc, od, osl, defArgs st, dV, kV, doc, pm, cdv, ct, an, rfl, lk, hcd⟩, S, bd, nd, nc⟩ r0
theorem glos_ok (X : K.In h) (G : h.Ns mainGlobals mg) {l : List (Str × Df)} (c : (l.all fun p => (He.Fa.glo p.1).ok K) = true) {x : Str} {d : Df} (hx : (x, d) ∈ l) : mg x = some (.ref (He.ga K x)) := He.glo_ok X G (List.all_eq_true.mp c _ hx)
theorem mod_ok (X : K.In h) (G : h.Ns mainGlobals mg) (c : modB Pr tf K = true) (D : DefsOk K (ltOf K mg tf) (csOf K tf) mg Pr.defs) (L : LamsOk K mg Pr.lams) : ModOk K (ltOf K mg tf) (csOf K tf) mg Pr := by
  obtain ⟨c1, c⟩ := He.ba c
  obtain ⟨c2, c⟩ := He.ba c
  obtain ⟨c3, c⟩ := He.ba c
  obtain ⟨c4, c⟩ := He.ba c
  refine ⟨fun f hf => He.free_ok X G (List.all_eq_true.mp c1 f hf), fun x d hx => cstK_ok X G (List.all_eq_true.mp c2 _ (lookup_mem hx)), fun C hC => ?_, fun f d hf => D.get hf, fun g d hg => L.get hg, subK_ok X G c4, rfl⟩
  have hm : C ∈ Pr.exs := by
    rw [List.contains_iff_exists_mem_beq] at hC
    obtain ⟨a, ha, e⟩ := hC
    rw [eq_of_beq e]
    exact ha
  obtain ⟨e1, e2⟩ := He.ba (List.all_eq_true.mp c3 C hm)
  obtain ⟨e3, e4⟩ := He.ba e2
  obtain ⟨f1, f2, f3, f4⟩ := He.exc_ok e4
  refine ⟨_, He.glo_ok X G e1, by simpa using e3, ⟨⟨_, _, _, _, PySem.F.excBase_ValueError, f1⟩, f2, f3, f4⟩⟩
theorem uniq_of (c : modB Pr tf K = true) : uniqB K tf = true := (He.ba (He.ba (He.ba (He.ba (He.ba c).2).2).2).2).1
theorem gloD_of (c : modB Pr tf K = true) : (Pr.defs.all fun p => (He.Fa.glo p.1).ok K) = true := (He.ba (He.ba (He.ba (He.ba (He.ba (He.ba c).2).2).2).2).2).1
theorem gloL_of (c : modB Pr tf K = true) : (Pr.lams.all fun p => (He.Fa.glo p.1).ok K) = true := (He.ba (He.ba (He.ba (He.ba (He.ba (He.ba c).2).2).2).2).2).2
theorem law_at {l : PySem.W.OpenLaw} {w : World} {fa : List He.Fa} {fn : List He.DefD} {ts : List He.Tab} {n k : Nat} {x : Str} {N : List Str} {tab : Bool} {st : Stmt} {fd : FuncData} {f : Addr} (X : K.In h) (G : h.Ns mainGlobals mg) (S : He.SaysX fa fn ts tf (modB Pr tf) w h K)
    (D : DefsOk K (ltOf K mg tf) (csOf K tf) mg Pr.defs) (L : LamsOk K mg Pr.lams) (hf : mg ("law" : Str) = some (.ref f)) (hg : mg ("law" : Str) = some (.ref (He.ga K "law")))
    (F : FunD K "law" "law" (defArgs st) (defBody st) (defScope st) [] [] (He.fAd K ("law", none)) fd) (ht : tab = true → (("law" : Str), none) ∈ tf)
    (Sc : FnScope N [x] (defScope st)) (b : ∀ (kV doc pm : Value) (an : Option Addr) (cdv ct : Value) (us : List Value), us.length = [x].length → bindArgs (PySem.W.fnOf "law" "law" (defArgs st) (defBody st) (defScope st) .none kV doc pm an cdv ct) ⟨us, []⟩ = pure ([x].zip us))
    (hp : Pays Pr k ⟨N, defScope st, [false], tab, defBody st⟩ n) : LamX.LawAtS l w K (L2.CX l.prog w) k n x mg f h := by
  rw [hf] at hg
  cases hg
  have M := mod_ok X G S.more D L
  refine ⟨fd, csOf K tf, spLaw (ltOf K mg tf) n K, fun p hp => ?_, fun p hp => ?_, fun p hp => ?_, fun s u => F.bindsA b s [u] rfl, fun H a ns hl _ hT hS => ⟨a, ns, rfl, hl, fun p hp => ?_, hS, fun _ => rfl⟩, fun base _ _ TB => law_ok M TB (defF (uniq_of S.more) F ht Sc rfl b) hp⟩
  · obtain ⟨q, hq, rfl⟩ := List.mem_map.mp hp
    exact S.empty q hq
  · obtain ⟨q, hq, rfl⟩ := List.mem_map.mp hp
    exact S.out q hq
  · obtain ⟨q, hq, rfl⟩ := List.mem_map.mp hp
    exact PySem.W.codeHd_of_K X (S.hd q hq)
  · obtain ⟨q, hq, rfl⟩ := List.mem_map.mp hp
    exact LamX.TabS.nil (hT (He.cT K q) (List.mem_map.mpr ⟨q, hq, rfl⟩))
end
end Ev
end
section
set_option maxHeartbeats 1000000
/-! EvM: plain lemmas on the evaluator's combinators, for the laws' mathematics. -/
namespace Ev
open PySem
abbrev cmpF (op : CmpOp) (p q : D) : Option Op := (cmpD op p q).bind imB

/-! ### shapes -/
def iL (ns : List Int) : List D := ns.map PyData.int
theorem iL_len {ns : List Int} : (iL ns).length = ns.length := List.length_map ..
theorem iL_nil : iL [] = [] := rfl
theorem iL_cons {n : Int} {ns : List Int} : iL (n :: ns) = .int n :: iL ns := rfl
theorem iL_app {a b : List Int} : iL (a ++ b) = iL a ++ iL b := List.map_append ..
theorem iL_get {ns : List Int} {i : Nat} : (iL ns)[i]? = (ns[i]?).map .int := List.getElem?_map ..
theorem iL_drop {ns : List Int} {i : Nat} : (iL ns).drop i = iL (ns.drop i) := List.map_drop.symm
theorem iL_take {ns : List Int} {i : Nat} : (iL ns).take i = iL (ns.take i) := List.map_take.symm
theorem plain_int {i : Int} : PyData.plain (.int i) = true := rfl
theorem plainAll_cons {x : D} {xs : List D} : PyData.plainAll (x :: xs) = (PyData.plain x && PyData.plainAll xs) := by simp [PyData.plainAll]
theorem plain_iL : ∀ {ns : List Int}, PyData.plainAll (iL ns) = true
  | [] => by simp [iL, PyData.plainAll]
  | n :: ns => by rw [iL_cons, plainAll_cons, plain_iL (ns := ns)]; rfl
theorem depth_iL : ∀ {ns : List Int}, PyData.depthAll (iL ns) = 0
  | [] => by simp [iL, PyData.depthAll]
  | n :: ns => by rw [iL_cons, PyData.depthAll, depth_iL (ns := ns)]; simp [PyData.depth]
theorem intsD_iL : ∀ {ns : List Int}, intsD (iL ns) = some ns
  | [] => rfl
  | n :: ns => by rw [iL_cons, intsD, intsD_iL]; rfl
theorem eqD_self {d : D} (h : shp d = true) : eqD d d = some true := by
  unfold eqD
  rw [h]
  have := PySem.SeqAt.eqv_refl_plain d (by unfold shp at h; exact (Bool.and_eq_true_iff.mp h).1)
  rw [this]; rfl
theorem shp_int {i : Int} : shp (.int i) = true := by simp [shp, PyData.plain, PyData.depth]
theorem shp_bool {i : Bool} : shp (.bool i) = true := by simp [shp, PyData.plain, PyData.depth]
theorem shp_none : shp .none = true := by simp [shp, PyData.plain, PyData.depth]
theorem shp_str {s : Str} : shp (.str s) = true := by simp [shp, PyData.plain, PyData.depth]
/-- how deep, at most -/
def shpN (n : Nat) (d : D) : Bool := PyData.plain d && decide (PyData.depth d ≤ n)
def shpNs (n : Nat) (ds : List D) : Bool := PyData.plainAll ds && decide (PyData.depthAll ds ≤ n)
theorem shp_N {d : D} : shp d = shpN 60 d := rfl
theorem shpN_int {i : Int} {n : Nat} : shpN n (.int i) = true := by simp [shpN, PyData.plain, PyData.depth]
theorem shpN_bool {i : Bool} {n : Nat} : shpN n (.bool i) = true := by simp [shpN, PyData.plain, PyData.depth]
theorem shpN_none {n : Nat} : shpN n .none = true := by simp [shpN, PyData.plain, PyData.depth]
theorem shpN_str {s : Str} {n : Nat} : shpN n (.str s) = true := by simp [shpN, PyData.plain, PyData.depth]
theorem shpN_tuple {ds : List D} {n : Nat} : shpN (n + 1) (.tuple ds) = shpNs n ds := by simp [shpN, shpNs, PyData.plain, PyData.depth]
theorem shpN_list {ds : List D} {n : Nat} : shpN (n + 1) (.list ds) = shpNs n ds := by simp [shpN, shpNs, PyData.plain, PyData.depth]
theorem shpNs_nil {n : Nat} : shpNs n [] = true := by simp [shpNs, PyData.plainAll, PyData.depthAll]
theorem shpNs_cons {d : D} {ds : List D} {n : Nat} : shpNs n (d :: ds) = (shpN n d && shpNs n ds) := by
  simp only [shpN, shpNs, PyData.plainAll, PyData.depthAll, Nat.max_le]
  cases PyData.plain d <;> cases PyData.plainAll ds <;> simp
theorem shpNs_app {a b : List D} {n : Nat} : shpNs n (a ++ b) = (shpNs n a && shpNs n b) := by
  induction a with
  | nil => simp [shpNs_nil]
  | cons x a ih => rw [List.cons_append, shpNs_cons, shpNs_cons, ih, Bool.and_assoc]
theorem shpNs_iL {ns : List Int} {n : Nat} : shpNs n (iL ns) = true := by
  induction ns with
  | nil => exact shpNs_nil
  | cons x a ih => rw [iL_cons, shpNs_cons, ih, shpN_int]; rfl
theorem shps_N {ds : List D} : shps ds = shpNs 60 ds := rfl
theorem alike_int {i j : Int} : PySem.W.alike (.int i) (.int j) = true := by simp [PySem.W.alike]
theorem alikeB_iL {ns : List Int} : alikeB (iL ns) = true := by
  unfold alikeB
  rw [Bool.and_eq_true_iff]
  refine ⟨List.all_eq_true.mpr fun x hx => List.all_eq_true.mpr fun y hy => ?_, List.all_eq_true.mpr fun x hx => ?_⟩
  · obtain ⟨i, _, rfl⟩ := List.mem_map.mp hx
    obtain ⟨j, _, rfl⟩ := List.mem_map.mp hy
    exact alike_int
  · obtain ⟨i, _, rfl⟩ := List.mem_map.mp hx
    rfl
theorem ltD_int {i j : Int} : ltD (.int i) (.int j) = some (decide (i < j)) := by
  simp [ltD, alike_int, isNone, shp_int, PySem.W.dataLt_int]
theorem leD_int {i j : Int} : leD (.int i) (.int j) = some (decide (i ≤ j)) := by
  simp only [leD, alike_int, isNone, shp_int, PySem.W.dataLt_int]
  by_cases h : i ≤ j
  · simp [h, Int.not_lt.mpr h]
  · simp [h, Int.not_le.mp h]
theorem eqD_int {i j : Int} : eqD (.int i) (.int j) = some (decide (i = j)) := by
  simp [eqD, shp_int, PyData.eqv]
  by_cases h : i = j <;> simp [h]
theorem eqD_str {i j : Str} : eqD (.str i) (.str j) = some (decide (i = j)) := by
  simp [eqD, shp_str, PyData.eqv]
  by_cases h : i = j <;> simp [h]
theorem bltD_sum_tup {ns : List Int} : bltD .sum [.tuple (iL ns)] = imI ns.sum := by simp [bltD, seqD, intsD_iL]
theorem bltD_sum_lst {ns : List Int} : bltD .sum [.list (iL ns)] = imI ns.sum := by simp [bltD, seqD, intsD_iL]
theorem bltD_max_tup {n : Int} {ns : List Int} : bltD .max [.tuple (iL (n :: ns))] = imI (ns.foldl max n) := by
  have h := alikeB_iL (ns := n :: ns)
  have h2 : shps (iL (n :: ns)) = true := shpNs_iL
  rw [iL_cons] at h h2 ⊢
  simp only [bltD, seqD, h, h2, Bool.and_self, if_true, imI]
  rw [iL, PySem.W.maxD_ints]
theorem bltD_max_lst {n : Int} {ns : List Int} : bltD .max [.list (iL (n :: ns))] = imI (ns.foldl max n) := by
  have h := alikeB_iL (ns := n :: ns)
  have h2 : shps (iL (n :: ns)) = true := shpNs_iL
  rw [iL_cons] at h h2 ⊢
  simp only [bltD, seqD, h, h2, Bool.and_self, if_true, imI]
  rw [iL, PySem.W.maxD_ints]
theorem bltD_min_tup {n : Int} {ns : List Int} : bltD .min [.tuple (iL (n :: ns))] = imI (ns.foldl min n) := by
  have h := alikeB_iL (ns := n :: ns)
  have h2 : shps (iL (n :: ns)) = true := shpNs_iL
  rw [iL_cons] at h h2 ⊢
  simp only [bltD, seqD, h, h2, Bool.and_self, if_true, imI]
  rw [iL, PySem.W.minD_ints]
theorem bltD_min_lst {n : Int} {ns : List Int} : bltD .min [.list (iL (n :: ns))] = imI (ns.foldl min n) := by
  have h := alikeB_iL (ns := n :: ns)
  have h2 : shps (iL (n :: ns)) = true := shpNs_iL
  rw [iL_cons] at h h2 ⊢
  simp only [bltD, seqD, h, h2, Bool.and_self, if_true, imI]
  rw [iL, PySem.W.minD_ints]
def bL (bs : List Bool) : List D := bs.map PyData.bool
theorem boolsD_bL : ∀ {bs : List Bool}, boolsD (bL bs) = some bs
  | [] => rfl
  | n :: ns => by rw [show bL (n :: ns) = .bool n :: bL ns from rfl, boolsD, boolsD_bL]; rfl
theorem bltD_all {bs : List Bool} : bltD .all [.list (bL bs)] = imB (bs.all id) := by simp [bltD, boolsD_bL]
theorem bltD_any {bs : List Bool} : bltD .any [.list (bL bs)] = imB (bs.any id) := by simp [bltD, boolsD_bL]
/-! ### statements, step by step -/
theorem stS_n {i : Nat} {v : Sv} {e : Sl} : stS [] i v e = some (pt e i (some v)) := rfl
theorem stS_1 {v : Sv} {e : Sl} : stS [0] 1 v e = some (pt e 1 (some v)) := rfl
theorem stS_2 {v : Sv} {e : Sl} : stS [0] 2 v e = some (pt e 2 (some v)) := rfl
theorem stS_3 {v : Sv} {e : Sl} : stS [0] 3 v e = some (pt e 3 (some v)) := rfl
theorem stS_4 {v : Sv} {e : Sl} : stS [0] 4 v e = some (pt e 4 (some v)) := rfl
theorem stS_5 {v : Sv} {e : Sl} : stS [0] 5 v e = some (pt e 5 (some v)) := rfl
theorem stS_6 {v : Sv} {e : Sl} : stS [0] 6 v e = some (pt e 6 (some v)) := rfl
theorem stS_7 {v : Sv} {e : Sl} : stS [0] 7 v e = some (pt e 7 (some v)) := rfl
theorem stS_8 {v : Sv} {e : Sl} : stS [0] 8 v e = some (pt e 8 (some v)) := rfl
theorem stS_9 {v : Sv} {e : Sl} : stS [0] 9 v e = some (pt e 9 (some v)) := rfl
theorem stS_10 {v : Sv} {e : Sl} : stS [0] 10 v e = some (pt e 10 (some v)) := rfl
theorem stS_11 {v : Sv} {e : Sl} : stS [0] 11 v e = some (pt e 11 (some v)) := rfl
theorem stS_12 {v : Sv} {e : Sl} : stS [0] 12 v e = some (pt e 12 (some v)) := rfl
theorem stS_13 {v : Sv} {e : Sl} : stS [0] 13 v e = some (pt e 13 (some v)) := rfl
theorem stS_14 {v : Sv} {e : Sl} : stS [0] 14 v e = some (pt e 14 (some v)) := rfl
theorem stS_15 {v : Sv} {e : Sl} : stS [0] 15 v e = some (pt e 15 (some v)) := rfl
theorem hid_im {fx : List Nat} {d : D} {e : Sl} : hideO fx (.im d) e = some (d, [], e) := rfl
theorem hid_tl {fx : List Nat} {xs : List D} {e : Sl} : hideO fx (.tl xs) e = some (.list xs, [], e) := rfl
theorem hid_n {i : Nat} {e : Sl} : hideO [] (.bor i) e = (fzO (.bor i) e).map fun r => (r.1, [], r.2) := rfl

@[simp] theorem finsOf_f {bs : List Bool} {x : Option Sv} {r : Sl} : finsOf (false :: bs) (x :: r) = none :: finsOf bs r := rfl
@[simp] theorem finsOf_t {bs : List Bool} {x : Option Sv} {r : Sl} : finsOf (true :: bs) (x :: r) = x :: finsOf bs r := rfl
@[simp] theorem finsOf_n {e : Sl} : finsOf [] e = [] := by cases e <;> rfl
section
variable {t : ME} {a b : MS} {r : List MS} {e e1 : Sl} {o : Op}
theorem ifS_true (h : t e = .ok (.im (.bool true)) e1) : ifS t a b e = a e1 := by unfold ifS; rw [h]; rfl
theorem ifS_false (h : t e = .ok (.im (.bool false)) e1) : ifS t a b e = b e1 := by unfold ifS; rw [h]; rfl
theorem seqS_nx (h : a e = .nx e1) : seqS (a :: b :: r) e = seqS (b :: r) e1 := by
  show (a e).bind (seqS (b :: r)) = _
  rw [h]; rfl
theorem seqS_rt (h : a e = .rt o e1) : seqS (a :: r) e = .rt o e1 := by
  cases r with
  | nil => exact h
  | cons b r =>
    show (a e).bind (seqS (b :: r)) = _
    rw [h]; rfl
theorem seqS_er {x : Exc} (h : a e = .er x e1) : seqS (a :: r) e = .er x e1 := by
  cases r with
  | nil => exact h
  | cons b r =>
    show (a e).bind (seqS (b :: r)) = _
    rw [h]; rfl
theorem seqS_one : seqS [a] = a := rfl
theorem seqS_end : seqS [] e = .nx e := rfl
theorem retS_ok (h : t e = .ok o e1) : retS t e = .rt o e1 := by unfold retS; rw [h]; rfl
theorem exprS_ok (h : t e = .ok o e1) : exprS t e = .nx e1 := by unfold exprS; rw [h]; rfl
theorem exprS_er {x : Exc} (h : t e = .er x e1) : exprS t e = .er x e1 := by unfold exprS; rw [h]; rfl
theorem asgS_im {i : Nat} {d : D} {fx : List Nat} (h : t e = .ok (.im d) e1) (hf : fx.contains i = false) : asgS (nameG fx i) t e = .nx (pt e1 i (some (.im d))) := by
  unfold asgS
  rw [h]
  simp only [Res.st, nameG, stS, hf]
  rfl
theorem asgS_tl {i : Nat} {ds : List D} {fx : List Nat} (h : t e = .ok (.tl ds) e1) (hf : fx.contains i = false) : asgS (nameG fx i) t e = .nx (pt e1 i (some (.ol ds))) := by
  unfold asgS
  rw [h]
  simp only [Res.st, nameG, stS, hf]
  rfl
theorem forS_nx {it : MI} {tg : MT} {ds : List D} {e2 : Sl} (h : it e = .ok ⟨ds, []⟩ e1) (h2 : forL tg a ds e1 = .nx e2) : forS it tg a e = .nx e2 := by
  unfold forS
  rw [h]
  simp only [Res.st, h2, endL, unhS]
theorem notE_ok {b : Bool} (h : t e = .ok (.im (.bool b)) e1) : notE t e = .ok (.im (.bool (!b))) e1 := by unfold notE; rw [h]; rfl
end
theorem binD_add {i j : Int} : binD .Add (.int i) (.int j) = some (.im (.int (i + j))) := rfl
theorem binD_sub {i j : Int} : binD .Sub (.int i) (.int j) = some (.im (.int (i - j))) := rfl
theorem binD_addT {xs ys : List D} (h : xs.length + ys.length ≤ sizeMax) : binD .Add (.tuple xs) (.tuple ys) = some (.im (.tuple (xs ++ ys))) := if_pos h
theorem binD_addL {xs ys : List D} (h : xs.length + ys.length ≤ sizeMax) : binD .Add (.list xs) (.list ys) = some (.tl (xs ++ ys)) := if_pos h
theorem bltD_allT {α : Type} {xs : List α} : bltD .all [.list (bL (xs.map fun _ => true))] = some (.im (.bool true)) := by
  rw [bltD_all]
  have : (xs.map fun _ => true).all id = true := by simp
  rw [this]; rfl
theorem all_true {α : Type} {xs : List α} : (bL (xs.map fun _ => true)) = xs.map fun _ => PyData.bool true := by simp [bL]
theorem ne_self {d : D} (h : shp d = true) : cmpF .NotEq d d = some (.im (.bool false)) := by
  simp only [cmpF, cmpD, eqD_self h, Option.map, Bool.not_true, Option.bind, imB]
theorem cutL_tail {xs : List D} (h : 1 ≤ xs.length) : cutL xs (some 1) none = xs.drop 1 := by
  simp only [cutL, cutI]
  have e : min (1 : Int).toNat xs.length = 1 := by simp; omega
  rw [if_neg (by decide), e, List.take_of_length_le (by simp)]
theorem zipI_map (f : Int → Int → Int) (g : D → D) (hg : ∀ i j, g (.tuple [.int i, .int j]) = .int (f i j)) : ∀ {as bs : List Int}, (zipI (iL as) (iL bs)).map g = iL (List.zipWith f as bs)
  | [], _ => by simp [iL, zipI]
  | _ :: _, [] => by simp [iL, zipI]
  | a :: as, b :: bs => by
    rw [iL_cons, iL_cons, zipI, List.map_cons, hg, zipI_map f g hg, List.zipWith_cons_cons, iL_cons]
theorem zipI_mem {d : D} : ∀ {as bs : List Int}, d ∈ zipI (iL as) (iL bs) → ∃ i j, d = .tuple [.int i, .int j]
  | [], _, h => by simp [iL, zipI] at h
  | _ :: _, [], h => by simp [iL, zipI] at h
  | a :: as, b :: bs, h => by
    rw [iL_cons, iL_cons, zipI] at h
    rcases List.mem_cons.mp h with rfl | h
    · exact ⟨a, b, rfl⟩
    · exact zipI_mem h
theorem zipI_len : ∀ {as bs : List D}, (zipI as bs).length = min as.length bs.length
  | [], _ => by simp [zipI]
  | _ :: _, [] => by simp [zipI]
  | a :: as, b :: bs => by rw [zipI, List.length_cons, zipI_len]; simp <;> omega
theorem gtI : ∀ {e : Sl} {i : Nat}, gt (imS e) i = match gt e i with | some (.im d) => some (.im d) | _ => none
  | [], i => by simp [imS, gt]
  | none :: r, 0 => rfl
  | none :: r, i + 1 => gtI (e := r)
  | some (.im d) :: r, 0 => rfl
  | some (.im d) :: r, i + 1 => gtI (e := r)
  | some (.ol d) :: r, 0 => rfl
  | some (.ol d) :: r, i + 1 => gtI (e := r)
  | some (.od d) :: r, 0 => rfl
  | some (.od d) :: r, i + 1 => gtI (e := r)
  | some (.ex d) :: r, 0 => rfl
  | some (.ex d) :: r, i + 1 => gtI (e := r)
theorem lamE_ok {fx fv : List Nat} {G : LRes → CRes} {m : ME} {e : Sl} {r : LRes} {d : D} {f : Sl} (hf : frzS fx fv e = e) (hm : lres (m (imS e)) = some r) (hG : G r = .ok (.im d) f) : lamE fx fv G m e = .ok (.im d) e := by
  unfold lamE
  rw [hf, hm]
  simp only [hG]
/-- a call with the hand and a new list -/
theorem callE_any1 {F : Sl → CRes} {m : ME} {a a1 fin xs : List D} {r r1 : Sl} {x : D} {s s1 : Option Sv} (hm : m (s :: some (.ol a) :: r) = .ok (.tl xs) (s1 :: some (.ol a1) :: r1)) (hF : F [some (.ol a1), some (.ol xs)] = .ok (.im x) [some (.ol fin), none]) :
    callE [true, false] F [varE 1, m] (s :: some (.ol a) :: r) = .ok (.im x) (s1 :: some (.ol fin) :: r1) := by
  unfold callE
  simp only [argsO, varE, gt, Res.bind, hm, toPar, pt, Option.map, hF, backs]
theorem callE_any {F : Sl → CRes} {m : ME} {a a1 fin xs : List D} {r r1 : Sl} {x : D} (hm : m (some (.ol a) :: r) = .ok (.tl xs) (some (.ol a1) :: r1)) (hF : F [some (.ol a1), some (.ol xs)] = .ok (.im x) [some (.ol fin), none]) :
    callE [true, false] F [varE 0, m] (some (.ol a) :: r) = .ok (.im x) (some (.ol fin) :: r1) := by
  unfold callE
  simp only [argsO, varE, gt, Res.bind, hm, toPar, pt, Option.map, hF, backs]
theorem finsOf_all {e : Sl} : finsOf [false, false] e = [none, none] := by
  cases e with
  | nil => rfl
  | cons a e => cases e <;> simp [finsOf]
theorem finsOf_all3 {e : Sl} : finsOf [false, false, false] e = [none, none, none] := by
  cases e with
  | nil => rfl
  | cons a e => cases e with
    | nil => rfl
    | cons b e => cases e <;> simp [finsOf]
/-! ### loops -/
/-- an invariant of a for loop -/
theorem forL_inv {tg : MT} {body : MS} (I : Sl → Prop) : ∀ (ds : List D) (e : Sl), I e → (∀ d, d ∈ ds → ∀ e, I e → ∃ e1, tg d e = some e1 ∧ ∃ e2, body e1 = .nx e2 ∧ I e2) → ∃ e', forL tg body ds e = .nx e' ∧ I e'
  | [], e, hI, _ => ⟨e, rfl, hI⟩
  | d :: ds, e, hI, h => by
    obtain ⟨e1, h1, e2, h2, h3⟩ := h d List.mem_cons_self e hI
    obtain ⟨e', h4, h5⟩ := forL_inv I ds e2 h3 fun d hd => h d (List.mem_cons_of_mem _ hd)
    refine ⟨e', ?_, h5⟩
    unfold forL
    rw [h1]
    simp only [h2]
    exact h4
/-- a for loop that may return -/
theorem forL_rt {tg : MT} {body : MS} (I : Sl → Prop) : ∀ (ds : List D) (e : Sl), I e → (∀ d, d ∈ ds → ∀ e, I e → ∃ e1, tg d e = some e1 ∧ ((∃ e2, body e1 = .nx e2 ∧ I e2) ∨ ∃ w e2, body e1 = .rt (.im w) e2)) → (∃ e', forL tg body ds e = .nx e' ∧ I e') ∨ ∃ w e', forL tg body ds e = .rt (.im w) e'
  | [], e, hI, _ => .inl ⟨e, rfl, hI⟩
  | d :: ds, e, hI, h => by
    obtain ⟨e1, h1, h2⟩ := h d List.mem_cons_self e hI
    unfold forL
    rw [h1]
    rcases h2 with ⟨e2, h2, h3⟩ | ⟨w, e2, h2⟩
    · simp only [h2]
      exact forL_rt I ds e2 h3 fun d hd => h d (List.mem_cons_of_mem _ hd)
    · exact .inr ⟨w, e2, by simp only [h2]⟩
/-- a for loop whose turns are a function of a state -/
theorem forL_fold {α : Type} {tg : MT} {body : MS} (S : α → Sl) (f : α → D → α) : ∀ (ds : List D) (a : α), (∀ d, d ∈ ds → ∀ a, ∃ e1, tg d (S a) = some e1 ∧ body e1 = .nx (S (f a d))) → forL tg body ds (S a) = .nx (S (ds.foldl f a))
  | [], a, _ => rfl
  | d :: ds, a, h => by
    obtain ⟨e1, h1, h2⟩ := h d List.mem_cons_self a
    unfold forL
    rw [h1]
    simp only [h2]
    exact forL_fold S f ds (f a d) fun d hd => h d (List.mem_cons_of_mem _ hd)
/-- a comprehension whose element is a function of the item -/
theorem compL_map {own : List Nat} {tg : MT} {cond elt : ME} {e : Sl} (f : D → D) : ∀ (ds acc : List D), (∀ d, d ∈ ds → ∃ e1, tg d e = some e1 ∧ cond e1 = .ok (.im (.bool true)) e1 ∧ elt e1 = .ok (.im (f d)) e1 ∧ wipeS e1 own = e) → acc.length + ds.length ≤ sizeMax →
    compL own tg cond elt ds acc e = .ok (acc ++ ds.map f) e
  | [], acc, _, _ => by simp [compL]
  | d :: ds, acc, h, hl => by
    obtain ⟨e1, h1, h2, h3, h4⟩ := h d List.mem_cons_self
    have l1 : acc.length < sizeMax := by simp only [List.length_cons] at hl; omega
    unfold compL
    simp only [h1, h2, noer, Res.bind, tru, h3, fzO, if_pos l1, h4]
    rw [compL_map f ds (acc ++ [f d]) (fun d hd => h d (List.mem_cons_of_mem _ hd)) (by simp only [List.length_append, List.length_cons, List.length_nil] at hl ⊢; omega)]
    simp
/-- a comprehension that changes a state: each item's element comes of the state -/
theorem compL_inv {own : List Nat} {tg : MT} {cond elt : ME} (I : Sl → Prop) (Q : D → Prop) : ∀ (ds acc : List D) (e : Sl), I e → (∀ d, d ∈ ds → ∀ e, I e → ∃ e1, tg d e = some e1 ∧ cond e1 = .ok (.im (.bool true)) e1 ∧ ∃ r e2, elt e1 = .ok (.im r) e2 ∧ Q r ∧ I (wipeS e2 own)) → acc.length + ds.length ≤ sizeMax →
    ∃ rs e', compL own tg cond elt ds acc e = .ok (acc ++ rs) e' ∧ rs.length = ds.length ∧ (∀ r ∈ rs, Q r) ∧ I e'
  | [], acc, e, hI, _, _ => ⟨[], e, by simp [compL], rfl, by simp, hI⟩
  | d :: ds, acc, e, hI, h, hl => by
    obtain ⟨e1, h1, h2, r, e2, h3, hq, h4⟩ := h d List.mem_cons_self e hI
    have l1 : acc.length < sizeMax := by simp only [List.length_cons] at hl; omega
    obtain ⟨rs, e', h5, h6, h7, h8⟩ := compL_inv I Q ds (acc ++ [r]) (wipeS e2 own) h4 (fun d hd => h d (List.mem_cons_of_mem _ hd)) (by simp only [List.length_append, List.length_cons, List.length_nil] at hl ⊢; omega)
    refine ⟨r :: rs, e', ?_, by simp [h6], fun q hq' => ?_, h8⟩
    · unfold compL
      simp only [h1, h2, noer, Res.bind, tru, h3, fzO, if_pos l1]
      rw [h5]
      simp
    · rcases List.mem_cons.mp hq' with rfl | z
      · exact hq
      · exact h7 q z
theorem compE_map {own : List Nat} {it : MI} {tg : MT} {cond elt : ME} {e e1 : Sl} {ds : List D} (f : D → D) (hit : it e = .ok ⟨ds, []⟩ e1) (hi : imOnly e1 own = true) (hl : ds.length ≤ sizeMax)
    (h : ∀ d, d ∈ ds → ∃ e2, tg d (wipeS e1 own) = some e2 ∧ cond e2 = .ok (.im (.bool true)) e2 ∧ elt e2 = .ok (.im (f d)) e2 ∧ wipeS e2 own = wipeS e1 own) :
    compE own it tg cond elt e = .ok (.tl (ds.map f)) (restS e1 (wipeS e1 own) own) := by
  unfold compE
  rw [hit]
  simp only [Res.bind, hi, if_true]
  rw [compL_map f ds [] h (by simpa using hl)]
  rfl
/-- a comprehension with a condition -/
theorem compL_filter {own : List Nat} {tg : MT} {cond elt : ME} {e : Sl} (p : D → Bool) (f : D → D) : ∀ (ds acc : List D), (∀ d, d ∈ ds → ∃ e1, tg d e = some e1 ∧ cond e1 = .ok (.im (.bool (p d))) e1 ∧ elt e1 = .ok (.im (f d)) e1 ∧ wipeS e1 own = e) → acc.length + ds.length ≤ sizeMax →
    compL own tg cond elt ds acc e = .ok (acc ++ (ds.filter p).map f) e
  | [], acc, _, _ => by simp [compL]
  | d :: ds, acc, h, hl => by
    obtain ⟨e1, h1, h2, h3, h4⟩ := h d List.mem_cons_self
    have l1 : acc.length < sizeMax := by simp only [List.length_cons] at hl; omega
    have rest := fun acc' (hl' : acc'.length + ds.length ≤ sizeMax) => compL_filter p f ds acc' (fun d hd => h d (List.mem_cons_of_mem _ hd)) hl'
    unfold compL
    cases q : p d with
    | true =>
      rw [q] at h2
      simp only [h1, h2, noer, Res.bind, tru, h3, fzO, if_pos l1, h4]
      rw [rest (acc ++ [f d]) (by simp only [List.length_append, List.length_cons, List.length_nil] at hl ⊢; omega)]
      simp [List.filter_cons, q]
    | false =>
      rw [q] at h2
      simp only [h1, h2, noer, Res.bind, tru, h4]
      rw [rest acc (by simp only [List.length_cons] at hl; omega)]
      simp [List.filter_cons, q]
theorem compE_filter {own : List Nat} {it : MI} {tg : MT} {cond elt : ME} {e e1 : Sl} {ds : List D} (p : D → Bool) (f : D → D) (hit : it e = .ok ⟨ds, []⟩ e1) (hi : imOnly e1 own = true) (hl : ds.length ≤ sizeMax)
    (h : ∀ d, d ∈ ds → ∃ e2, tg d (wipeS e1 own) = some e2 ∧ cond e2 = .ok (.im (.bool (p d))) e2 ∧ elt e2 = .ok (.im (f d)) e2 ∧ wipeS e2 own = wipeS e1 own) :
    compE own it tg cond elt e = .ok (.tl ((ds.filter p).map f)) (restS e1 (wipeS e1 own) own) := by
  unfold compE
  rw [hit]
  simp only [Res.bind, hi, if_true]
  rw [compL_filter p f ds [] h (by simpa using hl)]
  rfl
theorem compE_inv {own : List Nat} {it : MI} {tg : MT} {cond elt : ME} {e e1 : Sl} {ds : List D} (I : Sl → Prop) (Q : D → Prop) (hit : it e = .ok ⟨ds, []⟩ e1) (hi : imOnly e1 own = true) (hl : ds.length ≤ sizeMax) (h0 : I (wipeS e1 own))
    (h : ∀ d, d ∈ ds → ∀ e, I e → ∃ e1, tg d e = some e1 ∧ cond e1 = .ok (.im (.bool true)) e1 ∧ ∃ r e2, elt e1 = .ok (.im r) e2 ∧ Q r ∧ I (wipeS e2 own)) :
    ∃ rs e', compE own it tg cond elt e = .ok (.tl rs) (restS e1 e' own) ∧ rs.length = ds.length ∧ (∀ r ∈ rs, Q r) ∧ I e' := by
  obtain ⟨rs, e', h1, h2, h3, h4⟩ := compL_inv I Q ds [] (wipeS e1 own) h0 h (by simpa using hl)
  refine ⟨rs, e', ?_, h2, h3, h4⟩
  unfold compE
  rw [hit]
  simp only [Res.bind, hi, if_true, h1]
  rfl
theorem foldl_max_ge : ∀ (ns : List Int) (n : Int), n ≤ ns.foldl max n ∧ ∀ x ∈ ns, x ≤ ns.foldl max n
  | [], n => ⟨Int.le_refl _, by simp⟩
  | m :: ns, n => by
    obtain ⟨h1, h2⟩ := foldl_max_ge ns (max n m)
    refine ⟨?_, fun x hx => ?_⟩
    · rw [List.foldl_cons]; omega
    · rw [List.foldl_cons]
      rcases List.mem_cons.mp hx with rfl | hx
      · omega
      · exact h2 x hx
theorem foldl_max_mem : ∀ (ns : List Int) (n : Int), ns.foldl max n = n ∨ ns.foldl max n ∈ ns
  | [], n => .inl rfl
  | m :: ns, n => by
    rw [List.foldl_cons]
    rcases foldl_max_mem ns (max n m) with h | h
    · rw [h]
      rcases Int.le_total n m with h' | h'
      · exact .inr (by rw [Int.max_eq_right h']; exact List.mem_cons_self)
      · exact .inl (Int.max_eq_left h')
    · exact .inr (List.mem_cons_of_mem _ h)
/-- two lists, each of whose numbers is at most one of the other: one greatest -/
theorem max_eq {a b : Int} {as bs : List Int} (h : ∀ x ∈ a :: as, ∃ y ∈ b :: bs, x ≤ y) (h' : ∀ x ∈ b :: bs, ∃ y ∈ a :: as, x ≤ y) : as.foldl max a = bs.foldl max b := by
  have ge : ∀ {a : Int} {as : List Int}, ∀ x ∈ a :: as, x ≤ as.foldl max a := fun {a as} x hx => by
    rcases List.mem_cons.mp hx with rfl | hx
    · exact (foldl_max_ge as x).1
    · exact (foldl_max_ge as a).2 x hx
  have mem : ∀ {a : Int} {as : List Int}, as.foldl max a ∈ a :: as := fun {a as} => by
    rcases foldl_max_mem as a with h | h
    · rw [h]; exact List.mem_cons_self
    · exact List.mem_cons_of_mem _ h
  obtain ⟨y, hy, h1⟩ := h _ mem
  obtain ⟨z, hz, h2⟩ := h' _ mem
  have := ge y hy
  have := ge z hz
  omega
theorem rep_one {n : Nat} {x : D} : (List.replicate n [x]).flatten = List.replicate n x := by
  induction n with
  | zero => rfl
  | succ n ih => rw [List.replicate_succ, List.flatten_cons, ih]; rfl
theorem iL_rep {n : Nat} {i : Int} : iL (List.replicate n i) = List.replicate n (.int i) := List.map_replicate
/-- (0,) * n -/
theorem mul_tup {k : Int} {x : D} (h : 0 ≤ k) (h2 : k ≤ 1000) : binD .Mult (.tuple [x]) (.int k) = some (.im (.tuple (List.replicate k.toNat x))) := by
  simp [binD, h, h2, rep_one]
theorem rangeI_len {lo : Int} {n : Nat} : (rangeI lo n).length = n := by
  induction n generalizing lo with
  | zero => rfl
  | succ n ih => simp [rangeI, ih]
theorem imOnly_nil {e : Sl} : imOnly e [] = true := rfl
theorem iL_of : ∀ {rs : List D}, (∀ r ∈ rs, ∃ i : Int, r = .int i) → ∃ ns : List Int, rs = iL ns
  | [], _ => ⟨[], rfl⟩
  | r :: rs, h => by
    obtain ⟨i, rfl⟩ := h r List.mem_cons_self
    obtain ⟨ns, rfl⟩ := iL_of fun r hr => h r (List.mem_cons_of_mem _ hr)
    exact ⟨i :: ns, rfl⟩
end Ev
end
section
set_option maxHeartbeats 4000000
/-! EvH: the laws' hand, a draw. -/
namespace Ev
open PySem
structure Hand where
  cells : List Int
  pos : Int
  big : Int
  seed : Int
  cnt : Int
def Hand.ds (h : Hand) : List D := [.list (iL h.cells), .int h.pos, .int h.big, .int h.seed, .int h.cnt]
def Hand.ok (h : Hand) : Prop := 0 ≤ h.pos ∧ 0 ≤ h.big
def draw0 (B C : Int) : MS := (ifS (andE [(op2 (cmpF .Eq) (op2 subD (varE 0) (immE (.int 2))) (immE (.int 0))), (op2 (cmpF .Lt) (op2 subD (varE 0) (immE (.int 1))) (bltE (bltD .len) [(op2 subD (varE 0) (immE (.int 0)))]))]) (seqS [(asgS (nameG [0] 3) (op2 subD (op2 subD (varE 0) (immE (.int 0))) (op2 subD (varE 0) (immE (.int 1))))), (setiS 0 setF (immE (.int 1)) (op2 (binD .Add) (op2 subD (varE 0) (immE (.int 1))) (immE (.int 1)))), (setiS 0 setF (immE (.int 3)) (op2 (binD .Mod) (bltE (bltD .int) [(op2 (binD .Add) (op2 (binD .Add) (op2 (binD .Mult) (op2 subD (varE 0) (immE (.int 3))) (immE (.int 69621))) (op2 (binD .Mult) (varE 3) (immE (.int B)))) (immE (.int C)))]) (immE (.int 2147483629)))), (ifS (op2 (cmpF .GtE) (varE 3) (op2 (binD .Pow) (immE (.int 10)) (immE (.int 18)))) (seqS [(setiS 0 setF (immE (.int 2)) (varE 3))]) (seqS []))]) (seqS []))
def draw1 : MS := (ifS (op2 (cmpF .Gt) (op2 subD (varE 0) (immE (.int 2))) (immE (.int 0))) (seqS [(asgS (nameG [0] 4) (op2 (binD .Mod) (bltE (bltD .int) [(op2 subD (varE 0) (immE (.int 2)))]) (varE 1))), (setiS 0 setF (immE (.int 2)) (op2 (binD .FloorDiv) (op2 subD (varE 0) (immE (.int 2))) (varE 1))), (retS (varE 4))]) (seqS []))
def draw2 : MS := (setiS 0 setF (immE (.int 4)) (op2 (binD .Add) (op2 subD (varE 0) (immE (.int 4))) (immE (.int 1))))
def draw3 (F : Int) : MS := (asgS (nameG [0] 2) (op2 (binD .Mod) (bltE (bltD .int) [(op2 (binD .Mult) (bltE (bltD .int) [(op2 (binD .Add) (op2 subD (varE 0) (immE (.int 3))) (op2 (binD .Mult) (immE (.int 7919)) (op2 subD (varE 0) (immE (.int 4)))))]) (immE (.int F)))]) (immE (.int 2147483647))))
def draw4 : MS := (asgS (nameG [0] 2) (op2 (binD .Mod) (bltE (bltD .int) [(op2 (binD .Mult) (varE 2) (op2 (binD .Add) (op2 (binD .FloorDiv) (varE 2) (immE (.int 1009))) (immE (.int 69621))))]) (immE (.int 2147483647))))
def draw5 : MS := (asgS (nameG [0] 2) (op2 (binD .Mod) (bltE (bltD .int) [(op2 (binD .Mult) (varE 2) (op2 (binD .Add) (op2 (binD .FloorDiv) (varE 2) (immE (.int 2003))) (immE (.int 40014))))]) (immE (.int 2147483563))))
def draw6 : MS := (retS (op2 (binD .Mod) (bltE (bltD .int) [(op2 (binD .FloorDiv) (varE 2) (immE (.int 16)))]) (varE 1)))
theorem small_mod {a m : Int} (hm : 0 < m) (h : m < 2 ^ 64) : small64 (a.fmod m) = true := by
  have h1 := Int.fmod_nonneg_of_pos a hm
  have h2 := Int.fmod_lt_of_pos a hm
  simp only [small64, Bool.and_eq_true, decide_eq_true_eq]
  omega
theorem ixD_0 {n : Nat} (h : 0 < n) : ixD n 0 = some 0 := by simp [ixD]; omega
theorem ixD_at {n : Nat} {i : Int} (h0 : 0 ≤ i) (h : i < n) : ixD n i = some i.toNat := by simp [ixD, h0, h]
def dw (a b c d f : D) (m : Int) (x y z : Option Sv) : Sl := [some (.ol [a, b, c, d, f]), some (.im (.int m)), x, y, z]
section
variable {a b c d f v : D} {m : Int} {x y z : Option Sv}
theorem dw_m : varE 1 (dw a b c d f m x y z) = .ok (.im (.int m)) (dw a b c d f m x y z) := rfl
theorem dw_0 : op2 subD (varE 0) (immE (.int 0)) (dw a b c d f m x y z) = .ok (.im a) (dw a b c d f m x y z) := rfl
theorem dw_1 : op2 subD (varE 0) (immE (.int 1)) (dw a b c d f m x y z) = .ok (.im b) (dw a b c d f m x y z) := rfl
theorem dw_2 : op2 subD (varE 0) (immE (.int 2)) (dw a b c d f m x y z) = .ok (.im c) (dw a b c d f m x y z) := rfl
theorem dw_3 : op2 subD (varE 0) (immE (.int 3)) (dw a b c d f m x y z) = .ok (.im d) (dw a b c d f m x y z) := rfl
theorem dw_4 : op2 subD (varE 0) (immE (.int 4)) (dw a b c d f m x y z) = .ok (.im f) (dw a b c d f m x y z) := rfl
theorem dw_n {n : D} : varE 2 (dw a b c d f m (some (.im n)) y z) = .ok (.im n) (dw a b c d f m (some (.im n)) y z) := rfl
theorem dw_c {n : D} : varE 3 (dw a b c d f m x (some (.im n)) z) = .ok (.im n) (dw a b c d f m x (some (.im n)) z) := rfl
theorem dw_d {n : D} : varE 4 (dw a b c d f m x y (some (.im n))) = .ok (.im n) (dw a b c d f m x y (some (.im n))) := rfl
theorem op2_ok {g : D → D → Option Op} {p q : ME} {e e1 e2 : Sl} {u w : D} (h1 : p e = .ok (.im u) e1) (h2 : q e1 = .ok (.im w) e2) : op2 g p q e = lift (g u w) e2 := by
  unfold op2
  rw [h1]
  simp only [Res.bind, h2, vw]
theorem op2_to {g : D → D → Option Op} {p q : ME} {e e1 e2 : Sl} {u w : D} {o : Op} (h1 : p e = .ok (.im u) e1) (h2 : q e1 = .ok (.im w) e2) (h3 : g u w = some o) : op2 g p q e = .ok o e2 := by
  rw [op2_ok h1 h2, h3] <;> rfl
theorem blt1_ok {g : List D → Option Op} {p : ME} {e e1 : Sl} {u : D} (h1 : p e = .ok (.im u) e1) : bltE g [p] e = lift (g [u]) e1 := by
  unfold bltE
  simp only [argsO, Res.bind, h1, vws, vw]
end
theorem blt1_to {g : List D → Option Op} {p : ME} {e e1 : Sl} {u : D} {o : Op} (h1 : p e = .ok (.im u) e1) (h3 : g [u] = some o) : bltE g [p] e = .ok o e1 := by
  rw [blt1_ok h1, h3] <;> rfl
theorem imm_ok {d : D} {e : Sl} : immE d e = .ok (.im d) e := rfl
theorem draw_tail {F : Int} (hF : small64 F = true) {a b d f : D} {m s n : Int} {x y z : Option Sv} (hm : 0 < m) (hm2 : m < 1073741824) :
    ∃ i t, (seqS [draw2, draw3 F, draw4, draw5, draw6]) (dw a b (.int 0) (.int s) (.int n) m x y z) = .rt (.im (.int i)) (dw a b (.int 0) (.int s) (.int (n + 1)) m t y z) ∧ 0 ≤ i ∧ i < m := by
  let n1 : Int := ((s + 7919 * (n + 1)) * F).fmod 2147483647
  let n2 : Int := (n1 * (n1.fdiv 1009 + 69621)).fmod 2147483647
  let n3 : Int := (n2 * (n2.fdiv 2003 + 40014)).fmod 2147483563
  have s1 : small64 n1 = true := small_mod (by decide) (by decide)
  have s2 : small64 n2 = true := small_mod (by decide) (by decide)
  refine ⟨(n3.fdiv 16).fmod m, some (.im (.int n3)), ?_, Int.fmod_nonneg_of_pos _ hm, Int.fmod_lt_of_pos _ hm⟩
  have e2 : draw2 (dw a b (.int 0) (.int s) (.int n) m x y z) = .nx (dw a b (.int 0) (.int s) (.int (n + 1)) m x y z) := rfl
  have e3 : draw3 F (dw a b (.int 0) (.int s) (.int (n + 1)) m x y z) = .nx (dw a b (.int 0) (.int s) (.int (n + 1)) m (some (.im (.int n1))) y z) := by
    have h1 : op2 (binD .Mult) (immE (.int 7919)) (op2 subD (varE 0) (immE (.int 4))) (dw a b (.int 0) (.int s) (.int (n + 1)) m x y z) = .ok (.im (.int (7919 * (n + 1)))) (dw a b (.int 0) (.int s) (.int (n + 1)) m x y z) := by
      rw [op2_ok imm_ok dw_4]
      simp [binD, small64, imI, lift]
    have h2 : op2 (binD .Mult) (bltE (bltD .int) [(op2 (binD .Add) (op2 subD (varE 0) (immE (.int 3))) (op2 (binD .Mult) (immE (.int 7919)) (op2 subD (varE 0) (immE (.int 4)))))]) (immE (.int F)) (dw a b (.int 0) (.int s) (.int (n + 1)) m x y z) = .ok (.im (.int ((s + 7919 * (n + 1)) * F))) (dw a b (.int 0) (.int s) (.int (n + 1)) m x y z) := by
      rw [op2_ok (blt1_to (op2_to dw_3 h1 rfl) rfl) imm_ok]
      simp [binD, hF, imI, lift]
    unfold draw3 asgS
    rw [op2_ok (blt1_to h2 rfl) imm_ok]
    rfl
  have e4 : draw4 (dw a b (.int 0) (.int s) (.int (n + 1)) m (some (.im (.int n1))) y z) = .nx (dw a b (.int 0) (.int s) (.int (n + 1)) m (some (.im (.int n2))) y z) := by
    have h1 : op2 (binD .FloorDiv) (varE 2) (immE (.int 1009)) (dw a b (.int 0) (.int s) (.int (n + 1)) m (some (.im (.int n1))) y z) = .ok (.im (.int (n1.fdiv 1009))) (dw a b (.int 0) (.int s) (.int (n + 1)) m (some (.im (.int n1))) y z) := rfl
    have h2 : op2 (binD .Mult) (varE 2) (op2 (binD .Add) (op2 (binD .FloorDiv) (varE 2) (immE (.int 1009))) (immE (.int 69621))) (dw a b (.int 0) (.int s) (.int (n + 1)) m (some (.im (.int n1))) y z) = .ok (.im (.int (n1 * (n1.fdiv 1009 + 69621)))) (dw a b (.int 0) (.int s) (.int (n + 1)) m (some (.im (.int n1))) y z) := by
      rw [op2_ok dw_n (op2_to h1 imm_ok rfl)]
      simp only [binD, s1, Bool.true_or, if_true, imI, lift]
    unfold draw4 asgS
    rw [op2_ok (blt1_to h2 rfl) imm_ok]
    rfl
  have e5 : draw5 (dw a b (.int 0) (.int s) (.int (n + 1)) m (some (.im (.int n2))) y z) = .nx (dw a b (.int 0) (.int s) (.int (n + 1)) m (some (.im (.int n3))) y z) := by
    have h1 : op2 (binD .FloorDiv) (varE 2) (immE (.int 2003)) (dw a b (.int 0) (.int s) (.int (n + 1)) m (some (.im (.int n2))) y z) = .ok (.im (.int (n2.fdiv 2003))) (dw a b (.int 0) (.int s) (.int (n + 1)) m (some (.im (.int n2))) y z) := rfl
    have h2 : op2 (binD .Mult) (varE 2) (op2 (binD .Add) (op2 (binD .FloorDiv) (varE 2) (immE (.int 2003))) (immE (.int 40014))) (dw a b (.int 0) (.int s) (.int (n + 1)) m (some (.im (.int n2))) y z) = .ok (.im (.int (n2 * (n2.fdiv 2003 + 40014)))) (dw a b (.int 0) (.int s) (.int (n + 1)) m (some (.im (.int n2))) y z) := by
      rw [op2_ok dw_n (op2_to h1 imm_ok rfl)]
      simp only [binD, s2, Bool.true_or, if_true, imI, lift]
    unfold draw5 asgS
    rw [op2_ok (blt1_to h2 rfl) imm_ok]
    rfl
  have e6 : draw6 (dw a b (.int 0) (.int s) (.int (n + 1)) m (some (.im (.int n3))) y z) = .rt (.im (.int ((n3.fdiv 16).fmod m))) (dw a b (.int 0) (.int s) (.int (n + 1)) m (some (.im (.int n3))) y z) := by
    have h1 : op2 (binD .FloorDiv) (varE 2) (immE (.int 16)) (dw a b (.int 0) (.int s) (.int (n + 1)) m (some (.im (.int n3))) y z) = .ok (.im (.int (n3.fdiv 16))) (dw a b (.int 0) (.int s) (.int (n + 1)) m (some (.im (.int n3))) y z) := rfl
    unfold draw6 retS
    rw [op2_ok (blt1_to h1 rfl) dw_m]
    have : m ≠ 0 := by omega
    simp [bltD, binD, imI, lift, this, Res.st]
  simp only [seqS, SR.bind, e2, e3, e4, e5, e6]
theorem draw1_big {a b d f : D} {m g : Int} {x y z : Option Sv} (hm : 0 < m) (hm2 : m < 1073741824) (hg : 0 < g) :
    draw1 (dw a b (.int g) d f m x y z) = .rt (.im (.int (g.fmod m))) (dw a b (.int (g.fdiv m)) d f m x y (some (.im (.int (g.fmod m))))) := by
  have m0 : m ≠ 0 := by omega
  have mn : m.natAbs < 1073741824 := by omega
  have ht : op2 (cmpF .Gt) (op2 subD (varE 0) (immE (.int 2))) (immE (.int 0)) (dw a b (.int g) d f m x y z) = .ok (.im (.bool true)) (dw a b (.int g) d f m x y z) := by
    rw [op2_ok dw_2 imm_ok]
    simp only [cmpF, cmpD, ltD_int, Option.bind, imB, lift, decide_eq_true hg]
  have h1 : op2 (binD .Mod) (bltE (bltD .int) [(op2 subD (varE 0) (immE (.int 2)))]) (varE 1) (dw a b (.int g) d f m x y z) = .ok (.im (.int (g.fmod m))) (dw a b (.int g) d f m x y z) := by
    rw [op2_ok (blt1_to dw_2 rfl) dw_m]
    simp [binD, imI, lift, m0]
  have a1 : asgS (nameG [0] 4) (op2 (binD .Mod) (bltE (bltD .int) [(op2 subD (varE 0) (immE (.int 2)))]) (varE 1)) (dw a b (.int g) d f m x y z) = .nx (dw a b (.int g) d f m x y (some (.im (.int (g.fmod m))))) := by
    unfold asgS
    rw [h1]
    rfl
  have h2 : op2 (binD .FloorDiv) (op2 subD (varE 0) (immE (.int 2))) (varE 1) (dw a b (.int g) d f m x y (some (.im (.int (g.fmod m))))) = .ok (.im (.int (g.fdiv m))) (dw a b (.int g) d f m x y (some (.im (.int (g.fmod m))))) := by
    rw [op2_ok dw_2 dw_m]
    simp [binD, imI, lift, m0, mn]
  have a2 : setiS 0 setF (immE (.int 2)) (op2 (binD .FloorDiv) (op2 subD (varE 0) (immE (.int 2))) (varE 1)) (dw a b (.int g) d f m x y (some (.im (.int (g.fmod m))))) = .nx (dw a b (.int (g.fdiv m)) d f m x y (some (.im (.int (g.fmod m))))) := by
    unfold setiS
    rw [h2]
    rfl
  unfold draw1 ifS
  rw [ht]
  simp only [Res.st, tru, seqS, SR.bind, a1, a2]
  rfl
theorem draw1_none {a b d f : D} {m : Int} {x y z : Option Sv} : draw1 (dw a b (.int 0) d f m x y z) = .nx (dw a b (.int 0) d f m x y z) := by
  have ht : op2 (cmpF .Gt) (op2 subD (varE 0) (immE (.int 2))) (immE (.int 0)) (dw a b (.int 0) d f m x y z) = .ok (.im (.bool false)) (dw a b (.int 0) d f m x y z) := by
    rw [op2_ok dw_2 imm_ok]
    simp [cmpF, cmpD, ltD_int, imB, lift]
  unfold draw1 ifS
  rw [ht]
  rfl
theorem draw0_ok {B C : Int} (hB : small64 B = true) {h : Hand} {m : Int} {x y z : Option Sv} (ok : h.ok) : ∃ (h' : Hand) (t : Option Sv), draw0 B C [some (.ol h.ds), some (.im (.int m)), x, y, z] = .nx [some (.ol h'.ds), some (.im (.int m)), x, t, z] ∧ h'.ok ∧ h'.cells = h.cells := by
  obtain ⟨cells, pos, big, seed, cnt⟩ := h
  obtain ⟨p0, b0⟩ := ok
  have p0 : 0 ≤ pos := p0
  have b0 : 0 ≤ big := b0
  show ∃ (h' : Hand) (t : Option Sv), draw0 B C (dw (.list (iL cells)) (.int pos) (.int big) (.int seed) (.int cnt) m x y z) = _ ∧ _
  have t1 : op2 (cmpF .Eq) (op2 subD (varE 0) (immE (.int 2))) (immE (.int 0)) (dw (.list (iL cells)) (.int pos) (.int big) (.int seed) (.int cnt) m x y z) = .ok (.im (.bool (decide (big = 0)))) (dw (.list (iL cells)) (.int pos) (.int big) (.int seed) (.int cnt) m x y z) := by
    rw [op2_ok dw_2 imm_ok]
    simp only [cmpF, cmpD, eqD_int, Option.bind, imB, lift]
  have t2 : op2 (cmpF .Lt) (op2 subD (varE 0) (immE (.int 1))) (bltE (bltD .len) [(op2 subD (varE 0) (immE (.int 0)))]) (dw (.list (iL cells)) (.int pos) (.int big) (.int seed) (.int cnt) m x y z) = .ok (.im (.bool (decide (pos < cells.length)))) (dw (.list (iL cells)) (.int pos) (.int big) (.int seed) (.int cnt) m x y z) := by
    have h1 : bltE (bltD .len) [(op2 subD (varE 0) (immE (.int 0)))] (dw (.list (iL cells)) (.int pos) (.int big) (.int seed) (.int cnt) m x y z) = .ok (.im (.int cells.length)) (dw (.list (iL cells)) (.int pos) (.int big) (.int seed) (.int cnt) m x y z) := by
      rw [blt1_ok dw_0]
      simp only [bltD, imI, lift, iL_len]
    rw [op2_ok dw_1 h1]
    simp only [cmpF, cmpD, ltD_int, Option.bind, imB, lift]
  by_cases hb : big = 0
  · by_cases hp : pos < cells.length
    · subst hb
      have hi : pos.toNat < cells.length := by omega
      let cell := cells[pos.toNat]
      have hc : cells[pos.toNat]? = some cell := List.getElem?_eq_getElem hi
      have g3 : op2 subD (op2 subD (varE 0) (immE (.int 0))) (op2 subD (varE 0) (immE (.int 1))) (dw (.list (iL cells)) (.int pos) (.int 0) (.int seed) (.int cnt) m x y z) = .ok (.im (.int cell)) (dw (.list (iL cells)) (.int pos) (.int 0) (.int seed) (.int cnt) m x y z) := by
        rw [op2_ok dw_0 dw_1]
        simp only [subD, ixD_at p0 (show pos < ((iL cells).length : Int) by rw [iL_len]; exact hp), iL_get, hc, Option.map, lift]
      have a1 : asgS (nameG [0] 3) (op2 subD (op2 subD (varE 0) (immE (.int 0))) (op2 subD (varE 0) (immE (.int 1)))) (dw (.list (iL cells)) (.int pos) (.int 0) (.int seed) (.int cnt) m x y z) = .nx (dw (.list (iL cells)) (.int pos) (.int 0) (.int seed) (.int cnt) m x (some (.im (.int cell))) z) := by
        unfold asgS
        rw [g3]
        rfl
      have a2 : setiS 0 setF (immE (.int 1)) (op2 (binD .Add) (op2 subD (varE 0) (immE (.int 1))) (immE (.int 1))) (dw (.list (iL cells)) (.int pos) (.int 0) (.int seed) (.int cnt) m x (some (.im (.int cell))) z) = .nx (dw (.list (iL cells)) (.int (pos + 1)) (.int 0) (.int seed) (.int cnt) m x (some (.im (.int cell))) z) := rfl
      let s2 : Int := (seed * 69621 + cell * B + C).fmod 2147483629
      have g4 : op2 (binD .Mod) (bltE (bltD .int) [(op2 (binD .Add) (op2 (binD .Add) (op2 (binD .Mult) (op2 subD (varE 0) (immE (.int 3))) (immE (.int 69621))) (op2 (binD .Mult) (varE 3) (immE (.int B)))) (immE (.int C)))]) (immE (.int 2147483629)) (dw (.list (iL cells)) (.int (pos + 1)) (.int 0) (.int seed) (.int cnt) m x (some (.im (.int cell))) z) = .ok (.im (.int s2)) (dw (.list (iL cells)) (.int (pos + 1)) (.int 0) (.int seed) (.int cnt) m x (some (.im (.int cell))) z) := by
        have m1 : op2 (binD .Mult) (op2 subD (varE 0) (immE (.int 3))) (immE (.int 69621)) (dw (.list (iL cells)) (.int (pos + 1)) (.int 0) (.int seed) (.int cnt) m x (some (.im (.int cell))) z) = .ok (.im (.int (seed * 69621))) (dw (.list (iL cells)) (.int (pos + 1)) (.int 0) (.int seed) (.int cnt) m x (some (.im (.int cell))) z) := by
          rw [op2_ok dw_3 imm_ok]
          simp [binD, small64, imI, lift]
        have m2 : op2 (binD .Mult) (varE 3) (immE (.int B)) (dw (.list (iL cells)) (.int (pos + 1)) (.int 0) (.int seed) (.int cnt) m x (some (.im (.int cell))) z) = .ok (.im (.int (cell * B))) (dw (.list (iL cells)) (.int (pos + 1)) (.int 0) (.int seed) (.int cnt) m x (some (.im (.int cell))) z) := by
          rw [op2_ok dw_c imm_ok]
          simp [binD, hB, imI, lift]
        rw [op2_ok (blt1_to (op2_to (op2_to m1 m2 rfl) imm_ok rfl) rfl) imm_ok]
        rfl
      have a3 : setiS 0 setF (immE (.int 3)) (op2 (binD .Mod) (bltE (bltD .int) [(op2 (binD .Add) (op2 (binD .Add) (op2 (binD .Mult) (op2 subD (varE 0) (immE (.int 3))) (immE (.int 69621))) (op2 (binD .Mult) (varE 3) (immE (.int B)))) (immE (.int C)))]) (immE (.int 2147483629))) (dw (.list (iL cells)) (.int (pos + 1)) (.int 0) (.int seed) (.int cnt) m x (some (.im (.int cell))) z) = .nx (dw (.list (iL cells)) (.int (pos + 1)) (.int 0) (.int s2) (.int cnt) m x (some (.im (.int cell))) z) := by
        unfold setiS
        rw [g4]
        rfl
      have g5 : op2 (cmpF .GtE) (varE 3) (op2 (binD .Pow) (immE (.int 10)) (immE (.int 18))) (dw (.list (iL cells)) (.int (pos + 1)) (.int 0) (.int s2) (.int cnt) m x (some (.im (.int cell))) z) = .ok (.im (.bool (decide (10 ^ 18 ≤ cell)))) (dw (.list (iL cells)) (.int (pos + 1)) (.int 0) (.int s2) (.int cnt) m x (some (.im (.int cell))) z) := by
        have p1 : op2 (binD .Pow) (immE (.int 10)) (immE (.int 18)) (dw (.list (iL cells)) (.int (pos + 1)) (.int 0) (.int s2) (.int cnt) m x (some (.im (.int cell))) z) = .ok (.im (.int (10 ^ 18))) (dw (.list (iL cells)) (.int (pos + 1)) (.int 0) (.int s2) (.int cnt) m x (some (.im (.int cell))) z) := by
          rw [op2_ok imm_ok imm_ok]
          simp [binD, imI, lift]
        rw [op2_ok dw_c p1]
        simp only [cmpF, cmpD, leD_int, Option.bind, imB, lift]
      have front : draw0 B C (dw (.list (iL cells)) (.int pos) (.int 0) (.int seed) (.int cnt) m x y z) = ifS (op2 (cmpF .GtE) (varE 3) (op2 (binD .Pow) (immE (.int 10)) (immE (.int 18)))) (seqS [(setiS 0 setF (immE (.int 2)) (varE 3))]) (seqS []) (dw (.list (iL cells)) (.int (pos + 1)) (.int 0) (.int s2) (.int cnt) m x (some (.im (.int cell))) z) := by
        have tt : andE [(op2 (cmpF .Eq) (op2 subD (varE 0) (immE (.int 2))) (immE (.int 0))), (op2 (cmpF .Lt) (op2 subD (varE 0) (immE (.int 1))) (bltE (bltD .len) [(op2 subD (varE 0) (immE (.int 0)))]))] (dw (.list (iL cells)) (.int pos) (.int 0) (.int seed) (.int cnt) m x y z) = .ok (.im (.bool true)) (dw (.list (iL cells)) (.int pos) (.int 0) (.int seed) (.int cnt) m x y z) := by
          simp only [andE, t1, t2, Res.bind, tru, decide_true, decide_eq_true hp]
        unfold draw0
        rw [ifS_true tt, seqS_nx a1, seqS_nx a2, seqS_nx a3, seqS_one]
      by_cases hbig : (10 : Int) ^ 18 ≤ cell
      · refine ⟨⟨cells, pos + 1, cell, s2, cnt⟩, some (.im (.int cell)), ?_, ⟨by show 0 ≤ pos + 1; omega, by show 0 ≤ cell; omega⟩, rfl⟩
        rw [front]
        unfold ifS
        rw [g5, decide_eq_true hbig]
        rfl
      · refine ⟨⟨cells, pos + 1, 0, s2, cnt⟩, some (.im (.int cell)), ?_, ⟨by show 0 ≤ pos + 1; omega, by show (0 : Int) ≤ 0; omega⟩, rfl⟩
        rw [front]
        unfold ifS
        rw [g5, decide_eq_false hbig]
        rfl
    · refine ⟨⟨cells, pos, big, seed, cnt⟩, y, ?_, ⟨p0, b0⟩, rfl⟩
      unfold draw0 ifS
      simp only [andE, t1, t2, Res.bind, tru, decide_eq_true hb, decide_eq_false hp, Res.st]
      rfl
  · refine ⟨⟨cells, pos, big, seed, cnt⟩, y, ?_, ⟨p0, b0⟩, rfl⟩
    unfold draw0 ifS
    simp only [andE, t1, Res.bind, tru, decide_eq_false hb, Res.st]
    rfl
/-- a draw: a number below m -/
theorem draw_ok {B C F : Int} (hB : small64 B = true) (hF : small64 F = true) {h : Hand} {m : Int} (ok : h.ok) (hm : 0 < m) (hm2 : m < 1073741824) :
    ∃ (h' : Hand) (i : Int), endF [true, false] (seqS [draw0 B C, draw1, draw2, draw3 F, draw4, draw5, draw6] [some (.ol h.ds), some (.im (.int m)), none, none, none]) = .ok (.im (.int i)) [some (.ol h'.ds), none] ∧ 0 ≤ i ∧ i < m ∧ h'.ok := by
  obtain ⟨h1, t, e0, ok1, _⟩ := draw0_ok (C := C) hB (m := m) (x := none) (y := none) (z := none) ok
  obtain ⟨cells, pos, big, seed, cnt⟩ := h1
  obtain ⟨p1, b1⟩ := ok1
  have b1 : 0 ≤ big := b1
  have e0' : draw0 B C [some (.ol h.ds), some (.im (.int m)), none, none, none] = .nx (dw (.list (iL cells)) (.int pos) (.int big) (.int seed) (.int cnt) m none t none) := e0
  by_cases hb : big = 0
  · subst hb
    obtain ⟨i, u, e2, i0, i1⟩ := draw_tail hF (a := .list (iL cells)) (b := .int pos) (d := .none) (f := .none) (s := seed) (n := cnt) (x := none) (y := t) (z := none) hm hm2
    refine ⟨⟨cells, pos, 0, seed, cnt + 1⟩, i, ?_, i0, i1, p1, b1⟩
    have e1 : (draw1 (dw (.list (iL cells)) (.int pos) (.int 0) (.int seed) (.int cnt) m none t none)).bind (seqS [draw2, draw3 F, draw4, draw5, draw6]) = .rt (.im (.int i)) (dw (.list (iL cells)) (.int pos) (.int 0) (.int seed) (.int (cnt + 1)) m u t none) := by
      rw [draw1_none]
      exact e2
    have e3 : seqS [draw0 B C, draw1, draw2, draw3 F, draw4, draw5, draw6] [some (.ol h.ds), some (.im (.int m)), none, none, none] = .rt (.im (.int i)) (dw (.list (iL cells)) (.int pos) (.int 0) (.int seed) (.int (cnt + 1)) m u t none) := by
      show (draw0 B C _).bind (fun e => (draw1 e).bind (seqS [draw2, draw3 F, draw4, draw5, draw6])) = _
      rw [e0']
      exact e1
    rw [e3]
    rfl
  · have hg : 0 < big := by omega
    refine ⟨⟨cells, pos, big.fdiv m, seed, cnt⟩, big.fmod m, ?_, Int.fmod_nonneg_of_pos _ hm, Int.fmod_lt_of_pos _ hm, p1, Int.fdiv_nonneg b1 (by omega)⟩
    have e3 : seqS [draw0 B C, draw1, draw2, draw3 F, draw4, draw5, draw6] [some (.ol h.ds), some (.im (.int m)), none, none, none] = .rt (.im (.int (big.fmod m))) (dw (.list (iL cells)) (.int pos) (.int (big.fdiv m)) (.int seed) (.int cnt) m none t (some (.im (.int (big.fmod m))))) := by
      show (draw0 B C _).bind (fun e => (draw1 e).bind (seqS [draw2, draw3 F, draw4, draw5, draw6])) = _
      rw [e0']
      show (draw1 _).bind _ = _
      rw [draw1_big hm hm2 hg]
      rfl
    rw [e3]
    rfl
end Ev
end
section
set_option maxHeartbeats 4000000
/-! EvH2: a draw of other laws' hands. -/
namespace Ev
open PySem
def drew0 : MS := (ifS (andE [(op2 (cmpF .Eq) (op2 subD (varE 0) (immE (.int 2))) (immE (.int 0))), (op2 (cmpF .Lt) (op2 subD (varE 0) (immE (.int 1))) (bltE (bltD .len) [(op2 subD (varE 0) (immE (.int 0)))]))]) (seqS [(asgS (nameG [0] 3) (op2 subD (op2 subD (varE 0) (immE (.int 0))) (op2 subD (varE 0) (immE (.int 1))))), (setiS 0 setF (immE (.int 1)) (op2 (binD .Add) (op2 subD (varE 0) (immE (.int 1))) (immE (.int 1)))), (setiS 0 setF (immE (.int 3)) (op2 (binD .Mod) (bltE (bltD .int) [(op2 (binD .Add) (op2 (binD .Add) (op2 (binD .Mult) (op2 subD (varE 0) (immE (.int 3))) (immE (.int 48271))) (varE 3)) (immE (.int 31)))]) (immE (.int 2147483647)))), (ifS (op2 (cmpF .GtE) (varE 3) (op2 (binD .Pow) (immE (.int 10)) (immE (.int 18)))) (seqS [(setiS 0 setF (immE (.int 2)) (varE 3))]) (seqS []))]) (seqS []))
def drew1 : MS := (ifS (op2 (cmpF .Gt) (op2 subD (varE 0) (immE (.int 2))) (immE (.int 0))) (seqS [(asgS (nameG [0] 4) (op2 (binD .Mod) (bltE (bltD .int) [(op2 subD (varE 0) (immE (.int 2)))]) (varE 1))), (setiS 0 setF (immE (.int 2)) (op2 (binD .FloorDiv) (op2 subD (varE 0) (immE (.int 2))) (varE 1))), (retS (varE 4))]) (seqS []))
def drew2 : MS := (setiS 0 setF (immE (.int 4)) (op2 (binD .Add) (op2 subD (varE 0) (immE (.int 4))) (immE (.int 1))))
def drew3 : MS := (asgS (nameG [0] 2) (op2 (binD .Mod) (bltE (bltD .int) [(op2 (binD .Mult) (bltE (bltD .int) [(op2 (binD .Add) (op2 subD (varE 0) (immE (.int 3))) (op2 (binD .Mult) (immE (.int 6151)) (op2 subD (varE 0) (immE (.int 4)))))]) (immE (.int 40692)))]) (immE (.int 2147483399))))
def drew4 : MS := (asgS (nameG [0] 2) (op2 (binD .Mod) (bltE (bltD .int) [(op2 (binD .Mult) (varE 2) (op2 (binD .Add) (op2 (binD .FloorDiv) (varE 2) (immE (.int 1223))) (immE (.int 52027))))]) (immE (.int 2147483629))))
def drew5 : MS := (asgS (nameG [0] 2) (op2 (binD .Mod) (bltE (bltD .int) [(op2 (binD .Mult) (varE 2) (op2 (binD .Add) (op2 (binD .FloorDiv) (varE 2) (immE (.int 2671))) (immE (.int 69621))))]) (immE (.int 2147483647))))
def drew6 : MS := (retS (op2 (binD .Mod) (bltE (bltD .int) [(op2 (binD .FloorDiv) (varE 2) (immE (.int 32)))]) (varE 1)))
theorem drew_tail {a b d f : D} {m s n : Int} {x y z : Option Sv} (hm : 0 < m) (hm2 : m < 1073741824) :
    ∃ i t, (seqS [drew2, drew3, drew4, drew5, drew6]) (dw a b (.int 0) (.int s) (.int n) m x y z) = .rt (.im (.int i)) (dw a b (.int 0) (.int s) (.int (n + 1)) m t y z) ∧ 0 ≤ i ∧ i < m := by
  let n1 : Int := ((s + 6151 * (n + 1)) * 40692).fmod 2147483399
  let n2 : Int := (n1 * (n1.fdiv 1223 + 52027)).fmod 2147483629
  let n3 : Int := (n2 * (n2.fdiv 2671 + 69621)).fmod 2147483647
  have s1 : small64 n1 = true := small_mod (by decide) (by decide)
  have s2 : small64 n2 = true := small_mod (by decide) (by decide)
  refine ⟨(n3.fdiv 32).fmod m, some (.im (.int n3)), ?_, Int.fmod_nonneg_of_pos _ hm, Int.fmod_lt_of_pos _ hm⟩
  have e2 : drew2 (dw a b (.int 0) (.int s) (.int n) m x y z) = .nx (dw a b (.int 0) (.int s) (.int (n + 1)) m x y z) := rfl
  have e3 : drew3 (dw a b (.int 0) (.int s) (.int (n + 1)) m x y z) = .nx (dw a b (.int 0) (.int s) (.int (n + 1)) m (some (.im (.int n1))) y z) := by
    have h1 : op2 (binD .Mult) (immE (.int 6151)) (op2 subD (varE 0) (immE (.int 4))) (dw a b (.int 0) (.int s) (.int (n + 1)) m x y z) = .ok (.im (.int (6151 * (n + 1)))) (dw a b (.int 0) (.int s) (.int (n + 1)) m x y z) := by
      rw [op2_ok imm_ok dw_4]
      simp [binD, small64, imI, lift]
    have h2 : op2 (binD .Mult) (bltE (bltD .int) [(op2 (binD .Add) (op2 subD (varE 0) (immE (.int 3))) (op2 (binD .Mult) (immE (.int 6151)) (op2 subD (varE 0) (immE (.int 4)))))]) (immE (.int 40692)) (dw a b (.int 0) (.int s) (.int (n + 1)) m x y z) = .ok (.im (.int ((s + 6151 * (n + 1)) * 40692))) (dw a b (.int 0) (.int s) (.int (n + 1)) m x y z) := by
      rw [op2_ok (blt1_to (op2_to dw_3 h1 rfl) rfl) imm_ok]
      simp [binD, small64, imI, lift]
    unfold drew3 asgS
    rw [op2_ok (blt1_to h2 rfl) imm_ok]
    rfl
  have e4 : drew4 (dw a b (.int 0) (.int s) (.int (n + 1)) m (some (.im (.int n1))) y z) = .nx (dw a b (.int 0) (.int s) (.int (n + 1)) m (some (.im (.int n2))) y z) := by
    have h1 : op2 (binD .FloorDiv) (varE 2) (immE (.int 1223)) (dw a b (.int 0) (.int s) (.int (n + 1)) m (some (.im (.int n1))) y z) = .ok (.im (.int (n1.fdiv 1223))) (dw a b (.int 0) (.int s) (.int (n + 1)) m (some (.im (.int n1))) y z) := rfl
    have h2 : op2 (binD .Mult) (varE 2) (op2 (binD .Add) (op2 (binD .FloorDiv) (varE 2) (immE (.int 1223))) (immE (.int 52027))) (dw a b (.int 0) (.int s) (.int (n + 1)) m (some (.im (.int n1))) y z) = .ok (.im (.int (n1 * (n1.fdiv 1223 + 52027)))) (dw a b (.int 0) (.int s) (.int (n + 1)) m (some (.im (.int n1))) y z) := by
      rw [op2_ok dw_n (op2_to h1 imm_ok rfl)]
      simp only [binD, s1, Bool.true_or, if_true, imI, lift]
    unfold drew4 asgS
    rw [op2_ok (blt1_to h2 rfl) imm_ok]
    rfl
  have e5 : drew5 (dw a b (.int 0) (.int s) (.int (n + 1)) m (some (.im (.int n2))) y z) = .nx (dw a b (.int 0) (.int s) (.int (n + 1)) m (some (.im (.int n3))) y z) := by
    have h1 : op2 (binD .FloorDiv) (varE 2) (immE (.int 2671)) (dw a b (.int 0) (.int s) (.int (n + 1)) m (some (.im (.int n2))) y z) = .ok (.im (.int (n2.fdiv 2671))) (dw a b (.int 0) (.int s) (.int (n + 1)) m (some (.im (.int n2))) y z) := rfl
    have h2 : op2 (binD .Mult) (varE 2) (op2 (binD .Add) (op2 (binD .FloorDiv) (varE 2) (immE (.int 2671))) (immE (.int 69621))) (dw a b (.int 0) (.int s) (.int (n + 1)) m (some (.im (.int n2))) y z) = .ok (.im (.int (n2 * (n2.fdiv 2671 + 69621)))) (dw a b (.int 0) (.int s) (.int (n + 1)) m (some (.im (.int n2))) y z) := by
      rw [op2_ok dw_n (op2_to h1 imm_ok rfl)]
      simp only [binD, s2, Bool.true_or, if_true, imI, lift]
    unfold drew5 asgS
    rw [op2_ok (blt1_to h2 rfl) imm_ok]
    rfl
  have e6 : drew6 (dw a b (.int 0) (.int s) (.int (n + 1)) m (some (.im (.int n3))) y z) = .rt (.im (.int ((n3.fdiv 32).fmod m))) (dw a b (.int 0) (.int s) (.int (n + 1)) m (some (.im (.int n3))) y z) := by
    have h1 : op2 (binD .FloorDiv) (varE 2) (immE (.int 32)) (dw a b (.int 0) (.int s) (.int (n + 1)) m (some (.im (.int n3))) y z) = .ok (.im (.int (n3.fdiv 32))) (dw a b (.int 0) (.int s) (.int (n + 1)) m (some (.im (.int n3))) y z) := rfl
    unfold drew6 retS
    rw [op2_ok (blt1_to h1 rfl) dw_m]
    have : m ≠ 0 := by omega
    simp [bltD, binD, imI, lift, this, Res.st]
  simp only [seqS, SR.bind, e2, e3, e4, e5, e6]
theorem drew1_big {a b d f : D} {m g : Int} {x y z : Option Sv} (hm : 0 < m) (hm2 : m < 1073741824) (hg : 0 < g) :
    drew1 (dw a b (.int g) d f m x y z) = .rt (.im (.int (g.fmod m))) (dw a b (.int (g.fdiv m)) d f m x y (some (.im (.int (g.fmod m))))) := by
  have m0 : m ≠ 0 := by omega
  have mn : m.natAbs < 1073741824 := by omega
  have ht : op2 (cmpF .Gt) (op2 subD (varE 0) (immE (.int 2))) (immE (.int 0)) (dw a b (.int g) d f m x y z) = .ok (.im (.bool true)) (dw a b (.int g) d f m x y z) := by
    rw [op2_ok dw_2 imm_ok]
    simp only [cmpF, cmpD, ltD_int, Option.bind, imB, lift, decide_eq_true hg]
  have h1 : op2 (binD .Mod) (bltE (bltD .int) [(op2 subD (varE 0) (immE (.int 2)))]) (varE 1) (dw a b (.int g) d f m x y z) = .ok (.im (.int (g.fmod m))) (dw a b (.int g) d f m x y z) := by
    rw [op2_ok (blt1_to dw_2 rfl) dw_m]
    simp [binD, imI, lift, m0]
  have a1 : asgS (nameG [0] 4) (op2 (binD .Mod) (bltE (bltD .int) [(op2 subD (varE 0) (immE (.int 2)))]) (varE 1)) (dw a b (.int g) d f m x y z) = .nx (dw a b (.int g) d f m x y (some (.im (.int (g.fmod m))))) := by
    unfold asgS
    rw [h1]
    rfl
  have h2 : op2 (binD .FloorDiv) (op2 subD (varE 0) (immE (.int 2))) (varE 1) (dw a b (.int g) d f m x y (some (.im (.int (g.fmod m))))) = .ok (.im (.int (g.fdiv m))) (dw a b (.int g) d f m x y (some (.im (.int (g.fmod m))))) := by
    rw [op2_ok dw_2 dw_m]
    simp [binD, imI, lift, m0, mn]
  have a2 : setiS 0 setF (immE (.int 2)) (op2 (binD .FloorDiv) (op2 subD (varE 0) (immE (.int 2))) (varE 1)) (dw a b (.int g) d f m x y (some (.im (.int (g.fmod m))))) = .nx (dw a b (.int (g.fdiv m)) d f m x y (some (.im (.int (g.fmod m))))) := by
    unfold setiS
    rw [h2]
    rfl
  unfold drew1 ifS
  rw [ht]
  simp only [Res.st, tru, seqS, SR.bind, a1, a2]
  rfl
theorem drew1_none {a b d f : D} {m : Int} {x y z : Option Sv} : drew1 (dw a b (.int 0) d f m x y z) = .nx (dw a b (.int 0) d f m x y z) := by
  have ht : op2 (cmpF .Gt) (op2 subD (varE 0) (immE (.int 2))) (immE (.int 0)) (dw a b (.int 0) d f m x y z) = .ok (.im (.bool false)) (dw a b (.int 0) d f m x y z) := by
    rw [op2_ok dw_2 imm_ok]
    simp [cmpF, cmpD, ltD_int, imB, lift]
  unfold drew1 ifS
  rw [ht]
  rfl
theorem drew0_ok {h : Hand} {m : Int} {x y z : Option Sv} (ok : h.ok) : ∃ (h' : Hand) (t : Option Sv), drew0 [some (.ol h.ds), some (.im (.int m)), x, y, z] = .nx [some (.ol h'.ds), some (.im (.int m)), x, t, z] ∧ h'.ok ∧ h'.cells = h.cells := by
  obtain ⟨cells, pos, big, seed, cnt⟩ := h
  obtain ⟨p0, b0⟩ := ok
  have p0 : 0 ≤ pos := p0
  have b0 : 0 ≤ big := b0
  show ∃ (h' : Hand) (t : Option Sv), drew0 (dw (.list (iL cells)) (.int pos) (.int big) (.int seed) (.int cnt) m x y z) = _ ∧ _
  have t1 : op2 (cmpF .Eq) (op2 subD (varE 0) (immE (.int 2))) (immE (.int 0)) (dw (.list (iL cells)) (.int pos) (.int big) (.int seed) (.int cnt) m x y z) = .ok (.im (.bool (decide (big = 0)))) (dw (.list (iL cells)) (.int pos) (.int big) (.int seed) (.int cnt) m x y z) := by
    rw [op2_ok dw_2 imm_ok]
    simp only [cmpF, cmpD, eqD_int, Option.bind, imB, lift]
  have t2 : op2 (cmpF .Lt) (op2 subD (varE 0) (immE (.int 1))) (bltE (bltD .len) [(op2 subD (varE 0) (immE (.int 0)))]) (dw (.list (iL cells)) (.int pos) (.int big) (.int seed) (.int cnt) m x y z) = .ok (.im (.bool (decide (pos < cells.length)))) (dw (.list (iL cells)) (.int pos) (.int big) (.int seed) (.int cnt) m x y z) := by
    have h1 : bltE (bltD .len) [(op2 subD (varE 0) (immE (.int 0)))] (dw (.list (iL cells)) (.int pos) (.int big) (.int seed) (.int cnt) m x y z) = .ok (.im (.int cells.length)) (dw (.list (iL cells)) (.int pos) (.int big) (.int seed) (.int cnt) m x y z) := by
      rw [blt1_ok dw_0]
      simp only [bltD, imI, lift, iL_len]
    rw [op2_ok dw_1 h1]
    simp only [cmpF, cmpD, ltD_int, Option.bind, imB, lift]
  by_cases hb : big = 0
  · by_cases hp : pos < cells.length
    · subst hb
      have hi : pos.toNat < cells.length := by omega
      let cell := cells[pos.toNat]
      have hc : cells[pos.toNat]? = some cell := List.getElem?_eq_getElem hi
      have g3 : op2 subD (op2 subD (varE 0) (immE (.int 0))) (op2 subD (varE 0) (immE (.int 1))) (dw (.list (iL cells)) (.int pos) (.int 0) (.int seed) (.int cnt) m x y z) = .ok (.im (.int cell)) (dw (.list (iL cells)) (.int pos) (.int 0) (.int seed) (.int cnt) m x y z) := by
        rw [op2_ok dw_0 dw_1]
        simp only [subD, ixD_at p0 (show pos < ((iL cells).length : Int) by rw [iL_len]; exact hp), iL_get, hc, Option.map, lift]
      have a1 : asgS (nameG [0] 3) (op2 subD (op2 subD (varE 0) (immE (.int 0))) (op2 subD (varE 0) (immE (.int 1)))) (dw (.list (iL cells)) (.int pos) (.int 0) (.int seed) (.int cnt) m x y z) = .nx (dw (.list (iL cells)) (.int pos) (.int 0) (.int seed) (.int cnt) m x (some (.im (.int cell))) z) := by
        unfold asgS
        rw [g3]
        rfl
      have a2 : setiS 0 setF (immE (.int 1)) (op2 (binD .Add) (op2 subD (varE 0) (immE (.int 1))) (immE (.int 1))) (dw (.list (iL cells)) (.int pos) (.int 0) (.int seed) (.int cnt) m x (some (.im (.int cell))) z) = .nx (dw (.list (iL cells)) (.int (pos + 1)) (.int 0) (.int seed) (.int cnt) m x (some (.im (.int cell))) z) := rfl
      let s2 : Int := (seed * 48271 + cell + 31).fmod 2147483647
      have g4 : op2 (binD .Mod) (bltE (bltD .int) [(op2 (binD .Add) (op2 (binD .Add) (op2 (binD .Mult) (op2 subD (varE 0) (immE (.int 3))) (immE (.int 48271))) (varE 3)) (immE (.int 31)))]) (immE (.int 2147483647)) (dw (.list (iL cells)) (.int (pos + 1)) (.int 0) (.int seed) (.int cnt) m x (some (.im (.int cell))) z) = .ok (.im (.int s2)) (dw (.list (iL cells)) (.int (pos + 1)) (.int 0) (.int seed) (.int cnt) m x (some (.im (.int cell))) z) := by
        have m1 : op2 (binD .Mult) (op2 subD (varE 0) (immE (.int 3))) (immE (.int 48271)) (dw (.list (iL cells)) (.int (pos + 1)) (.int 0) (.int seed) (.int cnt) m x (some (.im (.int cell))) z) = .ok (.im (.int (seed * 48271))) (dw (.list (iL cells)) (.int (pos + 1)) (.int 0) (.int seed) (.int cnt) m x (some (.im (.int cell))) z) := by
          rw [op2_ok dw_3 imm_ok]
          simp [binD, small64, imI, lift]
        rw [op2_ok (blt1_to (op2_to (op2_to m1 dw_c rfl) imm_ok rfl) rfl) imm_ok]
        rfl
      have a3 : setiS 0 setF (immE (.int 3)) (op2 (binD .Mod) (bltE (bltD .int) [(op2 (binD .Add) (op2 (binD .Add) (op2 (binD .Mult) (op2 subD (varE 0) (immE (.int 3))) (immE (.int 48271))) (varE 3)) (immE (.int 31)))]) (immE (.int 2147483647))) (dw (.list (iL cells)) (.int (pos + 1)) (.int 0) (.int seed) (.int cnt) m x (some (.im (.int cell))) z) = .nx (dw (.list (iL cells)) (.int (pos + 1)) (.int 0) (.int s2) (.int cnt) m x (some (.im (.int cell))) z) := by
        unfold setiS
        rw [g4]
        rfl
      have g5 : op2 (cmpF .GtE) (varE 3) (op2 (binD .Pow) (immE (.int 10)) (immE (.int 18))) (dw (.list (iL cells)) (.int (pos + 1)) (.int 0) (.int s2) (.int cnt) m x (some (.im (.int cell))) z) = .ok (.im (.bool (decide (10 ^ 18 ≤ cell)))) (dw (.list (iL cells)) (.int (pos + 1)) (.int 0) (.int s2) (.int cnt) m x (some (.im (.int cell))) z) := by
        have p1 : op2 (binD .Pow) (immE (.int 10)) (immE (.int 18)) (dw (.list (iL cells)) (.int (pos + 1)) (.int 0) (.int s2) (.int cnt) m x (some (.im (.int cell))) z) = .ok (.im (.int (10 ^ 18))) (dw (.list (iL cells)) (.int (pos + 1)) (.int 0) (.int s2) (.int cnt) m x (some (.im (.int cell))) z) := by
          rw [op2_ok imm_ok imm_ok]
          simp [binD, imI, lift]
        rw [op2_ok dw_c p1]
        simp only [cmpF, cmpD, leD_int, Option.bind, imB, lift]
      have front : drew0 (dw (.list (iL cells)) (.int pos) (.int 0) (.int seed) (.int cnt) m x y z) = ifS (op2 (cmpF .GtE) (varE 3) (op2 (binD .Pow) (immE (.int 10)) (immE (.int 18)))) (seqS [(setiS 0 setF (immE (.int 2)) (varE 3))]) (seqS []) (dw (.list (iL cells)) (.int (pos + 1)) (.int 0) (.int s2) (.int cnt) m x (some (.im (.int cell))) z) := by
        have tt : andE [(op2 (cmpF .Eq) (op2 subD (varE 0) (immE (.int 2))) (immE (.int 0))), (op2 (cmpF .Lt) (op2 subD (varE 0) (immE (.int 1))) (bltE (bltD .len) [(op2 subD (varE 0) (immE (.int 0)))]))] (dw (.list (iL cells)) (.int pos) (.int 0) (.int seed) (.int cnt) m x y z) = .ok (.im (.bool true)) (dw (.list (iL cells)) (.int pos) (.int 0) (.int seed) (.int cnt) m x y z) := by
          simp only [andE, t1, t2, Res.bind, tru, decide_true, decide_eq_true hp]
        unfold drew0
        rw [ifS_true tt, seqS_nx a1, seqS_nx a2, seqS_nx a3, seqS_one]
      by_cases hbig : (10 : Int) ^ 18 ≤ cell
      · refine ⟨⟨cells, pos + 1, cell, s2, cnt⟩, some (.im (.int cell)), ?_, ⟨by show 0 ≤ pos + 1; omega, by show 0 ≤ cell; omega⟩, rfl⟩
        rw [front]
        unfold ifS
        rw [g5, decide_eq_true hbig]
        rfl
      · refine ⟨⟨cells, pos + 1, 0, s2, cnt⟩, some (.im (.int cell)), ?_, ⟨by show 0 ≤ pos + 1; omega, by show (0 : Int) ≤ 0; omega⟩, rfl⟩
        rw [front]
        unfold ifS
        rw [g5, decide_eq_false hbig]
        rfl
    · refine ⟨⟨cells, pos, big, seed, cnt⟩, y, ?_, ⟨p0, b0⟩, rfl⟩
      unfold drew0 ifS
      simp only [andE, t1, t2, Res.bind, tru, decide_eq_true hb, decide_eq_false hp, Res.st]
      rfl
  · refine ⟨⟨cells, pos, big, seed, cnt⟩, y, ?_, ⟨p0, b0⟩, rfl⟩
    unfold drew0 ifS
    simp only [andE, t1, Res.bind, tru, decide_eq_false hb, Res.st]
    rfl
/-- a drew: a number below m -/
theorem drew_ok {h : Hand} {m : Int} (ok : h.ok) (hm : 0 < m) (hm2 : m < 1073741824) :
    ∃ (h' : Hand) (i : Int), endF [true, false] (seqS [drew0, drew1, drew2, drew3, drew4, drew5, drew6] [some (.ol h.ds), some (.im (.int m)), none, none, none]) = .ok (.im (.int i)) [some (.ol h'.ds), none] ∧ 0 ≤ i ∧ i < m ∧ h'.ok := by
  obtain ⟨h1, t, e0, ok1, _⟩ := drew0_ok (m := m) (x := none) (y := none) (z := none) ok
  obtain ⟨cells, pos, big, seed, cnt⟩ := h1
  obtain ⟨p1, b1⟩ := ok1
  have b1 : 0 ≤ big := b1
  have e0' : drew0 [some (.ol h.ds), some (.im (.int m)), none, none, none] = .nx (dw (.list (iL cells)) (.int pos) (.int big) (.int seed) (.int cnt) m none t none) := e0
  by_cases hb : big = 0
  · subst hb
    obtain ⟨i, u, e2, i0, i1⟩ := drew_tail (a := .list (iL cells)) (b := .int pos) (d := .none) (f := .none) (s := seed) (n := cnt) (x := none) (y := t) (z := none) hm hm2
    refine ⟨⟨cells, pos, 0, seed, cnt + 1⟩, i, ?_, i0, i1, p1, b1⟩
    have e1 : (drew1 (dw (.list (iL cells)) (.int pos) (.int 0) (.int seed) (.int cnt) m none t none)).bind (seqS [drew2, drew3, drew4, drew5, drew6]) = .rt (.im (.int i)) (dw (.list (iL cells)) (.int pos) (.int 0) (.int seed) (.int (cnt + 1)) m u t none) := by
      rw [drew1_none]
      exact e2
    have e3 : seqS [drew0, drew1, drew2, drew3, drew4, drew5, drew6] [some (.ol h.ds), some (.im (.int m)), none, none, none] = .rt (.im (.int i)) (dw (.list (iL cells)) (.int pos) (.int 0) (.int seed) (.int (cnt + 1)) m u t none) := by
      show (drew0 _).bind (fun e => (drew1 e).bind (seqS [drew2, drew3, drew4, drew5, drew6])) = _
      rw [e0']
      exact e1
    rw [e3]
    rfl
  · have hg : 0 < big := by omega
    refine ⟨⟨cells, pos, big.fdiv m, seed, cnt⟩, big.fmod m, ?_, Int.fmod_nonneg_of_pos _ hm, Int.fmod_lt_of_pos _ hm, p1, Int.fdiv_nonneg b1 (by omega)⟩
    have e3 : seqS [drew0, drew1, drew2, drew3, drew4, drew5, drew6] [some (.ol h.ds), some (.im (.int m)), none, none, none] = .rt (.im (.int (big.fmod m))) (dw (.list (iL cells)) (.int pos) (.int (big.fdiv m)) (.int seed) (.int cnt) m none t (some (.im (.int (big.fmod m))))) := by
      show (drew0 _).bind (fun e => (drew1 e).bind (seqS [drew2, drew3, drew4, drew5, drew6])) = _
      rw [e0']
      show (drew1 _).bind _ = _
      rw [drew1_big hm hm2 hg]
      rfl
    rw [e3]
    rfl
end Ev
end
section
set_option maxHeartbeats 1000000
/-! TyA: values with a type, how they stand among plain values; what is equal, what is less. -/
namespace Ev
open PySem
/-! ### encoders -/
abbrev eI : Int → D := PyData.int
abbrev eB : Bool → D := PyData.bool
abbrev eS : Str → D := PyData.str
def eN : Unit → D := fun _ => .none
def eD : D → D := fun d => d
def eT {α : Type} (f : α → D) : List α → D := fun xs => .tuple (xs.map f)
def eL {α : Type} (f : α → D) : List α → D := fun xs => .list (xs.map f)
def h0 : Unit → List D := fun _ => []
def h1 {α : Type} (f : α → D) : α → List D := fun a => [f a]
def hC {α β : Type} (f : α → D) (r : β → List D) : α × β → List D := fun p => f p.1 :: r p.2
def eU {α : Type} (h : α → List D) : α → D := fun a => .tuple (h a)
def eO {α : Type} (f : α → D) : Option α → D
  | none => .none
  | some a => f a
/-! ### less -/
class Lx (α : Type) where
  lx : α → α → Bool
abbrev lx {α : Type} [Lx α] (a b : α) : Bool := Lx.lx a b
instance : Lx Int := ⟨fun a b => decide (a < b)⟩
instance : Lx Bool := ⟨fun a b => !a && b⟩
instance : Lx Str := ⟨fun a b => decide (a.cps.toList < b.cps.toList)⟩
def lxP {α β : Type} [DecidableEq α] [Lx α] [Lx β] (p q : α × β) : Bool := if p.1 = q.1 then lx p.2 q.2 else lx p.1 q.1
instance {α β : Type} [DecidableEq α] [Lx α] [Lx β] : Lx (α × β) := ⟨lxP⟩
def lxL {α : Type} [DecidableEq α] [Lx α] : List α → List α → Bool
  | [], [] => false
  | [], _ :: _ => true
  | _ :: _, [] => false
  | a :: as, b :: bs => if a = b then lxL as bs else lx a b
instance {α : Type} [DecidableEq α] [Lx α] : Lx (List α) := ⟨lxL⟩
theorem lx_int {a b : Int} : lx a b = decide (a < b) := rfl
theorem lx_pair {α β : Type} [DecidableEq α] [Lx α] [Lx β] {p q : α × β} : lx p q = if p.1 = q.1 then lx p.2 q.2 else lx p.1 q.1 := rfl
theorem lx_cons {α : Type} [DecidableEq α] [Lx α] {a b : α} {as bs : List α} : lx (a :: as) (b :: bs) = if a = b then lx as bs else lx a b := rfl
/-! ### equal -/
class EqE {α : Type} [DecidableEq α] (f : α → D) (n : outParam Nat) : Prop where
  shp : ∀ a, shpN n (f a) = true
  eqv : ∀ a b, PyData.eqv (f a) (f b) = decide (a = b)
class EqH {α : Type} [DecidableEq α] (f : α → List D) (n : outParam Nat) : Prop where
  shp : ∀ a, shpNs n (f a) = true
  eqv : ∀ a b, PyData.eqvAll (f a) (f b) = decide (a = b)
theorem shpN_le {n m : Nat} {d : D} (h : shpN n d = true) (l : n ≤ m) : shpN m d = true := by
  simp only [shpN, Bool.and_eq_true, decide_eq_true_eq] at h ⊢
  exact ⟨h.1, by omega⟩
theorem shpNs_le {n m : Nat} {d : List D} (h : shpNs n d = true) (l : n ≤ m) : shpNs m d = true := by
  simp only [shpNs, Bool.and_eq_true, decide_eq_true_eq] at h ⊢
  exact ⟨h.1, by omega⟩
instance : EqE eI 0 := ⟨fun a => shpN_int, fun a b => by simp [eI, PyData.eqv]; by_cases h : a = b <;> simp [h]⟩
instance : EqE eB 0 := ⟨fun a => shpN_bool, fun a b => by simp [eB, PyData.eqv]; cases a <;> cases b <;> rfl⟩
instance : EqE eS 0 := ⟨fun a => shpN_str, fun a b => by simp [eS, PyData.eqv]; by_cases h : a = b <;> simp [h]⟩
instance : EqE eN 0 := ⟨fun a => shpN_none, fun a b => by simp [eN, PyData.eqv]⟩
instance : EqH h0 0 := ⟨fun a => shpNs_nil, fun a b => by simp [h0, PyData.eqvAll]⟩
instance {α : Type} [DecidableEq α] {f : α → D} {n : Nat} [EqE f n] : EqH (h1 f) n := ⟨fun a => by rw [h1, shpNs_cons, EqE.shp a, shpNs_nil]; rfl, fun a b => by rw [h1, h1, PySem.W.eqv_all_cons, EqE.eqv a b]; simp [PyData.eqvAll]⟩
instance {α β : Type} [DecidableEq α] [DecidableEq β] {f : α → D} {g : β → List D} {n m : Nat} [EqE f n] [EqH g m] : EqH (hC f g) (max n m) := ⟨fun a => by
  rw [hC, shpNs_cons, shpN_le (EqE.shp a.1) (Nat.le_max_left n m), shpNs_le (EqH.shp a.2) (Nat.le_max_right n m)]; rfl, fun a b => by
  rw [hC, hC, PySem.W.eqv_all_cons, EqE.eqv a.1 b.1, EqH.eqv a.2 b.2]
  obtain ⟨a1, a2⟩ := a
  obtain ⟨b1, b2⟩ := b
  simp only [Prod.mk.injEq]
  by_cases h : a1 = b1 <;> by_cases h' : a2 = b2 <;> simp [h, h']⟩
instance {α : Type} [DecidableEq α] {f : α → List D} {n : Nat} [EqH f n] : EqE (eU f) (n + 1) := ⟨fun a => by rw [eU, shpN_tuple, EqH.shp a], fun a b => by
  rw [eU, eU, PyData.eqv, EqH.eqv a b]⟩
theorem shpNs_map {α : Type} [DecidableEq α] {f : α → D} {n : Nat} [EqE f n] : ∀ (xs : List α), shpNs n (xs.map f) = true
  | [] => shpNs_nil
  | x :: xs => by rw [List.map_cons, shpNs_cons, EqE.shp x, shpNs_map xs]; rfl
theorem eqv_map {α : Type} [DecidableEq α] {f : α → D} {n : Nat} [EqE f n] : ∀ (xs ys : List α), PyData.eqvAll (xs.map f) (ys.map f) = decide (xs = ys)
  | [], [] => by simp [PyData.eqvAll]
  | [], _ :: _ => by simp [PyData.eqvAll]
  | _ :: _, [] => by simp [PyData.eqvAll]
  | x :: xs, y :: ys => by
    rw [List.map_cons, List.map_cons, PySem.W.eqv_all_cons, EqE.eqv x y, eqv_map xs ys]
    by_cases h : x = y <;> by_cases h' : xs = ys <;> simp [h, h']
instance {α : Type} [DecidableEq α] {f : α → D} {n : Nat} [EqE f n] : EqE (eT f) (n + 1) := ⟨fun a => by rw [eT, shpN_tuple, shpNs_map a], fun a b => by
  rw [eT, eT, PyData.eqv, eqv_map a b]⟩
instance {α : Type} [DecidableEq α] {f : α → D} {n : Nat} [EqE f n] : EqE (eL f) (n + 1) := ⟨fun a => by rw [eL, shpN_list, shpNs_map a], fun a b => by
  rw [eL, eL, PyData.eqv, eqv_map a b]⟩
class LtE {α : Type} [Lx α] (f : α → D) : Prop where
  alike : ∀ a b, PySem.W.alike (f a) (f b) = true
  nn : ∀ a, isNone (f a) = false
  lt : ∀ a b, PySem.W.dataLt (f a) (f b) = lx a b
class LtH {α : Type} [Lx α] (f : α → List D) : Prop where
  alike : ∀ a b, PySem.W.alikeAll (f a) (f b) = true
  lt : ∀ a b, PyProof.Rows.lexLt PyProof.Rows.itemOrd (PySem.W.keyToksAll (f a)) (PySem.W.keyToksAll (f b)) = lx a b
instance : LtE eI := ⟨fun a b => by simp [PySem.W.alike], fun a => rfl, fun a b => PySem.W.dataLt_int a b⟩
instance : LtE eB := ⟨fun a b => by simp [PySem.W.alike], fun a => rfl, fun a b => by rw [PySem.W.dataLt_bool]; cases a <;> cases b <;> rfl⟩
instance : LtE eS := ⟨fun a b => by simp [PySem.W.alike], fun a => rfl, fun a b => PySem.W.dataLt_str a b⟩
theorem lexNil : PyProof.Rows.lexLt PyProof.Rows.itemOrd (PySem.W.keyToksAll []) (PySem.W.keyToksAll []) = false := by simp [PySem.W.keyToksAll, PyProof.Rows.lexLt, PyProof.Rows.itemLt]
instance {α : Type} [DecidableEq α] [Lx α] {f : α → D} {n : Nat} [EqE f n] [LtE f] : LtH (h1 f) := ⟨fun a b => by rw [h1, h1, PySem.W.alikeAll, LtE.alike a b]; simp [PySem.W.alikeAll], fun a b => by
  rw [h1, h1, PySem.W.dataLt_cons (LtE.alike a b), EqE.eqv a b, LtE.lt a b, lexNil]
  by_cases h : a = b
  · subst h
    have := LtE.lt (f := f) a a
    rw [PySem.W.dataLt_self] at this
    simp [this]
  · simp [h]⟩
instance {α β : Type} [DecidableEq α] [Lx α] [Lx β] {f : α → D} {g : β → List D} {n : Nat} [EqE f n] [LtE f] [LtH g] : LtH (hC f g) := ⟨fun a b => by
  rw [hC, hC, PySem.W.alikeAll, LtE.alike a.1 b.1, LtH.alike a.2 b.2]; rfl, fun a b => by
  rw [hC, hC, PySem.W.dataLt_cons (LtE.alike a.1 b.1), EqE.eqv a.1 b.1, LtE.lt a.1 b.1, LtH.lt a.2 b.2, lx_pair]
  simp only [decide_eq_true_eq]⟩
instance {α : Type} [Lx α] {f : α → List D} [LtH f] : LtE (eU f) := ⟨fun a b => by rw [eU, eU, PySem.W.alike, LtH.alike a b], fun a => rfl, fun a b => by
  rw [eU, eU, PySem.W.dataLt_tuple, LtH.lt a b]⟩
theorem alike_map {α : Type} [Lx α] {f : α → D} [LtE f] : ∀ (xs ys : List α), PySem.W.alikeAll (xs.map f) (ys.map f) = true
  | [], _ => by simp [PySem.W.alikeAll]
  | _ :: _, [] => by simp [PySem.W.alikeAll]
  | x :: xs, y :: ys => by rw [List.map_cons, List.map_cons, PySem.W.alikeAll, LtE.alike x y, alike_map xs ys]; rfl
theorem lt_map {α : Type} [DecidableEq α] [Lx α] {f : α → D} {n : Nat} [EqE f n] [LtE f] : ∀ (xs ys : List α), PyProof.Rows.lexLt PyProof.Rows.itemOrd (PySem.W.keyToksAll (xs.map f)) (PySem.W.keyToksAll (ys.map f)) = lx xs ys
  | [], [] => by rw [List.map_nil, lexNil]; rfl
  | [], y :: ys => by rw [List.map_nil, List.map_cons, PySem.W.toks_all_cons, PySem.W.keyToksAll]; rfl
  | x :: xs, [] => by rw [List.map_nil, List.map_cons, PySem.W.toks_all_cons, PySem.W.keyToksAll]; rfl
  | x :: xs, y :: ys => by
    rw [List.map_cons, List.map_cons, PySem.W.dataLt_cons (LtE.alike x y), EqE.eqv x y, LtE.lt x y, lt_map xs ys, lx_cons]
    simp only [decide_eq_true_eq]
instance {α : Type} [DecidableEq α] [Lx α] {f : α → D} {n : Nat} [EqE f n] [LtE f] : LtE (eT f) := ⟨fun a b => by rw [eT, eT, PySem.W.alike, alike_map a b], fun a => rfl, fun a b => by
  rw [eT, eT, PySem.W.dataLt_tuple, lt_map a b]⟩
instance {α : Type} [DecidableEq α] [Lx α] {f : α → D} {n : Nat} [EqE f n] [LtE f] : LtE (eL f) := ⟨fun a b => by rw [eL, eL, PySem.W.alike, alike_map a b], fun a => rfl, fun a b => by
  rw [eL, eL, PySem.W.dataLt_list, lt_map a b]⟩
/-- None or another, told apart -/
class NnE {α : Type} (f : α → D) : Prop where
  nn : ∀ a, PyData.eqv (f a) .none = false ∧ PyData.eqv .none (f a) = false
instance : NnE eI := ⟨fun a => by simp [PyData.eqv]⟩
instance : NnE eB := ⟨fun a => by simp [PyData.eqv]⟩
instance : NnE eS := ⟨fun a => by simp [PyData.eqv]⟩
instance {α : Type} {f : α → List D} : NnE (eU f) := ⟨fun a => by simp [eU, PyData.eqv]⟩
instance {α : Type} {f : α → D} : NnE (eT f) := ⟨fun a => by simp [eT, PyData.eqv]⟩
instance {α : Type} {f : α → D} : NnE (eL f) := ⟨fun a => by simp [eL, PyData.eqv]⟩
instance {α : Type} [DecidableEq α] {f : α → D} {n : Nat} [EqE f n] [NnE f] : EqE (eO f) n := ⟨fun a => by
  cases a with
  | none => exact shpN_none
  | some a => exact EqE.shp a, fun a b => by
  cases a with
  | none => cases b with
    | none => simp [eO, PyData.eqv]
    | some b => simp [eO, (NnE.nn (f := f) b).2]
  | some a => cases b with
    | none => simp [eO, (NnE.nn (f := f) a).1]
    | some b => simp [eO, EqE.eqv (f := f) a b]⟩
/-! what the comparisons say -/
section
variable {α : Type} [DecidableEq α] {f : α → D} {n : Nat} [EqE f n]
theorem shp_of (hn : n ≤ 60) (a : α) : shp (f a) = true := shpN_le (EqE.shp a) hn
theorem eqD_E (hn : n ≤ 60) (a b : α) : eqD (f a) (f b) = some (decide (a = b)) := by
  unfold eqD
  rw [shp_of hn a, shp_of hn b, EqE.eqv a b]; rfl
theorem ltD_E [Lx α] [LtE f] (hn : n ≤ 60) (a b : α) : ltD (f a) (f b) = some (lx a b) := by
  unfold ltD
  rw [shp_of hn a, shp_of hn b, LtE.alike a b, LtE.nn a, LtE.lt a b]; rfl
theorem leD_E [Lx α] [LtE f] (hn : n ≤ 60) (a b : α) : leD (f a) (f b) = some (!lx b a) := by
  unfold leD
  rw [shp_of hn a, shp_of hn b, LtE.alike a b, LtE.nn a, LtE.lt b a]; rfl
omit [EqE f n] in
theorem any_eqv [EqE f n] (x : α) : ∀ (xs : List α), ((xs.map f).any fun z => PyData.eqv z (f x)) = decide (x ∈ xs)
  | [] => by simp
  | y :: xs => by
    rw [List.map_cons, List.any_cons, any_eqv x xs, EqE.eqv y x]
    by_cases h : y = x
    · subst h; simp
    · simp [h, Ne.symm h]
theorem shps_E (hn : n ≤ 60) (xs : List α) : shps (xs.map f) = true := shpNs_le (shpNs_map xs) hn
theorem inD_T (hn : n ≤ 59) (x : α) (xs : List α) : inD (f x) (.tuple (xs.map f)) = some (decide (x ∈ xs)) := by
  unfold inD
  rw [shp_of (by omega) x]
  have : shp (.tuple (xs.map f)) = true := by rw [shp_N, shpN_tuple]; exact shpNs_le (shpNs_map xs) hn
  simp only [this, any_eqv]; rfl
theorem inD_L (hn : n ≤ 59) (x : α) (xs : List α) : inD (f x) (.list (xs.map f)) = some (decide (x ∈ xs)) := by
  unfold inD
  rw [shp_of (by omega) x]
  have : shp (.list (xs.map f)) = true := by rw [shp_N, shpN_list]; exact shpNs_le (shpNs_map xs) hn
  simp only [this, any_eqv]; rfl
theorem alikeB_E [Lx α] [LtE f] (xs : List α) : alikeB (xs.map f) = true := by
  unfold alikeB
  rw [Bool.and_eq_true_iff]
  refine ⟨List.all_eq_true.mpr fun x hx => List.all_eq_true.mpr fun y hy => ?_, List.all_eq_true.mpr fun x hx => ?_⟩
  · obtain ⟨i, _, rfl⟩ := List.mem_map.mp hx
    obtain ⟨j, _, rfl⟩ := List.mem_map.mp hy
    exact LtE.alike i j
  · obtain ⟨i, _, rfl⟩ := List.mem_map.mp hx
    rw [LtE.nn i]; rfl
/-- the least, the first of alike ones -/
def minF [Lx α] (x : α) (xs : List α) : α := xs.foldl (fun a y => if lx y a then y else a) x
def maxF [Lx α] (x : α) (xs : List α) : α := xs.foldl (fun a y => if lx a y then y else a) x
theorem minD_E [Lx α] [LtE f] : ∀ (xs : List α) (x : α), PySem.W.minD (f x) (xs.map f) = f (minF x xs)
  | [], x => rfl
  | y :: xs, x => by
    have := minD_E xs (if lx y x then y else x)
    unfold PySem.W.minD minF at this ⊢
    rw [List.map_cons, List.foldl_cons, List.foldl_cons, ← this, LtE.lt y x]
    cases lx y x <;> rfl
theorem maxD_E [Lx α] [LtE f] : ∀ (xs : List α) (x : α), PySem.W.maxD (f x) (xs.map f) = f (maxF x xs)
  | [], x => rfl
  | y :: xs, x => by
    have := maxD_E xs (if lx x y then y else x)
    unfold PySem.W.maxD maxF at this ⊢
    rw [List.map_cons, List.foldl_cons, List.foldl_cons, ← this, LtE.lt x y]
    cases lx x y <;> rfl
theorem sort_E [Lx α] [LtE f] (xs : List α) : (xs.map f).mergeSort leB = (xs.mergeSort fun a b => !lx b a).map f := by
  rw [List.map_mergeSort]
  intro a ha b hb
  unfold leB
  rw [LtE.lt b a]
end
end Ev
end
section
set_option maxHeartbeats 1000000
/-! TyB: plain functions with types (O), and that an expression of the evaluator says what such a function says. -/
namespace Ev
open PySem
inductive O (α : Type) where
  | ok (a : α) | ex (x : Exc) | un
namespace O
variable {α β γ : Type}
def bind (o : O α) (f : α → O β) : O β := match o with
  | .ok a => f a
  | .ex x => .ex x
  | .un => .un
@[simp] theorem bind_ok {a : α} {f : α → O β} : (O.ok a).bind f = f a := Eq.trans rfl rfl
@[simp] theorem bind_ex {x : Exc} {f : α → O β} : (O.ex x).bind f = .ex x := rfl
@[simp] theorem bind_un {f : α → O β} : (O.un).bind f = .un := rfl
theorem bind_assoc {o : O α} {f : α → O β} {g : β → O γ} : (o.bind f).bind g = o.bind fun a => (f a).bind g := by cases o <;> rfl
/-- nothing may be raised -/
def noe : O α → O α
  | .ok a => .ok a
  | _ => .un
@[simp] theorem noe_ok {a : α} : (O.ok a).noe = .ok a := Eq.trans rfl rfl
def guard (p : Prop) [Decidable p] (o : O α) : O α := if p then o else .un
theorem guard_pos {p : Prop} [Decidable p] {o : O α} (h : p) : guard p o = o := if_pos h
end O
variable {α β γ δ σ τ ρ : Type}
/-! ### what partial operations are -/
def szO (xs : List α) : O (List α) := if xs.length ≤ sizeMax then .ok xs else .un
def catO (xs ys : List α) : O (List α) := if xs.length + ys.length ≤ sizeMax then .ok (xs ++ ys) else .un
def idxO (xs : List α) (i : Int) : O α := match ixD xs.length i with
  | some j => (match xs[j]? with | some a => .ok a | none => .un)
  | none => .un
def setO (xs : List α) (i : Int) (v : α) : O (List α) := match ixD xs.length i with
  | some j => .ok (xs.set j v)
  | none => .un
def popO (xs : List α) (i : Int) : O (α × List α) := if -(2 ^ 62) ≤ i ∧ i < 2 ^ 62 then (match ixD xs.length i with
  | some j => (match xs[j]? with | some a => .ok (a, xs.eraseIdx j) | none => .un)
  | none => .un) else .un
def minO [Lx α] : List α → O α
  | [] => .un
  | x :: xs => .ok (minF x xs)
def maxO [Lx α] : List α → O α
  | [] => .un
  | x :: xs => .ok (maxF x xs)
def sortO [Lx α] (xs : List α) : O (List α) := if xs.length ≤ sizeMax then .ok (xs.mergeSort fun a b => !lx b a) else .un
def mulO (i j : Int) : O Int := if small64 i || small64 j then .ok (i * j) else .un
def divO (i j : Int) : O Int := if j ≠ 0 ∧ j.natAbs < 1073741824 then .ok (i.fdiv j) else .un
def modO (i j : Int) : O Int := if j ≠ 0 then .ok (i.fmod j) else .un
def powO (i j : Int) : O Int := if 0 ≤ j ∧ j ≤ 1000000 ∧ i.natAbs < 2 ^ 64 then .ok (i ^ j.toNat) else .un
def repO (xs : List α) (k : Int) : O (List α) := if 0 ≤ k ∧ k ≤ 1000 ∧ xs.length ≤ 1000 then .ok (List.replicate k.toNat xs).flatten else .un
def rng (a b : Int) : List Int := (List.range (b - a).toNat).map fun (i : Nat) => a + i
def rng1O (n : Int) : O (List Int) := if rngB n then .ok (rng 0 n) else .un
def rng2O (a b : Int) : O (List Int) := if rngB a && rngB b then .ok (rng a b) else .un
def rngLO (a b : Int) : O (List Int) := if rngOk a b then .ok (rng a b) else .un
def enm : Int → List α → List (Int × α)
  | _, [] => []
  | i, x :: xs => (i, x) :: enm (i + 1) xs
def cutT (xs : List α) (lo hi : Option Int) : List α := (xs.drop (cutI xs.length 0 lo)).take (cutI xs.length xs.length hi - cutI xs.length 0 lo)
def absI (i : Int) : Int := if i < 0 then -i else i
def max2 (i j : Int) : Int := if j > i then j else i
def min2 (i j : Int) : Int := if j < i then j else i
def max3 (i j k : Int) : Int := if j > i then (if k > j then k else j) else (if k > i then k else i)
def idxO' [DecidableEq α] (xs : List α) (x : α) : O Int := if xs.length ≤ sizeMax then (match xs.findIdx? fun y => decide (y = x) with | some j => .ok (j : Int) | none => .un) else .un
def mapO (g : α → O β) : List α → O (List β)
  | [] => .ok []
  | x :: xs => (g x).noe.bind fun y => (mapO g xs).bind fun ys => .ok (y :: ys)
def compO (p : α → O Bool) (g : α → O β) : List α → O (List β)
  | [] => .ok []
  | x :: xs => (p x).noe.bind fun c => match c with
    | true => (g x).noe.bind fun y => (compO p g xs).bind fun ys => .ok (y :: ys)
    | false => compO p g xs
/-! ### judgements -/
inductive R0 (enc : α → Op) (e' : Sl) : O α → Res Op → Prop
  | iok {v : α} {r : Res Op} (h : r = .ok (enc v) e') : R0 enc e' (.ok v) r
  | iex {x : Exc} {r : Res Op} (h : ∃ e1, r = .er x e1) : R0 enc e' (.ex x) r
  | iun {r : Res Op} : R0 enc e' .un r
theorem R0.gok {enc : α → Op} {e' : Sl} {v : α} {r : Res Op} (h : R0 enc e' (.ok v) r) : r = .ok (enc v) e' := by cases h; assumption
theorem R0.gex {enc : α → Op} {e' : Sl} {x : Exc} {r : Res Op} (h : R0 enc e' (.ex x) r) : ∃ e1, r = .er x e1 := by cases h; assumption
abbrev iI : Int → Op := fun v => .im (eI v)
abbrev iB : Bool → Op := fun v => .im (eB v)
abbrev im' (f : α → D) : α → Op := fun v => .im (f v)
abbrev tl' (f : α → D) : List α → Op := fun v => .tl (v.map f)
theorem R0.bnd {ea : α → Op} {eb : β → Op} {e1 e2 : Sl} {oa : O α} {ob : α → O β} {ra : Res Op} {F : Op → Sl → Res Op}
    (ha : R0 ea e1 oa ra) (hb : ∀ x, R0 eb e2 (ob x) (F (ea x) e1)) : R0 eb e2 (oa.bind ob) (ra.bind F) := by
  cases oa with
  | ok x =>
    have ha : ra = .ok (ea x) e1 := ha.gok
    subst ha
    exact hb x
  | ex x =>
    obtain ⟨e', h⟩ := ha.gex
    subst h
    exact .iex ⟨e', rfl⟩
  | un => exact .iun
/-! leaves -/
/-! operations -/
def op2fin (f : D → D → Option Op) (x y : Op) (e : Sl) : Res Op := match vw x e, vw y e with
  | some p, some q => lift (f p q) e
  | _, _ => .bad
/-- of unchanging values: F says it of the values -/
def F2 (fa : α → D) (fb : β → D) (ec : γ → Op) (f : D → D → Option Op) (o : α → β → O γ) : Prop := ∀ x y, match o x y with
  | .ok v => f (fa x) (fb y) = some (ec v)
  | .ex _ => False
  | .un => True
theorem F2.fin {fa : α → D} {fb : β → D} {ec : γ → Op} {f : D → D → Option Op} {o : α → β → O γ} (h : F2 fa fb ec f o) {e : Sl} {p q : Op} (x : α) (y : β) (hp : vw p e = some (fa x)) (hq : vw q e = some (fb y)) : R0 ec e (o x y) (op2fin f p q e) := by
  have := h x y
  unfold op2fin
  rw [hp, hq]
  cases ho : o x y with
  | ok v => rw [ho] at this; simp only [this]; exact .iok rfl
  | ex _ => rw [ho] at this; exact this.elim
  | un => exact .iun
section
variable {f : α → D} {n m : Nat}
theorem F2.add : F2 eI eI iI (binD .Add) fun x y => .ok (x + y) := fun _ _ => rfl
theorem F2.sub : F2 eI eI iI (binD .Sub) fun x y => .ok (x - y) := fun _ _ => rfl
theorem F2.augadd : F2 eI eI iI (augD .Add) fun x y => .ok (x + y) := fun _ _ => rfl
theorem F2.augsub : F2 eI eI iI (augD .Sub) fun x y => .ok (x - y) := fun _ _ => rfl
theorem F2.mul : F2 eI eI iI (binD .Mult) mulO := fun x y => by
  unfold mulO
  split <;> rename_i h
  · split at h <;> rename_i g
    · cases h; simp only [binD, g, if_true]; rfl
    · cases h
  · split at h <;> cases h
  · trivial
theorem F2.div : F2 eI eI iI (binD .FloorDiv) divO := fun x y => by
  unfold divO
  split <;> rename_i h
  · split at h <;> rename_i g
    · cases h
      have : (decide (y ≠ 0) && decide (y.natAbs < 1073741824)) = true := by simpa using g
      simp only [binD, this, if_true]; rfl
    · cases h
  · split at h <;> cases h
  · trivial
theorem F2.mod : F2 eI eI iI (binD .Mod) modO := fun x y => by
  unfold modO
  split <;> rename_i h
  · split at h <;> rename_i g
    · cases h
      have : decide (y ≠ 0) = true := by simpa using g
      simp only [binD, this, if_true]; rfl
    · cases h
  · split at h <;> cases h
  · trivial
theorem F2.pow : F2 eI eI iI (binD .Pow) powO := fun x y => by
  unfold powO
  split <;> rename_i h
  · split at h <;> rename_i g
    · cases h
      have : (decide (0 ≤ y) && decide (y ≤ 1000000) && decide (x.natAbs < 2 ^ 64)) = true := by simp only [Bool.and_eq_true, decide_eq_true_eq]; exact ⟨⟨g.1, g.2.1⟩, g.2.2⟩
      simp only [binD, this, if_true]; rfl
    · cases h
  · split at h <;> cases h
  · trivial
theorem F2.catT : F2 (eT f) (eT f) (im' (eT f)) (binD .Add) catO := fun x y => by
  unfold catO
  split <;> rename_i h
  · split at h <;> rename_i g
    · cases h
      have : (x.map f).length + (y.map f).length ≤ sizeMax := by simpa using g
      simp only [eT, binD, this, if_true, im', List.map_append]
    · cases h
  · split at h <;> cases h
  · trivial
theorem F2.catL : F2 (eL f) (eL f) (tl' f) (binD .Add) catO := fun x y => by
  unfold catO
  split <;> rename_i h
  · split at h <;> rename_i g
    · cases h
      have : (x.map f).length + (y.map f).length ≤ sizeMax := by simpa using g
      simp only [eL, binD, this, if_true, tl', List.map_append]
    · cases h
  · split at h <;> cases h
  · trivial
theorem map_rep {xs : List α} : ∀ {k : Nat}, (List.replicate k (xs.map f)).flatten = ((List.replicate k xs).flatten).map f
  | 0 => rfl
  | k + 1 => by rw [List.replicate_succ, List.replicate_succ, List.flatten_cons, List.flatten_cons, List.map_append, map_rep]
theorem F2.repT : F2 (eT f) eI (im' (eT f)) (binD .Mult) repO := fun x y => by
  unfold repO
  split <;> rename_i h
  · split at h <;> rename_i g
    · cases h
      have : (decide (0 ≤ y) && decide (y ≤ 1000) && decide ((x.map f).length ≤ 1000)) = true := by simp only [Bool.and_eq_true, decide_eq_true_eq, List.length_map]; exact ⟨⟨g.1, g.2.1⟩, g.2.2⟩
      simp only [eT, binD, this, if_true, im', map_rep]
    · cases h
  · split at h <;> cases h
  · trivial
theorem F2.repL : F2 (eL f) eI (tl' f) (binD .Mult) repO := fun x y => by
  unfold repO
  split <;> rename_i h
  · split at h <;> rename_i g
    · cases h
      have : (decide (0 ≤ y) && decide (y ≤ 1000) && decide ((x.map f).length ≤ 1000)) = true := by simp only [Bool.and_eq_true, decide_eq_true_eq, List.length_map]; exact ⟨⟨g.1, g.2.1⟩, g.2.2⟩
      simp only [eL, binD, this, if_true, tl', map_rep]
    · cases h
  · split at h <;> cases h
  · trivial
theorem F2.idxT : F2 (eT f) eI (im' f) subD idxO := fun x y => by
  unfold idxO
  have l : (x.map f).length = x.length := List.length_map ..
  cases h : ixD x.length y with
  | none => trivial
  | some j =>
    cases g : x[j]? with
    | none => simp only [g]
    | some a => simp only [g, eT, subD, l, h, List.getElem?_map, Option.map, im']
theorem F2.idxL : F2 (eL f) eI (im' f) subD idxO := fun x y => by
  unfold idxO
  have l : (x.map f).length = x.length := List.length_map ..
  cases h : ixD x.length y with
  | none => trivial
  | some j =>
    cases g : x[j]? with
    | none => simp only [g]
    | some a => simp only [g, eL, subD, l, h, List.getElem?_map, Option.map, im']
section
variable [DecidableEq α] [EqE f n]
theorem F2.eq (hn : n ≤ 60) : F2 f f iB (cmpF .Eq) fun x y => .ok (decide (x = y)) := fun x y => by
  simp only [cmpF, cmpD, eqD_E hn, Option.bind, imB]
theorem F2.ne (hn : n ≤ 60) : F2 f f iB (cmpF .NotEq) fun x y => .ok (!decide (x = y)) := fun x y => by
  simp only [cmpF, cmpD, eqD_E hn, Option.bind, Option.map, imB]
theorem F2.inT (hn : n ≤ 59) : F2 f (eT f) iB (cmpF .In) fun x y => .ok (decide (x ∈ y)) := fun x y => by
  simp only [cmpF, cmpD, eT, inD_T hn, Option.bind, imB]
theorem F2.inL (hn : n ≤ 59) : F2 f (eL f) iB (cmpF .In) fun x y => .ok (decide (x ∈ y)) := fun x y => by
  simp only [cmpF, cmpD, eL, inD_L hn, Option.bind, imB]
theorem F2.ninT (hn : n ≤ 59) : F2 f (eT f) iB (cmpF .NotIn) fun x y => .ok (!decide (x ∈ y)) := fun x y => by
  simp only [cmpF, cmpD, eT, inD_T hn, Option.bind, Option.map, imB]
theorem F2.ninL (hn : n ≤ 59) : F2 f (eL f) iB (cmpF .NotIn) fun x y => .ok (!decide (x ∈ y)) := fun x y => by
  simp only [cmpF, cmpD, eL, inD_L hn, Option.bind, Option.map, imB]
variable [Lx α] [LtE f]
theorem F2.lt (hn : n ≤ 60) : F2 f f iB (cmpF .Lt) fun x y => .ok (lx x y) := fun x y => by
  simp only [cmpF, cmpD, ltD_E hn, Option.bind, imB]
theorem F2.gt (hn : n ≤ 60) : F2 f f iB (cmpF .Gt) fun x y => .ok (lx y x) := fun x y => by
  simp only [cmpF, cmpD, ltD_E hn, Option.bind, imB]
theorem F2.le (hn : n ≤ 60) : F2 f f iB (cmpF .LtE) fun x y => .ok (!lx y x) := fun x y => by
  simp only [cmpF, cmpD, leD_E hn, Option.bind, imB]
theorem F2.ge (hn : n ≤ 60) : F2 f f iB (cmpF .GtE) fun x y => .ok (!lx x y) := fun x y => by
  simp only [cmpF, cmpD, leD_E hn, Option.bind, imB]
end
theorem F2.ltI : F2 eI eI iB (cmpF .Lt) fun x y => .ok (decide (x < y)) := fun x y => by simp only [cmpF, cmpD, ltD_int, Option.bind, imB]
theorem F2.gtI : F2 eI eI iB (cmpF .Gt) fun x y => .ok (decide (y < x)) := fun x y => by simp only [cmpF, cmpD, ltD_int, Option.bind, imB]
theorem F2.leI : F2 eI eI iB (cmpF .LtE) fun x y => .ok (decide (x ≤ y)) := fun x y => by simp only [cmpF, cmpD, leD_int, Option.bind, imB]
theorem F2.geI : F2 eI eI iB (cmpF .GtE) fun x y => .ok (decide (y ≤ x)) := fun x y => by simp only [cmpF, cmpD, leD_int, Option.bind, imB]
theorem F2.isN : F2 (eO f) eN iB (cmpF .Is) fun x _ => .ok (isNone (eO f x)) := fun x y => by
  simp only [cmpF, cmpD, eN, isD]; cases eO f x <;> rfl
/-- on plain values -/
def ofO (o : Option D) : O D := match o with
  | some d => .ok d
  | none => .un
def ofB (o : Option Bool) : O Bool := match o with
  | some d => .ok d
  | none => .un
theorem F2.cmpDD (op : CmpOp) {fa : α → D} {fb : β → D} : F2 fa fb iB (cmpF op) fun x y => ofB (cmpD op (fa x) (fb y)) := fun x y => by
  simp only [cmpF, ofB]
  cases h : cmpD op (fa x) (fb y) with
  | none => trivial
  | some b => rfl
def subO (p : D) (i : Int) : O D := match subD p (.int i) with
  | some (.im d) => .ok d
  | _ => .un
theorem F2.subDD {fa : α → D} : F2 fa eI (im' eD) subD fun x i => subO (fa x) i := fun x y => by
  simp only [subO]
  cases h : subD (fa x) (.int y) with
  | none => trivial
  | some o => cases o <;> first | trivial | simp only [h]; rfl
end
def tyO (d : D) (t : Ty) : O Bool := ofB (tyD d t)
def tysO (d : D) (t : List Ty) : O Bool := ofB (tyDs d t)
theorem R0.and1 {ec : α → Op} {e e1 : Sl} {o : O α} {a : ME} (ha : R0 ec e1 o (a e)) : R0 ec e1 o (andE [a] e) := ha
theorem R0.or1 {ec : α → Op} {e e1 : Sl} {o : O α} {a : ME} (ha : R0 ec e1 o (a e)) : R0 ec e1 o (orE [a] e) := ha
/-- the others follow only where this is true -/
theorem R0.andP {e e1 : Sl} {x y : Bool} {a b : ME} {r : List ME} (ha : R0 iB e1 (.ok x) (a e)) (hb : R0 iB e1 (.ok y) (andE (b :: r) e1)) : R0 iB e1 (.ok (x && y)) (andE (a :: b :: r) e) := by
  have ha : a e = .ok (iB x) e1 := (ha).gok
  have hb : andE (b :: r) e1 = .ok (iB y) e1 := (hb).gok
  refine .iok ?_
  show (a e).bind _ = _
  rw [ha]
  cases x
  · rfl
  · exact hb
theorem R0.orP {e e1 : Sl} {x y : Bool} {a b : ME} {r : List ME} (ha : R0 iB e1 (.ok x) (a e)) (hb : R0 iB e1 (.ok y) (orE (b :: r) e1)) : R0 iB e1 (.ok (x || y)) (orE (a :: b :: r) e) := by
  have ha : a e = .ok (iB x) e1 := (ha).gok
  have hb : orE (b :: r) e1 = .ok (iB y) e1 := (hb).gok
  refine .iok ?_
  show (a e).bind _ = _
  rw [ha]
  cases x
  · exact hb
  · rfl
theorem R0.and {e e1 : Sl} {oa ob : O Bool} {a b : ME} {r : List ME} (ha : R0 iB e1 oa (a e)) (hb : R0 iB e1 ob (andE (b :: r) e1)) : R0 iB e1 (oa.bind fun x => if x then ob else .ok false) (andE (a :: b :: r) e) := by
  refine ha.bnd fun x => ?_
  cases x
  · exact .iok rfl
  · exact hb
theorem R0.or {e e1 : Sl} {oa ob : O Bool} {a b : ME} {r : List ME} (ha : R0 iB e1 oa (a e)) (hb : R0 iB e1 ob (orE (b :: r) e1)) : R0 iB e1 (oa.bind fun x => if x then .ok true else ob) (orE (a :: b :: r) e) := by
  refine ha.bnd fun x => ?_
  cases x
  · exact hb
  · exact .iok rfl
theorem R0.ite {ec : α → Op} {e e1 e2 : Sl} {ot : O Bool} {oa ob : O α} {t a b : ME} (ht : R0 iB e1 ot (t e)) (ha : R0 ec e2 oa (a e1)) (hb : R0 ec e2 ob (b e1)) : R0 ec e2 (ot.bind fun x => if x then oa else ob) (ifE t a b e) := by
  refine ht.bnd fun x => ?_
  cases x
  · exact hb
  · exact ha
theorem R0.iteP {ec : α → Op} {e e1 e2 : Sl} {c : Bool} {va vb : α} {t a b : ME} (ht : R0 iB e1 (.ok c) (t e)) (ha : R0 ec e2 (.ok va) (a e1)) (hb : R0 ec e2 (.ok vb) (b e1)) : R0 ec e2 (.ok (if c then va else vb)) (ifE t a b e) := by
  have ht : t e = .ok (iB c) e1 := ht.gok
  refine .iok ?_
  show (t e).bind _ = _
  rw [ht]
  cases c
  · exact hb.gok
  · exact ha.gok
/-- a < b < c of whole numbers -/
theorem R0.chainI {e e1 : Sl} {oa ob oc : O Int} {a b c : ME} {f g : D → D → Option Bool} {p q : Int → Int → Bool} (hf : ∀ x y, f (.int x) (.int y) = some (p x y)) (hg : ∀ x y, g (.int x) (.int y) = some (q x y))
    (ha : R0 iI e1 oa (a e)) (hb : R0 iI e1 ob (b e1)) (hc : R0 iI e1 oc (c e1)) : R0 iB e1 (oa.bind fun x => ob.bind fun y => if p x y then oc.bind fun z => .ok (q y z) else .ok false) (chainE f g a b c e) := by
  refine ha.bnd fun x => hb.bnd fun y => ?_
  simp only [vw, hf]
  cases h : p x y
  · exact .iok rfl
  · refine hc.bnd fun z => ?_
    simp only [vw, hg]
    exact .iok rfl
theorem R0.chainP {e e1 : Sl} {x y z : Int} {a b c : ME} {f g : D → D → Option Bool} {p q : Int → Int → Bool} (hf : ∀ x y, f (.int x) (.int y) = some (p x y)) (hg : ∀ x y, g (.int x) (.int y) = some (q x y))
    (ha : R0 iI e1 (.ok x) (a e)) (hb : R0 iI e1 (.ok y) (b e1)) (hc : R0 iI e1 (.ok z) (c e1)) : R0 iB e1 (.ok (p x y && q y z)) (chainE f g a b c e) := by
  have ha : a e = .ok (iI x) e1 := (ha).gok
  have hb : b e1 = .ok (iI y) e1 := (hb).gok
  have hc : c e1 = .ok (iI z) e1 := (hc).gok
  refine .iok ?_
  unfold chainE
  simp only [ha, hb, Res.bind, vw, hf]
  cases h : p x y
  · rfl
  · simp only [hc, vw, hg]
    rfl
theorem cmp_lt (x y : Int) : cmpD .Lt (.int x) (.int y) = some (decide (x < y)) := ltD_int
theorem cmp_le (x y : Int) : cmpD .LtE (.int x) (.int y) = some (decide (x ≤ y)) := leD_int
theorem cmp_gt (x y : Int) : cmpD .Gt (.int x) (.int y) = some (decide (y < x)) := ltD_int
theorem cmp_ge (x y : Int) : cmpD .GtE (.int x) (.int y) = some (decide (y ≤ x)) := leD_int
theorem cmp_eq (x y : Int) : cmpD .Eq (.int x) (.int y) = some (decide (x = y)) := eqD_int
/-! operands in a row -/
/-! built-ins -/
/-- of one operand -/
def F1 (fa : α → D) (ec : γ → Op) (F : List D → Option Op) (o : α → O γ) : Prop := ∀ x, match o x with
  | .ok v => F [fa x] = some (ec v)
  | .ex _ => False
  | .un => True
def F2b (fa : α → D) (fb : β → D) (ec : γ → Op) (F : List D → Option Op) (o : α → β → O γ) : Prop := ∀ x y, match o x y with
  | .ok v => F [fa x, fb y] = some (ec v)
  | .ex _ => False
  | .un => True
section
variable {f : α → D} {n : Nat}
/-- how many, so that nobody counts down from it -/
def lenI : List α → Int
  | [] => 0
  | _ :: xs => lenI xs + 1
theorem lenI_eq : ∀ {xs : List α}, lenI xs = (xs.length : Int)
  | [] => rfl
  | _ :: xs => by rw [lenI, lenI_eq, List.length_cons]; omega
theorem F1.lenT : F1 (eT f) iI (bltD .len) fun xs => .ok (lenI xs) := fun xs => by simp only [eT, bltD, List.length_map, lenI_eq, imI]
theorem F1.lenL : F1 (eL f) iI (bltD .len) fun xs => .ok (lenI xs) := fun xs => by simp only [eL, bltD, List.length_map, lenI_eq, imI]
def lenO : D → O Int
  | .tuple xs => .ok xs.length
  | .list xs => .ok xs.length
  | _ => .un
theorem F1.lenD : F1 eD iI (bltD .len) lenO := fun d => by cases d <;> first | trivial | rfl
theorem F1.sumT : F1 (eT eI) iI (bltD .sum) fun xs => .ok xs.sum := fun xs => by
  have := @bltD_sum_tup xs; simpa [eT, iL, imI] using this
theorem F1.sumL : F1 (eL eI) iI (bltD .sum) fun xs => .ok xs.sum := fun xs => by
  have := @bltD_sum_lst xs; simpa [eL, iL, imI] using this
theorem F1.anyL : F1 (eL eB) iB (bltD .any) fun xs => .ok (xs.any id) := fun xs => by
  have := @bltD_any xs; simpa [eL, bL, imB] using this
theorem F1.allL : F1 (eL eB) iB (bltD .all) fun xs => .ok (xs.all id) := fun xs => by
  have := @bltD_all xs; simpa [eL, bL, imB] using this
theorem F1.tupT : F1 (eT f) (im' (eT f)) (bltD .tuple) .ok := fun xs => rfl
theorem F1.tupL : F1 (eL f) (im' (eT f)) (bltD .tuple) .ok := fun xs => rfl
theorem F1.lstT : F1 (eT f) (tl' f) (bltD .list) .ok := fun xs => rfl
theorem F1.lstL : F1 (eL f) (tl' f) (bltD .list) .ok := fun xs => rfl
theorem F1.abs : F1 eI iI (bltD .abs) fun x => .ok (absI x) := fun x => rfl
theorem F1.int : F1 eI iI (bltD .int) fun x => .ok x := fun x => rfl
theorem F2b.max : F2b eI eI iI (bltD .max) fun x y => .ok (max2 x y) := fun x y => rfl
theorem F2b.min : F2b eI eI iI (bltD .min) fun x y => .ok (min2 x y) := fun x y => rfl
variable [DecidableEq α] [EqE f n] [Lx α] [LtE f]
theorem minmax_ok (hn : n ≤ 60) (xs : List α) : (alikeB (xs.map f) && shps (xs.map f)) = true := by rw [alikeB_E, shps_E hn]; rfl
theorem F1.minL (hn : n ≤ 60) : F1 (eL f) (im' f) (bltD .min) minO := fun xs => by
  cases xs with
  | nil => trivial
  | cons x xs =>
    have := minmax_ok (f := f) hn (x :: xs)
    rw [List.map_cons] at this
    simp only [minO, eL, bltD, List.map_cons, seqD, this, if_true, minD_E, im']
theorem F1.minT (hn : n ≤ 60) : F1 (eT f) (im' f) (bltD .min) minO := fun xs => by
  cases xs with
  | nil => trivial
  | cons x xs =>
    have := minmax_ok (f := f) hn (x :: xs)
    rw [List.map_cons] at this
    simp only [minO, eT, bltD, List.map_cons, seqD, this, if_true, minD_E, im']
theorem F1.maxL (hn : n ≤ 60) : F1 (eL f) (im' f) (bltD .max) maxO := fun xs => by
  cases xs with
  | nil => trivial
  | cons x xs =>
    have := minmax_ok (f := f) hn (x :: xs)
    rw [List.map_cons] at this
    simp only [maxO, eL, bltD, List.map_cons, seqD, this, if_true, maxD_E, im']
theorem F1.maxT (hn : n ≤ 60) : F1 (eT f) (im' f) (bltD .max) maxO := fun xs => by
  cases xs with
  | nil => trivial
  | cons x xs =>
    have := minmax_ok (f := f) hn (x :: xs)
    rw [List.map_cons] at this
    simp only [maxO, eT, bltD, List.map_cons, seqD, this, if_true, maxD_E, im']
/-- what can be sorted: written out tuples, or none -/
class SoE (f : α → D) : Prop where
  so : (∀ a, ∃ x r, f a = .tuple (x :: r)) ∨ ∀ a, (f a ≠ .none ∧ ∀ xs, f a ≠ .tuple xs)
omit [DecidableEq α] [EqE f n] [Lx α] [LtE f] in
theorem sortB_E [SoE f] (xs : List α) : sortB (xs.map f) = true := by
  unfold sortB
  rcases SoE.so (f := f) with h | h
  · refine Bool.or_eq_true_iff.mpr (.inl (List.all_eq_true.mpr fun d hd => ?_))
    obtain ⟨a, _, rfl⟩ := List.mem_map.mp hd
    obtain ⟨x, r, e⟩ := h a
    rw [e]
  · refine Bool.or_eq_true_iff.mpr (.inr (List.all_eq_true.mpr fun d hd => ?_))
    obtain ⟨a, _, rfl⟩ := List.mem_map.mp hd
    obtain ⟨h1, h2⟩ := h a
    cases e : f a <;> first | rfl | exact absurd e h1 | exact absurd e (h2 _)
instance : SoE eI := ⟨.inr fun a => ⟨by simp [eI], by simp [eI]⟩⟩
instance : SoE eS := ⟨.inr fun a => ⟨by simp [eS], by simp [eS]⟩⟩
instance {β γ : Type} {g : β → D} {h : γ → List D} : SoE (eU (hC g h)) := ⟨.inl fun a => ⟨_, _, rfl⟩⟩
instance {β : Type} {g : β → D} : SoE (eU (h1 g)) := ⟨.inl fun a => ⟨_, _, rfl⟩⟩
instance {β : Type} {g : β → D} : SoE (eL g) := ⟨.inr fun a => ⟨by simp [eL], by simp [eL]⟩⟩
theorem F1.sortL [SoE f] (hn : n ≤ 60) : F1 (eL f) (tl' f) (bltD .sorted) sortO := fun xs => by
  unfold sortO
  by_cases hl : xs.length ≤ sizeMax
  · rw [if_pos hl]
    have l2 : decide ((xs.map f).length ≤ sizeMax) = true := by simpa using hl
    simp only [eL, bltD, alikeB_E, shps_E hn, sortB_E, l2, Bool.and_self, if_true, tl', sort_E]
  · rw [if_neg hl]
    trivial
theorem F1.sortT [SoE f] (hn : n ≤ 60) : F1 (eT f) (tl' f) (bltD .sorted) sortO := fun xs => by
  unfold sortO
  by_cases hl : xs.length ≤ sizeMax
  · rw [if_pos hl]
    have l2 : decide ((xs.map f).length ≤ sizeMax) = true := by simpa using hl
    simp only [eT, bltD, alikeB_E, shps_E hn, sortB_E, l2, Bool.and_self, if_true, tl', sort_E]
  · rw [if_neg hl]
    trivial
/-- rows, none of them empty -/
def sortRO [DecidableEq α] [Lx α] (xs : List (List α)) : O (List (List α)) := if (xs.length ≤ sizeMax ∧ ∀ x ∈ xs, x ≠ []) then .ok (xs.mergeSort fun a b => !lx b a) else .un
theorem F1.sortR (hn : n ≤ 59) : F1 (eL (eT f)) (tl' (eT f)) (bltD .sorted) sortRO := fun xs => by
  unfold sortRO
  by_cases hl : (xs.length ≤ sizeMax ∧ ∀ x ∈ xs, x ≠ [])
  · rw [if_pos hl]
    have l2 : decide ((xs.map (eT f)).length ≤ sizeMax) = true := by simpa using hl.1
    have l3 : sortB (xs.map (eT f)) = true := by
      unfold sortB
      refine Bool.or_eq_true_iff.mpr (.inl (List.all_eq_true.mpr fun d hd => ?_))
      obtain ⟨a, ha, rfl⟩ := List.mem_map.mp hd
      cases a with
      | nil => exact absurd rfl (hl.2 _ ha)
      | cons b r => rfl
    simp only [eL, bltD, alikeB_E, shps_E (f := eT f) (n := n + 1) (by omega), l3, l2, Bool.and_self, if_true, tl', sort_E]
  · rw [if_neg hl]
    trivial
end
end Ev
end
section
set_option maxHeartbeats 1000000
/-! TyC: what is pure, as equations; the rest step by step. -/
namespace Ev
open PySem
variable {α β γ δ σ τ ρ : Type}
/-! ### pure expressions: equations -/
theorem pe_var {e : Sl} {i : Nat} {d : D} (h : gt e i = some (.im d)) : varE i e = .ok (.im d) e := by unfold varE; rw [h]
theorem pe_varI {e : Sl} {i : Nat} {d : D} (h : gt e i = some (.im d)) : varE i (imS e) = .ok (.im d) (imS e) := pe_var (by rw [gtI, h])
theorem pe_varL {e : Sl} {i : Nat} {ds : List D} (h : gt e i = some (.ol ds)) : varE i e = .ok (.bor i) e := by unfold varE; rw [h]
theorem pe_imm {e : Sl} {d : D} : immE d e = .ok (.im d) e := rfl
theorem F2.fin2 {fa : α → D} {fb : β → D} {ec : γ → Op} {f : D → D → Option Op} {o : α → β → O γ} (h : F2 fa fb ec f o) {e : Sl} {p q : Op} (x : α) (y : β) {v : γ} (hp : vw p e = some (fa x)) (hq : vw q e = some (fb y)) (ho : o x y = .ok v) : op2fin f p q e = .ok (ec v) e := by
  have := h.fin (e := e) x y hp hq
  rw [ho] at this
  exact this.gok
theorem pe_op2 {f : D → D → Option Op} {a b : ME} {e e1 e2 : Sl} {p q : Op} {r : Res Op} (ha : a e = .ok p e1) (hb : b e1 = .ok q e2) (hf : op2fin f p q e2 = r) : op2 f a b e = r := by
  show (a e).bind _ = _
  rw [ha]
  show (b e1).bind _ = _
  rw [hb]; exact hf
theorem pe_bin {fa : α → D} {fb : β → D} {ec : γ → Op} {f : D → D → Option Op} {o : α → β → O γ} (h : F2 fa fb ec f o) {a b : ME} {e e1 e2 : Sl} {p q : Op} (x : α) (y : β) {v : γ} (ha : a e = .ok p e1) (hb : b e1 = .ok q e2) (hp : vw p e2 = some (fa x)) (hq : vw q e2 = some (fb y)) (ho : o x y = .ok v) : op2 f a b e = .ok (ec v) e2 :=
  pe_op2 ha hb (h.fin2 x y hp hq ho)
theorem pe_neg {a : ME} {e e1 : Sl} (x : Int) (ha : a e = .ok (.im (.int x)) e1) : un1 negD a e = .ok (.im (.int (-x))) e1 := by
  show (a e).bind _ = _
  rw [ha]; rfl
theorem pe_not {a : ME} {e e1 : Sl} (x : Bool) (ha : a e = .ok (.im (.bool x)) e1) : notE a e = .ok (.im (.bool (!x))) e1 := by
  show (a e).bind _ = _
  rw [ha]; rfl
theorem pe_and1 {a : ME} {e : Sl} {r : Res Op} (ha : a e = r) : andE [a] e = r := ha
theorem pe_or1 {a : ME} {e : Sl} {r : Res Op} (ha : a e = r) : orE [a] e = r := ha
theorem pe_and {a b : ME} {r : List ME} {e e1 : Sl} (x y : Bool) (ha : a e = .ok (.im (.bool x)) e1) (hb : andE (b :: r) e1 = .ok (.im (.bool y)) e1) : andE (a :: b :: r) e = .ok (.im (.bool (x && y))) e1 := (R0.andP (x := x) (y := y) (.iok ha) (.iok hb)).gok
theorem pe_or {a b : ME} {r : List ME} {e e1 : Sl} (x y : Bool) (ha : a e = .ok (.im (.bool x)) e1) (hb : orE (b :: r) e1 = .ok (.im (.bool y)) e1) : orE (a :: b :: r) e = .ok (.im (.bool (x || y))) e1 := (R0.orP (x := x) (y := y) (.iok ha) (.iok hb)).gok
theorem pe_ite {t a b : ME} {e e1 e2 : Sl} {ec : α → Op} (c : Bool) (x y : α) (ht : t e = .ok (.im (.bool c)) e1) (ha : a e1 = .ok (ec x) e2) (hb : b e1 = .ok (ec y) e2) : ifE t a b e = .ok (ec (if c then x else y)) e2 := (R0.iteP (c := c) (va := x) (vb := y) (.iok ht) (.iok ha) (.iok hb)).gok
theorem pe_chain {e e1 : Sl} {a b c : ME} {f g : D → D → Option Bool} {p q : Int → Int → Bool} (hf : ∀ x y, f (.int x) (.int y) = some (p x y)) (hg : ∀ x y, g (.int x) (.int y) = some (q x y)) (x y z : Int)
    (ha : a e = .ok (.im (.int x)) e1) (hb : b e1 = .ok (.im (.int y)) e1) (hc : c e1 = .ok (.im (.int z)) e1) : chainE f g a b c e = .ok (.im (.bool (p x y && q y z))) e1 := (R0.chainP hf hg (x := x) (y := y) (z := z) (.iok ha) (.iok hb) (.iok hc)).gok
theorem pa_nil {e : Sl} : argsO [] e = .ok [] e := rfl
theorem pa_cons {a : ME} {r : List ME} {e e1 e2 : Sl} {o : Op} {os : List Op} (ha : a e = .ok o e1) (hr : argsO r e1 = .ok os e2) : argsO (a :: r) e = .ok (o :: os) e2 := by
  show (a e).bind _ = _
  rw [ha]
  show (argsO r e1).bind _ = _
  rw [hr]; rfl
theorem pd_nil {e : Sl} : argsD [] e = .ok [] e := rfl
theorem pd_cons {a : ME} {r : List ME} {e e1 e2 e3 : Sl} {o : Op} {d : D} {ds : List D} (ha : a e = .ok o e1) (hz : fzO o e1 = some (d, e2)) (hr : argsD r e2 = .ok ds e3) : argsD (a :: r) e = .ok (d :: ds) e3 := by
  show (a e).bind _ = _
  rw [ha]
  simp only [Res.bind, hz, hr]
theorem pe_tup {ms : List ME} {e e1 : Sl} {ds : List D} (h : argsD ms e = .ok ds e1) : tupE ms e = .ok (.im (.tuple ds)) e1 := by
  show (argsD ms e).bind _ = _
  rw [h]; rfl
theorem pe_lst {ms : List ME} {e e1 : Sl} {ds : List D} (h : argsD ms e = .ok ds e1) : lstE ms e = .ok (.tl ds) e1 := by
  show (argsD ms e).bind _ = _
  rw [h]; rfl
def bltfin (F : List D → Option Op) (os : List Op) (e : Sl) : Res Op := match vws os e with
  | some ds => lift (F ds) e
  | none => .bad
theorem pe_blt {F : List D → Option Op} {ms : List ME} {e e1 : Sl} {os : List Op} {r : Res Op} (h : argsO ms e = .ok os e1) (hf : bltfin F os e1 = r) : bltE F ms e = r := by
  show (argsO ms e).bind _ = _
  rw [h]; exact hf
theorem F1.fin {fa : α → D} {ec : γ → Op} {F : List D → Option Op} {o : α → O γ} (h : F1 fa ec F o) {os : List Op} {e : Sl} (x : α) {v : γ} (hv : vws os e = some [fa x]) (ho : o x = .ok v) : bltfin F os e = .ok (ec v) e := by
  have := h x
  rw [ho] at this
  unfold bltfin
  simp only [hv, this]; rfl
theorem F2b.fin {fa : α → D} {fb : β → D} {ec : γ → Op} {F : List D → Option Op} {o : α → β → O γ} (h : F2b fa fb ec F o) {os : List Op} {e : Sl} (x : α) (y : β) {v : γ} (hv : vws os e = some [fa x, fb y]) (ho : o x y = .ok v) : bltfin F os e = .ok (ec v) e := by
  have := h x y
  rw [ho] at this
  unfold bltfin
  simp only [hv, this]; rfl
theorem bfin_max3 {os : List Op} {e : Sl} (x y z : Int) (hv : vws os e = some [.int x, .int y, .int z]) : bltfin (bltD .max) os e = .ok (.im (.int (max3 x y z))) e := by
  unfold bltfin
  simp only [hv]; rfl
theorem p0 {n : Option ME} {e : Sl} (h : n = none) : optE n e = .ok none e := by subst h; rfl
theorem pe_optN {e : Sl} : optE none e = .ok none e := rfl
theorem pe_optS {a : ME} {e e1 : Sl} (i : Int) (h : a e = .ok (.im (.int i)) e1) : optE (some a) e = .ok (some i) e1 := by
  show (a e).bind _ = _
  rw [h]; rfl
theorem pe_sli {a : ME} {lo hi : Option ME} {e e1 e2 e3 : Sl} {o o' : Op} {p : D} {l h : Option Int} (ha : a e = .ok o e1) (hl : optE lo e1 = .ok l e2) (hh : optE hi e2 = .ok h e3) (hv : vw o e3 = some p) (hs : sliD p l h = some o') : sliE a lo hi e = .ok o' e3 := by
  unfold sliE
  simp only [ha, Res.bind, hl, hh, hv, hs, lift]
theorem sli_T {f : α → D} {xs : List α} {l h : Option Int} : sliD (eT f xs) l h = some (.im (eT f (cutT xs l h))) := by
  simp only [eT, sliD, cutL, cutT, List.length_map, List.map_take, List.map_drop]
theorem sli_L {f : α → D} {xs : List α} {l h : Option Int} : sliD (eL f xs) l h = some (.tl ((cutT xs l h).map f)) := by
  simp only [eL, sliD, cutL, cutT, List.length_map, List.map_take, List.map_drop]
/-! ### statements -/
inductive SRel (Q : τ → SR → Prop) : O τ → SR → Prop
  | iok {t : τ} {r : SR} (h : Q t r) : SRel Q (.ok t) r
  | iex {x : Exc} {r : SR} (h : ∃ e, r = .er x e) : SRel Q (.ex x) r
  | iun {r : SR} : SRel Q .un r
theorem SRel.gok {Q : τ → SR → Prop} {t : τ} {r : SR} (h : SRel Q (.ok t) r) : Q t r := by cases h; assumption
theorem SRel.gex {Q : τ → SR → Prop} {x : Exc} {r : SR} (h : SRel Q (.ex x) r) : ∃ e, r = .er x e := by cases h; assumption
section
variable {Q : τ → SR → Prop}
theorem SRel.eq {o o' : O τ} {r : SR} (h : SRel Q o r) (e : o' = o) : SRel Q o' r := e ▸ h
theorem SRel.un {r : SR} : SRel Q .un r := .iun
variable {o : O τ} {e e1 e2 e3 : Sl} {k : Op → Sl → SR}
theorem st_P {a : ME} {p : Op} (ha : a e = .ok p e1) (hk : SRel Q o (k p e1)) : SRel Q o ((a e).st k) := by rw [ha]; exact hk
theorem st_M {ea : α → Op} {ra : Res Op} {oa : O α} {K : α → O τ} (ha : R0 ea e1 oa ra) (hk : ∀ x, SRel Q (K x) (k (ea x) e1)) : SRel Q (oa.bind K) (ra.st k) := by
  cases oa with
  | ok x =>
    have ha : ra = .ok (ea x) e1 := ha.gok
    subst ha
    exact hk x
  | ex x =>
    obtain ⟨e', h⟩ := ha.gex
    subst h
    exact .iex ⟨e', rfl⟩
  | un => exact .iun
theorem st_bind {ra : Res α} {F : α → Sl → Res β} {k : β → Sl → SR} : (ra.bind F).st k = ra.st fun a e => (F a e).st k := by cases ra <;> rfl
theorem st_to {α : Type} {ra : Res α} {F G : α → Sl → SR} (hFG : ∀ a e, F a e = G a e) (h : SRel Q o (ra.st G)) : SRel Q o (ra.st F) := by
  have : F = G := by funext a e; exact hFG a e
  rw [this]; exact h
theorem op2_st {f : D → D → Option Op} {a b : ME} (h : SRel Q o ((a e).st fun x e1 => (b e1).st fun y e2 => (op2fin f x y e2).st k)) : SRel Q o ((op2 f a b e).st k) := by
  unfold op2
  rw [st_bind]
  simp only [st_bind]
  exact h
theorem fin_M {fa : α → D} {fb : β → D} {ec : γ → Op} {f : D → D → Option Op} {oc : α → β → O γ} (h : F2 fa fb ec f oc) {p q : Op} (x : α) (y : β) {K : γ → O τ} (hp : vw p e = some (fa x)) (hq : vw q e = some (fb y)) (hk : ∀ v, SRel Q (K v) (k (ec v) e)) : SRel Q ((oc x y).bind K) ((op2fin f p q e).st k) :=
  st_M (h.fin x y hp hq) hk
theorem fin_P {fa : α → D} {fb : β → D} {ec : γ → Op} {f : D → D → Option Op} {oc : α → β → O γ} (h : F2 fa fb ec f oc) {p q : Op} (x : α) (y : β) {v : γ} (hp : vw p e = some (fa x)) (hq : vw q e = some (fb y)) (ho : oc x y = .ok v) (hk : SRel Q o (k (ec v) e)) : SRel Q o ((op2fin f p q e).st k) := by
  rw [h.fin2 x y hp hq ho]; exact hk
theorem un_st {f : D → Option Op} {a : ME} (h : SRel Q o ((a e).st fun x e1 => ((match vw x e1 with | some p => lift (f p) e1 | none => .bad) : Res Op).st k)) : SRel Q o ((un1 f a e).st k) := by
  unfold un1
  rw [st_bind]
  exact h
theorem neg_fin {p : Op} (x : Int) (hp : vw p e = some (.int x)) (hk : SRel Q o (k (.im (.int (-x))) e)) : SRel Q o (((match vw p e with | some p => lift (negD p) e | none => .bad) : Res Op).st k) := by rw [hp]; exact hk
theorem not_st {a : ME} (h : SRel Q o ((a e).st fun x e1 => ((match tru x with | some b => .ok (.im (.bool (!b))) e1 | none => .bad) : Res Op).st k)) : SRel Q o ((notE a e).st k) := by
  unfold notE
  rw [st_bind]
  exact h
theorem isi_M {t : Ty} {a : ME} {p : Op} {d : D} {K : Bool → O τ} (ha : a e = .ok p e1) (hv : vw p e1 = some d) (hk : ∀ v, SRel Q (K v) (k (.im (.bool v)) e1)) : SRel Q ((tyO d t).bind K) ((isiE t a e).st k) := by
  unfold isiE un1
  rw [ha]
  simp only [Res.bind, hv, tyO, ofB]
  cases tyD d t with
  | none => exact .iun
  | some b => exact hk b
theorem isis_M {t : List Ty} {a : ME} {p : Op} {d : D} {K : Bool → O τ} (ha : a e = .ok p e1) (hv : vw p e1 = some d) (hk : ∀ v, SRel Q (K v) (k (.im (.bool v)) e1)) : SRel Q ((tysO d t).bind K) ((isisE t a e).st k) := by
  unfold isisE un1
  rw [ha]
  simp only [Res.bind, hv, tysO, ofB]
  cases tyDs d t with
  | none => exact .iun
  | some b => exact hk b
theorem tup_st {ms : List ME} (h : SRel Q o ((argsD ms e).st fun ds e1 => k (.im (.tuple ds)) e1)) : SRel Q o ((tupE ms e).st k) := by
  unfold tupE
  rw [st_bind]
  exact h
theorem lst_st {ms : List ME} (h : SRel Q o ((argsD ms e).st fun ds e1 => k (.tl ds) e1)) : SRel Q o ((lstE ms e).st k) := by
  unfold lstE
  rw [st_bind]
  exact h
section
variable {k : List D → Sl → SR} {a : ME} {r : List ME}
theorem argsD_nil (h : SRel Q o (k [] e)) : SRel Q o ((argsD [] e).st k) := h
def fzk (κ : D → Sl → SR) (p : Op) (e : Sl) : SR := match fzO p e with | some (d, e2) => κ d e2 | none => .bad
theorem argsD_M (h : SRel Q o ((a e).st (fzk fun d e2 => (argsD r e2).st fun ds e3 => k (d :: ds) e3))) : SRel Q o ((argsD (a :: r) e).st k) := by
  unfold argsD
  rw [st_bind]
  refine st_to (fun p e1 => ?_) h
  unfold fzk
  cases fzO p e1 with
  | none => rfl
  | some x => exact st_bind
theorem fzk_ok {κ : D → Sl → SR} {p : Op} {d : D} (hz : fzO p e = some (d, e2)) (hk : SRel Q o (κ d e2)) : SRel Q o (fzk κ p e) := by unfold fzk; rw [hz]; exact hk
theorem argsD_P {p : Op} {d : D} (ha : a e = .ok p e1) (hz : fzO p e1 = some (d, e2)) (hk : SRel Q o ((argsD r e2).st fun ds e3 => k (d :: ds) e3)) : SRel Q o ((argsD (a :: r) e).st k) := argsD_M (st_P ha (fzk_ok (κ := fun d e2 => (argsD r e2).st fun ds e3 => k (d :: ds) e3) hz hk))
end
section
variable {k : List Op → Sl → SR} {a : ME} {r : List ME}
theorem argsO_nil (h : SRel Q o (k [] e)) : SRel Q o ((argsO [] e).st k) := h
theorem argsO_M (h : SRel Q o ((a e).st fun p e1 => (argsO r e1).st fun os e2 => k (p :: os) e2)) : SRel Q o ((argsO (a :: r) e).st k) := by
  unfold argsO
  rw [st_bind]
  simp only [st_bind]
  exact h
theorem argsO_P {p : Op} (ha : a e = .ok p e1) (hk : SRel Q o ((argsO r e1).st fun os e2 => k (p :: os) e2)) : SRel Q o ((argsO (a :: r) e).st k) := argsO_M (st_P ha hk)
theorem argsO_A {ms : List ME} {os : List Op} (ha : argsO ms e = .ok os e1) (hk : SRel Q o (k os e1)) : SRel Q o ((argsO ms e).st k) := by rw [ha]; exact hk
theorem argsP_nil (h : SRel Q o (k [] e)) : SRel Q o ((argsP [] e).st k) := h
def argsPk (r : List ME) (k : List Op → Sl → SR) (p : Op) (e1 : Sl) : SR := match p with
  | .bor i => (match fzO (.bor i) e1 with
    | some (d, e2) => (argsP r e2).st fun os e3 => k (.im d :: os) e3
    | none => .bad)
  | o => (argsP r e1).st fun os e3 => k (o :: os) e3
theorem argsP_M (h : SRel Q o ((a e).st (argsPk r k))) : SRel Q o ((argsP (a :: r) e).st k) := by
  unfold argsP
  rw [st_bind]
  refine st_to (fun p e1 => ?_) h
  cases p with
  | bor i =>
    simp only [argsPk]
    cases fzO (.bor i) e1 with
    | none => rfl
    | some x => exact st_bind
  | im d => exact st_bind
  | tl d => exact st_bind
  | td d => exact st_bind
/-- an operand that is no slot -/
theorem argsP_P {p : Op} (ha : a e = .ok p e1) (hn : ∀ i, p ≠ .bor i) (hk : SRel Q o ((argsP r e1).st fun os e2 => k (p :: os) e2)) : SRel Q o ((argsP (a :: r) e).st k) := by
  refine argsP_M (st_P ha ?_)
  cases p with
  | bor i => exact absurd rfl (hn i)
  | im d => exact hk
  | tl d => exact hk
  | td d => exact hk
theorem argsP_B {i : Nat} {d : D} (ha : a e = .ok (.bor i) e1) (hz : fzO (.bor i) e1 = some (d, e2)) (hk : SRel Q o ((argsP r e2).st fun os e3 => k (.im d :: os) e3)) : SRel Q o ((argsP (a :: r) e).st k) := by
  refine argsP_M (st_P ha ?_)
  unfold argsPk
  simp only [hz]
  exact hk
theorem argsPk_im {d : D} (hk : SRel Q o ((argsP r e).st fun os e2 => k (.im d :: os) e2)) : SRel Q o (argsPk r k (.im d) e) := hk
theorem argsPk_tl {d : List D} (hk : SRel Q o ((argsP r e).st fun os e2 => k (.tl d :: os) e2)) : SRel Q o (argsPk r k (.tl d) e) := hk
end
/-! calls -/
inductive C0 (enc : ρ → Op) (fin : Sl) : O ρ → CRes → Prop
  | iok {v : ρ} {r : CRes} (h : r = .ok (enc v) fin) : C0 enc fin (.ok v) r
  | iex {x : Exc} {r : CRes} (h : ∃ f, r = .er x f) : C0 enc fin (.ex x) r
  | iun {r : CRes} : C0 enc fin .un r
theorem C0.gok {enc : ρ → Op} {fin : Sl} {v : ρ} {r : CRes} (h : C0 enc fin (.ok v) r) : r = .ok (enc v) fin := by cases h; assumption
theorem C0.gex {enc : ρ → Op} {fin : Sl} {x : Exc} {r : CRes} (h : C0 enc fin (.ex x) r) : ∃ f, r = .er x f := by cases h; assumption
def callfin (br : List Bool) (F : Sl → CRes) (os : List Op) (e : Sl) : Res Op := match toPar os br e with
  | some (ps, e2) => (match F ps with
    | .ok r fin => .ok r (backs os fin e2)
    | .er x fin => .er x (backs os fin e2)
    | .bad => .bad)
  | none => .bad
theorem call_st {br : List Bool} {F : Sl → CRes} {ms : List ME} (h : SRel Q o ((argsO ms e).st fun os e1 => (callfin br F os e1).st k)) : SRel Q o ((callE br F ms e).st k) := by
  unfold callE
  rw [st_bind]
  exact h
theorem call_M {br : List Bool} {F : Sl → CRes} {os : List Op} {ps fin : Sl} {enc : ρ → Op} {oF : O ρ} {K : ρ → O τ} (hp : toPar os br e = some (ps, e2)) (hF : C0 enc fin oF (F ps)) (hb : backs os fin e2 = e3) (hk : ∀ v, SRel Q (K v) (k (enc v) e3)) : SRel Q (oF.bind K) ((callfin br F os e).st k) := by
  unfold callfin
  rw [hp]
  cases oF with
  | ok v =>
    have hF : F ps = .ok (enc v) fin := hF.gok
    simp only [hF, hb]
    exact hk v
  | ex x =>
    obtain ⟨f, hF⟩ := hF.gex
    exact .iex ⟨backs os f e2, by simp only [hF]; rfl⟩
  | un => exact .iun
/-- with the hand, or another slot that comes back -/
inductive C1 (enc : ρ → Op) (fin : σ → Sl) : O (ρ × σ) → CRes → Prop
  | iok {v : ρ × σ} {r : CRes} (h : r = .ok (enc v.1) (fin v.2)) : C1 enc fin (.ok v) r
  | iex {x : Exc} {r : CRes} (h : ∃ f, r = .er x f) : C1 enc fin (.ex x) r
  | iun {r : CRes} : C1 enc fin .un r
theorem C1.gok {enc : ρ → Op} {fin : σ → Sl} {v : ρ × σ} {r : CRes} (h : C1 enc fin (.ok v) r) : r = .ok (enc v.1) (fin v.2) := by cases h; assumption
theorem C1.gex {enc : ρ → Op} {fin : σ → Sl} {x : Exc} {r : CRes} (h : C1 enc fin (.ex x) r) : ∃ f, r = .er x f := by cases h; assumption
theorem callH_M {br : List Bool} {F : Sl → CRes} {os : List Op} {ps : Sl} {fin E : σ → Sl} {enc : ρ → Op} {oF : O (ρ × σ)} {K : ρ × σ → O τ} (hp : toPar os br e = some (ps, e2)) (hF : C1 enc fin oF (F ps)) (hb : ∀ h, backs os (fin h) e2 = E h) (hk : ∀ p, SRel Q (K p) (k (enc p.1) (E p.2))) : SRel Q (oF.bind K) ((callfin br F os e).st k) := by
  unfold callfin
  rw [hp]
  cases oF with
  | ok v =>
    have hF : F ps = .ok (enc v.1) (fin v.2) := hF.gok
    simp only [hF, hb]
    exact hk v
  | ex x =>
    obtain ⟨f, hF⟩ := hF.gex
    exact .iex ⟨backs os f e2, by simp only [hF]; rfl⟩
  | un => exact .iun
/-! built-ins -/
theorem blt_st {F : List D → Option Op} {ms : List ME} (h : SRel Q o ((argsO ms e).st fun os e1 => (bltfin F os e1).st k)) : SRel Q o ((bltE F ms e).st k) := by
  unfold bltE
  rw [st_bind]
  exact h
theorem blt_ok {F : List D → Option Op} {os : List Op} {p : Op} (hf : bltfin F os e = .ok p e1) (hk : SRel Q o (k p e1)) : SRel Q o ((bltfin F os e).st k) := by rw [hf]; exact hk
theorem blt_M1 {fa : α → D} {ec : γ → Op} {F : List D → Option Op} {oc : α → O γ} (h : F1 fa ec F oc) {os : List Op} (x : α) {K : γ → O τ} (hv : vws os e = some [fa x]) (hk : ∀ v, SRel Q (K v) (k (ec v) e)) : SRel Q ((oc x).bind K) ((bltfin F os e).st k) := by
  refine st_M (ea := ec) (e1 := e) ?_ hk
  have := h x
  unfold bltfin
  cases ho : oc x with
  | ok v => rw [ho] at this; simp only [hv, this]; exact .iok rfl
  | ex _ => rw [ho] at this; exact this.elim
  | un => exact .iun
theorem blt_M2 {fa : α → D} {fb : β → D} {ec : γ → Op} {F : List D → Option Op} {oc : α → β → O γ} (h : F2b fa fb ec F oc) {os : List Op} (x : α) (y : β) {K : γ → O τ} (hv : vws os e = some [fa x, fb y]) (hk : ∀ v, SRel Q (K v) (k (ec v) e)) : SRel Q ((oc x y).bind K) ((bltfin F os e).st k) := by
  refine st_M (ea := ec) (e1 := e) ?_ hk
  have := h x y
  unfold bltfin
  cases ho : oc x y with
  | ok v => rw [ho] at this; simp only [hv, this]; exact .iok rfl
  | ex _ => rw [ho] at this; exact this.elim
  | un => exact .iun
/-! one of two -/
theorem ite_st {t a b : ME} (h : SRel Q o ((t e).st fun p e1 => match tru p with | some true => (a e1).st k | some false => (b e1).st k | none => .bad)) : SRel Q o ((ifE t a b e).st k) := by
  unfold ifE
  rw [st_bind]
  refine st_to (fun p e1 => ?_) h
  cases tru p with
  | none => rfl
  | some x => cases x <;> rfl
theorem ite_both {c : Bool} {ra rb : Res Op} {ea : α → Op} {x y : α} (ha : ra = .ok (ea x) e1) (hb : rb = .ok (ea y) e1) (hk : SRel Q o (k (ea (if c then x else y)) e1)) : SRel Q o (match tru (.im (.bool c)) with | some true => ra.st k | some false => rb.st k | none => .bad) := by
  cases c
  · show SRel Q o (rb.st k); rw [hb]; exact hk
  · show SRel Q o (ra.st k); rw [ha]; exact hk
theorem ite_two {c : Bool} {A B : SR} {oa ob : O τ} (ha : SRel Q oa A) (hb : SRel Q ob B) : SRel Q (if c then oa else ob) (match tru (.im (.bool c)) with | some true => A | some false => B | none => .bad) := by
  cases c
  · exact hb
  · exact ha
theorem seqS_cs {a : MS} {r : List MS} {e : Sl} : seqS (a :: r) e = (a e).bind (seqS r) := by
  cases r with
  | nil => show a e = _; cases a e <;> rfl
  | cons b r => rfl
theorem sr_bind {r : Res α} {F : α → Sl → SR} {g : Sl → SR} : (r.st F).bind g = r.st fun a e => (F a e).bind g := by cases r <;> rfl
variable {r : List MS}
/-! statements, each with what follows -/
theorem S_ret {a : ME} (h : SRel Q o ((a e).st fun p e1 => .rt p e1)) : SRel Q o (seqS (retS a :: r) e) := by
  rw [seqS_cs]
  unfold retS
  rw [sr_bind]
  exact h
theorem S_retN (h : SRel Q o (.rt (.im .none) e)) : SRel Q o (seqS (retN :: r) e) := by
  rw [seqS_cs]; exact h
theorem S_raise {C : Str} {x : Exc} (h : x = ⟨C, none⟩) : SRel Q (.ex x) (seqS (raiseS C :: r) e) := by
  subst h
  rw [seqS_cs]
  exact .iex ⟨e, rfl⟩
theorem S_raise1 {C f : Str} {a : ME} {d : D} {p : Op} (ha : a e = .ok p e1) (hz : fzO p e1 = some (d, e2)) : SRel Q (.ex ⟨C, some (f, d)⟩) (seqS (raiseS1 C f a :: r) e) := by
  rw [seqS_cs]
  unfold raiseS1
  rw [ha]
  simp only [Res.st, hz]
  exact .iex ⟨e2, rfl⟩
def asgk (g : MG) (r : List MS) (p : Op) (e1 : Sl) : SR := match g p e1 with
  | some e2 => seqS r e2
  | none => .bad
theorem S_asg {g : MG} {a : ME} (h : SRel Q o ((a e).st (asgk g r))) : SRel Q o (seqS (asgS g a :: r) e) := by
  rw [seqS_cs]
  unfold asgS
  rw [sr_bind]
  refine st_to (fun p e1 => ?_) h
  unfold asgk
  cases g p e1 <;> rfl
theorem asg_ok {g : MG} {p : Op} (hg : g p e = some e2) (hk : SRel Q o (seqS r e2)) : SRel Q o (asgk g r p e) := by unfold asgk; rw [hg]; exact hk
/-- what is stored gets a name -/
theorem asg_let {g : MG} {ea : α → Op} {E : α → Sl} {K : α → O τ} (x : α) (hg : ∀ x, g (ea x) e = some (E x)) (hk : ∀ x, SRel Q (K x) (seqS r (E x))) : SRel Q ((O.ok x).bind K) (asgk g r (ea x) e) := asg_ok (hg x) (hk x)
def asgTk (t : MT) (r : List MS) (p : Op) (e1 : Sl) : SR := match fzO p e1 with
  | some (d, e2) => (match t d e2 with
    | some e3 => seqS r e3
    | none => .bad)
  | none => .bad
theorem S_asgT {t : MT} {a : ME} (h : SRel Q o ((a e).st (asgTk t r))) : SRel Q o (seqS (asgT t a :: r) e) := by
  rw [seqS_cs]
  unfold asgT
  rw [sr_bind]
  refine st_to (fun p e1 => ?_) h
  unfold asgTk
  cases fzO p e1 with
  | none => rfl
  | some x => cases h : t x.1 x.2 <;> simp only [h] <;> rfl
theorem asgT_let {t : MT} {ea : α → Op} {d : α → D} {E : α → Sl} {K : α → O τ} (x : α) (hz : ∀ x, fzO (ea x) e = some (d x, e1)) (ht : ∀ x, t (d x) e1 = some (E x)) (hk : ∀ x, SRel Q (K x) (seqS r (E x))) : SRel Q ((O.ok x).bind K) (asgTk t r (ea x) e) := by
  unfold asgTk
  simp only [hz x, ht x]
  exact hk x
def park (gs : List MG) (r : List MS) (ps : List Op) (e1 : Sl) : SR := match parG gs ps e1 with
  | some e2 => seqS r e2
  | none => .bad
theorem S_par {gs : List MG} {ms : List ME} (h : SRel Q o ((argsP ms e).st (park gs r))) : SRel Q o (seqS (parS gs ms :: r) e) := by
  rw [seqS_cs]
  unfold parS
  rw [sr_bind]
  refine st_to (fun p e1 => ?_) h
  unfold park
  cases parG gs p e1 <;> rfl
theorem par_let {gs : List MG} {ops : α → List Op} {E : α → Sl} {K : α → O τ} (x : α) (hg : ∀ x, parG gs (ops x) e = some (E x)) (hk : ∀ x, SRel Q (K x) (seqS r (E x))) : SRel Q ((O.ok x).bind K) (park gs r (ops x) e) := by
  unfold park
  simp only [hg x]
  exact hk x
theorem S_expr {a : ME} (h : SRel Q o ((a e).st fun _ e1 => seqS r e1)) : SRel Q o (seqS (exprS a :: r) e) := by
  rw [seqS_cs]
  unfold exprS
  rw [sr_bind]
  exact h
def apS : List MS → List MS → List MS
  | [], r => r
  | a :: A, r => a :: apS A r
/-- a branch, and what follows in both -/
theorem S_ifC {t : ME} {A B : List MS} (h : SRel Q o ((t e).st fun p e1 => match tru p with | some true => seqS (apS A r) e1 | some false => seqS (apS B r) e1 | none => .bad)) : SRel Q o (seqS (ifS t (seqS A) (seqS B) :: r) e) := by
  rw [seqS_cs]
  unfold ifS
  rw [sr_bind]
  have app : ∀ (A : List MS) e, seqS (apS A r) e = (seqS A e).bind (seqS r) := by
    intro A
    induction A with
    | nil => intro e; rfl
    | cons a A ih =>
      intro e
      rw [apS, seqS_cs, seqS_cs]
      cases a e <;> try rfl
      exact ih _
  refine st_to (fun p e1 => ?_) h
  cases tru p with
  | none => rfl
  | some x => cases x <;> simp only [app]
/-- a branch that only stores: the state behind it -/
def Qj (I : σ → Sl → Prop) (s : σ) (r : SR) : Prop := ∃ e, r = .nx e ∧ I s e
theorem S_ifJ {t : ME} {A B : MS} {os : O σ} {K : σ → O τ} (I : σ → Sl → Prop) (h : SRel (Qj I) os ((t e).st fun p e1 => match tru p with | some true => A e1 | some false => B e1 | none => .bad)) (hk : ∀ s e, I s e → SRel Q (K s) (seqS r e)) : SRel Q (os.bind K) (seqS (ifS t A B :: r) e) := by
  rw [seqS_cs]
  have h : SRel (Qj I) os (ifS t A B e) := h
  cases os with
  | ok s =>
    obtain ⟨e', h1, h2⟩ := (h.gok : ∃ e', _ ∧ _)
    rw [h1]
    exact hk s e' h2
  | ex x =>
    obtain ⟨e', h1⟩ := h.gex
    exact .iex ⟨e', by rw [h1]; rfl⟩
  | un => exact .iun
/-! own lists -/
def mutk (i : Nat) (f : List D → List D → Option (D × List D)) (r : List MS) (ds : List D) (e1 : Sl) : SR := match gt e1 i with | some (.ol xs) => (match f xs ds with | some (d, ys) => seqS r (pt e1 i (some (.ol ys))) | none => .bad) | _ => .bad
theorem S_mut {i : Nat} {f : List D → List D → Option (D × List D)} {m : ME} (h : SRel Q o ((argsD [m] e).st (mutk i f r))) (hi : isOl (gt e i) = true) : SRel Q o (seqS (exprS (mutE i f [m]) :: r) e) := by
  rw [seqS_cs]
  unfold exprS mutE
  rw [hi]
  simp only [if_true]
  rw [st_bind, sr_bind]
  refine st_to (fun ds e1 => ?_) h
  unfold mutk
  cases gt e1 i with
  | none => rfl
  | some x => cases x with
    | ol xs => cases h : f xs ds <;> simp only [h] <;> rfl
    | _ => rfl
def appO (xs : List α) (x : α) : O (List α) := if xs.length < sizeMax then .ok (xs ++ [x]) else .un
theorem mut_app {f : α → D} {i : Nat} {xs : List α} {x : α} {E : List α → Sl} {K : List α → O τ} (hg : gt e i = some (.ol (xs.map f))) (hE : ∀ ys, pt e i (some (.ol (ys.map f))) = E ys) (hk : ∀ ys, SRel Q (K ys) (seqS r (E ys))) :
    SRel Q ((appO xs x).bind K) (mutk i (mtF .append) r [f x] e) := by
  unfold mutk
  rw [hg]
  unfold appO
  by_cases h : xs.length < sizeMax
  · have h2 : (xs.map f).length < sizeMax := by simpa using h
    rw [if_pos h]
    simp only [mtF, appF, h2, if_true]
    have := hk (xs ++ [x])
    rw [← hE, List.map_append] at this
    exact this
  · rw [if_neg h]; exact .iun
theorem mut_ext {f : α → D} {i : Nat} {xs zs : List α} {E : List α → Sl} {K : List α → O τ} (hg : gt e i = some (.ol (xs.map f))) (hE : ∀ ys, pt e i (some (.ol (ys.map f))) = E ys) (hk : ∀ ys, SRel Q (K ys) (seqS r (E ys))) :
    SRel Q ((catO xs zs).bind K) (mutk i (mtF .extend) r [eL f zs] e) := by
  unfold mutk
  rw [hg]
  unfold catO
  by_cases h : xs.length + zs.length ≤ sizeMax
  · have h2 : (xs.map f).length + (zs.map f).length ≤ sizeMax := by simpa using h
    rw [if_pos h]
    simp only [mtF, eL, extF, h2, if_true]
    have := hk (xs ++ zs)
    rw [← hE, List.map_append] at this
    exact this
  · rw [if_neg h]; exact .iun
theorem eraseIdx_map' {f : α → D} : ∀ {xs : List α} {n : Nat}, (xs.map f).eraseIdx n = (xs.eraseIdx n).map f
  | [], _ => by simp
  | x :: xs, 0 => by simp
  | x :: xs, n + 1 => by simp [eraseIdx_map' (xs := xs) (n := n)]
/-- x = xs.pop(i) -/
theorem S_pop {i j : Nat} {m : ME} {f : α → D} {xs : List α} {ix : Int} {g : MG} {E : α × List α → Sl} {K : α × List α → O τ} (hi : isOl (gt e i) = true) (hm : m e = .ok (.im (.int ix)) e1) (hg : gt e1 i = some (.ol (xs.map f)))
    (hE : ∀ p : α × List α, g (.im (f p.1)) (pt e1 i (some (.ol (p.2.map f)))) = some (E p)) (hk : ∀ p, SRel Q (K p) (seqS r (E p))) : SRel Q ((popO xs ix).bind K) (seqS (asgS g (mutE i (mtF .pop) [m]) :: r) e) := by
  refine S_asg ?_
  unfold mutE
  rw [hi]
  have a1 : argsD [m] e = .ok [.int ix] e1 := pd_cons hm rfl rfl
  simp only [if_true, a1, Res.bind, hg, mtF, popF]
  unfold popO
  by_cases hb : (-(2 ^ 62) ≤ ix ∧ ix < 2 ^ 62)
  · rw [if_pos hb]
    have hb' : (decide (-(2 ^ 62) ≤ ix) && decide (ix < 2 ^ 62)) = true := by
      rw [Bool.and_eq_true]; exact ⟨decide_eq_true hb.1, decide_eq_true hb.2⟩
    have l : (xs.map f).length = xs.length := List.length_map ..
    simp only [hb', if_true, l]
    cases h1 : ixD xs.length ix with
    | none => exact .iun
    | some n =>
      cases h2 : xs[n]? with
      | none => simp only [h2]; exact .iun
      | some a =>
        simp only [h2, List.getElem?_map, Option.map, Res.st]
        have e2 : (xs.map f).eraseIdx n = (xs.eraseIdx n).map f := eraseIdx_map'
        rw [e2]
        exact asg_ok (hE (a, xs.eraseIdx n)) (hk (a, xs.eraseIdx n))
  · rw [if_neg hb]; exact .iun
def setik (i : Nat) (f : List D → D → D → Option (List D)) (ix : ME) (r : List MS) (p : Op) (e1 : Sl) : SR := match fzO p e1 with
  | some (d, e2) => if isOl (gt e2 i) then (ix e2).st fun p e3 => (match vw p e3, gt e3 i with
    | some k, some (.ol xs) => (match f xs k d with
      | some ys => seqS r (pt e3 i (some (.ol ys)))
      | none => .bad)
    | _, _ => .bad) else .bad
  | none => .bad
theorem S_seti {i : Nat} {f : List D → D → D → Option (List D)} {ix v : ME} (h : SRel Q o ((v e).st (setik i f ix r))) : SRel Q o (seqS (setiS i f ix v :: r) e) := by
  rw [seqS_cs]
  unfold setiS
  rw [sr_bind]
  refine st_to (fun p e1 => ?_) h
  unfold setik
  cases fzO p e1 with
  | none => rfl
  | some x =>
    simp only
    cases isOl (gt x.2 i) with
    | false => rfl
    | true =>
      simp only [if_true]
      rw [sr_bind]
      congr 1
      funext p e3
      cases vw p e3 with
      | none => rfl
      | some y => cases gt e3 i with
        | none => rfl
        | some z => cases z with
          | ol xs => cases h : f xs y x.1 <;> simp only [h] <;> rfl
          | _ => rfl
theorem seti_ok {f : α → D} {i : Nat} {ix : ME} {p q : Op} {xs : List α} {x : α} {j : Int} {E : List α → Sl} {K : List α → O τ} (hz : fzO p e = some (f x, e1)) (hi : isOl (gt e1 i) = true) (hx : ix e1 = .ok q e2) (hv : vw q e2 = some (.int j)) (hg : gt e2 i = some (.ol (xs.map f))) (hE : ∀ ys, pt e2 i (some (.ol (ys.map f))) = E ys) (hk : ∀ ys, SRel Q (K ys) (seqS r (E ys))) :
    SRel Q ((setO xs j x).bind K) (setik i setF ix r p e) := by
  unfold setik
  rw [hz]
  simp only [hi, if_true, hx, Res.st, hv, hg, setF]
  unfold setO
  have l : (xs.map f).length = xs.length := List.length_map ..
  rw [l]
  cases h1 : ixD xs.length j with
  | none => exact .iun
  | some n =>
    simp only [Option.map]
    have := hk (xs.set n x)
    rw [← hE, List.map_set] at this
    exact this
end
end Ev
end
section
set_option maxHeartbeats 1000000
/-! TyD: comprehensions, loops, lambdas, ends of defs. -/
namespace Ev
open PySem
variable {α β γ δ σ τ ρ : Type}
theorem compO_true {g : α → O β} : ∀ {xs : List α}, compO (fun _ => .ok true) g xs = mapO g xs
  | [] => rfl
  | x :: xs => by
    show (O.ok true).noe.bind _ = _
    simp only [O.noe_ok, O.bind_ok, mapO, compO_true (xs := xs)]
theorem compO_fil {p : α → Bool} {g : α → O β} : ∀ {xs : List α}, compO (fun x => .ok (p x)) g xs = mapO g (xs.filter p)
  | [] => rfl
  | x :: xs => by
    show (O.ok (p x)).noe.bind _ = _
    simp only [O.noe_ok, O.bind_ok]
    cases h : p x
    · rw [List.filter_cons_of_neg (by simp [h])]; exact compO_fil
    · rw [List.filter_cons_of_pos h]; simp only [mapO, compO_fil (xs := xs)]
theorem mapO_map {g : α → β} : ∀ {xs : List α}, mapO (fun x => .ok (g x)) xs = .ok (xs.map g)
  | [] => rfl
  | x :: xs => by simp only [mapO, O.noe_ok, O.bind_ok, mapO_map (xs := xs), List.map_cons]
theorem mapO_ok {g : α → O β} {f : α → β} : ∀ {xs : List α}, (∀ x ∈ xs, g x = .ok (f x)) → mapO g xs = .ok (xs.map f)
  | [], _ => rfl
  | x :: xs, h => by simp only [mapO, h x List.mem_cons_self, O.noe_ok, O.bind_ok, mapO_ok (xs := xs) fun y hy => h y (List.mem_cons_of_mem _ hy), List.map_cons]
theorem compO_ok {p : α → O Bool} {g : α → O β} {q : α → Bool} {f : α → β} : ∀ {xs : List α}, (∀ x ∈ xs, p x = .ok (q x)) → (∀ x ∈ xs, q x = true → g x = .ok (f x)) → compO p g xs = .ok ((xs.filter q).map f)
  | [], _, _ => rfl
  | x :: xs, h, h' => by
    have ih := compO_ok (xs := xs) (fun y hy => h y (List.mem_cons_of_mem _ hy)) (fun y hy => h' y (List.mem_cons_of_mem _ hy))
    show (p x).noe.bind _ = _
    rw [h x List.mem_cons_self]
    simp only [O.noe_ok, O.bind_ok]
    cases e : q x
    · rw [List.filter_cons_of_neg (by simp [e])]; exact ih
    · rw [List.filter_cons_of_pos e]; simp only [h' x List.mem_cons_self e, O.noe_ok, O.bind_ok, ih, List.map_cons]
theorem szO_ok {xs : List α} (h : xs.length ≤ sizeMax) : szO xs = .ok xs := if_pos h
theorem catO_ok {xs ys : List α} (h : xs.length + ys.length ≤ sizeMax) : catO xs ys = .ok (xs ++ ys) := if_pos h
theorem appO_ok {xs : List α} {x : α} (h : xs.length < sizeMax) : appO xs x = .ok (xs ++ [x]) := if_pos h
theorem R0.of {ea : α → Op} {e e' : Sl} {o : O α} {m : ME} (h : SRel (fun v r => r = .rt (ea v) e') o ((m e).st fun p e1 => .rt p e1)) : R0 ea e' o (m e) := by
  cases o with
  | ok v =>
    have h : ((m e).st fun p e1 => SR.rt p e1) = .rt (ea v) e' := h.gok
    refine .iok ?_
    show m e = _
    cases hm : m e with
    | ok p e1 => rw [hm] at h; cases h; rfl
    | er x e1 => rw [hm] at h; cases h
    | bad => rw [hm] at h; cases h
  | ex x =>
    obtain ⟨e2, h⟩ := h.gex
    cases hm : m e with
    | ok p e1 => rw [hm] at h; cases h
    | er y e1 => rw [hm] at h; cases h; exact .iex ⟨_, rfl⟩
    | bad => rw [hm] at h; cases h
  | un => (first | trivial | exact .iun)
theorem R0.pure {ea : α → Op} {e e' : Sl} {v : α} {m : ME} (h : m e = .ok (ea v) e') : R0 ea e' (.ok v) (m e) := .iok h
theorem rt_ok {ea : α → Op} {e : Sl} {v : α} : SRel (fun v r => r = .rt (ea v) e) (.ok v) (.rt (ea v) e) := .iok rfl
/-! ### what is walked -/
section
variable {Q : τ → SR → Prop} {o : O τ} {e e1 e2 e3 : Sl}
def it1k (fx : List Nat) (F : List D → Option (List D)) (k : Itm → Sl → SR) (p : Op) (e1 : Sl) : SR := match hideO fx p e1 with
  | some (d, hs, e2) => (match F [d] with
    | some xs => k ⟨xs, hs⟩ e2
    | none => .bad)
  | none => .bad
variable {k : Itm → Sl → SR}
theorem it1_st {fx : List Nat} {F : List D → Option (List D)} {m : ME} (h : SRel Q o ((m e).st (it1k fx F k))) : SRel Q o ((itE fx F [m] e).st k) := by
  unfold itE argsI
  rw [st_bind, st_bind]
  refine st_to (fun p e1 => ?_) h
  unfold it1k
  cases hideO fx p e1 with
  | none => rfl
  | some x =>
    obtain ⟨d, hs, e2⟩ := x
    simp only [argsI, Res.bind, Res.st, List.append_nil]
    cases F [d] <;> rfl
theorem it1_ok {fx : List Nat} {F : List D → Option (List D)} {p : Op} {d : D} {xs : List D} (hz : hideO fx p e = some (d, [], e2)) (hF : F [d] = some xs) (hk : SRel Q o (k ⟨xs, []⟩ e2)) : SRel Q o (it1k fx F k p e) := by
  unfold it1k
  simp only [hz, hF]
  exact hk
theorem seq_T {f : α → D} {xs : List α} : seqF [eT f xs] = some (xs.map f) := rfl
theorem seq_L {f : α → D} {xs : List α} : seqF [eL f xs] = some (xs.map f) := rfl
theorem enm_map {f : α → D} : ∀ {xs : List α} {i : Int}, enumI i (xs.map f) = (enm i xs).map (eU (hC eI (h1 f)))
  | [], _ => rfl
  | x :: xs, i => by simp only [List.map_cons, enumI, enm, enm_map (xs := xs) (i := i + 1)]; rfl
theorem enum_T {f : α → D} {xs : List α} : enumF [eT f xs] = some ((enm 0 xs).map (eU (hC eI (h1 f)))) := by simp only [eT, enumF, enm_map]
theorem enum_L {f : α → D} {xs : List α} : enumF [eL f xs] = some ((enm 0 xs).map (eU (hC eI (h1 f)))) := by simp only [eL, enumF, enm_map]
theorem rangeI_map : ∀ {n : Nat} {a : Int}, rangeI a n = ((List.range n).map fun (i : Nat) => a + (i : Int)).map eI
  | 0, _ => rfl
  | n + 1, a => by
    rw [rangeI, rangeI_map (n := n) (a := a + 1), List.range_succ_eq_map]
    simp only [List.map_cons, List.map_map]
    refine List.cons_eq_cons.mpr ⟨by simp [eI], List.map_congr_left fun i _ => ?_⟩
    simp only [Function.comp, eI]
    congr 1
    show a + 1 + (i : Int) = a + ((i + 1 : Nat) : Int)
    omega
theorem rangeI_rng {a b : Int} : rangeI a (b - a).toNat = (rng a b).map eI := by unfold rng; rw [rangeI_map]
theorem rangeI_rng0 {b : Int} : rangeI 0 b.toNat = (rng 0 b).map eI := by rw [← rangeI_rng]; simp
theorem it1_rng {fx : List Nat} {n : Int} {K : List Int → O τ} (hk : ∀ xs : List Int, SRel Q (K xs) (k ⟨xs.map eI, []⟩ e)) : SRel Q ((rng1O n).bind K) (it1k fx rangeF1 k (.im (.int n)) e) := by
  unfold it1k rng1O
  simp only [hideO, fzO, Option.map, rangeF1]
  cases h : rngB n
  · (first | trivial | exact .iun)
  · simp only [if_true]
    rw [rangeI_rng0]
    exact hk _
def it2f (fx : List Nat) (F : List D → Option (List D)) (k : Itm → Sl → SR) (d : D) (hs : List (Nat × Sv)) (q : Op) (e3 : Sl) : SR := match hideO fx q e3 with
  | some (d', hs', e4) => (match F [d, d'] with
    | some xs => k ⟨xs, hs ++ hs'⟩ e4
    | none => .bad)
  | none => .bad
def it2k (fx : List Nat) (F : List D → Option (List D)) (m : ME) (k : Itm → Sl → SR) (p : Op) (e1 : Sl) : SR := match hideO fx p e1 with
  | some (d, hs, e2) => (m e2).st (it2f fx F k d hs)
  | none => .bad
theorem it2_st {fx : List Nat} {F : List D → Option (List D)} {m m' : ME} (h : SRel Q o ((m e).st (it2k fx F m' k))) : SRel Q o ((itE fx F [m, m'] e).st k) := by
  unfold itE argsI
  rw [st_bind, st_bind]
  refine st_to (fun p e1 => ?_) h
  unfold it2k
  cases hideO fx p e1 with
  | none => rfl
  | some x =>
    obtain ⟨d, hs, e2⟩ := x
    simp only [argsI]
    cases m' e2 with
    | er x e3 => rfl
    | bad => rfl
    | ok q e3 =>
      simp only [Res.bind, Res.st, it2f]
      cases hideO fx q e3 with
      | none => rfl
      | some y =>
        obtain ⟨d', hs', e4⟩ := y
        simp only [Res.bind, List.append_nil]
        cases F [d, d'] <;> rfl
/-- the second's turn -/
theorem it2_go {fx : List Nat} {F : List D → Option (List D)} {m : ME} {p : Op} {d : D} (hz : hideO fx p e = some (d, [], e2)) (h : SRel Q o ((m e2).st (it2f fx F k d []))) : SRel Q o (it2k fx F m k p e) := by
  unfold it2k
  simp only [hz]
  exact h
theorem it2_ok {fx : List Nat} {F : List D → Option (List D)} {q : Op} {d d' : D} {xs : List D} (hz : hideO fx q e = some (d', [], e2)) (hF : F [d, d'] = some xs) (hk : SRel Q o (k ⟨xs, []⟩ e2)) : SRel Q o (it2f fx F k d [] q e) := by
  unfold it2f
  simp only [hz, hF]
  exact hk
theorem it2_rng {fx : List Nat} {a b : Int} {K : List Int → O τ} (hk : ∀ xs : List Int, SRel Q (K xs) (k ⟨xs.map eI, []⟩ e)) : SRel Q ((rng2O a b).bind K) (it2f fx rangeF2 k (.int a) [] (.im (.int b)) e) := by
  unfold rng2O it2f
  simp only [hideO, fzO, Option.map, rangeF2, List.append_nil]
  cases h : rngB a && rngB b
  · (first | trivial | exact .iun)
  · simp only [if_true]
    have := hk (rng a b)
    unfold rng at this
    rw [← rangeI_map] at this
    exact this
theorem zip_map {f : α → D} {g : β → D} : ∀ {xs : List α} {ys : List β}, zipI (xs.map f) (ys.map g) = (xs.zip ys).map (eU (hC f (h1 g)))
  | [], _ => by simp [zipI]
  | _ :: _, [] => by simp [zipI]
  | x :: xs, y :: ys => by simp only [List.map_cons, zipI, List.zip_cons_cons, zip_map (xs := xs) (ys := ys)]; rfl
theorem zip_T {f : α → D} {g : β → D} {xs : List α} {ys : List β} : zipF [eT f xs, eT g ys] = some ((xs.zip ys).map (eU (hC f (h1 g)))) := by simp only [eT, zipF, zip_map]
theorem zip_L {f : α → D} {g : β → D} {xs : List α} {ys : List β} : zipF [eL f xs, eL g ys] = some ((xs.zip ys).map (eU (hC f (h1 g)))) := by simp only [eL, zipF, zip_map]
end
/-- list(range(..)) -/
theorem rngL_M {Q : τ → SR → Prop} {e : Sl} {k : Op → Sl → SR} {a b : Int} {os : List Op} {K : List Int → O τ} (hv : vws os e = some [.int a, .int b]) (hk : ∀ xs : List Int, SRel Q (K xs) (k (.tl (xs.map eI)) e)) : SRel Q ((rngLO a b).bind K) ((bltfin (rngD false) os e).st k) := by
  unfold bltfin rngLO
  simp only [hv, rngD]
  cases h : rngOk a b
  · (first | trivial | exact .iun)
  · have := hk (rng a b)
    unfold rng at this
    rw [← rangeI_map] at this
    exact this
theorem rngL_M1 {Q : τ → SR → Prop} {e : Sl} {k : Op → Sl → SR} {b : Int} {os : List Op} {K : List Int → O τ} (hv : vws os e = some [.int b]) (hk : ∀ xs : List Int, SRel Q (K xs) (k (.tl (xs.map eI)) e)) : SRel Q ((rngLO 0 b).bind K) ((bltfin (rngD false) os e).st k) := by
  unfold bltfin rngLO
  simp only [hv, rngD]
  cases h : rngOk 0 b
  · (first | trivial | exact .iun)
  · have := hk (rng 0 b)
    unfold rng at this
    rw [← rangeI_map] at this
    exact this
theorem rngT_M {Q : τ → SR → Prop} {e : Sl} {k : Op → Sl → SR} {a b : Int} {os : List Op} {K : List Int → O τ} (hv : vws os e = some [.int a, .int b]) (hk : ∀ xs : List Int, SRel Q (K xs) (k (.im (eT eI xs)) e)) : SRel Q ((rngLO a b).bind K) ((bltfin (rngD true) os e).st k) := by
  unfold bltfin rngLO
  simp only [hv, rngD]
  cases h : rngOk a b
  · (first | trivial | exact .iun)
  · have := hk (rng a b)
    unfold rng eT at this
    rw [← rangeI_map] at this
    exact this
theorem rngT_M1 {Q : τ → SR → Prop} {e : Sl} {k : Op → Sl → SR} {b : Int} {os : List Op} {K : List Int → O τ} (hv : vws os e = some [.int b]) (hk : ∀ xs : List Int, SRel Q (K xs) (k (.im (eT eI xs)) e)) : SRel Q ((rngLO 0 b).bind K) ((bltfin (rngD true) os e).st k) := by
  unfold bltfin rngLO
  simp only [hv, rngD]
  cases h : rngOk 0 b
  · (first | trivial | exact .iun)
  · have := hk (rng 0 b)
    unfold rng eT at this
    rw [← rangeI_map] at this
    exact this
/-! ### comprehensions -/
def compk (own : List Nat) (tg : MT) (cond elt : ME) (k : Op → Sl → SR) (m : Itm) (e1 : Sl) : SR := ((if imOnly e1 own then (compL own tg cond elt m.items [] (wipeS e1 own)).bind fun acc e2 => .ok (.tl acc) (unhS m.hid (restS e1 e2 own)) else .bad) : Res Op).st k
section
variable {Q : τ → SR → Prop} {o : O τ} {e e1 e2 e3 : Sl} {k : Op → Sl → SR} {own : List Nat} {tg : MT} {cond elt : ME}
theorem comp_st {it : MI} (h : SRel Q o ((it e).st (compk own tg cond elt k))) : SRel Q o ((compE own it tg cond elt e).st k) := by
  unfold compE
  rw [st_bind]
  exact h
theorem compL_O {en : α → D} {p : α → O Bool} {g : α → O β} {eb : β → Op} {fb : β → D} {w : Sl} {E2 E3 E4 : α → Sl}
    (ht : ∀ x, tg (en x) w = some (E2 x)) (hc : ∀ x, R0 iB (E2 x) (p x) (cond (E2 x))) (he : ∀ x, R0 eb (E3 x) (g x) (elt (E2 x))) (hf : ∀ x v, fzO (eb v) (E3 x) = some (fb v, E4 x)) (hw : ∀ x, wipeS (E4 x) own = w) (hw2 : ∀ x, wipeS (E2 x) own = w) :
    ∀ (xs : List α) (acc : List D), match compO p g xs with
      | .ok ys => acc.length + ys.length ≤ sizeMax → compL own tg cond elt (xs.map en) acc w = .ok (acc ++ ys.map fb) w
      | .ex _ => False
      | .un => True
  | [], acc => by intro _; simp [compL]
  | x :: xs, acc => by
    show match ((p x).noe.bind _ : O (List β)) with | .ok ys => _ | .ex _ => _ | .un => _
    have h1 := hc x
    cases hp : p x with
    | un => (first | trivial | exact .iun)
    | ex _ => (first | trivial | exact .iun)
    | ok c =>
      rw [hp] at h1
      have h1 : cond (E2 x) = .ok (iB c) (E2 x) := h1.gok
      simp only [O.noe_ok, O.bind_ok]
      cases c with
      | false =>
        have ih := compL_O ht hc he hf hw hw2 xs acc
        simp only
        cases hr : compO p g xs with
        | un => (first | trivial | exact .iun)
        | ex _ => rw [hr] at ih; exact ih
        | ok ys =>
          rw [hr] at ih
          intro hl
          have ih := ih hl
          show compL own tg cond elt (en x :: xs.map en) acc w = _
          unfold compL
          simp only [ht x, h1, noer, Res.bind, iB, eB, tru, hw2 x, ih]
      | true =>
        have h2 := he x
        simp only
        cases hg : g x with
        | un => (first | trivial | exact .iun)
        | ex _ => (first | trivial | exact .iun)
        | ok y =>
          rw [hg] at h2
          have h2 : elt (E2 x) = .ok (eb y) (E3 x) := h2.gok
          have ih := compL_O ht hc he hf hw hw2 xs (acc ++ [fb y])
          simp only [O.noe_ok, O.bind_ok]
          cases hr : compO p g xs with
          | un => (first | trivial | exact .iun)
          | ex _ => rw [hr] at ih; exact ih
          | ok ys =>
            rw [hr] at ih
            simp only [O.bind_ok]
            intro hl
            have hl' : (acc ++ [fb y]).length + ys.length ≤ sizeMax := by simp only [List.length_append, List.length_cons, List.length_nil] at hl ⊢; omega
            have ih := ih hl'
            have l1 : acc.length < sizeMax := by simp only [List.length_cons] at hl; omega
            show compL own tg cond elt (en x :: xs.map en) acc w = _
            unfold compL
            simp only [ht x, h1, noer, Res.bind, iB, eB, tru, h2, hf x y, l1, if_true, hw x, ih, List.append_assoc, List.cons_append, List.nil_append, List.map_cons]
theorem comp_M {xs : List α} {en : α → D} {p : α → O Bool} {g : α → O β} {eb : β → Op} {fb : β → D} {E2 E3 E4 : α → Sl} {K : List β → O τ}
    (him : imOnly e own = true) (ht : ∀ x, tg (en x) (wipeS e own) = some (E2 x)) (hc : ∀ x, R0 iB (E2 x) (p x) (cond (E2 x))) (he : ∀ x, R0 eb (E3 x) (g x) (elt (E2 x))) (hf : ∀ x v, fzO (eb v) (E3 x) = some (fb v, E4 x))
    (hw : ∀ x, wipeS (E4 x) own = wipeS e own) (hw2 : ∀ x, wipeS (E2 x) own = wipeS e own) (hr : restS e (wipeS e own) own = e) (hk : ∀ ys, SRel Q (K ys) (k (.tl (ys.map fb)) e)) :
    SRel Q ((compO p g xs).bind fun ys => (szO ys).bind K) (compk own tg cond elt k ⟨xs.map en, []⟩ e) := by
  have := compL_O (own := own) (cond := cond) (elt := elt) (fb := fb) ht hc he hf hw hw2 xs []
  unfold compk
  simp only [him, if_true]
  cases ho : compO p g xs with
  | un => (first | trivial | exact .iun)
  | ex _ => rw [ho] at this; exact this.elim
  | ok ys =>
    rw [ho] at this
    simp only [O.bind_ok]
    unfold szO
    by_cases hl : ys.length ≤ sizeMax
    · rw [if_pos hl]
      have := this (by simpa using hl)
      rw [this]
      simp only [Res.bind, unhS, hr, List.nil_append, Res.st]
      exact hk ys
    · rw [if_neg hl]; (first | trivial | exact .iun)
/-- no condition, each told at once -/
theorem comp_map {xs : List α} {en : α → D} {g : α → β} {eb : β → Op} {fb : β → D} {E2 E3 E4 : α → Sl} {K : List β → O τ}
    (him : imOnly e own = true) (ht : ∀ x, tg (en x) (wipeS e own) = some (E2 x)) (he : ∀ x, elt (E2 x) = .ok (eb (g x)) (E3 x)) (hf : ∀ x v, fzO (eb v) (E3 x) = some (fb v, E4 x))
    (hw : ∀ x, wipeS (E4 x) own = wipeS e own) (hw2 : ∀ x, wipeS (E2 x) own = wipeS e own) (hr : restS e (wipeS e own) own = e) (hk : ∀ ys, SRel Q (K ys) (k (.tl (ys.map fb)) e)) :
    SRel Q ((szO (xs.map g)).bind K) (compk own tg (condE []) elt k ⟨xs.map en, []⟩ e) := by
  have := comp_M (xs := xs) (K := K) (k := k) (cond := condE []) (p := fun _ => .ok true) (g := fun x => .ok (g x)) him ht (fun _ => .iok rfl) (fun x => R0.pure (he x)) hf hw hw2 hr hk
  rw [compO_true, mapO_map] at this
  exact this
theorem comp_mapM {xs : List α} {en : α → D} {g : α → O β} {eb : β → Op} {fb : β → D} {E2 E3 E4 : α → Sl} {K : List β → O τ}
    (him : imOnly e own = true) (ht : ∀ x, tg (en x) (wipeS e own) = some (E2 x)) (he : ∀ x, R0 eb (E3 x) (g x) (elt (E2 x))) (hf : ∀ x v, fzO (eb v) (E3 x) = some (fb v, E4 x))
    (hw : ∀ x, wipeS (E4 x) own = wipeS e own) (hw2 : ∀ x, wipeS (E2 x) own = wipeS e own) (hr : restS e (wipeS e own) own = e) (hk : ∀ ys, SRel Q (K ys) (k (.tl (ys.map fb)) e)) :
    SRel Q ((mapO g xs).bind fun ys => (szO ys).bind K) (compk own tg (condE []) elt k ⟨xs.map en, []⟩ e) := by
  have := comp_M (xs := xs) (K := K) (k := k) (cond := condE []) (p := fun _ => .ok true) (g := g) him ht (fun _ => .iok rfl) he hf hw hw2 hr hk
  rw [compO_true] at this
  exact this
theorem comp_fil {xs : List α} {en : α → D} {p : α → Bool} {g : α → β} {eb : β → Op} {fb : β → D} {E2 E3 E4 : α → Sl} {K : List β → O τ}
    (him : imOnly e own = true) (ht : ∀ x, tg (en x) (wipeS e own) = some (E2 x)) (hc : ∀ x, cond (E2 x) = .ok (.im (.bool (p x))) (E2 x)) (he : ∀ x, elt (E2 x) = .ok (eb (g x)) (E3 x)) (hf : ∀ x v, fzO (eb v) (E3 x) = some (fb v, E4 x))
    (hw : ∀ x, wipeS (E4 x) own = wipeS e own) (hw2 : ∀ x, wipeS (E2 x) own = wipeS e own) (hr : restS e (wipeS e own) own = e) (hk : ∀ ys, SRel Q (K ys) (k (.tl (ys.map fb)) e)) :
    SRel Q ((szO ((xs.filter p).map g)).bind K) (compk own tg (condE [cond]) elt k ⟨xs.map en, []⟩ e) := by
  have := comp_M (xs := xs) (K := K) (k := k) (cond := condE [cond]) (p := fun x => .ok (p x)) (g := fun x => .ok (g x)) him ht (fun x => .iok (hc x)) (fun x => R0.pure (he x)) hf hw hw2 hr hk
  rw [compO_fil, mapO_map] at this
  exact this
theorem comp_filM {xs : List α} {en : α → D} {p : α → Bool} {g : α → O β} {eb : β → Op} {fb : β → D} {E2 E3 E4 : α → Sl} {K : List β → O τ}
    (him : imOnly e own = true) (ht : ∀ x, tg (en x) (wipeS e own) = some (E2 x)) (hc : ∀ x, cond (E2 x) = .ok (.im (.bool (p x))) (E2 x)) (he : ∀ x, R0 eb (E3 x) (g x) (elt (E2 x))) (hf : ∀ x v, fzO (eb v) (E3 x) = some (fb v, E4 x))
    (hw : ∀ x, wipeS (E4 x) own = wipeS e own) (hw2 : ∀ x, wipeS (E2 x) own = wipeS e own) (hr : restS e (wipeS e own) own = e) (hk : ∀ ys, SRel Q (K ys) (k (.tl (ys.map fb)) e)) :
    SRel Q ((mapO g (xs.filter p)).bind fun ys => (szO ys).bind K) (compk own tg (condE [cond]) elt k ⟨xs.map en, []⟩ e) := by
  have := comp_M (xs := xs) (K := K) (k := k) (cond := condE [cond]) (p := fun x => .ok (p x)) (g := g) him ht (fun x => .iok (hc x)) he hf hw hw2 hr hk
  rw [compO_fil] at this
  exact this
theorem comp_filMM {xs : List α} {en : α → D} {p : α → O Bool} {g : α → O β} {eb : β → Op} {fb : β → D} {E2 E3 E4 : α → Sl} {K : List β → O τ}
    (him : imOnly e own = true) (ht : ∀ x, tg (en x) (wipeS e own) = some (E2 x)) (hc : ∀ x, R0 iB (E2 x) (p x) (cond (E2 x))) (he : ∀ x, R0 eb (E3 x) (g x) (elt (E2 x))) (hf : ∀ x v, fzO (eb v) (E3 x) = some (fb v, E4 x))
    (hw : ∀ x, wipeS (E4 x) own = wipeS e own) (hw2 : ∀ x, wipeS (E2 x) own = wipeS e own) (hr : restS e (wipeS e own) own = e) (hk : ∀ ys, SRel Q (K ys) (k (.tl (ys.map fb)) e)) :
    SRel Q ((compO p g xs).bind fun ys => (szO ys).bind K) (compk own tg (condE [cond]) elt k ⟨xs.map en, []⟩ e) := comp_M (cond := condE [cond]) him ht hc he hf hw hw2 hr hk
/-- with a state that the turns change -/
def mapH (g : α → σ → O (β × σ)) : List α → σ → O (List β × σ)
  | [], s => .ok ([], s)
  | x :: xs, s => (g x s).noe.bind fun p => (mapH g xs p.2).bind fun q => .ok (p.1 :: q.1, q.2)
inductive RH (enc : α → Op) (E : σ → Sl) : O (α × σ) → Res Op → Prop
  | iok {v : α × σ} {r : Res Op} (h : r = .ok (enc v.1) (E v.2)) : RH enc E (.ok v) r
  | iex {x : Exc} {r : Res Op} (h : ∃ e1, r = .er x e1) : RH enc E (.ex x) r
  | iun {r : Res Op} : RH enc E .un r
theorem RH.gok {enc : α → Op} {E : σ → Sl} {v : α × σ} {r : Res Op} (h : RH enc E (.ok v) r) : r = .ok (enc v.1) (E v.2) := by cases h; assumption
theorem RH.of {ea : α → Op} {E : σ → Sl} {o : O (α × σ)} {m : ME} (h : SRel (fun (v : α × σ) r => r = .rt (ea v.1) (E v.2)) o ((m e).st fun p e1 => .rt p e1)) : RH ea E o (m e) := by
  cases o with
  | ok v =>
    have h : ((m e).st fun p e1 => SR.rt p e1) = .rt (ea v.1) (E v.2) := h.gok
    refine .iok ?_
    show m e = _
    cases hm : m e with
    | ok p e1 => rw [hm] at h; cases h; rfl
    | er x e1 => rw [hm] at h; cases h
    | bad => rw [hm] at h; cases h
  | ex x =>
    obtain ⟨e2, h⟩ := h.gex
    cases hm : m e with
    | ok p e1 => rw [hm] at h; cases h
    | er y e1 => rw [hm] at h; cases h; exact .iex ⟨_, rfl⟩
    | bad => rw [hm] at h; cases h
  | un => (first | trivial | exact .iun)
theorem compL_H {en : α → D} {g : α → σ → O (β × σ)} {eb : β → Op} {fb : β → D} {W : σ → Sl} {E2 E3 E4 : α → σ → Sl}
    (ht : ∀ x h, tg (en x) (W h) = some (E2 x h)) (he : ∀ x h, RH eb (E3 x) (g x h) (elt (E2 x h))) (hf : ∀ x v h, fzO (eb v) (E3 x h) = some (fb v, E4 x h)) (hw : ∀ x h, wipeS (E4 x h) own = W h) :
    ∀ (xs : List α) (acc : List D) (h : σ), match mapH g xs h with
      | .ok q => acc.length + q.1.length ≤ sizeMax → compL own tg (condE []) elt (xs.map en) acc (W h) = .ok (acc ++ q.1.map fb) (W q.2)
      | .ex _ => False
      | .un => True
  | [], acc, h => by intro _; simp [compL]
  | x :: xs, acc, h => by
    show match ((g x h).noe.bind _ : O (List β × σ)) with | .ok q => _ | .ex _ => _ | .un => _
    have h2 := he x h
    cases hg : g x h with
    | un => (first | trivial | exact .iun)
    | ex _ => (first | trivial | exact .iun)
    | ok p =>
      rw [hg] at h2
      have h2 : elt (E2 x h) = .ok (eb p.1) (E3 x p.2) := h2.gok
      have ih := compL_H ht he hf hw xs (acc ++ [fb p.1]) p.2
      simp only [O.noe_ok, O.bind_ok]
      cases hr : mapH g xs p.2 with
      | un => (first | trivial | exact .iun)
      | ex _ => rw [hr] at ih; exact ih
      | ok q =>
        rw [hr] at ih
        simp only [O.bind_ok]
        intro hl
        have hl' : (acc ++ [fb p.1]).length + q.1.length ≤ sizeMax := by simp only [List.length_append, List.length_cons, List.length_nil] at hl ⊢; omega
        have ih := ih hl'
        have l1 : acc.length < sizeMax := by simp only [List.length_cons] at hl; omega
        show compL own tg (condE []) elt (en x :: xs.map en) acc (W h) = _
        unfold compL
        simp only [ht x, condE, noer, Res.bind, tru, h2, hf x p.1 p.2, l1, if_true, hw x, List.append_assoc, List.cons_append, List.nil_append, List.map_cons]
        simp only [condE, List.append_assoc, List.cons_append, List.nil_append] at ih
        exact ih
theorem comp_H {xs : List α} {en : α → D} {g : α → σ → O (β × σ)} {eb : β → Op} {fb : β → D} {E : σ → Sl} {E2 E3 E4 : α → σ → Sl} {K : List β × σ → O τ} (h0 : σ)
    (hE : e = E h0) (him : imOnly e own = true) (ht : ∀ x h, tg (en x) (wipeS (E h) own) = some (E2 x h)) (he : ∀ x h, RH eb (E3 x) (g x h) (elt (E2 x h))) (hf : ∀ x v h, fzO (eb v) (E3 x h) = some (fb v, E4 x h))
    (hw : ∀ x h, wipeS (E4 x h) own = wipeS (E h) own) (hr : ∀ h, restS (E h0) (wipeS (E h) own) own = E h) (hk : ∀ q, SRel Q (K q) (k (.tl (q.1.map fb)) (E q.2))) :
    SRel Q ((mapH g xs h0).bind fun q => (szO q.1).bind fun ys => K (ys, q.2)) (compk own tg (condE []) elt k ⟨xs.map en, []⟩ e) := by
  subst hE
  have := compL_H (own := own) (elt := elt) (fb := fb) (W := fun h => wipeS (E h) own) ht he hf hw xs [] h0
  unfold compk
  simp only [him, if_true]
  cases ho : mapH g xs h0 with
  | un => (first | trivial | exact .iun)
  | ex _ => rw [ho] at this; exact this.elim
  | ok q =>
    rw [ho] at this
    simp only [O.bind_ok]
    unfold szO
    by_cases hl : q.1.length ≤ sizeMax
    · rw [if_pos hl]
      have := this (by simpa using hl)
      rw [this]
      simp only [Res.bind, unhS, hr, List.nil_append, Res.st]
      exact hk (q.1, q.2)
    · rw [if_neg hl]; (first | trivial | exact .iun)
end
/-! ### loops -/
inductive Fl (σ ρ : Type) where
  | nx (s : σ) | bk (s : σ) | rt (v : ρ)
def Fl.el (K : σ → γ) (J : ρ → γ) : Fl σ ρ → γ
  | .nx s => K s
  | .bk s => K s
  | .rt v => J v
def foldO (f : σ → α → O σ) : σ → List α → O σ
  | s, [] => .ok s
  | s, x :: xs => (f s x).bind fun s => foldO f s xs
def loopO (f : σ → α → O (Fl σ ρ)) : σ → List α → O (Fl σ ρ)
  | s, [] => .ok (.nx s)
  | s, x :: xs => (f s x).bind fun r => match r with
    | .nx s => loopO f s xs
    | .bk s => .ok (.nx s)
    | .rt v => .ok (.rt v)
def whO (c : σ → O Bool) (f : σ → O σ) : Nat → σ → O σ
  | 0, _ => .un
  | n + 1, s => (c s).bind fun b => if b then (f s).bind fun s => whO c f n s else .ok s
def whF (c : σ → O Bool) (f : σ → O (Fl σ ρ)) : Nat → σ → O (Fl σ ρ)
  | 0, _ => .un
  | n + 1, s => (c s).bind fun b => if b then (f s).bind fun r => (match r with
    | .nx s => whF c f n s
    | .bk s => .ok (.nx s)
    | .rt v => .ok (.rt v)) else .ok (.nx s)
def Ql (I : σ → Sl → Prop) (s : σ) (r : SR) : Prop := ∃ e, (r = .nx e ∨ r = .ct e) ∧ I s e
def Ql3 (I : σ → Sl → Prop) (Qr : ρ → SR → Prop) : Fl σ ρ → SR → Prop
  | .nx s, r => ∃ e, (r = .nx e ∨ r = .ct e) ∧ I s e
  | .bk s, r => ∃ e, r = .bk e ∧ I s e
  | .rt v, r => Qr v r
theorem foldO_ok {f : σ → α → O σ} {g : σ → α → σ} : ∀ {xs : List α} {s : σ}, (∀ s, ∀ x ∈ xs, f s x = .ok (g s x)) → foldO f s xs = .ok (xs.foldl g s)
  | [], _, _ => rfl
  | x :: xs, s, h => by
    rw [foldO, h s x List.mem_cons_self]
    exact foldO_ok fun s y hy => h s y (List.mem_cons_of_mem _ hy)
theorem foldO_inv {f : σ → α → O σ} (J : σ → Prop) : ∀ {xs : List α} {s : σ}, J s → (∀ s, J s → ∀ x ∈ xs, ∃ s', f s x = .ok s' ∧ J s') → ∃ s', foldO f s xs = .ok s' ∧ J s'
  | [], s, h0, _ => ⟨s, rfl, h0⟩
  | x :: xs, s, h0, h => by
    obtain ⟨s1, e1, h1⟩ := h s h0 x List.mem_cons_self
    obtain ⟨s2, e2, h2⟩ := foldO_inv J h1 fun s hs y hy => h s hs y (List.mem_cons_of_mem _ hy)
    exact ⟨s2, by rw [foldO, e1]; exact e2, h2⟩
theorem loopO_inv {f : σ → α → O (Fl σ ρ)} (J : σ → Prop) : ∀ {xs : List α} {s : σ}, J s → (∀ s, J s → ∀ x ∈ xs, ∃ s', f s x = .ok (.nx s') ∧ J s') → ∃ s', loopO f s xs = .ok (.nx s') ∧ J s'
  | [], s, h0, _ => ⟨s, rfl, h0⟩
  | x :: xs, s, h0, h => by
    obtain ⟨s1, e1, h1⟩ := h s h0 x List.mem_cons_self
    obtain ⟨s2, e2, h2⟩ := loopO_inv J h1 fun s hs y hy => h s hs y (List.mem_cons_of_mem _ hy)
    exact ⟨s2, by rw [loopO, e1]; exact e2, h2⟩
section
variable {Q : τ → SR → Prop} {o : O τ} {e e1 e2 e3 : Sl} {r : List MS} {tg : MT} {body : MS} {I : σ → Sl → Prop}
def fork (tg : MT) (body : MS) (r : List MS) (m : Itm) (e1 : Sl) : SR := (endL (unhS m.hid) (forL tg body m.items e1)).bind (seqS r)
theorem S_for {it : MI} (h : SRel Q o ((it e).st (fork tg body r))) : SRel Q o (seqS (forS it tg body :: r) e) := by
  rw [seqS_cs]
  unfold forS
  rw [sr_bind]
  exact h
theorem forL_fold' {en : α → D} {f : σ → α → O σ} (hb : ∀ x s e, I s e → ∃ e1, tg (en x) e = some e1 ∧ SRel (Ql I) (f s x) (body e1)) : ∀ (xs : List α) (s : σ) (e : Sl), I s e → SRel (Qj I) (foldO f s xs) (forL tg body (xs.map en) e)
  | [], s, e, h => .iok ⟨e, rfl, h⟩
  | x :: xs, s, e, h => by
    obtain ⟨e1, h1, h2⟩ := hb x s e h
    show SRel (Qj I) ((f s x).bind fun s => foldO f s xs) (forL tg body (en x :: xs.map en) e)
    unfold forL
    rw [h1]
    cases hf : f s x with
    | ok s' =>
      rw [hf] at h2
      obtain ⟨e2, h3, h4⟩ := (h2.gok : ∃ e2, _ ∧ _)
      have ih := forL_fold' hb xs s' e2 h4
      simp only [O.bind_ok]
      rcases h3 with h3 | h3
      · simp only [h3]; exact ih
      · simp only [h3]; exact ih
    | ex x =>
      rw [hf] at h2
      obtain ⟨e2, h3⟩ := h2.gex
      exact .iex ⟨e2, by simp only [h3]⟩
    | un => (first | trivial | exact .iun)
theorem for_fold {xs : List α} {en : α → D} {f : σ → α → O σ} {K : σ → O τ} (I : σ → Sl → Prop) (s0 : σ) (h0 : I s0 e) (hb : ∀ x s e, I s e → ∃ e1, tg (en x) e = some e1 ∧ SRel (Ql I) (f s x) (body e1))
    (hk : ∀ s e, I s e → SRel Q (K s) (seqS r e)) : SRel Q ((foldO f s0 xs).bind K) (fork tg body r ⟨xs.map en, []⟩ e) := by
  have := forL_fold' hb xs s0 e h0
  unfold fork
  cases ho : foldO f s0 xs with
  | ok s =>
    rw [ho] at this
    obtain ⟨e2, h3, h4⟩ := (this.gok : ∃ e2, _ ∧ _)
    simp only [h3, endL, unhS, SR.bind]
    exact hk s e2 h4
  | ex x =>
    rw [ho] at this
    obtain ⟨e2, h3⟩ := this.gex
    exact .iex ⟨e2, by simp only [h3, endL, unhS, SR.bind]⟩
  | un => (first | trivial | exact .iun)
theorem forL_loop {en : α → D} {f : σ → α → O (Fl σ ρ)} {Qr : ρ → SR → Prop} (hq : ∀ v r, Qr v r → ∃ o e, r = .rt o e) (hb : ∀ x s e, I s e → ∃ e1, tg (en x) e = some e1 ∧ SRel (Ql3 I Qr) (f s x) (body e1)) : ∀ (xs : List α) (s : σ) (e : Sl), I s e →
    match loopO f s xs with
    | .ok (.nx s) => ∃ e', (forL tg body (xs.map en) e = .nx e' ∨ forL tg body (xs.map en) e = .bk e') ∧ I s e'
    | .ok (.bk s) => False
    | .ok (.rt v) => Qr v (forL tg body (xs.map en) e)
    | .ex x => ∃ e', forL tg body (xs.map en) e = .er x e'
    | .un => True
  | [], s, e, h => ⟨e, .inl rfl, h⟩
  | x :: xs, s, e, h => by
    obtain ⟨e1, h1, h2⟩ := hb x s e h
    have u : forL tg body ((x :: xs).map en) e = match body e1 with
      | .nx e2 => forL tg body (xs.map en) e2
      | .ct e2 => forL tg body (xs.map en) e2
      | r => r := by
      show forL tg body (en x :: xs.map en) e = _
      conv => lhs; unfold forL
      simp only [h1] <;> (cases hbe : body e1 <;> simp only [hbe])
    rw [u]
    unfold loopO
    cases hf : f s x with
    | un => (first | trivial | exact .iun)
    | ex x =>
      rw [hf] at h2
      obtain ⟨e2, h3⟩ := h2.gex
      exact ⟨e2, by simp only [h3]⟩
    | ok t =>
      rw [hf] at h2
      simp only [O.bind_ok]
      cases t with
      | nx s' =>
        obtain ⟨e2, h3, h4⟩ := (h2.gok : ∃ e2, _ ∧ _)
        have ih := forL_loop hq hb xs s' e2 h4
        rcases h3 with h3 | h3
        · simp only [h3]; exact ih
        · simp only [h3]; exact ih
      | bk s' =>
        obtain ⟨e2, h3, h4⟩ := (h2.gok : ∃ e2, _ ∧ _)
        exact ⟨e2, .inr (by simp only [h3]), h4⟩
      | rt v =>
        have h2 : Qr v (body e1) := h2.gok
        obtain ⟨p, e2, h3⟩ := hq v _ h2
        rw [h3] at h2
        simp only [h3]
        exact h2
theorem for_loop {xs : List α} {en : α → D} {f : σ → α → O (Fl σ ρ)} {K : σ → O τ} {J : ρ → O τ} (I : σ → Sl → Prop) (Qr : ρ → SR → Prop) (s0 : σ) (hq : ∀ v r, Qr v r → ∃ o e, r = .rt o e) (hJ : ∀ v r, Qr v r → SRel Q (J v) r) (h0 : I s0 e)
    (hb : ∀ x s e, I s e → ∃ e1, tg (en x) e = some e1 ∧ SRel (Ql3 I Qr) (f s x) (body e1))
    (hk : ∀ s e, I s e → SRel Q (K s) (seqS r e)) : SRel Q ((loopO f s0 xs).bind (Fl.el K J)) (fork tg body r ⟨xs.map en, []⟩ e) := by
  have := forL_loop hq hb xs s0 e h0
  unfold fork
  cases ho : loopO f s0 xs with
  | un => (first | trivial | exact .iun)
  | ex x =>
    rw [ho] at this
    obtain ⟨e2, h3⟩ := (this : ∃ e2, _)
    exact .iex ⟨e2, by simp only [h3, endL, unhS, SR.bind]⟩
  | ok t =>
    rw [ho] at this
    cases t with
    | nx s =>
      obtain ⟨e2, h3, h4⟩ := (this : ∃ e2, _ ∧ _)
      simp only [O.bind_ok, Fl.el]
      rcases h3 with h3 | h3
      · simp only [h3, endL, unhS, SR.bind]; exact hk s e2 h4
      · simp only [h3, endL, unhS, SR.bind]; exact hk s e2 h4
    | bk s => exact this.elim
    | rt v =>
      have this : Qr v _ := this
      obtain ⟨p, e2, h3⟩ := hq v _ this
      have h5 := hJ v _ this
      simp only [O.bind_ok, Fl.el]
      rw [h3] at h5 ⊢
      simp only [endL, unhS, SR.bind]
      exact h5
theorem S_while {t : ME} {W : Nat} {c : σ → O Bool} {f : σ → O σ} {K : σ → O τ} (I : σ → Sl → Prop) (s0 : σ) (h0 : I s0 e) (hc : ∀ s e, I s e → R0 iB e (c s) (t e)) (hb : ∀ s e, I s e → SRel (Ql I) (f s) (body e))
    (hk : ∀ s e, I s e → SRel Q (K s) (seqS r e)) : SRel Q ((whO c f W s0).bind K) (seqS (whL t body W :: r) e) := by
  rw [seqS_cs]
  have : ∀ (n : Nat) (s : σ) (e : Sl), I s e → SRel (Qj I) (whO c f n s) (whL t body n e) := by
    intro n
    induction n with
    | zero => intro s e _; (first | trivial | exact .iun)
    | succ n ih =>
      intro s e h
      show SRel (Qj I) ((c s).bind fun b => if b then (f s).bind fun s => whO c f n s else .ok s) ((t e).st _)
      refine st_M (hc s e h) fun b => ?_
      cases b with
      | false => exact .iok ⟨e, rfl, h⟩
      | true =>
        have h2 := hb s e h
        simp only [if_true, iB, eB, tru]
        cases hf : f s with
        | un => (first | trivial | exact .iun)
        | ex x =>
          rw [hf] at h2
          obtain ⟨e2, h3⟩ := h2.gex
          exact .iex ⟨e2, by simp only [h3]⟩
        | ok s' =>
          rw [hf] at h2
          obtain ⟨e2, h3, h4⟩ := (h2.gok : ∃ e2, _ ∧ _)
          simp only [O.bind_ok]
          rcases h3 with h3 | h3
          · simp only [h3]; exact ih s' e2 h4
          · simp only [h3]; exact ih s' e2 h4
  have := this W s0 e h0
  cases ho : whO c f W s0 with
  | un => (first | trivial | exact .iun)
  | ex x =>
    rw [ho] at this
    obtain ⟨e2, h3⟩ := this.gex
    exact .iex ⟨e2, by rw [h3]; rfl⟩
  | ok s =>
    rw [ho] at this
    obtain ⟨e2, h3, h4⟩ := (this.gok : ∃ e2, _ ∧ _)
    rw [h3]
    exact hk s e2 h4
end
/-! ### lambdas -/
def toL (db : β → D) : O β → O LRes
  | .ok v => .ok (.ok (db v))
  | .ex x => .ok (.er x)
  | .un => .un
@[simp] theorem toL_ok {db : β → D} {v : β} : toL db (.ok v) = .ok (.ok (db v)) := rfl
@[simp] theorem toL_ex {db : β → D} {x : Exc} : toL db (.ex x) = .ok (.er x) := rfl
theorem lam_M {Q : τ → SR → Prop} {e e1 e3 fin : Sl} {k : Op → Sl → SR} {fx fv : List Nat} {G : LRes → CRes} {m : ME} {Fw : LRes → O ρ} {ec : ρ → D} {eb : β → Op} {db : β → D} {ob : O β} {K : ρ → O τ} (hf : frzS fx fv e = e1) (hm : R0 eb e3 ob (m (imS e1)))
    (hz : ∀ v, fzO (eb v) e3 = some (db v, e3)) (hG : ∀ r, C0 (im' ec) fin (Fw r) (G r)) (hk : ∀ v, SRel Q (K v) (k (.im (ec v)) e1)) :
    SRel Q ((toL db ob).bind fun r => (Fw r).noe.bind K) ((lamE fx fv G m e).st k) := by
  unfold lamE
  rw [hf]
  have fin' : ∀ r, lres (m (imS e1)) = some r → SRel Q ((Fw r).noe.bind K) (Res.st (match lres (m (imS e1)) with | some r => (match G r with | .ok (.im d) _ => .ok (.im d) e1 | _ => .bad) | none => .bad : Res Op) k) := by
    intro r hr
    have g := hG r
    rw [hr]
    cases hF : Fw r with
    | un => (first | trivial | exact .iun)
    | ex _ => (first | trivial | exact .iun)
    | ok v =>
      rw [hF] at g
      have g : G r = .ok (.im (ec v)) fin := g.gok
      simp only [g]
      exact hk v
  cases ob with
  | un => (first | trivial | exact .iun)
  | ok v =>
    have hm : m (imS e1) = .ok (eb v) e3 := hm.gok
    refine fin' (.ok (db v)) ?_
    rw [hm]
    simp only [lres, hz v]
  | ex x =>
    obtain ⟨e4, hm⟩ := hm.gex
    refine fin' (.er x) ?_
    rw [hm]; rfl
/-! ### ends -/
theorem C0.of {enc : ρ → Op} {fin : Sl} {br : List Bool} {o : O ρ} {r : SR} (h : SRel (fun v r => endF br r = .ok (enc v) fin) o r) : C0 enc fin o (endF br r) := by
  cases o with
  | ok v => exact .iok h.gok
  | ex x =>
    obtain ⟨e, h⟩ := h.gex
    subst h
    exact .iex ⟨_, rfl⟩
  | un => (first | trivial | exact .iun)
theorem C1.of {enc : ρ → Op} {fin : σ → Sl} {br : List Bool} {o : O (ρ × σ)} {r : SR} (h : SRel (fun (v : ρ × σ) r => endF br r = .ok (enc v.1) (fin v.2)) o r) : C1 enc fin o (endF br r) := by
  cases o with
  | ok v => exact .iok h.gok
  | ex x =>
    obtain ⟨e, h⟩ := h.gex
    subst h
    exact .iex ⟨_, rfl⟩
  | un => (first | trivial | exact .iun)
/-! ### the hand -/
abbrev HH := { h : Hand // h.ok }
theorem drw_ex {X : Hand → Int → CRes} (hX : ∀ (h : Hand) (m : Int), h.ok → 0 < m → m < 1073741824 → ∃ (h' : Hand) (i : Int), X h m = .ok (.im (.int i)) [some (.ol h'.ds), none] ∧ 0 ≤ i ∧ i < m ∧ h'.ok) (h : HH) (m : Int) (hm : 0 < m ∧ m < 1073741824) :
    ∃ p : Int × HH, X h.1 m = .ok (.im (.int p.1)) [some (.ol p.2.1.ds), none] ∧ 0 ≤ p.1 ∧ p.1 < m := by
  obtain ⟨h', i, e, i0, i1, ok⟩ := hX h.1 m h.2 hm.1 hm.2
  exact ⟨(i, ⟨h', ok⟩), e, i0, i1⟩
open Classical in
noncomputable def drw {X : Hand → Int → CRes} (hX : ∀ (h : Hand) (m : Int), h.ok → 0 < m → m < 1073741824 → ∃ (h' : Hand) (i : Int), X h m = .ok (.im (.int i)) [some (.ol h'.ds), none] ∧ 0 ≤ i ∧ i < m ∧ h'.ok) (h : HH) (m : Int) : O (Int × HH) :=
  if hm : 0 < m ∧ m < 1073741824 then .ok (Classical.choose (drw_ex hX h m hm)) else .un
theorem drw_C1 {X : Hand → Int → CRes} (hX : ∀ (h : Hand) (m : Int), h.ok → 0 < m → m < 1073741824 → ∃ (h' : Hand) (i : Int), X h m = .ok (.im (.int i)) [some (.ol h'.ds), none] ∧ 0 ≤ i ∧ i < m ∧ h'.ok) (h : HH) (m : Int) : C1 iI (fun h : HH => [some (.ol h.1.ds), none]) (drw hX h m) (X h.1 m) := by
  unfold drw
  by_cases hm : 0 < m ∧ m < 1073741824
  · rw [dif_pos hm]
    exact .iok (Classical.choose_spec (drw_ex hX h m hm)).1
  · rw [dif_neg hm]; (first | trivial | exact .iun)
theorem drw_ok {X : Hand → Int → CRes} (hX : ∀ (h : Hand) (m : Int), h.ok → 0 < m → m < 1073741824 → ∃ (h' : Hand) (i : Int), X h m = .ok (.im (.int i)) [some (.ol h'.ds), none] ∧ 0 ≤ i ∧ i < m ∧ h'.ok) (h : HH) {m : Int} (h0 : 0 < m) (h1 : m < 1073741824) : ∃ i h', drw hX h m = .ok (i, h') ∧ 0 ≤ i ∧ i < m := by
  unfold drw
  rw [dif_pos ⟨h0, h1⟩]
  have := Classical.choose_spec (drw_ex hX h m ⟨h0, h1⟩)
  exact ⟨_, _, rfl, this.2⟩
end Ev
namespace Ev
open PySem
/-! ### for the printer -/
abbrev sI (d : D) : Option Sv := some (.im d)
abbrev sL (ds : List D) : Option Sv := some (.ol ds)
/-- unchanging, or nothing -/
def dm (o : Option D) : Option Sv := o.map .im

def imOK : Option Sv → Bool
  | none => true
  | some (.im _) => true
  | _ => false
theorem imOK_dm {o : Option D} : imOK (dm o) = true := by cases o <;> rfl
theorem imOnly_cons {e : Sl} {i : Nat} {is : List Nat} (h : imOK (gt e i) = true) (hs : imOnly e is = true) : imOnly e (i :: is) = true := by
  unfold imOnly at hs ⊢
  rw [List.all_cons, Bool.and_eq_true]
  refine ⟨?_, hs⟩
  cases hg : gt e i with
  | none => rfl
  | some x => rw [hg] at h; cases x <;> first | rfl | cases h
theorem pe_op2o {f : D → D → Option Op} {a b : ME} {e e1 e2 : Sl} {p q : Op} (z : Op) (ha : a e = .ok p e1) (hb : b e1 = .ok q e2) (hf : op2fin f p q e2 = .ok z e2) : op2 f a b e = .ok z e2 := pe_op2 ha hb hf
theorem pe_slio {a : ME} {lo hi : Option ME} {e e1 e2 e3 : Sl} {o : Op} {p : D} {l h : Option Int} (z : Op) (ha : a e = .ok o e1) (hl : optE lo e1 = .ok l e2) (hh : optE hi e2 = .ok h e3) (hv : vw o e3 = some p) (hs : sliD p l h = some z) : sliE a lo hi e = .ok z e3 := pe_sli ha hl hh hv hs
theorem pe_sliT {α : Type} (f : α → D) (xs : List α) {a : ME} {lo hi : Option ME} {e e1 e2 e3 : Sl} {o : Op} {l h : Option Int} (ha : a e = .ok o e1) (hl : optE lo e1 = .ok l e2) (hh : optE hi e2 = .ok h e3) (hv : vw o e3 = some (eT f xs)) : sliE a lo hi e = .ok (.im (eT f (cutT xs l h))) e3 := pe_sli ha hl hh hv sli_T
theorem pe_sliL {α : Type} (f : α → D) (xs : List α) {a : ME} {lo hi : Option ME} {e e1 e2 e3 : Sl} {o : Op} {l h : Option Int} (ha : a e = .ok o e1) (hl : optE lo e1 = .ok l e2) (hh : optE hi e2 = .ok h e3) (hv : vw o e3 = some (eL f xs)) : sliE a lo hi e = .ok (.tl ((cutT xs l h).map f)) e3 := pe_sli ha hl hh hv sli_L
theorem R0.andC {e e1 : Sl} {x : Bool} {ob : O Bool} {a b : ME} {r : List ME} (ha : a e = .ok (.im (.bool x)) e1) (hb : R0 iB e1 ob (andE (b :: r) e1)) : R0 iB e1 (if x then ob else .ok false) (andE (a :: b :: r) e) := R0.and (oa := .ok x) (.iok ha) hb
theorem R0.orC {e e1 : Sl} {x : Bool} {ob : O Bool} {a b : ME} {r : List ME} (ha : a e = .ok (.im (.bool x)) e1) (hb : R0 iB e1 ob (orE (b :: r) e1)) : R0 iB e1 (if x then .ok true else ob) (orE (a :: b :: r) e) := R0.or (oa := .ok x) (.iok ha) hb
theorem R0.iteC {α : Type} {ec : α → Op} {e e1 e2 : Sl} {c : Bool} {oa ob : O α} {t a b : ME} (ht : t e = .ok (.im (.bool c)) e1) (ha : R0 ec e2 oa (a e1)) (hb : R0 ec e2 ob (b e1)) : R0 ec e2 (if c then oa else ob) (ifE t a b e) := R0.ite (ot := .ok c) (.iok ht) ha hb
def Qf {ρ : Type} (enc : ρ → Op) (fin : Sl) (br : List Bool) : ρ → SR → Prop := fun v r => endF br r = .ok (enc v) fin
def Qh {ρ σ : Type} (enc : ρ → Op) (fin : σ → Sl) (br : List Bool) : ρ × σ → SR → Prop := fun v r => endF br r = .ok (enc v.1) (fin v.2)
/-- a return within a loop -/
def Qr {ρ : Type} (Q : ρ → SR → Prop) : ρ → SR → Prop := fun v r => (∃ o e, r = .rt o e) ∧ Q v r
theorem Qr_rt {ρ : Type} {Q : ρ → SR → Prop} : ∀ v r, Qr Q v r → ∃ o e, r = .rt o e := fun _ _ h => h.1
theorem Qr_J {ρ : Type} {Q : ρ → SR → Prop} : ∀ v r, Qr Q v r → SRel Q (.ok v) r := fun _ _ h => .iok h.2
theorem Qr_J3 {ρ σ : Type} {I : σ → Sl → Prop} {Q : ρ → SR → Prop} : ∀ v r, Qr Q v r → SRel (Ql3 I (Qr Q)) (.ok (.rt v)) r := fun _ _ h => .iok h
theorem Qr_mk {ρ σ : Type} {I : σ → Sl → Prop} {Q : ρ → SR → Prop} {v : ρ} {o : Op} {e : Sl} (h : Q v (.rt o e)) : SRel (Ql3 I (Qr Q)) (.ok (.rt v)) (.rt o e) := .iok ⟨⟨_, _, rfl⟩, h⟩
theorem C0.mk {ρ : Type} {enc : ρ → Op} {fin : Sl} {br : List Bool} {o : O ρ} {r : SR} (h : SRel (Qf enc fin br) o r) : C0 enc fin o (endF br r) := C0.of h
theorem C1.mk {ρ σ : Type} {enc : ρ → Op} {fin : σ → Sl} {br : List Bool} {o : O (ρ × σ)} {r : SR} (h : SRel (Qh enc fin br) o r) : C1 enc fin o (endF br r) := C1.of h
theorem end_nx {σ : Type} {I : σ → Sl → Prop} {s : σ} {e : Sl} (h : I s e) : SRel (Ql I) (.ok s) (seqS [] e) := .iok ⟨e, .inl rfl, h⟩
theorem end_j {σ : Type} {I : σ → Sl → Prop} {s : σ} {e : Sl} (h : I s e) : SRel (Qj I) (.ok s) (seqS [] e) := .iok ⟨e, rfl, h⟩
theorem end_3 {σ ρ : Type} {I : σ → Sl → Prop} {q : ρ → SR → Prop} {s : σ} {e : Sl} (h : I s e) : SRel (Ql3 I q) (.ok (.nx s)) (seqS [] e) := .iok ⟨e, .inl rfl, h⟩
theorem ct_nx {σ : Type} {I : σ → Sl → Prop} {s : σ} {e : Sl} {r : List MS} (h : I s e) : SRel (Ql I) (.ok s) (seqS ((fun e => .ct e) :: r) e) := .iok ⟨e, .inr (by rw [seqS_cs]; rfl), h⟩
theorem ct_3 {σ ρ : Type} {I : σ → Sl → Prop} {q : ρ → SR → Prop} {s : σ} {e : Sl} {r : List MS} (h : I s e) : SRel (Ql3 I q) (.ok (.nx s)) (seqS ((fun e => .ct e) :: r) e) := .iok ⟨e, .inr (by rw [seqS_cs]; rfl), h⟩
theorem bk_3 {σ ρ : Type} {I : σ → Sl → Prop} {q : ρ → SR → Prop} {s : σ} {e : Sl} {r : List MS} (h : I s e) : SRel (Ql3 I q) (.ok (.bk s)) (seqS ((fun e => .bk e) :: r) e) := .iok ⟨e, by rw [seqS_cs]; rfl, h⟩
theorem pass_ {τ : Type} {Q : τ → SR → Prop} {o : O τ} {e : Sl} {r : List MS} (h : SRel Q o (seqS r e)) : SRel Q o (seqS ((fun e => .nx e) :: r) e) := by rw [seqS_cs]; exact h
end Ev
namespace Ev
open PySem
theorem asgT_ok {τ : Type} {Q : τ → SR → Prop} {o : O τ} {t : MT} {r : List MS} {p : Op} {d : D} {e e1 e2 : Sl} (hz : fzO p e = some (d, e1)) (ht : t d e1 = some e2) (hk : SRel Q o (seqS r e2)) : SRel Q o (asgTk t r p e) := by
  unfold asgTk
  simp only [hz, ht]
  exact hk
theorem par_ok {τ : Type} {Q : τ → SR → Prop} {o : O τ} {gs : List MG} {r : List MS} {ops : List Op} {e e2 : Sl} (hg : parG gs ops e = some e2) (hk : SRel Q o (seqS r e2)) : SRel Q o (park gs r ops e) := by
  unfold park
  simp only [hg]
  exact hk
end Ev
namespace Ev
open PySem
/-! ### plain values, of a shape that shows when it is looked at -/
section
variable {α β γ σ τ : Type} {Q : τ → SR → Prop} {o : O τ} {e e1 e2 e3 : Sl}
def seqO (d : D) : O (List D) := match seqD d with
  | some xs => .ok xs
  | none => .un
theorem it1_D {fx : List Nat} {k : Itm → Sl → SR} {d : D} {K : List D → O τ} (hk : ∀ xs : List D, SRel Q (K xs) (k ⟨xs.map eD, []⟩ e)) : SRel Q ((seqO d).bind K) (it1k fx seqF k (.im d) e) := by
  unfold it1k seqO
  simp only [hideO, fzO, Option.map, seqF]
  cases seqD d with
  | none => (first | trivial | exact .iun)
  | some xs =>
    have := hk xs
    have e : xs.map eD = xs := by unfold eD; simp
    rw [e] at this
    exact this
def unp2 : D → O (D × D)
  | .tuple [a, b] => .ok (a, b)
  | _ => .un
theorem unp2_map : ∀ {xs : List D} {ys : List (D × D)}, mapO unp2 xs = .ok ys → xs = ys.map (eU (hC eD (h1 eD)))
  | [], ys, h => by cases h; rfl
  | x :: xs, ys, h => by
    unfold mapO at h
    cases hx : unp2 x with
    | un => rw [hx] at h; cases h
    | ex _ => rw [hx] at h; cases h
    | ok p =>
      rw [hx] at h
      simp only [O.noe_ok, O.bind_ok] at h
      cases hr : mapO unp2 xs with
      | un => rw [hr] at h; cases h
      | ex _ => rw [hr] at h; cases h
      | ok zs =>
        rw [hr] at h
        cases h
        have := unp2_map hr
        have hx' : x = .tuple [p.1, p.2] := by
          unfold unp2 at hx
          split at hx <;> cases hx
          rfl
        rw [List.map_cons, ← this, hx']; rfl
theorem unp2_it {k : Itm → Sl → SR} {xs : List D} {K : List (D × D) → O τ} (hk : ∀ ys : List (D × D), SRel Q (K ys) (k ⟨ys.map (eU (hC eD (h1 eD))), []⟩ e)) : SRel Q ((mapO unp2 xs).bind K) (k ⟨xs.map eD, []⟩ e) := by
  cases h : mapO unp2 xs with
  | un => (first | trivial | exact .iun)
  | ex x =>
    exfalso
    clear hk
    induction xs with
    | nil => cases h
    | cons a r ih =>
      unfold mapO at h
      cases ha : unp2 a with
      | un => rw [ha] at h; cases h
      | ex _ => rw [ha] at h; cases h
      | ok p =>
        rw [ha] at h
        simp only [O.noe_ok, O.bind_ok] at h
        cases hr : mapO unp2 r with
        | un => rw [hr] at h; cases h
        | ex y => rw [hr] at h; cases h; exact ih hr
        | ok zs => rw [hr] at h; cases h
  | ok ys =>
    have e1 : xs.map eD = xs := by unfold eD; simp
    rw [e1, unp2_map h]
    exact hk ys
def bltI (F : List D → Option Op) (ds : List D) : O D := match F ds with
  | some (.im d) => .ok d
  | _ => .un
def bltT (F : List D → Option Op) (ds : List D) : O (List D) := match F ds with
  | some (.tl xs) => .ok xs
  | _ => .un
theorem blt_I {F : List D → Option Op} {os : List Op} {ds : List D} {k : Op → Sl → SR} {K : D → O τ} (hv : vws os e = some ds) (hk : ∀ v, SRel Q (K v) (k (.im (eD v)) e)) : SRel Q ((bltI F ds).bind K) ((bltfin F os e).st k) := by
  unfold bltfin bltI
  simp only [hv]
  cases F ds with
  | none => (first | trivial | exact .iun)
  | some p => cases p <;> first | exact .iun | exact hk _
theorem blt_T {F : List D → Option Op} {os : List Op} {ds : List D} {k : Op → Sl → SR} {K : List D → O τ} (hv : vws os e = some ds) (hk : ∀ v : List D, SRel Q (K v) (k (.tl (v.map eD)) e)) : SRel Q ((bltT F ds).bind K) ((bltfin F os e).st k) := by
  unfold bltfin bltT
  simp only [hv]
  cases F ds with
  | none => (first | trivial | exact .iun)
  | some p =>
    cases p <;> first | exact .iun | skip
    rename_i xs
    have := hk xs
    have e : xs.map eD = xs := by unfold eD; simp
    rw [e] at this
    exact this
def sliI (d : D) (l h : Option Int) : O D := match sliD d l h with
  | some (.im d) => .ok d
  | _ => .un
theorem sli_M {a : ME} {lo hi : Option ME} {p : Op} {d : D} {l h : Option Int} {k : Op → Sl → SR} {K : D → O τ} (ha : a e = .ok p e1) (hl : optE lo e1 = .ok l e1) (hh : optE hi e1 = .ok h e1) (hv : vw p e1 = some d) (hk : ∀ v, SRel Q (K v) (k (.im (eD v)) e1)) : SRel Q ((sliI d l h).bind K) ((sliE a lo hi e).st k) := by
  unfold sliE sliI
  simp only [ha, Res.bind, hl, hh, hv]
  cases sliD d l h with
  | none => (first | trivial | exact .iun)
  | some p => cases p <;> first | exact .iun | exact hk _
def chD (op1 op2 : CmpOp) (x y z : D) : O Bool := (ofB (cmpD op1 x y)).bind fun c => if c then ofB (cmpD op2 y z) else .ok false
theorem chain_M {op1 op2 : CmpOp} {a b c : ME} {p q r : Op} {x y z : D} {k : Op → Sl → SR} {K : Bool → O τ} (ha : a e = .ok p e1) (hb : b e1 = .ok q e1) (hc : c e1 = .ok r e1) (hp : vw p e1 = some x) (hq : vw q e1 = some y) (hr : vw r e1 = some z) (hk : ∀ v, SRel Q (K v) (k (.im (.bool v)) e1)) :
    SRel Q ((chD op1 op2 x y z).bind K) ((chainE (cmpD op1) (cmpD op2) a b c e).st k) := by
  unfold chainE chD
  simp only [ha, hb, Res.bind, hp, hq]
  cases h1 : cmpD op1 x y with
  | none => (first | trivial | exact .iun)
  | some b1 =>
    cases b1 with
    | false => exact hk false
    | true =>
      simp only [ofB, O.bind_ok, if_true, hc, hr]
      cases h2 : cmpD op2 y z with
      | none => (first | trivial | exact .iun)
      | some b2 =>
        simp only [hq, h2]
        exact hk b2
def zipO (a b : D) : O (List (D × D)) := match a, b with
  | .tuple xs, .tuple ys => .ok (xs.zip ys)
  | .list xs, .list ys => .ok (xs.zip ys)
  | _, _ => .un
theorem it2_zipD {fx : List Nat} {k : Itm → Sl → SR} {a b : D} {K : List (D × D) → O τ} (hk : ∀ xs : List (D × D), SRel Q (K xs) (k ⟨xs.map (eU (hC eD (h1 eD))), []⟩ e)) : SRel Q ((zipO a b).bind K) (it2f fx zipF k a [] (.im b) e) := by
  unfold it2f
  have zm : ∀ xs ys : List D, zipI xs ys = (xs.zip ys).map (eU (hC eD (h1 eD))) := by
    intro xs ys
    have := zip_map (f := eD) (g := eD) (xs := xs) (ys := ys)
    have e : ∀ xs : List D, xs.map eD = xs := fun xs => by unfold eD; simp
    rw [e, e] at this
    exact this
  simp only [hideO, fzO, Option.map]
  unfold zipO
  split
  · simp only [zipF, zm, List.append_nil]; exact hk _
  · simp only [zipF, zm, List.append_nil]; exact hk _
  · (first | trivial | exact .iun)
end
end Ev
namespace Ev
open PySem
/-- a list that may have been made unchanging -/
def lw : Bool → List D → Option Sv
  | true, xs => some (.ol xs)
  | false, xs => some (.im (.list xs))
section
variable {α β γ σ τ : Type} {Q : τ → SR → Prop} {o : O τ} {e e1 e2 e3 : Sl} {k : Op → Sl → SR}
@[simp] theorem O.bind_id {α : Type} {o : O α} : o.bind (fun v => .ok v) = o := by cases o <;> rfl
theorem compL_W {en : α → D} {p : α → O Bool} {g : α → O β} {eb : β → Op} {fb : β → D} {own : List Nat} {tg : MT} {cond elt : ME} {W : Bool → Sl} {E2 : α → Bool → Sl}
    (ht : ∀ x b, tg (en x) (W b) = some (E2 x b)) (hc : ∀ x b, ∃ b', R0 iB (E2 x b') (p x) (cond (E2 x b))) (he : ∀ x b, ∃ b', R0 eb (E2 x b') (g x) (elt (E2 x b))) (hf : ∀ x v b, fzO (eb v) (E2 x b) = some (fb v, E2 x b)) (hw : ∀ x b, wipeS (E2 x b) own = W b) :
    ∀ (xs : List α) (acc : List D) (b : Bool), match compO p g xs with
      | .ok ys => acc.length + ys.length ≤ sizeMax → ∃ b', compL own tg cond elt (xs.map en) acc (W b) = .ok (acc ++ ys.map fb) (W b')
      | .ex _ => False
      | .un => True
  | [], acc, b => by intro _; exact ⟨b, by simp [compL]⟩
  | x :: xs, acc, b => by
    show match ((p x).noe.bind _ : O (List β)) with | .ok ys => _ | .ex _ => _ | .un => _
    obtain ⟨b1, h1⟩ := hc x b
    cases hp : p x with
    | un => (first | trivial | exact .iun)
    | ex _ => (first | trivial | exact .iun)
    | ok c =>
      rw [hp] at h1
      have h1 : cond (E2 x b) = .ok (iB c) (E2 x b1) := h1.gok
      simp only [O.noe_ok, O.bind_ok]
      cases c with
      | false =>
        have ih := compL_W ht hc he hf hw xs acc b1
        simp only
        cases hr : compO p g xs with
        | un => (first | trivial | exact .iun)
        | ex _ => rw [hr] at ih; exact ih
        | ok ys =>
          rw [hr] at ih
          intro hl
          obtain ⟨b', ih⟩ := ih hl
          refine ⟨b', ?_⟩
          show compL own tg cond elt (en x :: xs.map en) acc (W b) = _
          unfold compL
          simp only [ht x, h1, noer, Res.bind, iB, eB, tru, hw x, ih]
      | true =>
        obtain ⟨b2, h2⟩ := he x b1
        simp only
        cases hg : g x with
        | un => (first | trivial | exact .iun)
        | ex _ => (first | trivial | exact .iun)
        | ok y =>
          rw [hg] at h2
          have h2 : elt (E2 x b1) = .ok (eb y) (E2 x b2) := h2.gok
          have ih := compL_W ht hc he hf hw xs (acc ++ [fb y]) b2
          simp only [O.noe_ok, O.bind_ok]
          cases hr : compO p g xs with
          | un => (first | trivial | exact .iun)
          | ex _ => rw [hr] at ih; exact ih
          | ok ys =>
            rw [hr] at ih
            simp only [O.bind_ok]
            intro hl
            have hl' : (acc ++ [fb y]).length + ys.length ≤ sizeMax := by simp only [List.length_append, List.length_cons, List.length_nil] at hl ⊢; omega
            obtain ⟨b', ih⟩ := ih hl'
            have l1 : acc.length < sizeMax := by simp only [List.length_cons] at hl; omega
            refine ⟨b', ?_⟩
            show compL own tg cond elt (en x :: xs.map en) acc (W b) = _
            unfold compL
            simp only [ht x, h1, noer, Res.bind, iB, eB, tru, h2, hf x y, l1, if_true, hw x, ih, List.append_assoc, List.cons_append, List.nil_append, List.map_cons]
/-- own lists that are made unchanging by the way -/
theorem comp_W {own : List Nat} {tg : MT} {cond elt : ME} {xs : List α} {en : α → D} {p : α → O Bool} {g : α → O β} {eb : β → Op} {fb : β → D} {E : Bool → Sl} {E2 : α → Bool → Sl} {K : List β → O τ} (hE : e = E true)
    (him : imOnly e own = true) (ht : ∀ x b, tg (en x) (wipeS (E b) own) = some (E2 x b)) (hc : ∀ x b, ∃ b', R0 iB (E2 x b') (p x) (cond (E2 x b))) (he : ∀ x b, ∃ b', R0 eb (E2 x b') (g x) (elt (E2 x b))) (hf : ∀ x v b, fzO (eb v) (E2 x b) = some (fb v, E2 x b))
    (hw : ∀ x b, wipeS (E2 x b) own = wipeS (E b) own) (hr : ∀ b, restS (E true) (wipeS (E b) own) own = E b) (hk : ∀ ys b, SRel Q (K ys) (k (.tl (ys.map fb)) (E b))) :
    SRel Q ((compO p g xs).bind fun ys => (szO ys).bind K) (compk own tg cond elt k ⟨xs.map en, []⟩ e) := by
  subst hE
  have := compL_W (own := own) (cond := cond) (elt := elt) (fb := fb) (W := fun b => wipeS (E b) own) ht hc he hf hw xs [] true
  unfold compk
  simp only [him, if_true]
  cases ho : compO p g xs with
  | un => (first | trivial | exact .iun)
  | ex _ => rw [ho] at this; exact this.elim
  | ok ys =>
    rw [ho] at this
    simp only [O.bind_ok]
    unfold szO
    by_cases hl : ys.length ≤ sizeMax
    · rw [if_pos hl]
      obtain ⟨b', this⟩ := this (by simpa using hl)
      rw [this]
      simp only [Res.bind, unhS, hr, List.nil_append, Res.st]
      exact hk ys b'
    · rw [if_neg hl]; (first | trivial | exact .iun)
theorem comp_W2 {own : List Nat} {tg : MT} {cond elt : ME} {xs : List α} {en : α → D} {p : α → O Bool} {g : α → O β} {eb : β → Op} {fb : β → D} {E : Bool → Sl} {E2 : α → Bool → Sl} {K : List β → O τ} (hE : e = E true)
    (him : imOnly e own = true) (ht : ∀ x b, tg (en x) (wipeS (E b) own) = some (E2 x b)) (hc1 : ∀ x, ∃ b', R0 iB (E2 x b') (p x) (cond (E2 x true))) (hc2 : ∀ x, ∃ b', R0 iB (E2 x b') (p x) (cond (E2 x false))) (he1 : ∀ x, ∃ b', R0 eb (E2 x b') (g x) (elt (E2 x true))) (he2 : ∀ x, ∃ b', R0 eb (E2 x b') (g x) (elt (E2 x false))) (hf : ∀ x v b, fzO (eb v) (E2 x b) = some (fb v, E2 x b))
    (hw : ∀ x b, wipeS (E2 x b) own = wipeS (E b) own) (hr : ∀ b, restS (E true) (wipeS (E b) own) own = E b) (hk : ∀ ys b, SRel Q (K ys) (k (.tl (ys.map fb)) (E b))) :
    SRel Q ((compO p g xs).bind fun ys => (szO ys).bind K) (compk own tg cond elt k ⟨xs.map en, []⟩ e) :=
  comp_W hE him ht (fun x b => by cases b; exact hc2 x; exact hc1 x) (fun x b => by cases b; exact he2 x; exact he1 x) hf hw hr hk
/-! slices of what was told step by step -/
def slik (lo hi : Option ME) (k : Op → Sl → SR) (p : Op) (e1 : Sl) : SR := (optE lo e1).st fun l e2 => (optE hi e2).st fun h e3 => match vw p e3 with
  | some d => (lift (sliD d l h) e3).st k
  | none => .bad
theorem sli_st {a : ME} {lo hi : Option ME} (h : SRel Q o ((a e).st (slik lo hi k))) : SRel Q o ((sliE a lo hi e).st k) := by
  unfold sliE
  rw [st_bind]
  refine st_to (fun p e1 => ?_) h
  unfold slik
  rw [st_bind]
  congr 1
  funext l e2
  rw [st_bind]
  congr 1
  funext h e3
  cases vw p e3 <;> rfl
theorem slik_o {lo hi : Option ME} {p : Op} {d : D} {l h : Option Int} (z : Op) (hl : optE lo e = .ok l e) (hh : optE hi e = .ok h e) (hv : vw p e = some d) (hs : sliD d l h = some z) (hk : SRel Q o (k z e)) : SRel Q o (slik lo hi k p e) := by
  unfold slik
  rw [hl]
  simp only [Res.st, hh, hv, hs, lift]
  exact hk
end
end Ev
namespace Ev
theorem ap_nil {τ : Type} {Q : τ → SR → Prop} {o : O τ} {r : List MS} {e : Sl} (h : SRel Q o (seqS r e)) : SRel Q o (seqS (apS [] r) e) := h
theorem ap_cons {τ : Type} {Q : τ → SR → Prop} {o : O τ} {a : MS} {A r : List MS} {e : Sl} (h : SRel Q o (seqS (a :: apS A r) e)) : SRel Q o (seqS (apS (a :: A) r) e) := h
end Ev
namespace Ev
open PySem
theorem ret_f {ρ : Type} {enc : ρ → Op} {fin : Sl} {br : List Bool} {v : ρ} {r : SR} (h : endF br r = .ok (enc v) fin) : SRel (Qf enc fin br) (.ok v) r := .iok h
theorem ret_h {ρ σ : Type} {enc : ρ → Op} {fin : σ → Sl} {br : List Bool} {v : ρ × σ} {r : SR} (h : endF br r = .ok (enc v.1) (fin v.2)) : SRel (Qh enc fin br) (.ok v) r := .iok h
theorem rth_ok {α σ : Type} {ea : α → Op} {E : σ → Sl} {v : α × σ} {r : SR} (h : r = .rt (ea v.1) (E v.2)) : SRel (fun (v : α × σ) r => r = .rt (ea v.1) (E v.2)) (.ok v) r := .iok h
end Ev
namespace Ev
open PySem
theorem C0.ok_mk {ρ : Type} {enc : ρ → Op} {fin : Sl} {v : ρ} {r : CRes} (h : r = .ok (enc v) fin) : C0 enc fin (.ok v) r := .iok h
theorem C0.get {ρ : Type} {enc : ρ → Op} {fin : Sl} {v : ρ} {r : CRes} (h : C0 enc fin (.ok v) r) : r = .ok (enc v) fin := h.gok
theorem C0.un {ρ : Type} {enc : ρ → Op} {fin : Sl} {r : CRes} : C0 enc fin .un r := .iun
theorem C0.run {o : O Bool} {fin : Sl} {r : CRes} (h : C0 (im' eB) fin o r) (ho : o = .ok true) : ∃ f, r = .ok (.im (.bool true)) f := by
  subst ho
  exact ⟨_, h.get⟩
def absH : D → D
  | .int i => .int (if i < 0 then -i else i)
  | d => d
def absH36 : D → D
  | .int i => .int ((absI i).fmod (10 ^ 36))
  | d => d
def wordS (c : CRes) : O Str := match c with
  | .ok (.im (.str s)) [] => .ok s
  | _ => .un
def wordD (c : CRes) : O D := match c with
  | .ok (.im d) [] => .ok d
  | _ => .un
theorem wordS_C0 (c : CRes) : C0 (im' eS) [] (wordS c) c := by
  unfold wordS
  split
  · exact C0.ok_mk rfl
  · exact C0.un
theorem wordD_C0 (c : CRes) : C0 (im' eD) [] (wordD c) c := by
  unfold wordD
  split
  · exact C0.ok_mk rfl
  · exact C0.un
end Ev
namespace Ev
open PySem
/-! ### lists that may be new, or unchanging -/
def wop : Bool → List D → Op
  | true, xs => .tl xs
  | false, xs => .im (.list xs)
inductive C0w {α : Type} (f : α → D) (fin : Sl) : O (List α) → CRes → Prop
  | iok {v : List α} {r : CRes} (h : ∃ b, r = .ok (wop b (v.map f)) fin) : C0w f fin (.ok v) r
  | iex {x : Exc} {r : CRes} (h : ∃ e, r = .er x e) : C0w f fin (.ex x) r
  | iun {r : CRes} : C0w f fin .un r
theorem C0w.gok {α : Type} {f : α → D} {fin : Sl} {v : List α} {r : CRes} (h : C0w f fin (.ok v) r) : ∃ b, r = .ok (wop b (v.map f)) fin := by cases h; assumption
theorem C0w.gex {α : Type} {f : α → D} {fin : Sl} {x : Exc} {r : CRes} (h : C0w f fin (.ex x) r) : ∃ e, r = .er x e := by cases h; assumption
def Qw {α : Type} (f : α → D) (fin : Sl) (br : List Bool) : List α → SR → Prop := fun v r => ∃ b, endF br r = .ok (wop b (v.map f)) fin
theorem C0w.mk {α : Type} {f : α → D} {fin : Sl} {br : List Bool} {o : O (List α)} {r : SR} (h : SRel (Qw f fin br) o r) : C0w f fin o (endF br r) := by
  cases o with
  | ok v => exact .iok h.gok
  | ex x =>
    obtain ⟨e, h⟩ := h.gex
    subst h
    exact .iex ⟨_, rfl⟩
  | un => (first | trivial | exact .iun)
theorem ret_w {α : Type} {f : α → D} {fin : Sl} {br : List Bool} {v : List α} {r : SR} (b : Bool) (h : endF br r = .ok (wop b (v.map f)) fin) : SRel (Qw f fin br) (.ok v) r := .iok ⟨b, h⟩
theorem Qw_mk {α σ : Type} {f : α → D} {fin : Sl} {br : List Bool} {v : List α} {I : σ → Sl → Prop} {o : Op} {e : Sl} (b : Bool) (h : endF br (.rt o e) = .ok (wop b (v.map f)) fin) : SRel (Ql3 I (Qr (Qw f fin br))) (.ok (.rt v)) (.rt o e) := .iok ⟨⟨_, _, rfl⟩, b, h⟩
theorem call_w {α τ : Type} {Q : τ → SR → Prop} {br : List Bool} {F : Sl → CRes} {os : List Op} {e e2 e3 ps fin : Sl} {k : Op → Sl → SR} {f : α → D} {oF : O (List α)} {K : List α → O τ} (hp : toPar os br e = some (ps, e2)) (hF : C0w f fin oF (F ps)) (hb : backs os fin e2 = e3) (hk : ∀ v b, SRel Q (K v) (k (wop b (v.map f)) e3)) : SRel Q (oF.bind K) ((callfin br F os e).st k) := by
  unfold callfin
  rw [hp]
  cases oF with
  | ok v =>
    obtain ⟨b, hF⟩ := hF.gok
    simp only [hF, hb]
    exact hk v b
  | ex x =>
    obtain ⟨f, hF⟩ := hF.gex
    exact .iex ⟨backs os f e2, by simp only [hF]; rfl⟩
  | un => (first | trivial | exact .iun)
/-! of a list: count, index -/
def cntO {α : Type} [DecidableEq α] (xs : List α) (x : α) : O Int := .ok (xs.countP fun y => decide (y = x))
def metfin (f : List D → D → Option Op) (x y : Op) (e : Sl) : Res Op := match vw x e, vw y e with
  | some (.list xs), some q => lift (f xs q) e
  | _, _ => .bad
def metk (f : List D → D → Option Op) (b : ME) (k : Op → Sl → SR) (x : Op) (e1 : Sl) : SR := match vw x e1 with
  | some (.list _) => (b e1).st fun y e2 => (metfin f x y e2).st k
  | _ => .bad
theorem met_st {τ : Type} {Q : τ → SR → Prop} {o : O τ} {f : List D → D → Option Op} {a b : ME} {e : Sl} {k : Op → Sl → SR} (h : SRel Q o ((a e).st (metk f b k))) : SRel Q o ((metE f a b e).st k) := by
  unfold metE
  rw [st_bind]
  refine st_to (fun x e1 => ?_) h
  unfold metk
  cases vw x e1 with
  | none => rfl
  | some d => cases d <;> first | rfl | exact st_bind
theorem metk_go {τ : Type} {Q : τ → SR → Prop} {o : O τ} {f : List D → D → Option Op} {b : ME} {e : Sl} {k : Op → Sl → SR} {x : Op} {xs : List D} (hv : vw x e = some (.list xs)) (h : SRel Q o ((b e).st fun y e2 => (metfin f x y e2).st k)) : SRel Q o (metk f b k x e) := by
  unfold metk
  rw [hv]
  exact h
theorem findIdx_E {α : Type} [DecidableEq α] {f : α → D} {n : Nat} [EqE f n] (x : α) : ∀ (xs : List α), ((xs.map f).findIdx? fun y => PyData.eqv y (f x)) = xs.findIdx? fun y => decide (y = x)
  | [] => rfl
  | y :: xs => by
    rw [List.map_cons, List.findIdx?_cons, List.findIdx?_cons, findIdx_E x xs, EqE.eqv y x]
theorem met_idx {α τ : Type} {Q : τ → SR → Prop} [DecidableEq α] {f : α → D} {n : Nat} [EqE f n] (hn : n ≤ 60) {e : Sl} {k : Op → Sl → SR} {p q : Op} (xs : List α) (x : α) {K : Int → O τ} (hp : vw p e = some (.list (xs.map f))) (hq : vw q e = some (f x)) (hk : ∀ v, SRel Q (K v) (k (.im (eI v)) e)) :
    SRel Q ((idxO' xs x).bind K) ((metfin (vmF .index) p q e).st k) := by
  unfold metfin
  simp only [hp, hq, vmF, idxD, shps_E hn, shp_of hn, idxO']
  by_cases hl : xs.length ≤ sizeMax
  · have l2 : decide ((xs.map f).length ≤ sizeMax) = true := by simpa using hl
    simp only [l2, Bool.and_self, if_true, findIdx_E, if_pos hl]
    cases xs.findIdx? fun y => decide (y = x) with
    | none => exact SRel.un
    | some j => exact hk j
  · rw [if_neg hl]; exact SRel.un
theorem countP_E {α : Type} [DecidableEq α] {f : α → D} {n : Nat} [EqE f n] (x : α) : ∀ (xs : List α), ((xs.map f).countP fun y => PyData.eqv y (f x)) = xs.countP fun y => decide (y = x)
  | [] => rfl
  | y :: xs => by
    rw [List.map_cons, List.countP_cons, List.countP_cons, countP_E x xs, EqE.eqv y x]
theorem met_cnt {α τ : Type} {Q : τ → SR → Prop} [DecidableEq α] {f : α → D} {n : Nat} [EqE f n] (hn : n ≤ 60) {e : Sl} {k : Op → Sl → SR} {p q : Op} (xs : List α) (x : α) {K : Int → O τ} (hp : vw p e = some (.list (xs.map f))) (hq : vw q e = some (f x)) (hk : ∀ v, SRel Q (K v) (k (.im (eI v)) e)) :
    SRel Q ((cntO xs x).bind K) ((metfin (vmF .count) p q e).st k) := by
  unfold metfin
  simp only [hp, hq, vmF, cntD, shps_E hn, shp_of hn, cntO, Bool.and_self, if_true, countP_E]
  rw [O.bind_ok]
  exact hk _
end Ev
end
section
set_option maxHeartbeats 1000000
/-! TyM: mathematics for the plain functions. -/
namespace Ev
open PySem
variable {α β γ σ ρ : Type}

@[simp] theorem O.guard_true {o : O α} {c : Prop} [Decidable c] (h : c) : (if c then o else .un) = o := if_pos h
/-! ### what a value's class is -/
@[simp] theorem tyO_ii {x : Int} : tyO (eI x) .int = .ok true := rfl
@[simp] theorem tyO_ib {x : Int} : tyO (eI x) .bool = .ok false := rfl
@[simp] theorem tyO_is {x : Int} : tyO (eI x) .str = .ok false := rfl
@[simp] theorem tyO_it {x : Int} : tyO (eI x) .tuple = .ok false := rfl
@[simp] theorem tyO_il {x : Int} : tyO (eI x) .list = .ok false := rfl
@[simp] theorem tyO_bb {x : Bool} : tyO (eB x) .bool = .ok true := rfl
@[simp] theorem tyO_bi {x : Bool} : tyO (eB x) .int = .ok true := rfl
@[simp] theorem tyO_ss {x : Str} : tyO (eS x) .str = .ok true := rfl
@[simp] theorem tyO_st {x : Str} : tyO (eS x) .tuple = .ok false := rfl
@[simp] theorem tyO_si {x : Str} : tyO (eS x) .int = .ok false := rfl
@[simp] theorem tyO_Tt {f : α → D} {x : List α} : tyO (eT f x) .tuple = .ok true := rfl
@[simp] theorem tyO_Ti {f : α → D} {x : List α} : tyO (eT f x) .int = .ok false := rfl
@[simp] theorem tyO_Ts {f : α → D} {x : List α} : tyO (eT f x) .str = .ok false := rfl
@[simp] theorem tyO_Lt {f : α → D} {x : List α} : tyO (eL f x) .tuple = .ok false := rfl
@[simp] theorem tyO_Ll {f : α → D} {x : List α} : tyO (eL f x) .list = .ok true := rfl
@[simp] theorem tyO_Ut {f : α → List D} {x : α} : tyO (eU f x) .tuple = .ok true := rfl
@[simp] theorem tyO_Ui {f : α → List D} {x : α} : tyO (eU f x) .int = .ok false := rfl
@[simp] theorem tyO_Us {f : α → List D} {x : α} : tyO (eU f x) .str = .ok false := rfl
@[simp] theorem lenI_nn {xs : List α} : 0 ≤ lenI xs := by rw [lenI_eq]; omega
@[simp] theorem lenI_nil : lenI ([] : List α) = 0 := Eq.trans rfl rfl
@[simp] theorem lenI_cons {x : α} {xs : List α} : lenI (x :: xs) = lenI xs + 1 := Eq.trans rfl rfl
@[simp] theorem lenI_map {f : α → β} {xs : List α} : lenI (xs.map f) = lenI xs := by simp [lenI_eq]
@[simp] theorem lenI_app {xs ys : List α} : lenI (xs ++ ys) = lenI xs + lenI ys := by simp [lenI_eq]
/-! ### numbers in a row -/
theorem mem_rng {a b i : Int} : i ∈ rng a b ↔ a ≤ i ∧ i < b := by
  unfold rng
  rw [List.mem_map]
  constructor
  · rintro ⟨j, hj, rfl⟩
    have := List.mem_range.mp hj
    omega
  · rintro ⟨h, h'⟩
    exact ⟨(i - a).toNat, List.mem_range.mpr (by omega), by omega⟩
theorem rng_sorted {a b : Int} : (rng a b).Pairwise (· < ·) := by
  unfold rng
  rw [List.pairwise_map]
  exact List.pairwise_lt_range.imp fun h => by omega
theorem rng_nodup {a b : Int} : (rng a b).Nodup := rng_sorted.imp fun h => by omega
@[simp] theorem rng_len {a b : Int} : (rng a b).length = (b - a).toNat := by simp [rng]
theorem rng_lenI {n : Nat} : lenI (rng 0 (n : Int)) = n := by rw [lenI_eq]; simp
theorem rng_nil {a b : Int} (h : b ≤ a) : rng a b = [] := by
  unfold rng
  rw [show (b - a).toNat = 0 by omega]; rfl
theorem rng_cons {a b : Int} (h : a < b) : rng a b = a :: rng (a + 1) b := by
  unfold rng
  rw [show (b - a).toNat = (b - (a + 1)).toNat + 1 by omega, List.range_succ_eq_map, List.map_cons, List.map_map]
  refine List.cons_eq_cons.mpr ⟨by simp, List.map_congr_left fun i _ => ?_⟩
  show a + ((i + 1 : Nat) : Int) = a + 1 + (i : Int)
  omega
theorem rng_snoc {a b : Int} (h : a ≤ b) : rng a (b + 1) = rng a b ++ [b] := by
  unfold rng
  rw [show (b + 1 - a).toNat = (b - a).toNat + 1 by omega, List.range_succ, List.map_append]
  congr 1
  simp; omega
theorem rngB_of {n : Int} (h0 : -1000000 ≤ n) (h1 : n ≤ 1000000) : rngB n = true := by
  simp only [rngB, Bool.and_eq_true, decide_eq_true_eq]; omega
theorem rng1O_ok {n : Int} (h0 : -1000000 ≤ n) (h1 : n ≤ 1000000) : rng1O n = .ok (rng 0 n) := by unfold rng1O; rw [rngB_of h0 h1]; rfl
theorem rng2O_ok {a b : Int} (h0 : -1000000 ≤ a) (h1 : a ≤ 1000000) (h2 : -1000000 ≤ b) (h3 : b ≤ 1000000) : rng2O a b = .ok (rng a b) := by unfold rng2O; rw [rngB_of h0 h1, rngB_of h2 h3]; rfl
theorem rngLO_ok {a b : Int} (h0 : -1000000 ≤ a) (h1 : a ≤ 1000000) (h2 : -1000000 ≤ b) (h3 : b ≤ 1000000) : rngLO a b = .ok (rng a b) := by
  unfold rngLO
  have : rngOk a b = true := by
    unfold rngOk
    rw [rngB_of h0 h1, rngB_of h2 h3]
    simp only [Bool.and_self, Bool.true_and, decide_eq_true_eq]
    omega
  rw [this]; rfl
/-! ### items -/
instance : Inhabited D := ⟨.none⟩
instance : Inhabited Str := ⟨""⟩
/-- the item at i -/
def at_ [Inhabited α] (xs : List α) (i : Int) : α := xs.getD i.toNat default
theorem idxO_ok [Inhabited α] {xs : List α} {i : Int} (h0 : 0 ≤ i) (h1 : i < lenI xs) : idxO xs i = .ok (at_ xs i) := by
  rw [lenI_eq] at h1
  have hi : i.toNat < xs.length := by omega
  unfold idxO at_
  rw [ixD_at h0 h1]
  simp only [List.getElem?_eq_getElem hi, List.getD_eq_getElem?_getD, Option.getD]
theorem idxO_neg [Inhabited α] {xs : List α} {i : Int} (h0 : i < 0) (h1 : -(lenI xs) ≤ i) : idxO xs i = .ok (at_ xs (i + lenI xs)) := by
  rw [lenI_eq] at h1 ⊢
  have hi : (i + (xs.length : Int)).toNat < xs.length := by omega
  unfold idxO at_ ixD
  rw [if_neg (by omega), if_pos h1]
  simp only [List.getElem?_eq_getElem hi, List.getD_eq_getElem?_getD, Option.getD]
theorem at_mem [Inhabited α] {xs : List α} {i : Int} (h0 : 0 ≤ i) (h1 : i < lenI xs) : at_ xs i ∈ xs := by
  rw [lenI_eq] at h1
  have hi : i.toNat < xs.length := by omega
  unfold at_
  rw [List.getD_eq_getElem?_getD, List.getElem?_eq_getElem hi]
  exact List.getElem_mem _
theorem mem_at [Inhabited α] {xs : List α} {x : α} (h : x ∈ xs) : ∃ i, 0 ≤ i ∧ i < lenI xs ∧ at_ xs i = x := by
  obtain ⟨i, hi, e⟩ := List.getElem_of_mem h
  refine ⟨i, by omega, by rw [lenI_eq]; omega, ?_⟩
  unfold at_
  rw [List.getD_eq_getElem?_getD, Int.toNat_natCast, List.getElem?_eq_getElem hi]
  exact e
@[simp] theorem at_zero [Inhabited α] {x : α} {xs : List α} : at_ (x :: xs) 0 = x := rfl
theorem at_succ [Inhabited α] {x : α} {xs : List α} {i : Int} (h : 0 ≤ i) : at_ (x :: xs) (i + 1) = at_ xs i := by
  unfold at_
  rw [show (i + 1).toNat = i.toNat + 1 by omega]; rfl
theorem enm_eq [Inhabited α] : ∀ {xs : List α} {k : Int}, enm k xs = (rng k (k + lenI xs)).map fun i => (i, at_ xs (i - k))
  | [], k => by rw [rng_nil (by simp)]; rfl
  | x :: xs, k => by
    rw [rng_cons (by simp [lenI_eq]; omega), List.map_cons, enm, enm_eq (xs := xs) (k := k + 1)]
    have e : k + 1 + lenI xs = k + lenI (x :: xs) := by simp; omega
    rw [e]
    refine List.cons_eq_cons.mpr ⟨by simp, List.map_congr_left fun i hi => ?_⟩
    have := mem_rng.mp hi
    rw [show i - k = (i - (k + 1)) + 1 by omega, at_succ (by omega)]
theorem enm0 [Inhabited α] {xs : List α} : enm 0 xs = (rng 0 (lenI xs)).map fun i => (i, at_ xs i) := by
  rw [enm_eq]
  simp
@[simp] theorem enm_len : ∀ {xs : List α} {k : Int}, (enm k xs).length = xs.length
  | [], _ => rfl
  | x :: xs, k => by simp [enm, enm_len]
theorem enm_snd : ∀ {xs : List α} {k : Int}, (enm k xs).map (·.2) = xs
  | [], _ => rfl
  | x :: xs, k => by simp [enm, enm_snd]
/-- all of them, by place -/
theorem map_at [Inhabited α] {xs : List α} : (rng 0 (lenI xs)).map (at_ xs) = xs := by
  have := enm_snd (xs := xs) (k := 0)
  rw [enm0, List.map_map] at this
  exact this
theorem ext_at [Inhabited α] {xs ys : List α} (h : lenI xs = lenI ys) (e : ∀ i, 0 ≤ i → i < lenI xs → at_ xs i = at_ ys i) : xs = ys := by
  rw [← map_at (xs := xs), ← map_at (xs := ys), ← h]
  exact List.map_congr_left fun i hi => e i (mem_rng.mp hi).1 (mem_rng.mp hi).2
theorem at_map [Inhabited α] [Inhabited β] {f : α → β} {xs : List α} {i : Int} (h0 : 0 ≤ i) (h1 : i < lenI xs) : at_ (xs.map f) i = f (at_ xs i) := by
  rw [lenI_eq] at h1
  have hi : i.toNat < xs.length := by omega
  unfold at_
  simp [List.getD_eq_getElem?_getD, List.getElem?_eq_getElem hi]
theorem at_rng {n i : Int} (h0 : 0 ≤ i) (h1 : i < n) : at_ (rng 0 n) i = i := by
  unfold at_ rng
  have hi : i.toNat < (n - 0).toNat := by omega
  simp [List.getD_eq_getElem?_getD, List.getElem?_eq_getElem, hi]
  have : i.toNat < n.toNat := by omega
  simp [List.getElem?_range, this]
  omega
/-! ### loops and comprehensions -/
theorem szO_le {xs : List α} {n : Nat} (h : xs.length ≤ n) (hn : n ≤ 16777216) : szO xs = .ok xs := szO_ok (by unfold sizeMax; omega)
theorem catO_le {xs ys : List α} (h : xs.length + ys.length ≤ 16777216) : catO xs ys = .ok (xs ++ ys) := catO_ok h
theorem appO_le {xs : List α} {x : α} (h : xs.length < 16777216) : appO xs x = .ok (xs ++ [x]) := appO_ok h
theorem mapO_eq {g : α → O β} {f : α → β} {xs : List α} (h : ∀ x ∈ xs, g x = .ok (f x)) : mapO g xs = .ok (xs.map f) := mapO_ok h
/-- a list that grows by f x -/
theorem foldO_ext {f : List β → α → O (List β)} {g : α → List β} : ∀ {xs : List α} {s : List β} {n : Nat}, (∀ s, ∀ x ∈ xs, s.length + (g x).length ≤ n → f s x = .ok (s ++ g x)) → s.length + (xs.flatMap g).length ≤ n → foldO f s xs = .ok (s ++ xs.flatMap g)
  | [], s, n, _, _ => by simp [foldO]
  | x :: xs, s, n, h, hl => by
    have l1 : (List.flatMap g (x :: xs)).length = (g x).length + (xs.flatMap g).length := by simp
    rw [foldO, h s x List.mem_cons_self (by omega)]
    show foldO f (s ++ g x) xs = _
    rw [foldO_ext (n := n) (fun s y hy => h s y (List.mem_cons_of_mem _ hy)) (by rw [List.length_append]; omega)]
    simp
theorem foldO_app {f : List β → α → O (List β)} {g : α → β} {xs : List α} {s : List β} {n : Nat} (h : ∀ s, ∀ x ∈ xs, s.length < n → f s x = .ok (s ++ [g x])) (hl : s.length + xs.length ≤ n) : foldO f s xs = .ok (s ++ xs.map g) := by
  induction xs generalizing s with
  | nil => simp [foldO]
  | cons x xs ih =>
    rw [List.length_cons] at hl
    rw [foldO, h s x List.mem_cons_self (by omega)]
    show foldO f _ xs = _
    rw [ih (fun s y hy hn => h s y (List.mem_cons_of_mem _ hy) hn) (by simp; omega)]
    simp
/-- a list that grows by g x where p x -/
theorem foldO_fil {f : List β → α → O (List β)} {p : α → Bool} {g : α → β} {xs : List α} {s : List β} {n : Nat} (h : ∀ s, ∀ x ∈ xs, s.length < n → f s x = .ok (if p x then s ++ [g x] else s)) (hl : s.length + xs.length ≤ n) : foldO f s xs = .ok (s ++ (xs.filter p).map g) := by
  induction xs generalizing s with
  | nil => simp [foldO]
  | cons x xs ih =>
    rw [List.length_cons] at hl
    rw [foldO, h s x List.mem_cons_self (by omega)]
    show foldO f _ xs = _
    cases hp : p x
    · rw [if_neg (by simp), ih (fun s y hy hn => h s y (List.mem_cons_of_mem _ hy) hn) (by omega), List.filter_cons_of_neg (by simp [hp])]
    · rw [if_pos rfl, ih (fun s y hy hn => h s y (List.mem_cons_of_mem _ hy) hn) (by simp; omega), List.filter_cons_of_pos hp]
      simp
theorem flatMap_len_le {g : α → List β} {n : Nat} : ∀ {xs : List α}, (∀ x ∈ xs, (g x).length ≤ n) → (xs.flatMap g).length ≤ xs.length * n
  | [], _ => by simp
  | x :: xs, h => by
    have := flatMap_len_le (xs := xs) fun y hy => h y (List.mem_cons_of_mem _ hy)
    have := h x List.mem_cons_self
    simp only [List.flatMap_cons, List.length_append, List.length_cons, Nat.succ_mul]
    omega
/-! ### orders -/
class LxO (α : Type) [Lx α] : Prop where
  irr : ∀ a : α, lx a a = false
  tr : ∀ a b c : α, lx a b = true → lx b c = true → lx a c = true
  tri : ∀ a b : α, lx a b = false → lx b a = false → a = b
instance : LxO Int := ⟨fun a => by simp [lx_int], fun a b c => by simp only [lx_int, decide_eq_true_eq]; omega, fun a b => by simp only [lx_int, decide_eq_false_iff_not]; omega⟩
instance : LxO Bool := ⟨fun a => by cases a <;> rfl, fun a b c => by cases a <;> cases b <;> cases c <;> simp [lx, Lx.lx], fun a b => by cases a <;> cases b <;> simp [lx, Lx.lx]⟩
instance [DecidableEq α] [Lx α] [Lx β] [LxO α] [LxO β] : LxO (α × β) := ⟨fun a => by rw [lx_pair, if_pos rfl, LxO.irr], fun a b c => by
  obtain ⟨a1, a2⟩ := a
  obtain ⟨b1, b2⟩ := b
  obtain ⟨c1, c2⟩ := c
  simp only [lx_pair]
  intro h1 h2
  by_cases e1 : a1 = b1
  · subst e1
    rw [if_pos rfl] at h1
    by_cases e2 : a1 = c1
    · subst e2
      rw [if_pos rfl] at h2 ⊢
      exact LxO.tr _ _ _ h1 h2
    · rw [if_neg e2] at h2 ⊢
      exact h2
  · rw [if_neg e1] at h1
    by_cases e2 : b1 = c1
    · subst e2
      rw [if_neg e1]
      exact h1
    · rw [if_neg e2] at h2
      have := LxO.tr _ _ _ h1 h2
      by_cases e3 : a1 = c1
      · subst e3
        rw [LxO.irr] at this
        cases this
      · rw [if_neg e3]
        exact this, fun a b => by
  obtain ⟨a1, a2⟩ := a
  obtain ⟨b1, b2⟩ := b
  simp only [lx_pair]
  intro h1 h2
  by_cases e1 : a1 = b1
  · subst e1
    rw [if_pos rfl] at h1 h2
    rw [LxO.tri _ _ h1 h2]
  · rw [if_neg e1] at h1
    rw [if_neg (Ne.symm e1)] at h2
    exact absurd (LxO.tri _ _ h1 h2) e1⟩
section
variable [DecidableEq α] [Lx α] [LxO α]
theorem lxL_irr : ∀ a : List α, lx a a = false
  | [] => rfl
  | a :: as => by rw [lx_cons, if_pos rfl, lxL_irr as]
theorem lxL_tr : ∀ a b c : List α, lx a b = true → lx b c = true → lx a c = true
  | _, [], [], _, h => by cases h
  | [], _ :: _, [], _, h => by cases h
  | [], [], _ :: _, _, _ => rfl
  | [], _ :: _, _ :: _, _, _ => rfl
  | a :: as, [], _, h, _ => by cases h
  | a :: as, b :: bs, [], _, h => by cases h
  | a :: as, b :: bs, c :: cs, h1, h2 => by
    rw [lx_cons] at h1 h2 ⊢
    by_cases e1 : a = b
    · subst e1
      rw [if_pos rfl] at h1
      by_cases e2 : a = c
      · subst e2
        rw [if_pos rfl] at h2 ⊢
        exact lxL_tr _ _ _ h1 h2
      · rw [if_neg e2] at h2 ⊢; exact h2
    · rw [if_neg e1] at h1
      by_cases e2 : b = c
      · subst e2
        rw [if_neg e1]; exact h1
      · rw [if_neg e2] at h2
        have := LxO.tr _ _ _ h1 h2
        by_cases e3 : a = c
        · subst e3
          rw [LxO.irr] at this
          cases this
        · rw [if_neg e3]; exact this
theorem lxL_tri : ∀ a b : List α, lx a b = false → lx b a = false → a = b
  | [], [], _, _ => rfl
  | [], _ :: _, h, _ => by cases h
  | _ :: _, [], _, h => by cases h
  | a :: as, b :: bs, h1, h2 => by
    rw [lx_cons] at h1 h2
    by_cases e1 : a = b
    · subst e1
      rw [if_pos rfl] at h1 h2
      rw [lxL_tri _ _ h1 h2]
    · rw [if_neg e1] at h1
      rw [if_neg (Ne.symm e1)] at h2
      exact absurd (LxO.tri _ _ h1 h2) e1
instance : LxO (List α) := ⟨lxL_irr, lxL_tr, lxL_tri⟩
end
section
variable [Lx α] [LxO α]
theorem lx_asymm {a b : α} (h : lx a b = true) : lx b a = false := by
  cases h' : lx b a
  · rfl
  · have := LxO.tr _ _ _ h h'
    rw [LxO.irr] at this
    cases this
/-- not greater, twice -/
theorem nlt_tr {a b c : α} (h1 : lx b a = false) (h2 : lx c b = false) : lx c a = false := by
  cases h : lx c a
  · rfl
  · by_cases e : lx a b = true
    · rw [LxO.tr _ _ _ h e] at h2; cases h2
    · have := LxO.tri a b (by simpa using e) h1
      subst this
      rw [h] at h2; cases h2
theorem minF_spec : ∀ (xs : List α) (x : α), minF x xs ∈ x :: xs ∧ ∀ y ∈ x :: xs, lx y (minF x xs) = false
  | [], x => ⟨List.mem_cons_self, fun y hy => by rw [List.mem_singleton.mp hy]; exact LxO.irr x⟩
  | z :: xs, x => by
    have e : minF x (z :: xs) = minF (if lx z x then z else x) xs := rfl
    obtain ⟨h1, h2⟩ := minF_spec xs (if lx z x then z else x)
    rw [e]
    cases h : lx z x
    · simp only [h, Bool.false_eq_true, if_false] at h1 h2 ⊢
      refine ⟨by rcases List.mem_cons.mp h1 with h1 | h1 <;> simp [h1], fun y hy => ?_⟩
      rcases List.mem_cons.mp hy with rfl | hy
      · exact h2 y List.mem_cons_self
      · rcases List.mem_cons.mp hy with rfl | hy
        · exact nlt_tr (h2 _ List.mem_cons_self) h
        · exact h2 y (List.mem_cons_of_mem _ hy)
    · simp only [h, if_true] at h1 h2 ⊢
      refine ⟨by rcases List.mem_cons.mp h1 with h1 | h1 <;> simp [h1], fun y hy => ?_⟩
      rcases List.mem_cons.mp hy with rfl | hy
      · exact nlt_tr (h2 _ List.mem_cons_self) (lx_asymm h)
      · rcases List.mem_cons.mp hy with rfl | hy
        · exact h2 y List.mem_cons_self
        · exact h2 y (List.mem_cons_of_mem _ hy)
theorem maxF_spec : ∀ (xs : List α) (x : α), maxF x xs ∈ x :: xs ∧ ∀ y ∈ x :: xs, lx (maxF x xs) y = false
  | [], x => ⟨List.mem_cons_self, fun y hy => by rw [List.mem_singleton.mp hy]; exact LxO.irr x⟩
  | z :: xs, x => by
    have e : maxF x (z :: xs) = maxF (if lx x z then z else x) xs := rfl
    obtain ⟨h1, h2⟩ := maxF_spec xs (if lx x z then z else x)
    rw [e]
    cases h : lx x z
    · simp only [h, Bool.false_eq_true, if_false] at h1 h2 ⊢
      refine ⟨by rcases List.mem_cons.mp h1 with h1 | h1 <;> simp [h1], fun y hy => ?_⟩
      rcases List.mem_cons.mp hy with rfl | hy
      · exact h2 y List.mem_cons_self
      · rcases List.mem_cons.mp hy with rfl | hy
        · exact nlt_tr h (h2 _ List.mem_cons_self)
        · exact h2 y (List.mem_cons_of_mem _ hy)
    · simp only [h, if_true] at h1 h2 ⊢
      refine ⟨by rcases List.mem_cons.mp h1 with h1 | h1 <;> simp [h1], fun y hy => ?_⟩
      rcases List.mem_cons.mp hy with rfl | hy
      · exact nlt_tr (lx_asymm h) (h2 _ List.mem_cons_self)
      · rcases List.mem_cons.mp hy with rfl | hy
        · exact h2 y List.mem_cons_self
        · exact h2 y (List.mem_cons_of_mem _ hy)
theorem minO_spec {xs : List α} (h : xs ≠ []) : ∃ m, minO xs = .ok m ∧ m ∈ xs ∧ ∀ y ∈ xs, lx y m = false := by
  cases xs with
  | nil => exact absurd rfl h
  | cons x xs => exact ⟨_, rfl, minF_spec xs x⟩
theorem maxO_spec {xs : List α} (h : xs ≠ []) : ∃ m, maxO xs = .ok m ∧ m ∈ xs ∧ ∀ y ∈ xs, lx m y = false := by
  cases xs with
  | nil => exact absurd rfl h
  | cons x xs => exact ⟨_, rfl, maxF_spec xs x⟩
theorem minO_eq {xs : List α} {m : α} (hm : m ∈ xs) (h : ∀ y ∈ xs, lx y m = false) : minO xs = .ok m := by
  obtain ⟨n, e, h1, h2⟩ := minO_spec (List.ne_nil_of_mem hm)
  rw [e, LxO.tri n m (h n h1) (h2 m hm)]
theorem maxO_eq {xs : List α} {m : α} (hm : m ∈ xs) (h : ∀ y ∈ xs, lx m y = false) : maxO xs = .ok m := by
  obtain ⟨n, e, h1, h2⟩ := maxO_spec (List.ne_nil_of_mem hm)
  rw [e, LxO.tri n m (h2 m hm) (h n h1)]
/-- of the same things the least is the same -/
theorem minO_congr {xs ys : List α} (h : ∀ x, x ∈ xs ↔ x ∈ ys) : minO xs = minO ys := by
  cases ys with
  | nil => cases xs with
    | nil => rfl
    | cons x xs => exact absurd ((h x).mp List.mem_cons_self) (List.not_mem_nil)
  | cons y ys =>
    obtain ⟨m, e, h1, h2⟩ := minO_spec (xs := y :: ys) (by simp)
    rw [e]
    exact minO_eq ((h m).mpr h1) fun z hz => h2 z ((h z).mp hz)
theorem maxO_congr {xs ys : List α} (h : ∀ x, x ∈ xs ↔ x ∈ ys) : maxO xs = maxO ys := by
  cases ys with
  | nil => cases xs with
    | nil => rfl
    | cons x xs => exact absurd ((h x).mp List.mem_cons_self) (List.not_mem_nil)
  | cons y ys =>
    obtain ⟨m, e, h1, h2⟩ := maxO_spec (xs := y :: ys) (by simp)
    rw [e]
    exact maxO_eq ((h m).mpr h1) fun z hz => h2 z ((h z).mp hz)
/-! sorted -/
def srt (xs : List α) : List α := xs.mergeSort fun a b => !lx b a
theorem sortO_le {xs : List α} (h : xs.length ≤ 16777216) : sortO xs = .ok (srt xs) := if_pos h
@[simp] theorem mem_srt {xs : List α} {x : α} : x ∈ srt xs ↔ x ∈ xs := List.mem_mergeSort
theorem srt_perm {xs : List α} : (srt xs).Perm xs := List.mergeSort_perm ..
@[simp] theorem srt_len {xs : List α} : (srt xs).length = xs.length := srt_perm.length_eq
theorem srt_pair {xs : List α} : (srt xs).Pairwise fun a b => lx b a = false := by
  have := List.pairwise_mergeSort (le := fun a b : α => !lx b a) (fun a b c h1 h2 => by
    simp only [Bool.not_eq_true'] at h1 h2 ⊢
    exact nlt_tr h1 h2) (fun a b => by
    cases h : lx b a
    · simp
    · simp [lx_asymm h]) xs
  exact this.imp fun h => by simpa using h
/-- sorted things, each with the same members, each once -/
theorem srt_ext {xs ys : List α} (h : ∀ x, x ∈ xs ↔ x ∈ ys) (hx : xs.Nodup) (hy : ys.Nodup) : srt xs = srt ys := by
  refine List.Perm.eq_of_pairwise (le := fun a b => lx b a = false) (fun a b _ _ h1 h2 => LxO.tri a b h2 h1) srt_pair srt_pair ?_
  exact srt_perm.trans (((List.perm_ext_iff_of_nodup hx hy).mpr h).trans srt_perm.symm)
theorem srt_self {xs : List α} (h : xs.Pairwise fun a b => lx b a = false) : srt xs = xs :=
  List.Perm.eq_of_pairwise (le := fun a b => lx b a = false) (fun a b _ _ h1 h2 => LxO.tri a b h2 h1) srt_pair h srt_perm
theorem srt_congr {xs ys : List α} (h : xs.Perm ys) : srt xs = srt ys :=
  List.Perm.eq_of_pairwise (le := fun a b => lx b a = false) (fun a b _ _ h1 h2 => LxO.tri a b h2 h1) srt_pair srt_pair (srt_perm.trans (h.trans srt_perm.symm))
end
/-! ### lots -/
/-- all lots, by one more each -/
def lotsF (xs : List α) : List (List α) := xs.foldl (fun s x => s ++ s.map (· ++ [x])) [[]]
theorem lotsF_snoc {xs : List α} {x : α} : lotsF (xs ++ [x]) = lotsF xs ++ (lotsF xs).map (· ++ [x]) := by
  unfold lotsF
  rw [List.foldl_append]; rfl
theorem revRec {α : Type} {P : List α → Prop} (h0 : P []) (h1 : ∀ xs x, P xs → P (xs ++ [x])) (xs : List α) : P xs := by
  have : ∀ ys : List α, P ys.reverse := by
    intro ys
    induction ys with
    | nil => exact h0
    | cons y ys ih => rw [List.reverse_cons]; exact h1 _ _ ih
  have := this xs.reverse
  rwa [List.reverse_reverse] at this
theorem mem_lotsF {xs : List α} : ∀ {r : List α}, r ∈ lotsF xs ↔ r.Sublist xs := by
  refine revRec (P := fun xs => ∀ {r : List α}, r ∈ lotsF xs ↔ r.Sublist xs) ?_ ?_ xs
  · intro r; simp [lotsF]
  · intro xs x ih r
    rw [lotsF_snoc, List.mem_append, ih, List.mem_map, List.sublist_append_iff]
    constructor
    · rintro (h | ⟨s, hs, rfl⟩)
      · exact ⟨r, [], by simp, h, List.nil_sublist _⟩
      · exact ⟨s, [x], rfl, ih.mp hs, List.Sublist.refl _⟩
    · rintro ⟨a, b, rfl, ha, hb⟩
      rcases List.sublist_cons_iff.mp hb with hb | ⟨c, rfl, hc⟩
      · rw [List.sublist_nil.mp hb, List.append_nil]
        exact .inl ha
      · rw [List.sublist_nil.mp hc]
        exact .inr ⟨a, ih.mpr ha, rfl⟩
theorem lotsF_len {xs : List α} : (lotsF xs).length = 2 ^ xs.length := by
  refine revRec (P := fun xs => (lotsF xs).length = 2 ^ xs.length) rfl (fun xs x ih => ?_) xs
  · rw [lotsF_snoc, List.length_append, List.length_map, ih, List.length_append, List.length_singleton, Nat.pow_succ]
    omega
theorem lots_go : ∀ {xs : List α} {s : List (List α)}, s.length * 2 ^ xs.length ≤ 16777216 → (∀ r ∈ s, r.length + xs.length ≤ 1000) → foldO (fun (s : (List (List α))) (one : α) =>
    (mapO (fun lot : (List α) => (catO lot [one]).bind fun v => O.ok v) s).bind fun zs =>
    (szO zs).bind fun ys =>
    (catO s ys).bind fun v =>
    O.ok v) s xs = .ok (xs.foldl (fun s x => s ++ s.map (· ++ [x])) s)
  | [], s, _, _ => rfl
  | x :: xs, s, hl, hr => by
    rw [List.length_cons, Nat.pow_succ] at hl
    have p : 0 < 2 ^ xs.length := Nat.two_pow_pos _
    have h2 : s.length * 2 ≤ s.length * (2 ^ xs.length * 2) := Nat.mul_le_mul_left _ (by omega)
    have h3 : (s.length + s.length) * 2 ^ xs.length = s.length * (2 ^ xs.length * 2) := by rw [Nat.mul_comm (2 ^ xs.length) 2, ← Nat.mul_assoc]; congr 1; omega
    unfold foldO
    rw [mapO_eq (f := fun r => r ++ [x]) (fun r hr' => by
      have := hr r hr'
      rw [List.length_cons] at this
      rw [catO_le (by rw [List.length_singleton]; omega)]; rfl)]
    simp only [O.bind_ok]
    rw [szO_le (n := 16777216) (by rw [List.length_map]; omega) (by decide)]
    simp only [O.bind_ok]
    rw [catO_le (by rw [List.length_map]; omega)]
    simp only [O.bind_ok]
    rw [lots_go (xs := xs) (by rw [List.length_append, List.length_map]; omega) (fun r hr' => by
      rcases List.mem_append.mp hr' with h | h
      · have := hr r h
        rw [List.length_cons] at this
        omega
      · obtain ⟨q, hq, rfl⟩ := List.mem_map.mp h
        have := hr q hq
        rw [List.length_cons] at this
        rw [List.length_append, List.length_singleton]
        omega)]
    rfl
theorem lots_fold {xs : List α} (h : xs.length ≤ 20) : foldO (fun (s : (List (List α))) (one : α) =>
    (mapO (fun lot : (List α) => (catO lot [one]).bind fun v => O.ok v) s).bind fun zs =>
    (szO zs).bind fun ys =>
    (catO s ys).bind fun v =>
    O.ok v) [[]] xs = .ok (lotsF xs) := lots_go (by
      have : 2 ^ xs.length ≤ 2 ^ 20 := Nat.pow_le_pow_right (by decide) h
      simp only [List.length_singleton]
      omega) (fun r hr => by
      rw [List.mem_singleton.mp hr, List.length_nil]
      omega)
/-- lots, the smaller first, then in order -/
def lotsS [DecidableEq α] [Lx α] (xs : List α) : List (List α) := (srt ((lotsF xs).map fun l => (lenI l, l))).map (·.2)
theorem mem_lotsS [DecidableEq α] [Lx α] [LxO α] {xs l : List α} : l ∈ lotsS xs ↔ l.Sublist xs := by
  unfold lotsS
  rw [← mem_lotsF]
  simp
theorem lotsS_len [DecidableEq α] [Lx α] [LxO α] {xs : List α} : (lotsS xs).length = 2 ^ xs.length := by
  unfold lotsS
  simp [lotsF_len]
/-- a loop that adds one each turn -/
theorem foldO_len {f : σ → α → O σ} {J : σ → Prop} {ℓ : σ → Nat} : ∀ {xs : List α} {s : σ} {n : Nat}, J s → ℓ s + xs.length ≤ n → (∀ s x, J s → x ∈ xs → ℓ s < n → ∃ s', f s x = .ok s' ∧ ℓ s' = ℓ s + 1 ∧ J s') → ∃ s', foldO f s xs = .ok s' ∧ J s' ∧ ℓ s' = ℓ s + xs.length
  | [], s, n, h0, _, _ => ⟨s, rfl, h0, by simp⟩
  | x :: xs, s, n, h0, hl, h => by
    rw [List.length_cons] at hl
    obtain ⟨s1, e1, l1, h1⟩ := h s x h0 List.mem_cons_self (by omega)
    obtain ⟨s2, e2, h2, l2⟩ := foldO_len (xs := xs) (n := n) h1 (by omega) fun s y hs hy => h s y hs (List.mem_cons_of_mem _ hy)
    exact ⟨s2, by rw [foldO, e1]; simpa using e2, h2, by rw [List.length_cons]; omega⟩
/-- the law's loop -/
theorem loop_true {f : σ → α → O (Fl σ Bool)} {J : σ → Prop} {xs : List α} {s : σ} (h0 : J s) (h : ∀ s, J s → ∀ x ∈ xs, ∃ s', f s x = .ok (.nx s') ∧ J s') : (loopO f s xs).bind (Fl.el (fun _ => O.ok true) (fun v => O.ok v)) = .ok true := by
  obtain ⟨s', e, _⟩ := loopO_inv J h0 h
  rw [e]; rfl
end Ev
end
section
set_option maxHeartbeats 0
namespace Lw
open PySem PySem.Spec PyProof.Rows L2 Ev
def top (i : Nat) : Stmt := PySem.Challenge.pw_washhouse_k33_whole_two_irons.main.body.getD i (.Pass ⟨0, 0, 0, 0⟩)
abbrev s_is_integer : Stmt := top 1
abbrev d_is_integer : Df := ⟨["thing"], defScope s_is_integer, [false], false, defBody s_is_integer⟩
abbrev s_is_within : Stmt := top 2
abbrev d_is_within : Df := ⟨["thing", "low", "high"], defScope s_is_within, [false, false, false], false, defBody s_is_within⟩
abbrev s_is_sized : Stmt := top 3
abbrev d_is_sized : Df := ⟨["thing", "low", "high"], defScope s_is_sized, [false, false, false], false, defBody s_is_sized⟩
abbrev s_all_lots : Stmt := top 4
abbrev d_all_lots : Df := ⟨["some", "found", "one", "size", "lot"], defScope s_all_lots, [false], false, defBody s_all_lots⟩
abbrev s_are_pieces : Stmt := top 16
abbrev d_are_pieces : Df := ⟨["thing", "low", "high", "piece"], defScope s_are_pieces, [false], false, defBody s_are_pieces⟩
abbrev s_check_pieces : Stmt := top 17
abbrev d_check_pieces : Df := ⟨["thing"], defScope s_check_pieces, [false], false, defBody s_check_pieces⟩
abbrev s_check_heat : Stmt := top 18
abbrev d_check_heat : Df := ⟨["pieces", "heat"], defScope s_check_heat, [false, false], false, defBody s_check_heat⟩
abbrev s_raw_left : Stmt := top 19
abbrev d_raw_left : Df := ⟨["pieces", "one", "other", "piece", "low", "high"], defScope s_raw_left, [false, false, false], false, defBody s_raw_left⟩
abbrev s_two_irons : Stmt := top 20
abbrev d_two_irons : Df := ⟨["pieces", "found", "one", "other"], defScope s_two_irons, [false], false, defBody s_two_irons⟩
abbrev s_check_two : Stmt := top 21
abbrev d_check_two : Df := ⟨["pieces", "one", "other"], defScope s_check_two, [false, false, false], false, defBody s_check_two⟩
abbrev s_left_over : Stmt := top 22
abbrev d_left_over : Df := ⟨["pieces", "one", "other"], defScope s_left_over, [false, false, false], false, defBody s_left_over⟩
abbrev s_shared_out : Stmt := top 23
abbrev d_shared_out : Df := ⟨["pieces", "one", "other", "every", "found", "lot", "rest", "piece"], defScope s_shared_out, [false, false, false], false, defBody s_shared_out⟩
abbrev s__law_hand : Stmt := top 25
abbrev d__law_hand : Df := ⟨["script", "cells", "cell"], defScope s__law_hand, [false], false, defBody s__law_hand⟩
abbrev s__law_draw : Stmt := top 26
abbrev d__law_draw : Df := ⟨["hand", "many", "number", "cell", "digit"], defScope s__law_draw, [true, false], false, defBody s__law_draw⟩
abbrev s__law_any : Stmt := top 27
abbrev d__law_any : Df := ⟨["hand", "some"], defScope s__law_any, [true, false], false, defBody s__law_any⟩
abbrev s__law_pieces : Stmt := top 28
abbrev d__law_pieces : Df := ⟨["hand", "most", "found", "piece", "low"], defScope s__law_pieces, [true, false], false, defBody s__law_pieces⟩
abbrev s__law_lots : Stmt := top 29
abbrev d__law_lots : Df := ⟨["some", "found", "one", "size", "lot"], defScope s__law_lots, [false], false, defBody s__law_lots⟩
abbrev s__law_do_iron : Stmt := top 30
abbrev d__law_do_iron : Df := ⟨["pieces", "heats", "low", "high", "heat"], defScope s__law_do_iron, [false, false], false, defBody s__law_do_iron⟩
abbrev s__law_no_pieces : Stmt := top 31
abbrev d__law_no_pieces : Df := ⟨["hand", "some"], defScope s__law_no_pieces, [true], false, defBody s__law_no_pieces⟩
abbrev s__law_no_heat : Stmt := top 32
abbrev d__law_no_heat : Df := ⟨["hand"], defScope s__law_no_heat, [true], false, defBody s__law_no_heat⟩
abbrev s__law_word : Stmt := top 33
abbrev d__law_word : Df := ⟨["call", "word", "e", "flags", "names"], defScope s__law_word, [false], false, defBody s__law_word⟩
abbrev s_law : Stmt := top 34
abbrev d_law : Df := ⟨["script", "hand", "turn", "a", "left", "words", "pieces", "one", "other", "n", "rows", "b", "mine", "yours", "lot", "alone", "bad", "off", "at", "both", "some", "first", "last", "pair"], defScope s_law, [false], true, defBody s_law⟩
def P : Prg where
  defs := [(("is_integer" : Str), d_is_integer), (("is_within" : Str), d_is_within), (("is_sized" : Str), d_is_sized), (("all_lots" : Str), d_all_lots), (("are_pieces" : Str), d_are_pieces), (("check_pieces" : Str), d_check_pieces), (("check_heat" : Str), d_check_heat), (("raw_left" : Str), d_raw_left), (("two_irons" : Str), d_two_irons), (("check_two" : Str), d_check_two), (("left_over" : Str), d_left_over), (("shared_out" : Str), d_shared_out), (("_law_hand" : Str), d__law_hand), (("_law_draw" : Str), d__law_draw), (("_law_any" : Str), d__law_any), (("_law_pieces" : Str), d__law_pieces), (("_law_lots" : Str), d__law_lots), (("_law_do_iron" : Str), d__law_do_iron), (("_law_no_pieces" : Str), d__law_no_pieces), (("_law_no_heat" : Str), d__law_no_heat), (("law" : Str), d_law)]
  lams := [(("_law_word" : Str), d__law_word)]
  tabs := []
  cst := [(("MOST_PIECES" : Str), .int 8), (("MOST_HEAT" : Str), .int 20)]
  exs := ["NoPieces", "NoHeat", "LeftOver"]
  sub := [(("NoPieces" : Str), [(("TooMany" : Str), false), (("WashError" : Str), true), (("LeftOver" : Str), false), (("NoCount" : Str), false), (("NoHeat" : Str), false), (("NoPieces" : Str), true), (("TooFew" : Str), false)]), (("NoHeat" : Str), [(("TooMany" : Str), false), (("WashError" : Str), true), (("LeftOver" : Str), false), (("NoCount" : Str), false), (("NoHeat" : Str), true), (("NoPieces" : Str), false), (("TooFew" : Str), false)]), (("LeftOver" : Str), [(("TooMany" : Str), false), (("WashError" : Str), true), (("LeftOver" : Str), true), (("NoCount" : Str), false), (("NoHeat" : Str), false), (("NoPieces" : Str), false), (("TooFew" : Str), false)]), (("TooMany" : Str), [(("TooMany" : Str), true), (("WashError" : Str), true), (("LeftOver" : Str), false), (("NoCount" : Str), false), (("NoHeat" : Str), false), (("NoPieces" : Str), false), (("TooFew" : Str), false)]), (("WashError" : Str), [(("TooMany" : Str), false), (("WashError" : Str), true), (("LeftOver" : Str), false), (("NoCount" : Str), false), (("NoHeat" : Str), false), (("NoPieces" : Str), false), (("TooFew" : Str), false)])]
  W := 1000
end Lw
namespace Lw
open PySem Ev
def subP : Str → Str → Option Bool := fun x y => (P.sub.lookup x).bind fun r => r.lookup y
abbrev bad1 : Df → Sl → CRes := fun _ _ => .bad
abbrev bad2 : Df → LRes → CRes := fun _ _ => .bad
def L__law_word (k : Nat) : LRes → CRes := callLm fuel (P.cfg false (P.run k) bad1 bad2) d__law_word
def p__law_word : MS := seqS [(asgS (nameG [0] 1) (immE (.str "let")))]
def m__law_word (r : LRes) : MS := (tryS 5 false r subP [("TooMany", 2, (seqS [(asgS (nameG [] 1) badE)])), ("WashError", 2, (seqS [(asgS (nameG [] 3) (lstE [(isxE subP "LeftOver" 2), (isxE subP "NoCount" 2), (isxE subP "NoHeat" 2), (isxE subP "NoPieces" 2)])), (asgS (nameG [] 3) (op2 (binD .Add) (varE 3) (lstE [(isxE subP "TooFew" 2)]))), (asgS (nameG [] 4) (lstE [(immE (.str "left")), (immE (.str "count")), (immE (.str "heat")), (immE (.str "pieces")), (immE (.str "few"))])), (asgS (nameG [] 1) (ifE (op2 (cmpF .Eq) (metE (vmF .count) (varE 3) (immE (.bool true))) (immE (.int 1))) (op2 subD (varE 4) (metE (vmF .index) (varE 3) (immE (.bool true)))) (immE (.str "other"))))]))])
def q__law_word : MS := seqS [(retS (varE 1))]
theorem r__law_word (k : Nat) (r : LRes) : L__law_word k r = endF [] ((p__law_word (List.replicate 5 none)).bind fun e => (m__law_word r e).bind q__law_word) := by kernel_rfl
def b_is_integer_0 (k : Nat) : MS := (retS (andE [(isiE .int (varE 0)), (notE (isiE .bool (varE 0)))]))
theorem r_is_integer (k : Nat) (ps : Sl) : P.run (k + 3) d_is_integer ps = endF [false] (seqS [b_is_integer_0 k] (ps ++ List.replicate 0 none)) := by kernel_rfl
def b_is_within_0 (k : Nat) : MS := (retS (andE [(callE [false] (P.run (k + 2) d_is_integer) [(varE 0)]), (chainE (cmpD .LtE) (cmpD .LtE) (varE 1) (varE 0) (varE 2))]))
theorem r_is_within (k : Nat) (ps : Sl) : P.run (k + 3) d_is_within ps = endF [false, false, false] (seqS [b_is_within_0 k] (ps ++ List.replicate 0 none)) := by kernel_rfl
def b_is_sized_0 (k : Nat) : MS := (retS (andE [(isiE .tuple (varE 0)), (chainE (cmpD .LtE) (cmpD .LtE) (varE 1) (bltE (bltD .len) [(varE 0)]) (varE 2))]))
theorem r_is_sized (k : Nat) (ps : Sl) : P.run (k + 3) d_is_sized ps = endF [false, false, false] (seqS [b_is_sized_0 k] (ps ++ List.replicate 0 none)) := by kernel_rfl
def ce_all_lots_0 (k : Nat) : ME := (op2 (binD .Add) (varE 4) (tupE [(varE 2)]))
def c_all_lots_0 (k : Nat) : ME := compE [4] (itE [] seqF [(varE 1)]) (nameT [] 4) (condE []) (ce_all_lots_0 k)
def w_all_lots_0_0 (k : Nat) : MS := (asgS (nameG [] 1) (op2 (binD .Add) (varE 1) (c_all_lots_0 k)))
def lb_all_lots_0 (k : Nat) : MS := seqS [w_all_lots_0_0 k]
def l_all_lots_0 (k : Nat) : MS := forS (itE [] seqF [(varE 0)]) (nameT [] 2) (lb_all_lots_0 k)
def ce_all_lots_1 (k : Nat) : ME := (tupE [(bltE (bltD .len) [(varE 4)]), (varE 4)])
def c_all_lots_1 (k : Nat) : ME := compE [4] (itE [] seqF [(varE 1)]) (nameT [] 4) (condE []) (ce_all_lots_1 k)
def ce_all_lots_2 (k : Nat) : ME := (varE 4)
def c_all_lots_2 (k : Nat) : ME := compE [3, 4] (itE [] seqF [(bltE (bltD .sorted) [(c_all_lots_1 k)])]) (unpT [(nameT [] 3), (nameT [] 4)]) (condE []) (ce_all_lots_2 k)
def b_all_lots_0 (k : Nat) : MS := (asgS (nameG [] 1) (lstE [(tupE [])]))
@[reducible] def b_all_lots_1 (k : Nat) : MS := (l_all_lots_0 k)
def b_all_lots_2 (k : Nat) : MS := (retS (c_all_lots_2 k))
theorem r_all_lots (k : Nat) (ps : Sl) : P.run (k + 3) d_all_lots ps = endF [false] (seqS [b_all_lots_0 k, b_all_lots_1 k, b_all_lots_2 k] (ps ++ List.replicate 4 none)) := by kernel_rfl
def ce_are_pieces_0 (k : Nat) : ME := (callE [false, false, false] (P.run (k + 2) d_is_sized) [(varE 3), (immE (.int 2)), (immE (.int 2))])
def c_are_pieces_0 (k : Nat) : ME := compE [3] (itE [] seqF [(varE 0)]) (nameT [] 3) (condE []) (ce_are_pieces_0 k)
def ce_are_pieces_1 (k : Nat) : ME := (andE [(callE [false, false, false] (P.run (k + 2) d_is_within) [(varE 1), (immE (.int 0)), (immE (.int 20))]), (callE [false, false, false] (P.run (k + 2) d_is_within) [(varE 2), (varE 1), (immE (.int 20))])])
def c_are_pieces_1 (k : Nat) : ME := compE [1, 2] (itE [] seqF [(varE 0)]) (unpT [(nameT [] 1), (nameT [] 2)]) (condE []) (ce_are_pieces_1 k)
def b_are_pieces_0 (k : Nat) : MS := (ifS (orE [(notE (callE [false, false, false] (P.run (k + 2) d_is_sized) [(varE 0), (immE (.int 1)), (immE (.int 8))])), (notE (bltE (bltD .all) [(c_are_pieces_0 k)]))]) (seqS [(retS (immE (.bool false)))]) (seqS []))
def b_are_pieces_1 (k : Nat) : MS := (retS (bltE (bltD .all) [(c_are_pieces_1 k)]))
theorem r_are_pieces (k : Nat) (ps : Sl) : P.run (k + 3) d_are_pieces ps = endF [false] (seqS [b_are_pieces_0 k, b_are_pieces_1 k] (ps ++ List.replicate 3 none)) := by kernel_rfl
def b_check_pieces_0 (k : Nat) : MS := (ifS (notE (callE [false] (P.run (k + 2) d_are_pieces) [(varE 0)])) (seqS [(raiseS "NoPieces")]) (seqS []))
theorem r_check_pieces (k : Nat) (ps : Sl) : P.run (k + 3) d_check_pieces ps = endF [false] (seqS [b_check_pieces_0 k] (ps ++ List.replicate 0 none)) := by kernel_rfl
def b_check_heat_0 (k : Nat) : MS := (exprS (callE [false] (P.run (k + 2) d_check_pieces) [(varE 0)]))
def b_check_heat_1 (k : Nat) : MS := (ifS (notE (callE [false, false, false] (P.run (k + 2) d_is_within) [(varE 1), (immE (.int 0)), (immE (.int 20))])) (seqS [(raiseS "NoHeat")]) (seqS []))
theorem r_check_heat (k : Nat) (ps : Sl) : P.run (k + 3) d_check_heat ps = endF [false, false] (seqS [b_check_heat_0 k, b_check_heat_1 k] (ps ++ List.replicate 0 none)) := by kernel_rfl
def ce_raw_left_0 (k : Nat) : ME := (varE 3)
def cc_raw_left_0 (k : Nat) : ME := condE [(andE [(notE (chainE (cmpD .LtE) (cmpD .LtE) (varE 4) (varE 1) (varE 5))), (notE (chainE (cmpD .LtE) (cmpD .LtE) (varE 4) (varE 2) (varE 5)))])]
def c_raw_left_0 (k : Nat) : ME := compE [3, 4, 5] (itE [] enumF [(varE 0)]) (unpT [(nameT [] 3), (unpT [(nameT [] 4), (nameT [] 5)])]) (cc_raw_left_0 k) (ce_raw_left_0 k)
def b_raw_left_0 (k : Nat) : MS := (retS (c_raw_left_0 k))
theorem r_raw_left (k : Nat) (ps : Sl) : P.run (k + 3) d_raw_left ps = endF [false, false, false] (seqS [b_raw_left_0 k] (ps ++ List.replicate 3 none)) := by kernel_rfl
def ce_two_irons_0 (k : Nat) : ME := (tupE [(bltE (bltD .len) [(callE [false, false, false] (P.run (k + 2) d_raw_left) [(varE 0), (varE 2), (varE 3)])]), (tupE [(varE 2), (varE 3)])])
def c_two_irons_0 (k : Nat) : ME := compE [3] (itE [] rangeF2 [(varE 2), (op2 (binD .Add) (immE (.int 20)) (immE (.int 1)))]) (nameT [] 3) (condE []) (ce_two_irons_0 k)
def w_two_irons_0_0 (k : Nat) : MS := (exprS (mutE 1 (mtF .extend) [(c_two_irons_0 k)]))
def lb_two_irons_0 (k : Nat) : MS := seqS [w_two_irons_0_0 k]
def l_two_irons_0 (k : Nat) : MS := forS (itE [] rangeF1 [(op2 (binD .Add) (immE (.int 20)) (immE (.int 1)))]) (nameT [] 2) (lb_two_irons_0 k)
def b_two_irons_0 (k : Nat) : MS := (exprS (callE [false] (P.run (k + 2) d_check_pieces) [(varE 0)]))
def b_two_irons_1 (k : Nat) : MS := (asgS (nameG [] 1) (lstE []))
@[reducible] def b_two_irons_2 (k : Nat) : MS := (l_two_irons_0 k)
def b_two_irons_3 (k : Nat) : MS := (retS (op2 subD (bltE (bltD .min) [(varE 1)]) (immE (.int 1))))
theorem r_two_irons (k : Nat) (ps : Sl) : P.run (k + 3) d_two_irons ps = endF [false] (seqS [b_two_irons_0 k, b_two_irons_1 k, b_two_irons_2 k, b_two_irons_3 k] (ps ++ List.replicate 3 none)) := by kernel_rfl
def b_check_two_0 (k : Nat) : MS := (exprS (callE [false, false] (P.run (k + 2) d_check_heat) [(varE 0), (varE 1)]))
def b_check_two_1 (k : Nat) : MS := (exprS (callE [false, false] (P.run (k + 2) d_check_heat) [(varE 0), (varE 2)]))
theorem r_check_two (k : Nat) (ps : Sl) : P.run (k + 3) d_check_two ps = endF [false, false, false] (seqS [b_check_two_0 k, b_check_two_1 k] (ps ++ List.replicate 0 none)) := by kernel_rfl
def b_left_over_0 (k : Nat) : MS := (exprS (callE [false, false, false] (P.run (k + 2) d_check_two) [(varE 0), (varE 1), (varE 2)]))
def b_left_over_1 (k : Nat) : MS := (retS (bltE (bltD .tuple) [(callE [false, false, false] (P.run (k + 2) d_raw_left) [(varE 0), (varE 1), (varE 2)])]))
theorem r_left_over (k : Nat) (ps : Sl) : P.run (k + 3) d_left_over ps = endF [false, false, false] (seqS [b_left_over_0 k, b_left_over_1 k] (ps ++ List.replicate 0 none)) := by kernel_rfl
def ce_shared_out_0 (k : Nat) : ME := (varE 7)
def cc_shared_out_0 (k : Nat) : ME := condE [(op2 (cmpF .NotIn) (varE 7) (varE 5))]
def c_shared_out_0 (k : Nat) : ME := compE [7] (itE [] seqF [(varE 3)]) (nameT [] 7) (cc_shared_out_0 k) (ce_shared_out_0 k)
def ce_shared_out_1 (k : Nat) : ME := (chainE (cmpD .LtE) (cmpD .LtE) (op2 subD (op2 subD (varE 0) (varE 7)) (immE (.int 0))) (varE 1) (op2 subD (op2 subD (varE 0) (varE 7)) (immE (.int 1))))
def c_shared_out_1 (k : Nat) : ME := compE [7] (itE [] seqF [(varE 5)]) (nameT [] 7) (condE []) (ce_shared_out_1 k)
def ce_shared_out_2 (k : Nat) : ME := (chainE (cmpD .LtE) (cmpD .LtE) (op2 subD (op2 subD (varE 0) (varE 7)) (immE (.int 0))) (varE 2) (op2 subD (op2 subD (varE 0) (varE 7)) (immE (.int 1))))
def c_shared_out_2 (k : Nat) : ME := compE [7] (itE [] seqF [(varE 6)]) (nameT [] 7) (condE []) (ce_shared_out_2 k)
def w_shared_out_0_0 (k : Nat) : MS := (asgS (nameG [] 6) (bltE (bltD .tuple) [(c_shared_out_0 k)]))
def w_shared_out_0_1 (k : Nat) : MS := (ifS (bltE (bltD .all) [(c_shared_out_1 k)]) (seqS [(ifS (bltE (bltD .all) [(c_shared_out_2 k)]) (seqS [(exprS (mutE 4 (mtF .append) [(tupE [(bltE (bltD .abs) [(op2 (binD .Sub) (bltE (bltD .len) [(varE 5)]) (bltE (bltD .len) [(varE 6)]))]), (tupE [(varE 5), (varE 6)])])]))]) (seqS []))]) (seqS []))
def lb_shared_out_0 (k : Nat) : MS := seqS [w_shared_out_0_0 k, w_shared_out_0_1 k]
def l_shared_out_0 (k : Nat) : MS := forS (itE [] seqF [(callE [false] (P.run (k + 2) d_all_lots) [(varE 3)])]) (nameT [] 5) (lb_shared_out_0 k)
def b_shared_out_0 (k : Nat) : MS := (exprS (callE [false, false, false] (P.run (k + 2) d_check_two) [(varE 0), (varE 1), (varE 2)]))
def b_shared_out_1 (k : Nat) : MS := (ifS (op2 (cmpF .Gt) (bltE (bltD .len) [(callE [false, false, false] (P.run (k + 2) d_raw_left) [(varE 0), (varE 1), (varE 2)])]) (immE (.int 0))) (seqS [(raiseS "LeftOver")]) (seqS []))
def b_shared_out_2 (k : Nat) : MS := (asgS (nameG [] 3) (bltE (rngD false) [(bltE (bltD .len) [(varE 0)])]))
def b_shared_out_3 (k : Nat) : MS := (asgS (nameG [] 4) (lstE []))
@[reducible] def b_shared_out_4 (k : Nat) : MS := (l_shared_out_0 k)
def b_shared_out_5 (k : Nat) : MS := (retS (op2 subD (bltE (bltD .min) [(varE 4)]) (immE (.int 1))))
theorem r_shared_out (k : Nat) (ps : Sl) : P.run (k + 3) d_shared_out ps = endF [false, false, false] (seqS [b_shared_out_0 k, b_shared_out_1 k, b_shared_out_2 k, b_shared_out_3 k, b_shared_out_4 k, b_shared_out_5 k] (ps ++ List.replicate 5 none)) := by kernel_rfl
def ce__law_hand_0 (k : Nat) : ME := (bltE (bltD .abs) [(bltE (bltD .int) [(varE 2)])])
def c__law_hand_0 (k : Nat) : ME := compE [2] (itE [] seqF [(sliE (varE 0) none (some (immE (.int 63))))]) (nameT [] 2) (condE []) (ce__law_hand_0 k)
def b__law_hand_0 (k : Nat) : MS := (asgS (nameG [] 1) (c__law_hand_0 k))
def b__law_hand_1 (k : Nat) : MS := (retS (lstE [(varE 1), (immE (.int 0)), (immE (.int 0)), (op2 (binD .Add) (immE (.int 61)) (op2 (binD .Mult) (immE (.int 7)) (bltE (bltD .len) [(varE 1)]))), (immE (.int 0))]))
theorem r__law_hand (k : Nat) (ps : Sl) : P.run (k + 3) d__law_hand ps = endF [false] (seqS [b__law_hand_0 k, b__law_hand_1 k] (ps ++ List.replicate 2 none)) := by kernel_rfl
def b__law_draw_0 (k : Nat) : MS := (ifS (andE [(op2 (cmpF .Eq) (op2 subD (varE 0) (immE (.int 2))) (immE (.int 0))), (op2 (cmpF .Lt) (op2 subD (varE 0) (immE (.int 1))) (bltE (bltD .len) [(op2 subD (varE 0) (immE (.int 0)))]))]) (seqS [(asgS (nameG [0] 3) (op2 subD (op2 subD (varE 0) (immE (.int 0))) (op2 subD (varE 0) (immE (.int 1))))), (setiS 0 setF (immE (.int 1)) (op2 (binD .Add) (op2 subD (varE 0) (immE (.int 1))) (immE (.int 1)))), (setiS 0 setF (immE (.int 3)) (op2 (binD .Mod) (bltE (bltD .int) [(op2 (binD .Add) (op2 (binD .Add) (op2 (binD .Mult) (op2 subD (varE 0) (immE (.int 3))) (immE (.int 69621))) (op2 (binD .Mult) (varE 3) (immE (.int 40692)))) (immE (.int 31)))]) (immE (.int 2147483629)))), (ifS (op2 (cmpF .GtE) (varE 3) (op2 (binD .Pow) (immE (.int 10)) (immE (.int 18)))) (seqS [(setiS 0 setF (immE (.int 2)) (varE 3))]) (seqS []))]) (seqS []))
def b__law_draw_1 (k : Nat) : MS := (ifS (op2 (cmpF .Gt) (op2 subD (varE 0) (immE (.int 2))) (immE (.int 0))) (seqS [(asgS (nameG [0] 4) (op2 (binD .Mod) (bltE (bltD .int) [(op2 subD (varE 0) (immE (.int 2)))]) (varE 1))), (setiS 0 setF (immE (.int 2)) (op2 (binD .FloorDiv) (op2 subD (varE 0) (immE (.int 2))) (varE 1))), (retS (varE 4))]) (seqS []))
def b__law_draw_2 (k : Nat) : MS := (setiS 0 setF (immE (.int 4)) (op2 (binD .Add) (op2 subD (varE 0) (immE (.int 4))) (immE (.int 1))))
def b__law_draw_3 (k : Nat) : MS := (asgS (nameG [0] 2) (op2 (binD .Mod) (bltE (bltD .int) [(op2 (binD .Mult) (bltE (bltD .int) [(op2 (binD .Add) (op2 subD (varE 0) (immE (.int 3))) (op2 (binD .Mult) (immE (.int 7919)) (op2 subD (varE 0) (immE (.int 4)))))]) (immE (.int 48271)))]) (immE (.int 2147483647))))
def b__law_draw_4 (k : Nat) : MS := (asgS (nameG [0] 2) (op2 (binD .Mod) (bltE (bltD .int) [(op2 (binD .Mult) (varE 2) (op2 (binD .Add) (op2 (binD .FloorDiv) (varE 2) (immE (.int 1009))) (immE (.int 69621))))]) (immE (.int 2147483647))))
def b__law_draw_5 (k : Nat) : MS := (asgS (nameG [0] 2) (op2 (binD .Mod) (bltE (bltD .int) [(op2 (binD .Mult) (varE 2) (op2 (binD .Add) (op2 (binD .FloorDiv) (varE 2) (immE (.int 2003))) (immE (.int 40014))))]) (immE (.int 2147483563))))
def b__law_draw_6 (k : Nat) : MS := (retS (op2 (binD .Mod) (bltE (bltD .int) [(op2 (binD .FloorDiv) (varE 2) (immE (.int 16)))]) (varE 1)))
theorem r__law_draw (k : Nat) (ps : Sl) : P.run (k + 3) d__law_draw ps = endF [true, false] (seqS [b__law_draw_0 k, b__law_draw_1 k, b__law_draw_2 k, b__law_draw_3 k, b__law_draw_4 k, b__law_draw_5 k, b__law_draw_6 k] (ps ++ List.replicate 3 none)) := by kernel_rfl
def b__law_any_0 (k : Nat) : MS := (retS (op2 subD (varE 1) (callE [true, false] (P.run (k + 2) d__law_draw) [(varE 0), (bltE (bltD .len) [(varE 1)])])))
theorem r__law_any (k : Nat) (ps : Sl) : P.run (k + 3) d__law_any ps = endF [true, false] (seqS [b__law_any_0 k] (ps ++ List.replicate 0 none)) := by kernel_rfl
def w__law_pieces_0_0 (k : Nat) : MS := (asgS (nameG [0] 4) (callE [true, false] (P.run (k + 2) d__law_draw) [(varE 0), (immE (.int 21))]))
def w__law_pieces_0_1 (k : Nat) : MS := (exprS (mutE 2 (mtF .append) [(tupE [(varE 4), (bltE (bltD .min) [(immE (.int 20)), (op2 (binD .Add) (varE 4) (callE [true, false] (P.run (k + 2) d__law_draw) [(varE 0), (immE (.int 8))]))])])]))
def lb__law_pieces_0 (k : Nat) : MS := seqS [w__law_pieces_0_0 k, w__law_pieces_0_1 k]
def l__law_pieces_0 (k : Nat) : MS := forS (itE [0] rangeF1 [(op2 (binD .Add) (immE (.int 1)) (callE [true, false] (P.run (k + 2) d__law_draw) [(varE 0), (varE 1)]))]) (nameT [0] 3) (lb__law_pieces_0 k)
def b__law_pieces_0 (k : Nat) : MS := (asgS (nameG [0] 2) (lstE []))
@[reducible] def b__law_pieces_1 (k : Nat) : MS := (l__law_pieces_0 k)
def b__law_pieces_2 (k : Nat) : MS := (retS (bltE (bltD .tuple) [(varE 2)]))
theorem r__law_pieces (k : Nat) (ps : Sl) : P.run (k + 3) d__law_pieces ps = endF [true, false] (seqS [b__law_pieces_0 k, b__law_pieces_1 k, b__law_pieces_2 k] (ps ++ List.replicate 3 none)) := by kernel_rfl
def ce__law_lots_0 (k : Nat) : ME := (op2 (binD .Add) (varE 4) (tupE [(varE 2)]))
def c__law_lots_0 (k : Nat) : ME := compE [4] (itE [] seqF [(varE 1)]) (nameT [] 4) (condE []) (ce__law_lots_0 k)
def w__law_lots_0_0 (k : Nat) : MS := (asgS (nameG [] 1) (op2 (binD .Add) (varE 1) (c__law_lots_0 k)))
def lb__law_lots_0 (k : Nat) : MS := seqS [w__law_lots_0_0 k]
def l__law_lots_0 (k : Nat) : MS := forS (itE [] seqF [(varE 0)]) (nameT [] 2) (lb__law_lots_0 k)
def ce__law_lots_1 (k : Nat) : ME := (tupE [(bltE (bltD .len) [(varE 4)]), (varE 4)])
def c__law_lots_1 (k : Nat) : ME := compE [4] (itE [] seqF [(varE 1)]) (nameT [] 4) (condE []) (ce__law_lots_1 k)
def ce__law_lots_2 (k : Nat) : ME := (varE 4)
def c__law_lots_2 (k : Nat) : ME := compE [3, 4] (itE [] seqF [(bltE (bltD .sorted) [(c__law_lots_1 k)])]) (unpT [(nameT [] 3), (nameT [] 4)]) (condE []) (ce__law_lots_2 k)
def b__law_lots_0 (k : Nat) : MS := (asgS (nameG [] 1) (lstE [(tupE [])]))
@[reducible] def b__law_lots_1 (k : Nat) : MS := (l__law_lots_0 k)
def b__law_lots_2 (k : Nat) : MS := (retS (c__law_lots_2 k))
theorem r__law_lots (k : Nat) (ps : Sl) : P.run (k + 3) d__law_lots ps = endF [false] (seqS [b__law_lots_0 k, b__law_lots_1 k, b__law_lots_2 k] (ps ++ List.replicate 4 none)) := by kernel_rfl
def ce__law_do_iron_0 (k : Nat) : ME := (chainE (cmpD .LtE) (cmpD .LtE) (varE 2) (varE 4) (varE 3))
def c__law_do_iron_0 (k : Nat) : ME := compE [4] (itE [] seqF [(varE 1)]) (nameT [] 4) (condE []) (ce__law_do_iron_0 k)
def ce__law_do_iron_1 (k : Nat) : ME := (bltE (bltD .any) [(c__law_do_iron_0 k)])
def c__law_do_iron_1 (k : Nat) : ME := compE [2, 3] (itE [] seqF [(varE 0)]) (unpT [(nameT [] 2), (nameT [] 3)]) (condE []) (ce__law_do_iron_1 k)
def b__law_do_iron_0 (k : Nat) : MS := (retS (bltE (bltD .all) [(c__law_do_iron_1 k)]))
theorem r__law_do_iron (k : Nat) (ps : Sl) : P.run (k + 3) d__law_do_iron ps = endF [false, false] (seqS [b__law_do_iron_0 k] (ps ++ List.replicate 3 none)) := by kernel_rfl
def b__law_no_pieces_0 (k : Nat) : MS := (asgS (nameG [0] 1) (lstE [(immE (.none)), (tupE []), (lstE [(tupE [(immE (.int 1)), (immE (.int 2))])]), (tupE [(tupE [(immE (.int 1))])]), (tupE [(tupE [(immE (.int 2)), (immE (.int 1))])]), (tupE [(tupE [(immE (.int 0)), (immE (.int 21))])]), (tupE [(tupE [(un1 negD (immE (.int 1))), (immE (.int 2))])]), (tupE [(tupE [(immE (.bool true)), (immE (.int 2))])]), (op2 (binD .Mult) (tupE [(tupE [(immE (.int 1)), (immE (.int 2))])]) (immE (.int 9))), (immE (.int 0))]))
def b__law_no_pieces_1 (k : Nat) : MS := (retS (callE [true, false] (P.run (k + 2) d__law_any) [(varE 0), (varE 1)]))
theorem r__law_no_pieces (k : Nat) (ps : Sl) : P.run (k + 3) d__law_no_pieces ps = endF [true] (seqS [b__law_no_pieces_0 k, b__law_no_pieces_1 k] (ps ++ List.replicate 1 none)) := by kernel_rfl
def b__law_no_heat_0 (k : Nat) : MS := (retS (callE [true, false] (P.run (k + 2) d__law_any) [(varE 0), (lstE [(immE (.none)), (un1 negD (immE (.int 1))), (immE (.int 21)), (immE (.bool true)), (immE (.str "1"))])]))
theorem r__law_no_heat (k : Nat) (ps : Sl) : P.run (k + 3) d__law_no_heat ps = endF [true] (seqS [b__law_no_heat_0 k] (ps ++ List.replicate 0 none)) := by kernel_rfl
def ce_law_0 (k : Nat) : ME := (immE (.int 1))
def cc_law_0 (k : Nat) : ME := condE [(notE (callE [false, false] (P.run (k + 2) d__law_do_iron) [(lstE [(varE 23)]), (lstE [(varE 3), (varE 11)])]))]
def c_law_0 (k : Nat) : ME := compE [23] (itE [] seqF [(varE 6)]) (nameT [] 23) (cc_law_0 k) (ce_law_0 k)
def w_law_0_0 (k : Nat) : MS := (exprS (mutE 10 (mtF .append) [(tupE [(bltE (bltD .len) [(c_law_0 k)]), (varE 3), (varE 11)])]))
def lb_law_0 (k : Nat) : MS := seqS [w_law_0_0 k]
def l_law_0 (k : Nat) : MS := forS (itE [] rangeF2 [(varE 3), (immE (.int 21))]) (nameT [] 11) (lb_law_0 k)
@[reducible] def w_law_1_0 (k : Nat) : MS := (l_law_0 k)
def lb_law_1 (k : Nat) : MS := seqS [w_law_1_0 k]
def l_law_1 (k : Nat) : MS := forS (itE [] rangeF1 [(immE (.int 21))]) (nameT [] 3) (lb_law_1 k)
def ce_law_1 (k : Nat) : ME := (varE 18)
def cc_law_1 (k : Nat) : ME := condE [(notE (callE [false, false] (P.run (k + 2) d__law_do_iron) [(lstE [(op2 subD (varE 6) (varE 18))]), (lstE [(varE 7), (varE 8)])]))]
def c_law_1 (k : Nat) : ME := compE [18] (itE [] rangeF1 [(varE 9)]) (nameT [] 18) (cc_law_1 k) (ce_law_1 k)
def gb_law_0 (k : Nat) : ME := (callE [false, false, false] (P.run (k) d_shared_out) [(varE 6), (varE 7), (varE 8)])
def g_law_0 (k : Nat) : ME := lamE [] [7, 8, 6] (L__law_word k) (gb_law_0 k)
def ce_law_2 (k : Nat) : ME := (varE 18)
def cc_law_2 (k : Nat) : ME := condE [(callE [false, false] (P.run (k + 2) d__law_do_iron) [(lstE [(op2 subD (varE 6) (varE 18))]), (lstE [(varE 7)])])]
def c_law_2 (k : Nat) : ME := compE [18] (itE [] rangeF1 [(varE 9)]) (nameT [] 18) (cc_law_2 k) (ce_law_2 k)
def ce_law_3 (k : Nat) : ME := (varE 18)
def cc_law_3 (k : Nat) : ME := condE [(callE [false, false] (P.run (k + 2) d__law_do_iron) [(lstE [(op2 subD (varE 6) (varE 18))]), (lstE [(varE 8)])])]
def c_law_3 (k : Nat) : ME := compE [18] (itE [] rangeF1 [(varE 9)]) (nameT [] 18) (cc_law_3 k) (ce_law_3 k)
def ce_law_4 (k : Nat) : ME := (varE 18)
def cc_law_4 (k : Nat) : ME := condE [(op2 (cmpF .In) (varE 18) (varE 13))]
def c_law_4 (k : Nat) : ME := compE [18] (itE [] seqF [(varE 12)]) (nameT [] 18) (cc_law_4 k) (ce_law_4 k)
def ce_law_5 (k : Nat) : ME := (varE 18)
def cc_law_5 (k : Nat) : ME := condE [(orE [(op2 (cmpF .NotIn) (varE 18) (varE 13)), (op2 (cmpF .In) (varE 18) (varE 14))])]
def c_law_5 (k : Nat) : ME := compE [18] (itE [] seqF [(varE 12)]) (nameT [] 18) (cc_law_5 k) (ce_law_5 k)
def ce_law_6 (k : Nat) : ME := (varE 18)
def cc_law_6 (k : Nat) : ME := condE [(op2 (cmpF .NotIn) (varE 18) (varE 21))]
def c_law_6 (k : Nat) : ME := compE [18] (itE [] rangeF1 [(varE 9)]) (nameT [] 18) (cc_law_6 k) (ce_law_6 k)
def w_law_2_0 (k : Nat) : MS := (asgS (nameG [] 21) (bltE (bltD .tuple) [(c_law_5 k)]))
def w_law_2_1 (k : Nat) : MS := (asgS (nameG [] 22) (bltE (bltD .tuple) [(c_law_6 k)]))
def w_law_2_2 (k : Nat) : MS := (exprS (mutE 20 (mtF .append) [(tupE [(bltE (bltD .abs) [(op2 (binD .Sub) (bltE (bltD .len) [(varE 21)]) (bltE (bltD .len) [(varE 22)]))]), (varE 21), (varE 22)])]))
def lb_law_2 (k : Nat) : MS := seqS [w_law_2_0 k, w_law_2_1 k, w_law_2_2 k]
def l_law_2 (k : Nat) : MS := forS (itE [] seqF [(callE [false] (P.run (k + 2) d__law_lots) [(varE 19)])]) (nameT [] 14) (lb_law_2 k)
def gb_law_1 (k : Nat) : ME := (callE [false] (P.run (k) d_two_irons) [(varE 16)])
def g_law_1 (k : Nat) : ME := lamE [] [16] (L__law_word k) (gb_law_1 k)
def gb_law_2 (k : Nat) : ME := (callE [false, false, false] (P.run (k) d_left_over) [(varE 16), (varE 17), (varE 17)])
def g_law_2 (k : Nat) : ME := lamE [] [16, 17] (L__law_word k) (gb_law_2 k)
def gb_law_3 (k : Nat) : ME := (callE [false, false, false] (P.run (k) d_left_over) [(varE 6), (varE 17), (varE 8)])
def g_law_3 (k : Nat) : ME := lamE [] [17, 8, 6] (L__law_word k) (gb_law_3 k)
def gb_law_4 (k : Nat) : ME := (callE [false, false, false] (P.run (k) d_left_over) [(varE 6), (varE 7), (varE 17)])
def g_law_4 (k : Nat) : ME := lamE [] [17, 7, 6] (L__law_word k) (gb_law_4 k)
def gb_law_5 (k : Nat) : ME := (callE [false, false, false] (P.run (k) d_shared_out) [(varE 6), (varE 17), (varE 8)])
def g_law_5 (k : Nat) : ME := lamE [] [17, 8, 6] (L__law_word k) (gb_law_5 k)
def w_law_3_0 (k : Nat) : MS := (parS [nameG [] 6, nameG [] 7, nameG [] 8] [(callE [true, false] (P.run (k + 2) d__law_pieces) [(varE 1), (immE (.int 7))]), (callE [true, false] (P.run (k + 2) d__law_draw) [(varE 1), (immE (.int 21))]), (callE [true, false] (P.run (k + 2) d__law_draw) [(varE 1), (immE (.int 21))])])
def w_law_3_1 (k : Nat) : MS := (parS [nameG [] 9, nameG [] 10] [(bltE (bltD .len) [(varE 6)]), (lstE [])])
@[reducible] def w_law_3_2 (k : Nat) : MS := (l_law_1 k)
def w_law_3_3 (k : Nat) : MS := (ifS (op2 (cmpF .NotEq) (callE [false] (P.run (k + 2) d_two_irons) [(varE 6)]) (sliE (bltE (bltD .min) [(varE 10)]) (some (immE (.int 1))) none)) (seqS [(retS (immE (.bool false)))]) (seqS []))
def w_law_3_4 (k : Nat) : MS := (ifS (op2 (cmpF .Eq) (callE [true, false] (P.run (k + 2) d__law_draw) [(varE 1), (immE (.int 2))]) (immE (.int 0))) (seqS [(asgT (unpT [(nameT [] 7), (nameT [] 8)]) (sliE (bltE (bltD .min) [(varE 10)]) (some (immE (.int 1))) none))]) (seqS []))
def w_law_3_5 (k : Nat) : MS := (asgS (nameG [] 4) (c_law_1 k))
def w_law_3_6 (k : Nat) : MS := (ifS (op2 (cmpF .NotEq) (callE [false, false, false] (P.run (k + 2) d_left_over) [(varE 6), (varE 7), (varE 8)]) (bltE (bltD .tuple) [(varE 4)])) (seqS [(retS (immE (.bool false)))]) (seqS []))
def w_law_3_7 (k : Nat) : MS := (ifS (op2 (cmpF .NotEq) (varE 4) (lstE [])) (seqS [(ifS (op2 (cmpF .NotEq) (g_law_0 k) (immE (.str "left"))) (seqS [(retS (immE (.bool false)))]) (seqS []))]) (seqS [(asgS (nameG [] 12) (c_law_2 k)), (asgS (nameG [] 13) (c_law_3 k)), (parS [nameG [] 19, nameG [] 20] [(c_law_4 k), (lstE [])]), (l_law_2 k), (ifS (op2 (cmpF .NotEq) (callE [false, false, false] (P.run (k + 2) d_shared_out) [(varE 6), (varE 7), (varE 8)]) (sliE (bltE (bltD .min) [(varE 20)]) (some (immE (.int 1))) none)) (seqS [(retS (immE (.bool false)))]) (seqS [])), (asgS (nameG [] 15) (bltE (bltD .max) [(op2 (binD .Sub) (varE 9) (bltE (bltD .len) [(varE 13)])), (op2 (binD .Sub) (varE 9) (bltE (bltD .len) [(varE 12)]))])), (ifS (op2 (cmpF .NotEq) (op2 (cmpF .LtE) (op2 subD (bltE (bltD .min) [(varE 20)]) (immE (.int 0))) (immE (.int 1))) (op2 (cmpF .LtE) (varE 15) (op2 (binD .FloorDiv) (op2 (binD .Add) (varE 9) (immE (.int 1))) (immE (.int 2))))) (seqS [(retS (immE (.bool false)))]) (seqS []))]))
def w_law_3_8 (k : Nat) : MS := (parS [nameG [] 16, nameG [] 17] [(callE [true] (P.run (k + 2) d__law_no_pieces) [(varE 1)]), (callE [true] (P.run (k + 2) d__law_no_heat) [(varE 1)])])
def w_law_3_9 (k : Nat) : MS := (asgS (nameG [] 5) (lstE [(g_law_1 k)]))
def w_law_3_10 (k : Nat) : MS := (exprS (mutE 5 (mtF .append) [(g_law_2 k)]))
def w_law_3_11 (k : Nat) : MS := (exprS (mutE 5 (mtF .append) [(g_law_3 k)]))
def w_law_3_12 (k : Nat) : MS := (exprS (mutE 5 (mtF .append) [(g_law_4 k)]))
def w_law_3_13 (k : Nat) : MS := (exprS (mutE 5 (mtF .append) [(g_law_5 k)]))
def w_law_3_14 (k : Nat) : MS := (ifS (op2 (cmpF .NotEq) (varE 5) (lstE [(immE (.str "pieces")), (immE (.str "pieces")), (immE (.str "heat")), (immE (.str "heat")), (immE (.str "heat"))])) (seqS [(retS (immE (.bool false)))]) (seqS []))
def lb_law_3 (k : Nat) : MS := seqS [w_law_3_0 k, w_law_3_1 k, w_law_3_2 k, w_law_3_3 k, w_law_3_4 k, w_law_3_5 k, w_law_3_6 k, w_law_3_7 k, w_law_3_8 k, w_law_3_9 k, w_law_3_10 k, w_law_3_11 k, w_law_3_12 k, w_law_3_13 k, w_law_3_14 k]
def l_law_3 (k : Nat) : MS := forS (itE [] rangeF1 [(immE (.int 4))]) (nameT [] 2) (lb_law_3 k)
def b_law_0 (k : Nat) : MS := (asgS (nameG [] 1) (callE [false] (P.run (k + 2) d__law_hand) [(varE 0)]))
@[reducible] def b_law_1 (k : Nat) : MS := (l_law_3 k)
def b_law_2 (k : Nat) : MS := (retS (immE (.bool true)))
theorem r_law (k : Nat) (ps : Sl) : P.run (k + 3) d_law ps = endF [false] (seqS [b_law_0 k, b_law_1 k, b_law_2 k] (ps ++ List.replicate 23 none)) := by kernel_rfl
end Lw
end
section
set_option maxHeartbeats 4000000
namespace Lw
open PySem Ev
def drX (h : Hand) (m : Int) : CRes := endF [true, false] (seqS [draw0 40692 31, draw1, draw2, draw3 48271, draw4, draw5, draw6] [some (.ol h.ds), some (.im (.int m)), none, none, none])
theorem drX_ok (h : Hand) (m : Int) (ok : h.ok) (hm : 0 < m) (hm2 : m < 1073741824) : ∃ (h' : Hand) (i : Int), drX h m = .ok (.im (.int i)) [some (.ol h'.ds), none] ∧ 0 ≤ i ∧ i < m ∧ h'.ok := draw_ok (B := 40692) (C := 31) (F := 48271) (by decide) (by decide) ok hm hm2
noncomputable def F__law_draw (h : HH) (m : Int) : O (Int × HH) := drw drX_ok h m
theorem T__law_draw (k : Nat) (h : HH) (m : Int) (hk : 6 ≤ k) : C1 (im' eI) (fun h : HH => [(sL h.1.ds), none]) (F__law_draw h m) (P.run k d__law_draw [(sL h.1.ds), (sI (eI m))]) := by
  obtain ⟨k, rfl⟩ : ∃ j, k = j + 3 := ⟨k - 3, by omega⟩
  rw [r__law_draw]
  exact drw_C1 drX_ok h m
theorem draw_is (h : HH) {m : Int} (h0 : 0 < m) (h1 : m < 1073741824) : ∃ i h', F__law_draw h m = .ok (i, h') ∧ 0 ≤ i ∧ i < m := drw_ok drX_ok h h0 h1
theorem hand_ex (ns : List Int) : ∃ h : HH, ∀ k, P.run (k + 3) d__law_hand [some (.im (.dict [(.none, .list (iL ns))]))] = .ok (.tl h.1.ds) [none] := by
  let ms : List Int := ns.take (min (63 : Int).toNat (iL ns).length - 0)
  refine ⟨⟨⟨ms.map fun i => if i < 0 then -i else i, 0, 0, 61 + 7 * (ms.map fun i => if i < 0 then -i else i).length, 0⟩, ⟨Int.le_refl _, Int.le_refl _⟩⟩, fun k => ?_⟩
  have hit : itE [] seqF [(sliE (varE 0) none (some (immE (.int 63))))] [some (.im (.dict [(.none, .list (iL ns))])), none, none] = .ok ⟨iL ms, []⟩ [some (.im (.dict [(.none, .list (iL ns))])), none, none] := by
    have : cutL (iL ns) none (some 63) = iL ms := by simp only [cutL, cutI, ms, ← iL_take]; rfl
    simp only [this, List.append_nil, seqS, SR.bind, Res.st, Res.bind, retS, exprS, ifS, asgS, nameG, stS_n, stS_1, stS_2, stS_3, stS_4, stS_5, stS_6, stS_7, stS_8, stS_9, stS_10, stS_11, stS_12, stS_13, stS_14, stS_15, asgT, unpT, tupT, parS, argsP, parG, immE, varE, lift, un1, op2, andE, orE, notE, ifE, chainE, tru, argsD, tupE, lstE, argsO, toPar, backs, callE, vw, vws, fzO, gt, pt, bltE, isiE, isisE, tyD, imB, imI, cmpF, cmpD, binD_add, binD_sub, augD, sliE, optE, sliD, itE, argsI, hid_im, hid_tl, hid_n, mutE, mtF, appF, isOl, setiS, setF, endF, outO, finsOf_f, finsOf_t, finsOf_n, fxOf, raiseS, seqF, seqD, nameT, unhS, List.replicate, List.cons_append, List.nil_append, List.contains, List.elem, Option.map, Option.bind, ltD_int, leD_int, eqD_int, eqD_str, Bool.not_true, Bool.not_false, Bool.false_eq_true, if_true, if_false]
  have hc : c__law_hand_0 k [some (.im (.dict [(.none, .list (iL ns))])), none, none] = .ok (.tl ((iL ms).map absH)) [some (.im (.dict [(.none, .list (iL ns))])), none, none] := by
    refine compE_map absH hit rfl (by simp [iL_len, sizeMax, ms]; omega) fun d hd => ?_
    obtain ⟨i, hi, rfl⟩ := List.mem_map.mp hd
    exact ⟨_, rfl, rfl, rfl, rfl⟩
  have he : (iL ms).map absH = iL (ms.map fun i => if i < 0 then -i else i) := by simp [iL, absH]
  rw [he] at hc
  have h7 : ∀ m n : Int, small64 m = true → binD .Mult (.int m) (.int n) = some (.im (.int (m * n))) := fun m n z => by simp [binD, z, imI]
  rw [r__law_hand]
  simp only [b__law_hand_0, b__law_hand_1, hc, bltD, h7 7 _ (by decide), iL_len, Hand.ds, seqS, SR.bind, Res.st, Res.bind, retS, exprS, ifS, asgS, nameG, stS_n, stS_1, stS_2, stS_3, stS_4, stS_5, stS_6, stS_7, stS_8, stS_9, stS_10, stS_11, stS_12, stS_13, stS_14, stS_15, asgT, unpT, tupT, parS, argsP, parG, immE, varE, lift, un1, op2, andE, orE, notE, ifE, chainE, tru, argsD, tupE, lstE, argsO, toPar, backs, callE, vw, vws, fzO, gt, pt, bltE, isiE, isisE, tyD, imB, imI, cmpF, cmpD, binD_add, binD_sub, augD, sliE, optE, sliD, itE, argsI, hid_im, hid_tl, hid_n, mutE, mtF, appF, isOl, setiS, setF, endF, outO, finsOf_f, finsOf_t, finsOf_n, fxOf, raiseS, seqF, seqD, nameT, unhS, List.replicate, List.cons_append, List.nil_append, List.contains, List.elem, Option.map, Option.bind, ltD_int, leD_int, eqD_int, eqD_str, Bool.not_true, Bool.not_false, Bool.false_eq_true, if_true, if_false]

noncomputable def hnd (ns : List Int) : HH := Classical.choose (hand_ex ns)
noncomputable def F__law_hand (ns : List Int) : O HH := .ok (hnd ns)
theorem T__law_hand (k : Nat) (s : List Int) (hk : 6 ≤ k) : C0 (fun h : HH => Op.tl h.1.ds) [none] (F__law_hand s) (P.run k d__law_hand [(sI (.dict [(.none, .list (iL s))]))]) := by
  obtain ⟨k, rfl⟩ : ∃ j, k = j + 3 := ⟨k - 3, by omega⟩
  exact C0.ok_mk (Classical.choose_spec (hand_ex s) k)
def F__law_word (r : LRes) : O Str := wordS (L__law_word 0 r)
theorem T__law_word (k : Nat) (r : LRes) : C0 (im' eS) [] (F__law_word r) (L__law_word k r) := by
  have : L__law_word k r = L__law_word 0 r := by rw [r__law_word, r__law_word]
  rw [this]
  exact wordS_C0 _
theorem law_word_let (d : D) : F__law_word (.ok d) = .ok "let" := by
  unfold F__law_word
  rw [r__law_word]
  rfl
theorem law_word_NoPieces : F__law_word (.er ⟨"NoPieces", none⟩) = .ok "pieces" := by
  unfold F__law_word
  rw [r__law_word]
  rfl
theorem law_word_NoHeat : F__law_word (.er ⟨"NoHeat", none⟩) = .ok "heat" := by
  unfold F__law_word
  rw [r__law_word]
  rfl
theorem law_word_LeftOver : F__law_word (.er ⟨"LeftOver", none⟩) = .ok "left" := by
  unfold F__law_word
  rw [r__law_word]
  rfl
end Lw
end
section
set_option maxHeartbeats 4000000
namespace Lw
open PySem Ev
noncomputable def F__law_pieces_hi (hand1 : HH) (most2 : Int) : O ((List (Int × Int)) × HH) :=
  (O.ok ([] : (List (Int × Int))) : O (List (Int × Int))).bind fun found3 =>
  (F__law_draw hand1 most2).bind fun q4 =>
  (rng1O ((1 : Int) + q4.1)).bind fun xs6 =>
  (foldO (fun (s10 : (List (Int × Int)) × HH) (piece13 : Int) =>
    (F__law_draw s10.2 (21 : Int)).bind fun q14 =>
    (F__law_draw q14.2 (8 : Int)).bind fun q16 =>
    (appO s10.1 (q14.1, (min2 (20 : Int) (q14.1 + q16.1)))).bind fun found18 =>
    O.ok (found18, q16.2)) (found3, q4.2) xs6).bind fun s19 =>
  O.ok (s19.1, s19.2)
theorem T__law_pieces_hi (k : Nat) (hand1 : HH) (most2 : Int) (hk : 7 ≤ k) : C1 (im' (eT (eU (hC eI (h1 eI))))) (fun h : HH => [(sL h.1.ds), none]) (F__law_pieces_hi hand1 most2) (P.run k d__law_pieces [(sL hand1.1.ds), (sI (eI most2))]) := by
  obtain ⟨k, rfl⟩ : ∃ j, k = j + 3 := ⟨k - 3, by omega⟩
  rw [r__law_pieces]
  refine C1.mk ?_
  show SRel _ _ (seqS [b__law_pieces_0 k, b__law_pieces_1 k, b__law_pieces_2 k] [(sL hand1.1.ds), (sI (eI most2)), none, none, none])
  unfold F__law_pieces_hi
  refine S_asg ?_
  refine st_P (pe_lst pd_nil) ?_
  refine asg_let (ea := (tl' (eU (hC eI (h1 eI))))) (E := fun found3 => [(sL hand1.1.ds), (sI (eI most2)), (sL (List.map (eU (hC eI (h1 eI))) found3)), none, none]) ([] : (List (Int × Int))) (fun _ => rfl) fun found3 => ?_
  refine S_for ?_
  refine it1_st ?_
  refine op2_st ?_
  refine st_P pe_imm ?_
  refine call_st ?_
  refine argsO_P (pe_varL rfl) ?_
  refine argsO_P (pe_var rfl) ?_
  refine argsO_nil ?_
  refine callH_M (ps := [(sL hand1.1.ds), (sI (eI most2))]) (E := fun h5 => [(sL h5.1.ds), (sI (eI most2)), (sL (List.map (eU (hC eI (h1 eI))) found3)), none, none]) rfl (T__law_draw (k + 2) hand1 most2 (by omega)) (fun _ => rfl) fun q4 => ?_
  refine fin_P F2.add (1 : Int) q4.1 rfl rfl rfl ?_
  refine it1_rng fun xs6 => ?_
  refine for_fold (fun (s7 : (List (Int × Int)) × HH) e => ∃ a8 : Option D, ∃ a9 : Option D, e = [(sL s7.2.1.ds), (sI (eI most2)), (sL (List.map (eU (hC eI (h1 eI))) s7.1)), (dm a9), (dm a8)]) (found3, q4.2) ⟨none, none, rfl⟩ ?_ ?_
  · rintro piece13 s10 _ ⟨a11, a12, rfl⟩
    refine ⟨[(sL s10.2.1.ds), (sI (eI most2)), (sL (List.map (eU (hC eI (h1 eI))) s10.1)), (sI (eI piece13)), (dm a11)], rfl, ?_⟩
    refine S_asg ?_
    refine call_st ?_
    refine argsO_P (pe_varL rfl) ?_
    refine argsO_P pe_imm ?_
    refine argsO_nil ?_
    refine callH_M (ps := [(sL s10.2.1.ds), (sI (eI (21 : Int)))]) (E := fun h15 => [(sL h15.1.ds), (sI (eI most2)), (sL (List.map (eU (hC eI (h1 eI))) s10.1)), (sI (eI piece13)), (dm a11)]) rfl (T__law_draw (k + 2) s10.2 (21 : Int) (by omega)) (fun _ => rfl) fun q14 => ?_
    refine asg_ok (e2 := [(sL q14.2.1.ds), (sI (eI most2)), (sL (List.map (eU (hC eI (h1 eI))) s10.1)), (sI (eI piece13)), (sI (eI q14.1))]) rfl ?_
    refine S_mut ?_ rfl
    refine argsD_M ?_
    refine tup_st ?_
    refine argsD_P (pe_var rfl) rfl ?_
    refine argsD_M ?_
    refine blt_st ?_
    refine argsO_P pe_imm ?_
    refine argsO_M ?_
    refine op2_st ?_
    refine st_P (pe_var rfl) ?_
    refine call_st ?_
    refine argsO_P (pe_varL rfl) ?_
    refine argsO_P pe_imm ?_
    refine argsO_nil ?_
    refine callH_M (ps := [(sL q14.2.1.ds), (sI (eI (8 : Int)))]) (E := fun h17 => [(sL h17.1.ds), (sI (eI most2)), (sL (List.map (eU (hC eI (h1 eI))) s10.1)), (sI (eI piece13)), (sI (eI q14.1))]) rfl (T__law_draw (k + 2) q14.2 (8 : Int) (by omega)) (fun _ => rfl) fun q16 => ?_
    refine fin_P F2.add q14.1 q16.1 rfl rfl rfl ?_
    refine argsO_nil ?_
    refine blt_ok (F2b.fin F2b.min (20 : Int) (q14.1 + q16.1) rfl rfl) ?_
    refine fzk_ok rfl ?_
    refine argsD_nil ?_
    refine fzk_ok rfl ?_
    refine argsD_nil ?_
    refine mut_app (f := (eU (hC eI (h1 eI)))) (xs := s10.1) (x := (q14.1, (min2 (20 : Int) (q14.1 + q16.1)))) (E := fun found18 => [(sL q16.2.1.ds), (sI (eI most2)), (sL (List.map (eU (hC eI (h1 eI))) found18)), (sI (eI piece13)), (sI (eI q14.1))]) rfl (fun _ => rfl) fun found18 => ?_
    exact end_nx ⟨(some (eI q14.1)), (some (eI piece13)), rfl⟩
  · rintro s19 _ ⟨a20, a21, rfl⟩
    refine S_ret ?_
    refine st_P (pe_blt (pa_cons (pe_varL rfl) pa_nil) (F1.fin (F1.tupL (f := (eU (hC eI (h1 eI))))) s19.1 rfl rfl)) ?_
    exact ret_h rfl

noncomputable def F__law_do_iron_LlpiiqLli (pieces1 : (List (Int × Int))) (heats2 : (List Int)) : O Bool :=
  (compO (fun _ => O.ok true) (fun p3 : (Int × Int) => (szO (List.map (fun heat7 : Int => (decide (p3.1 ≤ heat7) && decide (heat7 ≤ p3.2))) heats2)).bind fun ys8 => O.ok (List.any ys8 id)) pieces1).bind fun zs11 =>
  (szO zs11).bind fun ys10 =>
  O.ok (List.all ys10 id)
theorem T__law_do_iron_LlpiiqLli (k : Nat) (pieces1 : (List (Int × Int))) (heats2 : (List Int)) (hk : 4 ≤ k) : C0 (im' eB) [none, none] (F__law_do_iron_LlpiiqLli pieces1 heats2) (P.run k d__law_do_iron [(sL (List.map (eU (hC eI (h1 eI))) pieces1)), (sL (List.map eI heats2))]) := by
  obtain ⟨k, rfl⟩ : ∃ j, k = j + 3 := ⟨k - 3, by omega⟩
  rw [r__law_do_iron]
  refine C0.mk ?_
  show SRel _ _ (seqS [b__law_do_iron_0 k] [(sL (List.map (eU (hC eI (h1 eI))) pieces1)), (sL (List.map eI heats2)), none, none, none])
  unfold F__law_do_iron_LlpiiqLli
  refine S_ret ?_
  refine blt_st ?_
  refine argsO_M ?_
  refine comp_st ?_
  refine it1_st ?_
  refine st_P (pe_varL rfl) ?_
  refine it1_ok (d := (eL (eU (hC eI (h1 eI)))) pieces1) (e2 := [(sI ((eL (eU (hC eI (h1 eI)))) pieces1)), (sL (List.map eI heats2)), none, none, none]) rfl (seq_L (f := (eU (hC eI (h1 eI))))) ?_
  refine comp_W2 (p := (fun _ => O.ok true)) (g := (fun p3 : (Int × Int) => (szO (List.map (fun heat7 : Int => (decide (p3.1 ≤ heat7) && decide (heat7 ≤ p3.2))) heats2)).bind fun ys8 => O.ok (List.any ys8 id))) (eb := (im' eB)) (fb := eB) (E := fun b => [(sI ((eL (eU (hC eI (h1 eI)))) pieces1)), (lw b (List.map eI heats2)), none, none, none]) (E2 := fun p3 b => [(sI ((eL (eU (hC eI (h1 eI)))) pieces1)), (lw b (List.map eI heats2)), (sI (eI p3.1)), (sI (eI p3.2)), none]) rfl (imOnly_cons rfl (imOnly_cons rfl imOnly_nil)) (fun _ b => rfl) (fun _ => ⟨true, R0.pure (ea := iB) (v := true) rfl⟩) (fun _ => ⟨false, R0.pure (ea := iB) (v := true) rfl⟩) (fun p3 => ⟨false, R0.of (by
      refine blt_st ?_
      refine argsO_M ?_
      refine comp_st ?_
      refine it1_st ?_
      refine st_P (pe_varL rfl) ?_
      refine it1_ok (d := (eL eI) heats2) (e2 := [(sI ((eL (eU (hC eI (h1 eI)))) pieces1)), (sI ((eL eI) heats2)), (sI (eI p3.1)), (sI (eI p3.2)), none]) rfl (seq_L (f := eI)) ?_
      refine comp_map (g := (fun heat7 : Int => (decide (p3.1 ≤ heat7) && decide (heat7 ≤ p3.2)))) (eb := (im' eB)) (fb := eB) (E2 := fun heat7 => [(sI ((eL (eU (hC eI (h1 eI)))) pieces1)), (sI ((eL eI) heats2)), (sI (eI p3.1)), (sI (eI p3.2)), (sI (eI heat7))]) (E3 := fun heat7 => [(sI ((eL (eU (hC eI (h1 eI)))) pieces1)), (sI ((eL eI) heats2)), (sI (eI p3.1)), (sI (eI p3.2)), (sI (eI heat7))]) (E4 := fun heat7 => [(sI ((eL (eU (hC eI (h1 eI)))) pieces1)), (sI ((eL eI) heats2)), (sI (eI p3.1)), (sI (eI p3.2)), (sI (eI heat7))]) (imOnly_cons rfl imOnly_nil) (fun _ => rfl) (fun heat7 => (pe_chain cmp_le cmp_le p3.1 heat7 p3.2 (pe_var rfl) (pe_var rfl) (pe_var rfl))) (fun _ _ => rfl) (fun _ => rfl) (fun _ => rfl) rfl fun ys8 => ?_
      refine argsO_nil ?_
      refine blt_ok (F1.fin F1.anyL ys8 rfl rfl) ?_
      exact rt_ok)⟩) (fun p3 => ⟨false, R0.of (by
      refine blt_st ?_
      refine argsO_M ?_
      refine comp_st ?_
      refine it1_st ?_
      refine st_P (pe_var rfl) ?_
      refine it1_ok (d := (eL eI) heats2) (e2 := [(sI ((eL (eU (hC eI (h1 eI)))) pieces1)), (sI ((eL eI) heats2)), (sI (eI p3.1)), (sI (eI p3.2)), none]) rfl (seq_L (f := eI)) ?_
      refine comp_map (g := (fun heat7 : Int => (decide (p3.1 ≤ heat7) && decide (heat7 ≤ p3.2)))) (eb := (im' eB)) (fb := eB) (E2 := fun heat7 => [(sI ((eL (eU (hC eI (h1 eI)))) pieces1)), (sI ((eL eI) heats2)), (sI (eI p3.1)), (sI (eI p3.2)), (sI (eI heat7))]) (E3 := fun heat7 => [(sI ((eL (eU (hC eI (h1 eI)))) pieces1)), (sI ((eL eI) heats2)), (sI (eI p3.1)), (sI (eI p3.2)), (sI (eI heat7))]) (E4 := fun heat7 => [(sI ((eL (eU (hC eI (h1 eI)))) pieces1)), (sI ((eL eI) heats2)), (sI (eI p3.1)), (sI (eI p3.2)), (sI (eI heat7))]) (imOnly_cons rfl imOnly_nil) (fun _ => rfl) (fun heat7 => (pe_chain cmp_le cmp_le p3.1 heat7 p3.2 (pe_var rfl) (pe_var rfl) (pe_var rfl))) (fun _ _ => rfl) (fun _ => rfl) (fun _ => rfl) rfl fun ys8 => ?_
      refine argsO_nil ?_
      refine blt_ok (F1.fin F1.anyL ys8 rfl rfl) ?_
      exact rt_ok)⟩) (fun _ _ _ => rfl) (fun _ b => rfl) (fun b => rfl) fun ys10 b9 => ?_
  refine argsO_nil ?_
  refine blt_ok (F1.fin F1.allL ys10 rfl rfl) ?_
  exact ret_f rfl

noncomputable def F_is_sized_tpiiqii (thing1 : (List (Int × Int))) (low2 : Int) (high3 : Int) : O Bool :=
  (((tyO ((eT (eU (hC eI (h1 eI)))) thing1) .tuple).bind fun c4 => O.ok c4).bind fun c5 => if c5 then (O.ok (decide (low2 ≤ (lenI thing1)) && decide ((lenI thing1) ≤ high3))) else O.ok false).bind fun c6 =>
  O.ok c6
theorem T_is_sized_tpiiqii (k : Nat) (thing1 : (List (Int × Int))) (low2 : Int) (high3 : Int) (hk : 4 ≤ k) : C0 (im' eB) [none, none, none] (F_is_sized_tpiiqii thing1 low2 high3) (P.run k d_is_sized [(sI ((eT (eU (hC eI (h1 eI)))) thing1)), (sI (eI low2)), (sI (eI high3))]) := by
  obtain ⟨k, rfl⟩ : ∃ j, k = j + 3 := ⟨k - 3, by omega⟩
  rw [r_is_sized]
  refine C0.mk ?_
  show SRel _ _ (seqS [b_is_sized_0 k] [(sI ((eT (eU (hC eI (h1 eI)))) thing1)), (sI (eI low2)), (sI (eI high3))])
  unfold F_is_sized_tpiiqii
  refine S_ret ?_
  refine st_M (ea := im' eB) (e1 := [(sI ((eT (eU (hC eI (h1 eI)))) thing1)), (sI (eI low2)), (sI (eI high3))]) (R0.and (R0.of (by
      refine isi_M (d := (eT (eU (hC eI (h1 eI)))) thing1) (pe_var rfl) rfl fun c4 => ?_
      exact rt_ok)) (R0.and1 (R0.pure (v := (decide (low2 ≤ (lenI thing1)) && decide ((lenI thing1) ≤ high3))) (pe_chain cmp_le cmp_le low2 (lenI thing1) high3 (pe_var rfl) (pe_blt (pa_cons (pe_var rfl) pa_nil) (F1.fin (F1.lenT (f := (eU (hC eI (h1 eI))))) thing1 rfl rfl)) (pe_var rfl))))) fun c6 => ?_
  exact ret_f rfl

noncomputable def F_is_sized_piiqii (thing1 : (Int × Int)) (low2 : Int) (high3 : Int) : O Bool :=
  (((tyO ((eU (hC eI (h1 eI))) thing1) .tuple).bind fun c4 => O.ok c4).bind fun c5 => if c5 then (O.ok (decide (low2 ≤ (lenI [thing1.1, thing1.2])) && decide ((lenI [thing1.1, thing1.2]) ≤ high3))) else O.ok false).bind fun c6 =>
  O.ok c6
theorem T_is_sized_piiqii (k : Nat) (thing1 : (Int × Int)) (low2 : Int) (high3 : Int) (hk : 4 ≤ k) : C0 (im' eB) [none, none, none] (F_is_sized_piiqii thing1 low2 high3) (P.run k d_is_sized [(sI ((eU (hC eI (h1 eI))) thing1)), (sI (eI low2)), (sI (eI high3))]) := by
  obtain ⟨k, rfl⟩ : ∃ j, k = j + 3 := ⟨k - 3, by omega⟩
  rw [r_is_sized]
  refine C0.mk ?_
  show SRel _ _ (seqS [b_is_sized_0 k] [(sI ((eU (hC eI (h1 eI))) thing1)), (sI (eI low2)), (sI (eI high3))])
  unfold F_is_sized_piiqii
  refine S_ret ?_
  refine st_M (ea := im' eB) (e1 := [(sI ((eU (hC eI (h1 eI))) thing1)), (sI (eI low2)), (sI (eI high3))]) (R0.and (R0.of (by
      refine isi_M (d := (eU (hC eI (h1 eI))) thing1) (pe_var rfl) rfl fun c4 => ?_
      exact rt_ok)) (R0.and1 (R0.pure (v := (decide (low2 ≤ (lenI [thing1.1, thing1.2])) && decide ((lenI [thing1.1, thing1.2]) ≤ high3))) (pe_chain cmp_le cmp_le low2 (lenI [thing1.1, thing1.2]) high3 (pe_var rfl) (pe_blt (pa_cons (pe_var rfl) pa_nil) (F1.fin (F1.lenT (f := eI)) [thing1.1, thing1.2] rfl rfl)) (pe_var rfl))))) fun c6 => ?_
  exact ret_f rfl

noncomputable def F_is_integer_i (thing1 : Int) : O Bool :=
  (((tyO (eI thing1) .int).bind fun c2 => O.ok c2).bind fun c4 => if c4 then ((tyO (eI thing1) .bool).bind fun c3 => O.ok (!c3)) else O.ok false).bind fun c5 =>
  O.ok c5
theorem T_is_integer_i (k : Nat) (thing1 : Int) (hk : 4 ≤ k) : C0 (im' eB) [none] (F_is_integer_i thing1) (P.run k d_is_integer [(sI (eI thing1))]) := by
  obtain ⟨k, rfl⟩ : ∃ j, k = j + 3 := ⟨k - 3, by omega⟩
  rw [r_is_integer]
  refine C0.mk ?_
  show SRel _ _ (seqS [b_is_integer_0 k] [(sI (eI thing1))])
  unfold F_is_integer_i
  refine S_ret ?_
  refine st_M (ea := im' eB) (e1 := [(sI (eI thing1))]) (R0.and (R0.of (by
      refine isi_M (d := eI thing1) (pe_var rfl) rfl fun c2 => ?_
      exact rt_ok)) (R0.and1 (R0.of (by
      refine not_st ?_
      refine isi_M (d := eI thing1) (pe_var rfl) rfl fun c3 => ?_
      refine st_P (p := (.im (eB (!c3)))) rfl ?_
      exact rt_ok)))) fun c5 => ?_
  exact ret_f rfl

noncomputable def F_is_within_iii (thing1 : Int) (low2 : Int) (high3 : Int) : O Bool :=
  (((F_is_integer_i thing1).bind fun v4 => O.ok v4).bind fun c5 => if c5 then (O.ok (decide (low2 ≤ thing1) && decide (thing1 ≤ high3))) else O.ok false).bind fun c6 =>
  O.ok c6
theorem T_is_within_iii (k : Nat) (thing1 : Int) (low2 : Int) (high3 : Int) (hk : 5 ≤ k) : C0 (im' eB) [none, none, none] (F_is_within_iii thing1 low2 high3) (P.run k d_is_within [(sI (eI thing1)), (sI (eI low2)), (sI (eI high3))]) := by
  obtain ⟨k, rfl⟩ : ∃ j, k = j + 3 := ⟨k - 3, by omega⟩
  rw [r_is_within]
  refine C0.mk ?_
  show SRel _ _ (seqS [b_is_within_0 k] [(sI (eI thing1)), (sI (eI low2)), (sI (eI high3))])
  unfold F_is_within_iii
  refine S_ret ?_
  refine st_M (ea := im' eB) (e1 := [(sI (eI thing1)), (sI (eI low2)), (sI (eI high3))]) (R0.and (R0.of (by
      refine call_st ?_
      refine argsO_P (pe_var rfl) ?_
      refine argsO_nil ?_
      refine call_M (ps := [(sI (eI thing1))]) (e3 := [(sI (eI thing1)), (sI (eI low2)), (sI (eI high3))]) rfl (T_is_integer_i (k + 2) thing1 (by omega)) rfl fun v4 => ?_
      exact rt_ok)) (R0.and1 (R0.pure (v := (decide (low2 ≤ thing1) && decide (thing1 ≤ high3))) (pe_chain cmp_le cmp_le low2 thing1 high3 (pe_var rfl) (pe_var rfl) (pe_var rfl))))) fun c6 => ?_
  exact ret_f rfl

noncomputable def F_are_pieces_tpiiq (thing1 : (List (Int × Int))) : O Bool :=
  (((F_is_sized_tpiiqii thing1 (1 : Int) (8 : Int)).bind fun v2 => O.ok (!v2)).bind fun c7 => if c7 then O.ok true else ((mapO (fun piece3 : (Int × Int) => (F_is_sized_piiqii piece3 (2 : Int) (2 : Int)).bind fun v5 => O.ok v5) thing1).bind fun zs6 => (szO zs6).bind fun ys4 => O.ok (!(List.all ys4 id)))).bind fun c8 =>
  if c8 then
    O.ok false
  else
    (mapO (fun p9 : (Int × Int) => ((F_is_within_iii p9.1 (0 : Int) (20 : Int)).bind fun v11 => O.ok v11).bind fun c13 => if c13 then ((F_is_within_iii p9.2 p9.1 (20 : Int)).bind fun v12 => O.ok v12) else O.ok false) thing1).bind fun zs14 =>
    (szO zs14).bind fun ys10 =>
    O.ok (List.all ys10 id)
theorem T_are_pieces_tpiiq (k : Nat) (thing1 : (List (Int × Int))) (hk : 6 ≤ k) : C0 (im' eB) [none] (F_are_pieces_tpiiq thing1) (P.run k d_are_pieces [(sI ((eT (eU (hC eI (h1 eI)))) thing1))]) := by
  obtain ⟨k, rfl⟩ : ∃ j, k = j + 3 := ⟨k - 3, by omega⟩
  rw [r_are_pieces]
  refine C0.mk ?_
  show SRel _ _ (seqS [b_are_pieces_0 k, b_are_pieces_1 k] [(sI ((eT (eU (hC eI (h1 eI)))) thing1)), none, none, none])
  unfold F_are_pieces_tpiiq
  refine S_ifC ?_
  refine st_M (ea := im' eB) (e1 := [(sI ((eT (eU (hC eI (h1 eI)))) thing1)), none, none, none]) (R0.or (R0.of (by
      refine not_st ?_
      refine call_st ?_
      refine argsO_P (pe_var rfl) ?_
      refine argsO_P pe_imm ?_
      refine argsO_P pe_imm ?_
      refine argsO_nil ?_
      refine call_M (ps := [(sI ((eT (eU (hC eI (h1 eI)))) thing1)), (sI (eI (1 : Int))), (sI (eI (8 : Int)))]) (e3 := [(sI ((eT (eU (hC eI (h1 eI)))) thing1)), none, none, none]) rfl (T_is_sized_tpiiqii (k + 2) thing1 (1 : Int) (8 : Int) (by omega)) rfl fun v2 => ?_
      refine st_P (p := (.im (eB (!v2)))) rfl ?_
      exact rt_ok)) (R0.or1 (R0.of (by
      refine not_st ?_
      refine blt_st ?_
      refine argsO_M ?_
      refine comp_st ?_
      refine it1_st ?_
      refine st_P (pe_var rfl) ?_
      refine it1_ok (d := (eT (eU (hC eI (h1 eI)))) thing1) (e2 := [(sI ((eT (eU (hC eI (h1 eI)))) thing1)), none, none, none]) rfl (seq_T (f := (eU (hC eI (h1 eI))))) ?_
      refine comp_mapM (g := (fun piece3 : (Int × Int) => (F_is_sized_piiqii piece3 (2 : Int) (2 : Int)).bind fun v5 => O.ok v5)) (eb := (im' eB)) (fb := eB) (E2 := fun piece3 => [(sI ((eT (eU (hC eI (h1 eI)))) thing1)), none, none, (sI ((eU (hC eI (h1 eI))) piece3))]) (E3 := fun piece3 => [(sI ((eT (eU (hC eI (h1 eI)))) thing1)), none, none, (sI ((eU (hC eI (h1 eI))) piece3))]) (E4 := fun piece3 => [(sI ((eT (eU (hC eI (h1 eI)))) thing1)), none, none, (sI ((eU (hC eI (h1 eI))) piece3))]) (imOnly_cons rfl imOnly_nil) (fun _ => rfl) (fun piece3 => R0.of (by
          refine call_st ?_
          refine argsO_P (pe_var rfl) ?_
          refine argsO_P pe_imm ?_
          refine argsO_P pe_imm ?_
          refine argsO_nil ?_
          refine call_M (ps := [(sI ((eU (hC eI (h1 eI))) piece3)), (sI (eI (2 : Int))), (sI (eI (2 : Int)))]) (e3 := [(sI ((eT (eU (hC eI (h1 eI)))) thing1)), none, none, (sI ((eU (hC eI (h1 eI))) piece3))]) rfl (T_is_sized_piiqii (k + 2) piece3 (2 : Int) (2 : Int) (by omega)) rfl fun v5 => ?_
          exact rt_ok)) (fun _ _ => rfl) (fun _ => rfl) (fun _ => rfl) rfl fun ys4 => ?_
      refine argsO_nil ?_
      refine blt_ok (F1.fin F1.allL ys4 rfl rfl) ?_
      refine st_P (p := (.im (eB (!(List.all ys4 id))))) rfl ?_
      exact rt_ok)))) fun c8 => ?_
  refine ite_two ?_ ?_
  · refine ap_cons ?_
    refine S_ret ?_
    refine st_P pe_imm ?_
    exact ret_f rfl
  · refine ap_nil ?_
    refine S_ret ?_
    refine blt_st ?_
    refine argsO_M ?_
    refine comp_st ?_
    refine it1_st ?_
    refine st_P (pe_var rfl) ?_
    refine it1_ok (d := (eT (eU (hC eI (h1 eI)))) thing1) (e2 := [(sI ((eT (eU (hC eI (h1 eI)))) thing1)), none, none, none]) rfl (seq_T (f := (eU (hC eI (h1 eI))))) ?_
    refine comp_mapM (g := (fun p9 : (Int × Int) => ((F_is_within_iii p9.1 (0 : Int) (20 : Int)).bind fun v11 => O.ok v11).bind fun c13 => if c13 then ((F_is_within_iii p9.2 p9.1 (20 : Int)).bind fun v12 => O.ok v12) else O.ok false)) (eb := (im' eB)) (fb := eB) (E2 := fun p9 => [(sI ((eT (eU (hC eI (h1 eI)))) thing1)), (sI (eI p9.1)), (sI (eI p9.2)), none]) (E3 := fun p9 => [(sI ((eT (eU (hC eI (h1 eI)))) thing1)), (sI (eI p9.1)), (sI (eI p9.2)), none]) (E4 := fun p9 => [(sI ((eT (eU (hC eI (h1 eI)))) thing1)), (sI (eI p9.1)), (sI (eI p9.2)), none]) (imOnly_cons rfl (imOnly_cons rfl imOnly_nil)) (fun _ => rfl) (fun p9 => R0.and (R0.of (by
        refine call_st ?_
        refine argsO_P (pe_var rfl) ?_
        refine argsO_P pe_imm ?_
        refine argsO_P pe_imm ?_
        refine argsO_nil ?_
        refine call_M (ps := [(sI (eI p9.1)), (sI (eI (0 : Int))), (sI (eI (20 : Int)))]) (e3 := [(sI ((eT (eU (hC eI (h1 eI)))) thing1)), (sI (eI p9.1)), (sI (eI p9.2)), none]) rfl (T_is_within_iii (k + 2) p9.1 (0 : Int) (20 : Int) (by omega)) rfl fun v11 => ?_
        exact rt_ok)) (R0.and1 (R0.of (by
        refine call_st ?_
        refine argsO_P (pe_var rfl) ?_
        refine argsO_P (pe_var rfl) ?_
        refine argsO_P pe_imm ?_
        refine argsO_nil ?_
        refine call_M (ps := [(sI (eI p9.2)), (sI (eI p9.1)), (sI (eI (20 : Int)))]) (e3 := [(sI ((eT (eU (hC eI (h1 eI)))) thing1)), (sI (eI p9.1)), (sI (eI p9.2)), none]) rfl (T_is_within_iii (k + 2) p9.2 p9.1 (20 : Int) (by omega)) rfl fun v12 => ?_
        exact rt_ok)))) (fun _ _ => rfl) (fun _ => rfl) (fun _ => rfl) rfl fun ys10 => ?_
    refine argsO_nil ?_
    refine blt_ok (F1.fin F1.allL ys10 rfl rfl) ?_
    exact ret_f rfl

noncomputable def F_check_pieces_tpiiq (thing1 : (List (Int × Int))) : O Unit :=
  (F_are_pieces_tpiiq thing1).bind fun v2 =>
  if (!v2) then
    O.ex ⟨"NoPieces", none⟩
  else
    O.ok ()
theorem T_check_pieces_tpiiq (k : Nat) (thing1 : (List (Int × Int))) (hk : 7 ≤ k) : C0 (im' eN) [none] (F_check_pieces_tpiiq thing1) (P.run k d_check_pieces [(sI ((eT (eU (hC eI (h1 eI)))) thing1))]) := by
  obtain ⟨k, rfl⟩ : ∃ j, k = j + 3 := ⟨k - 3, by omega⟩
  rw [r_check_pieces]
  refine C0.mk ?_
  show SRel _ _ (seqS [b_check_pieces_0 k] [(sI ((eT (eU (hC eI (h1 eI)))) thing1))])
  unfold F_check_pieces_tpiiq
  refine S_ifC ?_
  refine not_st ?_
  refine call_st ?_
  refine argsO_P (pe_var rfl) ?_
  refine argsO_nil ?_
  refine call_M (ps := [(sI ((eT (eU (hC eI (h1 eI)))) thing1))]) (e3 := [(sI ((eT (eU (hC eI (h1 eI)))) thing1))]) rfl (T_are_pieces_tpiiq (k + 2) thing1 (by omega)) rfl fun v2 => ?_
  refine st_P (p := (.im (eB (!v2)))) rfl ?_
  refine ite_two ?_ ?_
  · refine ap_cons ?_
    exact S_raise rfl
  · refine ap_nil ?_
    exact ret_f rfl

noncomputable def F_raw_left_tpiiqii (pieces1 : (List (Int × Int))) (one2 : Int) (other3 : Int) : O (List Int) :=
  (szO (List.map (fun p4 : (Int × (Int × Int)) => p4.1) (List.filter (fun p4 : (Int × (Int × Int)) => ((!(decide (p4.2.1 ≤ one2) && decide (one2 ≤ p4.2.2))) && (!(decide (p4.2.1 ≤ other3) && decide (other3 ≤ p4.2.2))))) (enm 0 pieces1)))).bind fun ys5 =>
  O.ok ys5
theorem T_raw_left_tpiiqii (k : Nat) (pieces1 : (List (Int × Int))) (one2 : Int) (other3 : Int) (hk : 4 ≤ k) : C0 (tl' eI) [none, none, none] (F_raw_left_tpiiqii pieces1 one2 other3) (P.run k d_raw_left [(sI ((eT (eU (hC eI (h1 eI)))) pieces1)), (sI (eI one2)), (sI (eI other3))]) := by
  obtain ⟨k, rfl⟩ : ∃ j, k = j + 3 := ⟨k - 3, by omega⟩
  rw [r_raw_left]
  refine C0.mk ?_
  show SRel _ _ (seqS [b_raw_left_0 k] [(sI ((eT (eU (hC eI (h1 eI)))) pieces1)), (sI (eI one2)), (sI (eI other3)), none, none, none])
  unfold F_raw_left_tpiiqii
  refine S_ret ?_
  refine comp_st ?_
  refine it1_st ?_
  refine st_P (pe_var rfl) ?_
  refine it1_ok (d := (eT (eU (hC eI (h1 eI)))) pieces1) (e2 := [(sI ((eT (eU (hC eI (h1 eI)))) pieces1)), (sI (eI one2)), (sI (eI other3)), none, none, none]) rfl enum_T ?_
  refine comp_fil (p := (fun p4 : (Int × (Int × Int)) => ((!(decide (p4.2.1 ≤ one2) && decide (one2 ≤ p4.2.2))) && (!(decide (p4.2.1 ≤ other3) && decide (other3 ≤ p4.2.2)))))) (g := (fun p4 : (Int × (Int × Int)) => p4.1)) (eb := (im' eI)) (fb := eI) (E2 := fun p4 => [(sI ((eT (eU (hC eI (h1 eI)))) pieces1)), (sI (eI one2)), (sI (eI other3)), (sI (eI p4.1)), (sI (eI p4.2.1)), (sI (eI p4.2.2))]) (E3 := fun p4 => [(sI ((eT (eU (hC eI (h1 eI)))) pieces1)), (sI (eI one2)), (sI (eI other3)), (sI (eI p4.1)), (sI (eI p4.2.1)), (sI (eI p4.2.2))]) (E4 := fun p4 => [(sI ((eT (eU (hC eI (h1 eI)))) pieces1)), (sI (eI one2)), (sI (eI other3)), (sI (eI p4.1)), (sI (eI p4.2.1)), (sI (eI p4.2.2))]) (imOnly_cons rfl (imOnly_cons rfl (imOnly_cons rfl imOnly_nil))) (fun _ => rfl) (fun p4 => (pe_and (!(decide (p4.2.1 ≤ one2) && decide (one2 ≤ p4.2.2))) (!(decide (p4.2.1 ≤ other3) && decide (other3 ≤ p4.2.2))) (pe_not (decide (p4.2.1 ≤ one2) && decide (one2 ≤ p4.2.2)) (pe_chain cmp_le cmp_le p4.2.1 one2 p4.2.2 (pe_var rfl) (pe_var rfl) (pe_var rfl))) (pe_and1 (pe_not (decide (p4.2.1 ≤ other3) && decide (other3 ≤ p4.2.2)) (pe_chain cmp_le cmp_le p4.2.1 other3 p4.2.2 (pe_var rfl) (pe_var rfl) (pe_var rfl)))))) (fun p4 => (pe_var rfl)) (fun _ _ => rfl) (fun _ => rfl) (fun _ => rfl) rfl fun ys5 => ?_
  exact ret_f rfl

noncomputable def F_two_irons_tpiiq (pieces1 : (List (Int × Int))) : O (Int × Int) :=
  (F_check_pieces_tpiiq pieces1).bind fun v2 =>
  (O.ok ([] : (List (Int × (Int × Int)))) : O (List (Int × (Int × Int)))).bind fun found3 =>
  (rng1O ((20 : Int) + (1 : Int))).bind fun xs4 =>
  (foldO (fun (s7 : (List (Int × (Int × Int)))) (one9 : Int) =>
    (rng2O one9 ((20 : Int) + (1 : Int))).bind fun xs10 =>
    (mapO (fun other11 : Int => (F_raw_left_tpiiqii pieces1 one9 other11).bind fun v13 => O.ok ((lenI v13), (one9, other11))) xs10).bind fun zs15 =>
    (szO zs15).bind fun ys12 =>
    (catO s7 ys12).bind fun found14 =>
    O.ok found14) found3 xs4).bind fun s16 =>
  (minO s16).bind fun m18 =>
  O.ok m18.2
theorem T_two_irons_tpiiq (k : Nat) (pieces1 : (List (Int × Int))) (hk : 8 ≤ k) : C0 (im' (eU (hC eI (h1 eI)))) [none] (F_two_irons_tpiiq pieces1) (P.run k d_two_irons [(sI ((eT (eU (hC eI (h1 eI)))) pieces1))]) := by
  obtain ⟨k, rfl⟩ : ∃ j, k = j + 3 := ⟨k - 3, by omega⟩
  rw [r_two_irons]
  refine C0.mk ?_
  show SRel _ _ (seqS [b_two_irons_0 k, b_two_irons_1 k, b_two_irons_2 k, b_two_irons_3 k] [(sI ((eT (eU (hC eI (h1 eI)))) pieces1)), none, none, none])
  unfold F_two_irons_tpiiq
  refine S_expr ?_
  refine call_st ?_
  refine argsO_P (pe_var rfl) ?_
  refine argsO_nil ?_
  refine call_M (ps := [(sI ((eT (eU (hC eI (h1 eI)))) pieces1))]) (e3 := [(sI ((eT (eU (hC eI (h1 eI)))) pieces1)), none, none, none]) rfl (T_check_pieces_tpiiq (k + 2) pieces1 (by omega)) rfl fun v2 => ?_
  refine S_asg ?_
  refine st_P (pe_lst pd_nil) ?_
  refine asg_let (ea := (tl' (eU (hC eI (h1 (eU (hC eI (h1 eI)))))))) (E := fun found3 => [(sI ((eT (eU (hC eI (h1 eI)))) pieces1)), (sL (List.map (eU (hC eI (h1 (eU (hC eI (h1 eI)))))) found3)), none, none]) ([] : (List (Int × (Int × Int)))) (fun _ => rfl) fun found3 => ?_
  refine S_for ?_
  refine it1_st ?_
  refine st_P (pe_bin F2.add (20 : Int) (1 : Int) pe_imm pe_imm rfl rfl rfl) ?_
  refine it1_rng fun xs4 => ?_
  refine for_fold (fun (s5 : (List (Int × (Int × Int)))) e => ∃ a6 : Option D, e = [(sI ((eT (eU (hC eI (h1 eI)))) pieces1)), (sL (List.map (eU (hC eI (h1 (eU (hC eI (h1 eI)))))) s5)), (dm a6), none]) found3 ⟨none, rfl⟩ ?_ ?_
  · rintro one9 s7 _ ⟨a8, rfl⟩
    refine ⟨[(sI ((eT (eU (hC eI (h1 eI)))) pieces1)), (sL (List.map (eU (hC eI (h1 (eU (hC eI (h1 eI)))))) s7)), (sI (eI one9)), none], rfl, ?_⟩
    refine S_mut ?_ rfl
    refine argsD_M ?_
    refine comp_st ?_
    refine it2_st ?_
    refine st_P (pe_var rfl) ?_
    refine it2_go rfl ?_
    refine st_P (pe_bin F2.add (20 : Int) (1 : Int) pe_imm pe_imm rfl rfl rfl) ?_
    refine it2_rng fun xs10 => ?_
    refine comp_mapM (g := (fun other11 : Int => (F_raw_left_tpiiqii pieces1 one9 other11).bind fun v13 => O.ok ((lenI v13), (one9, other11)))) (eb := (im' (eU (hC eI (h1 (eU (hC eI (h1 eI)))))))) (fb := (eU (hC eI (h1 (eU (hC eI (h1 eI))))))) (E2 := fun other11 => [(sI ((eT (eU (hC eI (h1 eI)))) pieces1)), (sL (List.map (eU (hC eI (h1 (eU (hC eI (h1 eI)))))) s7)), (sI (eI one9)), (sI (eI other11))]) (E3 := fun other11 => [(sI ((eT (eU (hC eI (h1 eI)))) pieces1)), (sL (List.map (eU (hC eI (h1 (eU (hC eI (h1 eI)))))) s7)), (sI (eI one9)), (sI (eI other11))]) (E4 := fun other11 => [(sI ((eT (eU (hC eI (h1 eI)))) pieces1)), (sL (List.map (eU (hC eI (h1 (eU (hC eI (h1 eI)))))) s7)), (sI (eI one9)), (sI (eI other11))]) (imOnly_cons rfl imOnly_nil) (fun _ => rfl) (fun other11 => R0.of (by
        refine tup_st ?_
        refine argsD_M ?_
        refine blt_st ?_
        refine argsO_M ?_
        refine call_st ?_
        refine argsO_P (pe_var rfl) ?_
        refine argsO_P (pe_var rfl) ?_
        refine argsO_P (pe_var rfl) ?_
        refine argsO_nil ?_
        refine call_M (ps := [(sI ((eT (eU (hC eI (h1 eI)))) pieces1)), (sI (eI one9)), (sI (eI other11))]) (e3 := [(sI ((eT (eU (hC eI (h1 eI)))) pieces1)), (sL (List.map (eU (hC eI (h1 (eU (hC eI (h1 eI)))))) s7)), (sI (eI one9)), (sI (eI other11))]) rfl (T_raw_left_tpiiqii (k + 2) pieces1 one9 other11 (by omega)) rfl fun v13 => ?_
        refine argsO_nil ?_
        refine blt_ok (F1.fin (F1.lenL (f := eI)) v13 rfl rfl) ?_
        refine fzk_ok rfl ?_
        refine argsD_P (pe_tup (pd_cons (pe_var rfl) rfl (pd_cons (pe_var rfl) rfl pd_nil))) rfl ?_
        refine argsD_nil ?_
        exact rt_ok)) (fun _ _ => rfl) (fun _ => rfl) (fun _ => rfl) rfl fun ys12 => ?_
    refine fzk_ok rfl ?_
    refine argsD_nil ?_
    refine mut_ext (f := (eU (hC eI (h1 (eU (hC eI (h1 eI))))))) (xs := s7) (zs := ys12) (E := fun found14 => [(sI ((eT (eU (hC eI (h1 eI)))) pieces1)), (sL (List.map (eU (hC eI (h1 (eU (hC eI (h1 eI)))))) found14)), (sI (eI one9)), none]) rfl (fun _ => rfl) fun found14 => ?_
    exact end_nx ⟨(some (eI one9)), rfl⟩
  · rintro s16 _ ⟨a17, rfl⟩
    refine S_ret ?_
    refine op2_st ?_
    refine blt_st ?_
    refine argsO_P (pe_varL rfl) ?_
    refine argsO_nil ?_
    refine blt_M1 (F1.minL (f := (eU (hC eI (h1 (eU (hC eI (h1 eI))))))) (by decide)) s16 rfl fun m18 => ?_
    refine st_P pe_imm ?_
    refine st_P (p := (.im ((eU (hC eI (h1 eI))) m18.2))) (e1 := [(sI ((eT (eU (hC eI (h1 eI)))) pieces1)), (sL (List.map (eU (hC eI (h1 (eU (hC eI (h1 eI)))))) s16)), (dm a17), none]) rfl ?_
    exact ret_f rfl

noncomputable def F_check_heat_tpiiqi (pieces1 : (List (Int × Int))) (heat2 : Int) : O Unit :=
  (F_check_pieces_tpiiq pieces1).bind fun v3 =>
  (F_is_within_iii heat2 (0 : Int) (20 : Int)).bind fun v4 =>
  if (!v4) then
    O.ex ⟨"NoHeat", none⟩
  else
    O.ok ()
theorem T_check_heat_tpiiqi (k : Nat) (pieces1 : (List (Int × Int))) (heat2 : Int) (hk : 8 ≤ k) : C0 (im' eN) [none, none] (F_check_heat_tpiiqi pieces1 heat2) (P.run k d_check_heat [(sI ((eT (eU (hC eI (h1 eI)))) pieces1)), (sI (eI heat2))]) := by
  obtain ⟨k, rfl⟩ : ∃ j, k = j + 3 := ⟨k - 3, by omega⟩
  rw [r_check_heat]
  refine C0.mk ?_
  show SRel _ _ (seqS [b_check_heat_0 k, b_check_heat_1 k] [(sI ((eT (eU (hC eI (h1 eI)))) pieces1)), (sI (eI heat2))])
  unfold F_check_heat_tpiiqi
  refine S_expr ?_
  refine call_st ?_
  refine argsO_P (pe_var rfl) ?_
  refine argsO_nil ?_
  refine call_M (ps := [(sI ((eT (eU (hC eI (h1 eI)))) pieces1))]) (e3 := [(sI ((eT (eU (hC eI (h1 eI)))) pieces1)), (sI (eI heat2))]) rfl (T_check_pieces_tpiiq (k + 2) pieces1 (by omega)) rfl fun v3 => ?_
  refine S_ifC ?_
  refine not_st ?_
  refine call_st ?_
  refine argsO_P (pe_var rfl) ?_
  refine argsO_P pe_imm ?_
  refine argsO_P pe_imm ?_
  refine argsO_nil ?_
  refine call_M (ps := [(sI (eI heat2)), (sI (eI (0 : Int))), (sI (eI (20 : Int)))]) (e3 := [(sI ((eT (eU (hC eI (h1 eI)))) pieces1)), (sI (eI heat2))]) rfl (T_is_within_iii (k + 2) heat2 (0 : Int) (20 : Int) (by omega)) rfl fun v4 => ?_
  refine st_P (p := (.im (eB (!v4)))) rfl ?_
  refine ite_two ?_ ?_
  · refine ap_cons ?_
    exact S_raise rfl
  · refine ap_nil ?_
    exact ret_f rfl

noncomputable def F_check_two_tpiiqii (pieces1 : (List (Int × Int))) (one2 : Int) (other3 : Int) : O Unit :=
  (F_check_heat_tpiiqi pieces1 one2).bind fun v4 =>
  (F_check_heat_tpiiqi pieces1 other3).bind fun v5 =>
  O.ok ()
theorem T_check_two_tpiiqii (k : Nat) (pieces1 : (List (Int × Int))) (one2 : Int) (other3 : Int) (hk : 9 ≤ k) : C0 (im' eN) [none, none, none] (F_check_two_tpiiqii pieces1 one2 other3) (P.run k d_check_two [(sI ((eT (eU (hC eI (h1 eI)))) pieces1)), (sI (eI one2)), (sI (eI other3))]) := by
  obtain ⟨k, rfl⟩ : ∃ j, k = j + 3 := ⟨k - 3, by omega⟩
  rw [r_check_two]
  refine C0.mk ?_
  show SRel _ _ (seqS [b_check_two_0 k, b_check_two_1 k] [(sI ((eT (eU (hC eI (h1 eI)))) pieces1)), (sI (eI one2)), (sI (eI other3))])
  unfold F_check_two_tpiiqii
  refine S_expr ?_
  refine call_st ?_
  refine argsO_P (pe_var rfl) ?_
  refine argsO_P (pe_var rfl) ?_
  refine argsO_nil ?_
  refine call_M (ps := [(sI ((eT (eU (hC eI (h1 eI)))) pieces1)), (sI (eI one2))]) (e3 := [(sI ((eT (eU (hC eI (h1 eI)))) pieces1)), (sI (eI one2)), (sI (eI other3))]) rfl (T_check_heat_tpiiqi (k + 2) pieces1 one2 (by omega)) rfl fun v4 => ?_
  refine S_expr ?_
  refine call_st ?_
  refine argsO_P (pe_var rfl) ?_
  refine argsO_P (pe_var rfl) ?_
  refine argsO_nil ?_
  refine call_M (ps := [(sI ((eT (eU (hC eI (h1 eI)))) pieces1)), (sI (eI other3))]) (e3 := [(sI ((eT (eU (hC eI (h1 eI)))) pieces1)), (sI (eI one2)), (sI (eI other3))]) rfl (T_check_heat_tpiiqi (k + 2) pieces1 other3 (by omega)) rfl fun v5 => ?_
  exact ret_f rfl

noncomputable def F_left_over_tpiiqii (pieces1 : (List (Int × Int))) (one2 : Int) (other3 : Int) : O (List Int) :=
  (F_check_two_tpiiqii pieces1 one2 other3).bind fun v4 =>
  (F_raw_left_tpiiqii pieces1 one2 other3).bind fun v5 =>
  O.ok v5
theorem T_left_over_tpiiqii (k : Nat) (pieces1 : (List (Int × Int))) (one2 : Int) (other3 : Int) (hk : 10 ≤ k) : C0 (im' (eT eI)) [none, none, none] (F_left_over_tpiiqii pieces1 one2 other3) (P.run k d_left_over [(sI ((eT (eU (hC eI (h1 eI)))) pieces1)), (sI (eI one2)), (sI (eI other3))]) := by
  obtain ⟨k, rfl⟩ : ∃ j, k = j + 3 := ⟨k - 3, by omega⟩
  rw [r_left_over]
  refine C0.mk ?_
  show SRel _ _ (seqS [b_left_over_0 k, b_left_over_1 k] [(sI ((eT (eU (hC eI (h1 eI)))) pieces1)), (sI (eI one2)), (sI (eI other3))])
  unfold F_left_over_tpiiqii
  refine S_expr ?_
  refine call_st ?_
  refine argsO_P (pe_var rfl) ?_
  refine argsO_P (pe_var rfl) ?_
  refine argsO_P (pe_var rfl) ?_
  refine argsO_nil ?_
  refine call_M (ps := [(sI ((eT (eU (hC eI (h1 eI)))) pieces1)), (sI (eI one2)), (sI (eI other3))]) (e3 := [(sI ((eT (eU (hC eI (h1 eI)))) pieces1)), (sI (eI one2)), (sI (eI other3))]) rfl (T_check_two_tpiiqii (k + 2) pieces1 one2 other3 (by omega)) rfl fun v4 => ?_
  refine S_ret ?_
  refine blt_st ?_
  refine argsO_M ?_
  refine call_st ?_
  refine argsO_P (pe_var rfl) ?_
  refine argsO_P (pe_var rfl) ?_
  refine argsO_P (pe_var rfl) ?_
  refine argsO_nil ?_
  refine call_M (ps := [(sI ((eT (eU (hC eI (h1 eI)))) pieces1)), (sI (eI one2)), (sI (eI other3))]) (e3 := [(sI ((eT (eU (hC eI (h1 eI)))) pieces1)), (sI (eI one2)), (sI (eI other3))]) rfl (T_raw_left_tpiiqii (k + 2) pieces1 one2 other3 (by omega)) rfl fun v5 => ?_
  refine argsO_nil ?_
  refine blt_ok (F1.fin (F1.tupL (f := eI)) v5 rfl rfl) ?_
  exact ret_f rfl

noncomputable def F_all_lots_li (some1 : (List Int)) : O (List (List Int)) :=
  (O.ok [([] : (List Int))] : O (List (List Int))).bind fun found2 =>
  (foldO (fun (s5 : (List (List Int))) (one7 : Int) =>
    (mapO (fun lot8 : (List Int) => (catO lot8 [one7]).bind fun v10 => O.ok v10) s5).bind fun zs12 =>
    (szO zs12).bind fun ys9 =>
    (catO s5 ys9).bind fun v11 =>
    O.ok v11) found2 some1).bind fun s13 =>
  (szO (List.map (fun lot15 : (List Int) => ((lenI lot15), lot15)) s13)).bind fun ys16 =>
  (sortO ys16).bind fun m17 =>
  (szO (List.map (fun p18 : (Int × (List Int)) => p18.2) m17)).bind fun ys19 =>
  O.ok ys19
theorem T_all_lots_li (k : Nat) (some1 : (List Int)) (hk : 4 ≤ k) : C0 (tl' (eT eI)) [none] (F_all_lots_li some1) (P.run k d_all_lots [(sI ((eL eI) some1))]) := by
  obtain ⟨k, rfl⟩ : ∃ j, k = j + 3 := ⟨k - 3, by omega⟩
  rw [r_all_lots]
  refine C0.mk ?_
  show SRel _ _ (seqS [b_all_lots_0 k, b_all_lots_1 k, b_all_lots_2 k] [(sI ((eL eI) some1)), none, none, none, none])
  unfold F_all_lots_li
  refine S_asg ?_
  refine st_P (pe_lst (pd_cons (pe_tup pd_nil) rfl pd_nil)) ?_
  refine asg_let (ea := (tl' (eT eI))) (E := fun found2 => [(sI ((eL eI) some1)), (sL (List.map (eT eI) found2)), none, none, none]) [([] : (List Int))] (fun _ => rfl) fun found2 => ?_
  refine S_for ?_
  refine it1_st ?_
  refine st_P (pe_var rfl) ?_
  refine it1_ok (d := (eL eI) some1) (e2 := [(sI ((eL eI) some1)), (sL (List.map (eT eI) found2)), none, none, none]) rfl (seq_L (f := eI)) ?_
  refine for_fold (fun (s3 : (List (List Int))) e => ∃ a4 : Option D, e = [(sI ((eL eI) some1)), (sL (List.map (eT eI) s3)), (dm a4), none, none]) found2 ⟨none, rfl⟩ ?_ ?_
  · rintro one7 s5 _ ⟨a6, rfl⟩
    refine ⟨[(sI ((eL eI) some1)), (sL (List.map (eT eI) s5)), (sI (eI one7)), none, none], rfl, ?_⟩
    refine S_asg ?_
    refine op2_st ?_
    refine st_P (pe_varL rfl) ?_
    refine comp_st ?_
    refine it1_st ?_
    refine st_P (pe_varL rfl) ?_
    refine it1_ok (d := (eL (eT eI)) s5) (e2 := [(sI ((eL eI) some1)), (sI ((eL (eT eI)) s5)), (sI (eI one7)), none, none]) rfl (seq_L (f := (eT eI))) ?_
    refine comp_mapM (g := (fun lot8 : (List Int) => (catO lot8 [one7]).bind fun v10 => O.ok v10)) (eb := (im' (eT eI))) (fb := (eT eI)) (E2 := fun lot8 => [(sI ((eL eI) some1)), (sI ((eL (eT eI)) s5)), (sI (eI one7)), none, (sI ((eT eI) lot8))]) (E3 := fun lot8 => [(sI ((eL eI) some1)), (sI ((eL (eT eI)) s5)), (sI (eI one7)), none, (sI ((eT eI) lot8))]) (E4 := fun lot8 => [(sI ((eL eI) some1)), (sI ((eL (eT eI)) s5)), (sI (eI one7)), none, (sI ((eT eI) lot8))]) (imOnly_cons rfl imOnly_nil) (fun _ => rfl) (fun lot8 => R0.of (by
        refine op2_st ?_
        refine st_P (pe_var rfl) ?_
        refine st_P (pe_tup (pd_cons (pe_var rfl) rfl pd_nil)) ?_
        refine fin_M (F2.catT (f := eI)) lot8 [one7] rfl rfl fun v10 => ?_
        exact rt_ok)) (fun _ _ => rfl) (fun _ => rfl) (fun _ => rfl) rfl fun ys9 => ?_
    refine fin_M (F2.catL (f := (eT eI))) s5 ys9 rfl rfl fun v11 => ?_
    refine asg_ok (e2 := [(sI ((eL eI) some1)), (sL (List.map (eT eI) v11)), (sI (eI one7)), none, none]) rfl ?_
    exact end_nx ⟨(some (eI one7)), rfl⟩
  · rintro s13 _ ⟨a14, rfl⟩
    refine S_ret ?_
    refine comp_st ?_
    refine it1_st ?_
    refine blt_st ?_
    refine argsO_M ?_
    refine comp_st ?_
    refine it1_st ?_
    refine st_P (pe_varL rfl) ?_
    refine it1_ok (d := (eL (eT eI)) s13) (e2 := [(sI ((eL eI) some1)), (sI ((eL (eT eI)) s13)), (dm a14), none, none]) rfl (seq_L (f := (eT eI))) ?_
    refine comp_map (g := (fun lot15 : (List Int) => ((lenI lot15), lot15))) (eb := (im' (eU (hC eI (h1 (eT eI)))))) (fb := (eU (hC eI (h1 (eT eI))))) (E2 := fun lot15 => [(sI ((eL eI) some1)), (sI ((eL (eT eI)) s13)), (dm a14), none, (sI ((eT eI) lot15))]) (E3 := fun lot15 => [(sI ((eL eI) some1)), (sI ((eL (eT eI)) s13)), (dm a14), none, (sI ((eT eI) lot15))]) (E4 := fun lot15 => [(sI ((eL eI) some1)), (sI ((eL (eT eI)) s13)), (dm a14), none, (sI ((eT eI) lot15))]) (imOnly_cons rfl imOnly_nil) (fun _ => rfl) (fun lot15 => (pe_tup (pd_cons (pe_blt (pa_cons (pe_var rfl) pa_nil) (F1.fin (F1.lenT (f := eI)) lot15 rfl rfl)) rfl (pd_cons (pe_var rfl) rfl pd_nil)))) (fun _ _ => rfl) (fun _ => rfl) (fun _ => rfl) rfl fun ys16 => ?_
    refine argsO_nil ?_
    refine blt_M1 (F1.sortL (f := (eU (hC eI (h1 (eT eI))))) (by decide)) ys16 rfl fun m17 => ?_
    refine it1_ok (d := (eL (eU (hC eI (h1 (eT eI))))) m17) (e2 := [(sI ((eL eI) some1)), (sI ((eL (eT eI)) s13)), (dm a14), none, none]) rfl (seq_L (f := (eU (hC eI (h1 (eT eI)))))) ?_
    refine comp_map (g := (fun p18 : (Int × (List Int)) => p18.2)) (eb := (im' (eT eI))) (fb := (eT eI)) (E2 := fun p18 => [(sI ((eL eI) some1)), (sI ((eL (eT eI)) s13)), (dm a14), (sI (eI p18.1)), (sI ((eT eI) p18.2))]) (E3 := fun p18 => [(sI ((eL eI) some1)), (sI ((eL (eT eI)) s13)), (dm a14), (sI (eI p18.1)), (sI ((eT eI) p18.2))]) (E4 := fun p18 => [(sI ((eL eI) some1)), (sI ((eL (eT eI)) s13)), (dm a14), (sI (eI p18.1)), (sI ((eT eI) p18.2))]) (imOnly_cons rfl (imOnly_cons rfl imOnly_nil)) (fun _ => rfl) (fun p18 => (pe_var rfl)) (fun _ _ => rfl) (fun _ => rfl) (fun _ => rfl) rfl fun ys19 => ?_
    exact ret_f rfl

noncomputable def F_shared_out_tpiiqii (pieces1 : (List (Int × Int))) (one2 : Int) (other3 : Int) : O ((List Int) × (List Int)) :=
  (F_check_two_tpiiqii pieces1 one2 other3).bind fun v4 =>
  (F_raw_left_tpiiqii pieces1 one2 other3).bind fun v5 =>
  if decide ((0 : Int) < (lenI v5)) then
    O.ex ⟨"LeftOver", none⟩
  else
    (rngLO 0 (lenI pieces1)).bind fun xs6 =>
    (O.ok ([] : (List (Int × ((List Int) × (List Int))))) : O (List (Int × ((List Int) × (List Int))))).bind fun found7 =>
    (F_all_lots_li xs6).bind fun v8 =>
    (foldO (fun (s12 : (List (Int × ((List Int) × (List Int))))) (lot15 : (List Int)) =>
      (szO (List.map (fun piece16 : Int => piece16) (List.filter (fun piece16 : Int => (!decide (piece16 ∈ lot15))) xs6))).bind fun ys17 =>
      (mapO (fun piece18 : Int => ((idxO pieces1 piece18).bind fun x20 => O.ok x20.1).bind fun x22 => (O.ok one2).bind fun y23 => if decide (x22 ≤ y23) then ((idxO pieces1 piece18).bind fun x21 => O.ok x21.2).bind fun z24 => O.ok (decide (y23 ≤ z24)) else O.ok false) lot15).bind fun zs36 =>
      (szO zs36).bind fun ys19 =>
      if (List.all ys19 id) then
        (
          (mapO (fun piece26 : Int => ((idxO pieces1 piece26).bind fun x28 => O.ok x28.1).bind fun x30 => (O.ok other3).bind fun y31 => if decide (x30 ≤ y31) then ((idxO pieces1 piece26).bind fun x29 => O.ok x29.2).bind fun z32 => O.ok (decide (y31 ≤ z32)) else O.ok false) ys17).bind fun zs34 =>
          (szO zs34).bind fun ys27 =>
          if (List.all ys27 id) then
            (appO s12 ((absI ((lenI lot15) - (lenI ys17))), (lot15, ys17))).bind fun found33 =>
            O.ok found33
          else
            O.ok s12 : O ((List (Int × ((List Int) × (List Int)))))).bind fun s35 =>
        O.ok s35
      else
        O.ok s12) found7 v8).bind fun s37 =>
    (minO s37).bind fun m40 =>
    O.ok m40.2
theorem T_shared_out_tpiiqii (k : Nat) (pieces1 : (List (Int × Int))) (one2 : Int) (other3 : Int) (hk : 10 ≤ k) : C0 (im' (eU (hC (eT eI) (h1 (eT eI))))) [none, none, none] (F_shared_out_tpiiqii pieces1 one2 other3) (P.run k d_shared_out [(sI ((eT (eU (hC eI (h1 eI)))) pieces1)), (sI (eI one2)), (sI (eI other3))]) := by
  obtain ⟨k, rfl⟩ : ∃ j, k = j + 3 := ⟨k - 3, by omega⟩
  rw [r_shared_out]
  refine C0.mk ?_
  show SRel _ _ (seqS [b_shared_out_0 k, b_shared_out_1 k, b_shared_out_2 k, b_shared_out_3 k, b_shared_out_4 k, b_shared_out_5 k] [(sI ((eT (eU (hC eI (h1 eI)))) pieces1)), (sI (eI one2)), (sI (eI other3)), none, none, none, none, none])
  unfold F_shared_out_tpiiqii
  refine S_expr ?_
  refine call_st ?_
  refine argsO_P (pe_var rfl) ?_
  refine argsO_P (pe_var rfl) ?_
  refine argsO_P (pe_var rfl) ?_
  refine argsO_nil ?_
  refine call_M (ps := [(sI ((eT (eU (hC eI (h1 eI)))) pieces1)), (sI (eI one2)), (sI (eI other3))]) (e3 := [(sI ((eT (eU (hC eI (h1 eI)))) pieces1)), (sI (eI one2)), (sI (eI other3)), none, none, none, none, none]) rfl (T_check_two_tpiiqii (k + 2) pieces1 one2 other3 (by omega)) rfl fun v4 => ?_
  refine S_ifC ?_
  refine op2_st ?_
  refine blt_st ?_
  refine argsO_M ?_
  refine call_st ?_
  refine argsO_P (pe_var rfl) ?_
  refine argsO_P (pe_var rfl) ?_
  refine argsO_P (pe_var rfl) ?_
  refine argsO_nil ?_
  refine call_M (ps := [(sI ((eT (eU (hC eI (h1 eI)))) pieces1)), (sI (eI one2)), (sI (eI other3))]) (e3 := [(sI ((eT (eU (hC eI (h1 eI)))) pieces1)), (sI (eI one2)), (sI (eI other3)), none, none, none, none, none]) rfl (T_raw_left_tpiiqii (k + 2) pieces1 one2 other3 (by omega)) rfl fun v5 => ?_
  refine argsO_nil ?_
  refine blt_ok (F1.fin (F1.lenL (f := eI)) v5 rfl rfl) ?_
  refine st_P pe_imm ?_
  refine fin_P F2.gtI (lenI v5) (0 : Int) rfl rfl rfl ?_
  refine ite_two ?_ ?_
  · refine ap_cons ?_
    exact S_raise rfl
  · refine ap_nil ?_
    refine S_asg ?_
    refine blt_st ?_
    refine argsO_P (pe_blt (pa_cons (pe_var rfl) pa_nil) (F1.fin (F1.lenT (f := (eU (hC eI (h1 eI))))) pieces1 rfl rfl)) ?_
    refine argsO_nil ?_
    refine rngL_M1 rfl fun xs6 => ?_
    refine asg_ok (e2 := [(sI ((eT (eU (hC eI (h1 eI)))) pieces1)), (sI (eI one2)), (sI (eI other3)), (sL (List.map eI xs6)), none, none, none, none]) rfl ?_
    refine S_asg ?_
    refine st_P (pe_lst pd_nil) ?_
    refine asg_let (ea := (tl' (eU (hC eI (h1 (eU (hC (eT eI) (h1 (eT eI))))))))) (E := fun found7 => [(sI ((eT (eU (hC eI (h1 eI)))) pieces1)), (sI (eI one2)), (sI (eI other3)), (sL (List.map eI xs6)), (sL (List.map (eU (hC eI (h1 (eU (hC (eT eI) (h1 (eT eI))))))) found7)), none, none, none]) ([] : (List (Int × ((List Int) × (List Int))))) (fun _ => rfl) fun found7 => ?_
    refine S_for ?_
    refine it1_st ?_
    refine call_st ?_
    refine argsO_P (pe_varL rfl) ?_
    refine argsO_nil ?_
    refine call_M (ps := [(sI ((eL eI) xs6))]) (e3 := [(sI ((eT (eU (hC eI (h1 eI)))) pieces1)), (sI (eI one2)), (sI (eI other3)), (sI ((eL eI) xs6)), (sL (List.map (eU (hC eI (h1 (eU (hC (eT eI) (h1 (eT eI))))))) found7)), none, none, none]) rfl (T_all_lots_li (k + 2) xs6 (by omega)) rfl fun v8 => ?_
    refine it1_ok (d := (eL (eT eI)) v8) (e2 := [(sI ((eT (eU (hC eI (h1 eI)))) pieces1)), (sI (eI one2)), (sI (eI other3)), (sI ((eL eI) xs6)), (sL (List.map (eU (hC eI (h1 (eU (hC (eT eI) (h1 (eT eI))))))) found7)), none, none, none]) rfl (seq_L (f := (eT eI))) ?_
    refine for_fold (fun (s9 : (List (Int × ((List Int) × (List Int))))) e => ∃ a10 : Option D, ∃ a11 : Option D, e = [(sI ((eT (eU (hC eI (h1 eI)))) pieces1)), (sI (eI one2)), (sI (eI other3)), (sI ((eL eI) xs6)), (sL (List.map (eU (hC eI (h1 (eU (hC (eT eI) (h1 (eT eI))))))) s9)), (dm a11), (dm a10), none]) found7 ⟨none, none, rfl⟩ ?_ ?_
    · rintro lot15 s12 _ ⟨a13, a14, rfl⟩
      refine ⟨[(sI ((eT (eU (hC eI (h1 eI)))) pieces1)), (sI (eI one2)), (sI (eI other3)), (sI ((eL eI) xs6)), (sL (List.map (eU (hC eI (h1 (eU (hC (eT eI) (h1 (eT eI))))))) s12)), (sI ((eT eI) lot15)), (dm a13), none], rfl, ?_⟩
      refine S_asg ?_
      refine blt_st ?_
      refine argsO_M ?_
      refine comp_st ?_
      refine it1_st ?_
      refine st_P (pe_var rfl) ?_
      refine it1_ok (d := (eL eI) xs6) (e2 := [(sI ((eT (eU (hC eI (h1 eI)))) pieces1)), (sI (eI one2)), (sI (eI other3)), (sI ((eL eI) xs6)), (sL (List.map (eU (hC eI (h1 (eU (hC (eT eI) (h1 (eT eI))))))) s12)), (sI ((eT eI) lot15)), (dm a13), none]) rfl (seq_L (f := eI)) ?_
      refine comp_fil (p := (fun piece16 : Int => (!decide (piece16 ∈ lot15)))) (g := (fun piece16 : Int => piece16)) (eb := (im' eI)) (fb := eI) (E2 := fun piece16 => [(sI ((eT (eU (hC eI (h1 eI)))) pieces1)), (sI (eI one2)), (sI (eI other3)), (sI ((eL eI) xs6)), (sL (List.map (eU (hC eI (h1 (eU (hC (eT eI) (h1 (eT eI))))))) s12)), (sI ((eT eI) lot15)), (dm a13), (sI (eI piece16))]) (E3 := fun piece16 => [(sI ((eT (eU (hC eI (h1 eI)))) pieces1)), (sI (eI one2)), (sI (eI other3)), (sI ((eL eI) xs6)), (sL (List.map (eU (hC eI (h1 (eU (hC (eT eI) (h1 (eT eI))))))) s12)), (sI ((eT eI) lot15)), (dm a13), (sI (eI piece16))]) (E4 := fun piece16 => [(sI ((eT (eU (hC eI (h1 eI)))) pieces1)), (sI (eI one2)), (sI (eI other3)), (sI ((eL eI) xs6)), (sL (List.map (eU (hC eI (h1 (eU (hC (eT eI) (h1 (eT eI))))))) s12)), (sI ((eT eI) lot15)), (dm a13), (sI (eI piece16))]) (imOnly_cons rfl imOnly_nil) (fun _ => rfl) (fun piece16 => (pe_bin (F2.ninT (f := eI) (by decide)) piece16 lot15 (pe_var rfl) (pe_var rfl) rfl rfl rfl)) (fun piece16 => (pe_var rfl)) (fun _ _ => rfl) (fun _ => rfl) (fun _ => rfl) rfl fun ys17 => ?_
      refine argsO_nil ?_
      refine blt_ok (F1.fin (F1.tupL (f := eI)) ys17 rfl rfl) ?_
      refine asg_ok (e2 := [(sI ((eT (eU (hC eI (h1 eI)))) pieces1)), (sI (eI one2)), (sI (eI other3)), (sI ((eL eI) xs6)), (sL (List.map (eU (hC eI (h1 (eU (hC (eT eI) (h1 (eT eI))))))) s12)), (sI ((eT eI) lot15)), (sI ((eT eI) ys17)), none]) rfl ?_
      refine S_ifC ?_
      refine blt_st ?_
      refine argsO_M ?_
      refine comp_st ?_
      refine it1_st ?_
      refine st_P (pe_var rfl) ?_
      refine it1_ok (d := (eT eI) lot15) (e2 := [(sI ((eT (eU (hC eI (h1 eI)))) pieces1)), (sI (eI one2)), (sI (eI other3)), (sI ((eL eI) xs6)), (sL (List.map (eU (hC eI (h1 (eU (hC (eT eI) (h1 (eT eI))))))) s12)), (sI ((eT eI) lot15)), (sI ((eT eI) ys17)), none]) rfl (seq_T (f := eI)) ?_
      refine comp_mapM (g := (fun piece18 : Int => ((idxO pieces1 piece18).bind fun x20 => O.ok x20.1).bind fun x22 => (O.ok one2).bind fun y23 => if decide (x22 ≤ y23) then ((idxO pieces1 piece18).bind fun x21 => O.ok x21.2).bind fun z24 => O.ok (decide (y23 ≤ z24)) else O.ok false)) (eb := (im' eB)) (fb := eB) (E2 := fun piece18 => [(sI ((eT (eU (hC eI (h1 eI)))) pieces1)), (sI (eI one2)), (sI (eI other3)), (sI ((eL eI) xs6)), (sL (List.map (eU (hC eI (h1 (eU (hC (eT eI) (h1 (eT eI))))))) s12)), (sI ((eT eI) lot15)), (sI ((eT eI) ys17)), (sI (eI piece18))]) (E3 := fun piece18 => [(sI ((eT (eU (hC eI (h1 eI)))) pieces1)), (sI (eI one2)), (sI (eI other3)), (sI ((eL eI) xs6)), (sL (List.map (eU (hC eI (h1 (eU (hC (eT eI) (h1 (eT eI))))))) s12)), (sI ((eT eI) lot15)), (sI ((eT eI) ys17)), (sI (eI piece18))]) (E4 := fun piece18 => [(sI ((eT (eU (hC eI (h1 eI)))) pieces1)), (sI (eI one2)), (sI (eI other3)), (sI ((eL eI) xs6)), (sL (List.map (eU (hC eI (h1 (eU (hC (eT eI) (h1 (eT eI))))))) s12)), (sI ((eT eI) lot15)), (sI ((eT eI) ys17)), (sI (eI piece18))]) (imOnly_cons rfl imOnly_nil) (fun _ => rfl) (fun piece18 => R0.chainI cmp_le cmp_le (R0.of (by
          refine op2_st ?_
          refine op2_st ?_
          refine st_P (pe_var rfl) ?_
          refine st_P (pe_var rfl) ?_
          refine fin_M (F2.idxT (f := (eU (hC eI (h1 eI))))) pieces1 piece18 rfl rfl fun x20 => ?_
          refine st_P pe_imm ?_
          refine st_P (p := (.im (eI x20.1))) (e1 := [(sI ((eT (eU (hC eI (h1 eI)))) pieces1)), (sI (eI one2)), (sI (eI other3)), (sI ((eL eI) xs6)), (sL (List.map (eU (hC eI (h1 (eU (hC (eT eI) (h1 (eT eI))))))) s12)), (sI ((eT eI) lot15)), (sI ((eT eI) ys17)), (sI (eI piece18))]) rfl ?_
          exact rt_ok)) (R0.pure (v := one2) (pe_var rfl)) (R0.of (by
          refine op2_st ?_
          refine op2_st ?_
          refine st_P (pe_var rfl) ?_
          refine st_P (pe_var rfl) ?_
          refine fin_M (F2.idxT (f := (eU (hC eI (h1 eI))))) pieces1 piece18 rfl rfl fun x21 => ?_
          refine st_P pe_imm ?_
          refine st_P (p := (.im (eI x21.2))) (e1 := [(sI ((eT (eU (hC eI (h1 eI)))) pieces1)), (sI (eI one2)), (sI (eI other3)), (sI ((eL eI) xs6)), (sL (List.map (eU (hC eI (h1 (eU (hC (eT eI) (h1 (eT eI))))))) s12)), (sI ((eT eI) lot15)), (sI ((eT eI) ys17)), (sI (eI piece18))]) rfl ?_
          exact rt_ok))) (fun _ _ => rfl) (fun _ => rfl) (fun _ => rfl) rfl fun ys19 => ?_
      refine argsO_nil ?_
      refine blt_ok (F1.fin F1.allL ys19 rfl rfl) ?_
      refine ite_two ?_ ?_
      · refine ap_cons ?_
        refine S_ifJ (fun (s25 : (List (Int × ((List Int) × (List Int))))) e => e = [(sI ((eT (eU (hC eI (h1 eI)))) pieces1)), (sI (eI one2)), (sI (eI other3)), (sI ((eL eI) xs6)), (sL (List.map (eU (hC eI (h1 (eU (hC (eT eI) (h1 (eT eI))))))) s25)), (sI ((eT eI) lot15)), (sI ((eT eI) ys17)), none]) ?_ ?_
        · refine blt_st ?_
          refine argsO_M ?_
          refine comp_st ?_
          refine it1_st ?_
          refine st_P (pe_var rfl) ?_
          refine it1_ok (d := (eT eI) ys17) (e2 := [(sI ((eT (eU (hC eI (h1 eI)))) pieces1)), (sI (eI one2)), (sI (eI other3)), (sI ((eL eI) xs6)), (sL (List.map (eU (hC eI (h1 (eU (hC (eT eI) (h1 (eT eI))))))) s12)), (sI ((eT eI) lot15)), (sI ((eT eI) ys17)), none]) rfl (seq_T (f := eI)) ?_
          refine comp_mapM (g := (fun piece26 : Int => ((idxO pieces1 piece26).bind fun x28 => O.ok x28.1).bind fun x30 => (O.ok other3).bind fun y31 => if decide (x30 ≤ y31) then ((idxO pieces1 piece26).bind fun x29 => O.ok x29.2).bind fun z32 => O.ok (decide (y31 ≤ z32)) else O.ok false)) (eb := (im' eB)) (fb := eB) (E2 := fun piece26 => [(sI ((eT (eU (hC eI (h1 eI)))) pieces1)), (sI (eI one2)), (sI (eI other3)), (sI ((eL eI) xs6)), (sL (List.map (eU (hC eI (h1 (eU (hC (eT eI) (h1 (eT eI))))))) s12)), (sI ((eT eI) lot15)), (sI ((eT eI) ys17)), (sI (eI piece26))]) (E3 := fun piece26 => [(sI ((eT (eU (hC eI (h1 eI)))) pieces1)), (sI (eI one2)), (sI (eI other3)), (sI ((eL eI) xs6)), (sL (List.map (eU (hC eI (h1 (eU (hC (eT eI) (h1 (eT eI))))))) s12)), (sI ((eT eI) lot15)), (sI ((eT eI) ys17)), (sI (eI piece26))]) (E4 := fun piece26 => [(sI ((eT (eU (hC eI (h1 eI)))) pieces1)), (sI (eI one2)), (sI (eI other3)), (sI ((eL eI) xs6)), (sL (List.map (eU (hC eI (h1 (eU (hC (eT eI) (h1 (eT eI))))))) s12)), (sI ((eT eI) lot15)), (sI ((eT eI) ys17)), (sI (eI piece26))]) (imOnly_cons rfl imOnly_nil) (fun _ => rfl) (fun piece26 => R0.chainI cmp_le cmp_le (R0.of (by
              refine op2_st ?_
              refine op2_st ?_
              refine st_P (pe_var rfl) ?_
              refine st_P (pe_var rfl) ?_
              refine fin_M (F2.idxT (f := (eU (hC eI (h1 eI))))) pieces1 piece26 rfl rfl fun x28 => ?_
              refine st_P pe_imm ?_
              refine st_P (p := (.im (eI x28.1))) (e1 := [(sI ((eT (eU (hC eI (h1 eI)))) pieces1)), (sI (eI one2)), (sI (eI other3)), (sI ((eL eI) xs6)), (sL (List.map (eU (hC eI (h1 (eU (hC (eT eI) (h1 (eT eI))))))) s12)), (sI ((eT eI) lot15)), (sI ((eT eI) ys17)), (sI (eI piece26))]) rfl ?_
              exact rt_ok)) (R0.pure (v := other3) (pe_var rfl)) (R0.of (by
              refine op2_st ?_
              refine op2_st ?_
              refine st_P (pe_var rfl) ?_
              refine st_P (pe_var rfl) ?_
              refine fin_M (F2.idxT (f := (eU (hC eI (h1 eI))))) pieces1 piece26 rfl rfl fun x29 => ?_
              refine st_P pe_imm ?_
              refine st_P (p := (.im (eI x29.2))) (e1 := [(sI ((eT (eU (hC eI (h1 eI)))) pieces1)), (sI (eI one2)), (sI (eI other3)), (sI ((eL eI) xs6)), (sL (List.map (eU (hC eI (h1 (eU (hC (eT eI) (h1 (eT eI))))))) s12)), (sI ((eT eI) lot15)), (sI ((eT eI) ys17)), (sI (eI piece26))]) rfl ?_
              exact rt_ok))) (fun _ _ => rfl) (fun _ => rfl) (fun _ => rfl) rfl fun ys27 => ?_
          refine argsO_nil ?_
          refine blt_ok (F1.fin F1.allL ys27 rfl rfl) ?_
          refine ite_two ?_ ?_
          · refine S_mut ?_ rfl
            refine argsD_P (pe_tup (pd_cons (pe_blt (pa_cons (pe_bin F2.sub (lenI lot15) (lenI ys17) (pe_blt (pa_cons (pe_var rfl) pa_nil) (F1.fin (F1.lenT (f := eI)) lot15 rfl rfl)) (pe_blt (pa_cons (pe_var rfl) pa_nil) (F1.fin (F1.lenT (f := eI)) ys17 rfl rfl)) rfl rfl rfl) pa_nil) (F1.fin F1.abs ((lenI lot15) - (lenI ys17)) rfl rfl)) rfl (pd_cons (pe_tup (pd_cons (pe_var rfl) rfl (pd_cons (pe_var rfl) rfl pd_nil))) rfl pd_nil))) rfl ?_
            refine argsD_nil ?_
            refine mut_app (f := (eU (hC eI (h1 (eU (hC (eT eI) (h1 (eT eI)))))))) (xs := s12) (x := ((absI ((lenI lot15) - (lenI ys17))), (lot15, ys17))) (E := fun found33 => [(sI ((eT (eU (hC eI (h1 eI)))) pieces1)), (sI (eI one2)), (sI (eI other3)), (sI ((eL eI) xs6)), (sL (List.map (eU (hC eI (h1 (eU (hC (eT eI) (h1 (eT eI))))))) found33)), (sI ((eT eI) lot15)), (sI ((eT eI) ys17)), none]) rfl (fun _ => rfl) fun found33 => ?_
            exact end_j rfl
          · exact end_j rfl
        · rintro s35 _ rfl
          refine ap_nil ?_
          exact end_nx ⟨(some ((eT eI) ys17)), (some ((eT eI) lot15)), rfl⟩
      · refine ap_nil ?_
        exact end_nx ⟨(some ((eT eI) ys17)), (some ((eT eI) lot15)), rfl⟩
    · rintro s37 _ ⟨a38, a39, rfl⟩
      refine S_ret ?_
      refine op2_st ?_
      refine blt_st ?_
      refine argsO_P (pe_varL rfl) ?_
      refine argsO_nil ?_
      refine blt_M1 (F1.minL (f := (eU (hC eI (h1 (eU (hC (eT eI) (h1 (eT eI)))))))) (by decide)) s37 rfl fun m40 => ?_
      refine st_P pe_imm ?_
      refine st_P (p := (.im ((eU (hC (eT eI) (h1 (eT eI)))) m40.2))) (e1 := [(sI ((eT (eU (hC eI (h1 eI)))) pieces1)), (sI (eI one2)), (sI (eI other3)), (sI ((eL eI) xs6)), (sL (List.map (eU (hC eI (h1 (eU (hC (eT eI) (h1 (eT eI))))))) s37)), (dm a39), (dm a38), none]) rfl ?_
      exact ret_f rfl

noncomputable def F__law_any_hld (hand1 : HH) (some2 : (List D)) : O (D × HH) :=
  (F__law_draw hand1 (lenI some2)).bind fun q3 =>
  (idxO some2 q3.1).bind fun x5 =>
  O.ok (x5, q3.2)
theorem T__law_any_hld (k : Nat) (hand1 : HH) (some2 : (List D)) (hk : 7 ≤ k) : C1 (im' eD) (fun h : HH => [(sL h.1.ds), none]) (F__law_any_hld hand1 some2) (P.run k d__law_any [(sL hand1.1.ds), (sI ((eL eD) some2))]) := by
  obtain ⟨k, rfl⟩ : ∃ j, k = j + 3 := ⟨k - 3, by omega⟩
  rw [r__law_any]
  refine C1.mk ?_
  show SRel _ _ (seqS [b__law_any_0 k] [(sL hand1.1.ds), (sI ((eL eD) some2))])
  unfold F__law_any_hld
  refine S_ret ?_
  refine op2_st ?_
  refine st_P (pe_var rfl) ?_
  refine call_st ?_
  refine argsO_P (pe_varL rfl) ?_
  refine argsO_P (pe_blt (pa_cons (pe_var rfl) pa_nil) (F1.fin (F1.lenL (f := eD)) some2 rfl rfl)) ?_
  refine argsO_nil ?_
  refine callH_M (ps := [(sL hand1.1.ds), (sI (eI (lenI some2)))]) (E := fun h4 => [(sL h4.1.ds), (sI ((eL eD) some2))]) rfl (T__law_draw (k + 2) hand1 (lenI some2) (by omega)) (fun _ => rfl) fun q3 => ?_
  refine fin_M (F2.idxL (f := eD)) some2 q3.1 rfl rfl fun x5 => ?_
  exact ret_h rfl

noncomputable def F__law_no_pieces_h (hand1 : HH) : O (D × HH) :=
  (repO [((1 : Int), (2 : Int))] (9 : Int)).bind fun v2 =>
  (O.ok [(eN ()), ((eT eI) ([] : (List Int))), ((eL (eU (hC eI (h1 eI)))) [((1 : Int), (2 : Int))]), ((eT (eT eI)) [[(1 : Int)]]), ((eT (eU (hC eI (h1 eI)))) [((2 : Int), (1 : Int))]), ((eT (eU (hC eI (h1 eI)))) [((0 : Int), (21 : Int))]), ((eT (eU (hC eI (h1 eI)))) [((-(1 : Int)), (2 : Int))]), ((eT (eU (hC eB (h1 eI)))) [(true, (2 : Int))]), ((eT (eU (hC eI (h1 eI)))) v2), (eI (0 : Int))] : O (List D)).bind fun some3 =>
  (F__law_any_hld hand1 some3).bind fun q4 =>
  O.ok (q4.1, q4.2)
theorem T__law_no_pieces_h (k : Nat) (hand1 : HH) (hk : 8 ≤ k) : C1 (im' eD) (fun h : HH => [(sL h.1.ds)]) (F__law_no_pieces_h hand1) (P.run k d__law_no_pieces [(sL hand1.1.ds)]) := by
  obtain ⟨k, rfl⟩ : ∃ j, k = j + 3 := ⟨k - 3, by omega⟩
  rw [r__law_no_pieces]
  refine C1.mk ?_
  show SRel _ _ (seqS [b__law_no_pieces_0 k, b__law_no_pieces_1 k] [(sL hand1.1.ds), none])
  unfold F__law_no_pieces_h
  refine S_asg ?_
  refine lst_st ?_
  refine argsD_P (pe_imm (d := .none)) rfl ?_
  refine argsD_P (pe_tup pd_nil) rfl ?_
  refine argsD_P (pe_lst (pd_cons (pe_tup (pd_cons pe_imm rfl (pd_cons pe_imm rfl pd_nil))) rfl pd_nil)) rfl ?_
  refine argsD_P (pe_tup (pd_cons (pe_tup (pd_cons pe_imm rfl pd_nil)) rfl pd_nil)) rfl ?_
  refine argsD_P (pe_tup (pd_cons (pe_tup (pd_cons pe_imm rfl (pd_cons pe_imm rfl pd_nil))) rfl pd_nil)) rfl ?_
  refine argsD_P (pe_tup (pd_cons (pe_tup (pd_cons pe_imm rfl (pd_cons pe_imm rfl pd_nil))) rfl pd_nil)) rfl ?_
  refine argsD_P (pe_tup (pd_cons (pe_tup (pd_cons (pe_neg (1 : Int) pe_imm) rfl (pd_cons pe_imm rfl pd_nil))) rfl pd_nil)) rfl ?_
  refine argsD_P (pe_tup (pd_cons (pe_tup (pd_cons pe_imm rfl (pd_cons pe_imm rfl pd_nil))) rfl pd_nil)) rfl ?_
  refine argsD_M ?_
  refine op2_st ?_
  refine st_P (pe_tup (pd_cons (pe_tup (pd_cons pe_imm rfl (pd_cons pe_imm rfl pd_nil))) rfl pd_nil)) ?_
  refine st_P pe_imm ?_
  refine fin_M (F2.repT (f := (eU (hC eI (h1 eI))))) [((1 : Int), (2 : Int))] (9 : Int) rfl rfl fun v2 => ?_
  refine fzk_ok rfl ?_
  refine argsD_P pe_imm rfl ?_
  refine argsD_nil ?_
  refine asg_let (ea := (tl' eD)) (E := fun some3 => [(sL hand1.1.ds), (sL (List.map eD some3))]) [(eN ()), ((eT eI) ([] : (List Int))), ((eL (eU (hC eI (h1 eI)))) [((1 : Int), (2 : Int))]), ((eT (eT eI)) [[(1 : Int)]]), ((eT (eU (hC eI (h1 eI)))) [((2 : Int), (1 : Int))]), ((eT (eU (hC eI (h1 eI)))) [((0 : Int), (21 : Int))]), ((eT (eU (hC eI (h1 eI)))) [((-(1 : Int)), (2 : Int))]), ((eT (eU (hC eB (h1 eI)))) [(true, (2 : Int))]), ((eT (eU (hC eI (h1 eI)))) v2), (eI (0 : Int))] (fun _ => rfl) fun some3 => ?_
  refine S_ret ?_
  refine call_st ?_
  refine argsO_P (pe_varL rfl) ?_
  refine argsO_P (pe_varL rfl) ?_
  refine argsO_nil ?_
  refine callH_M (ps := [(sL hand1.1.ds), (sI ((eL eD) some3))]) (E := fun h5 => [(sL h5.1.ds), (sI ((eL eD) some3))]) rfl (T__law_any_hld (k + 2) hand1 some3 (by omega)) (fun _ => rfl) fun q4 => ?_
  exact ret_h rfl

noncomputable def F__law_any_hLld (hand1 : HH) (some2 : (List D)) : O (D × HH) :=
  (F__law_draw hand1 (lenI some2)).bind fun q3 =>
  (idxO some2 q3.1).bind fun x5 =>
  O.ok (x5, q3.2)
theorem T__law_any_hLld (k : Nat) (hand1 : HH) (some2 : (List D)) (hk : 7 ≤ k) : C1 (im' eD) (fun h : HH => [(sL h.1.ds), none]) (F__law_any_hLld hand1 some2) (P.run k d__law_any [(sL hand1.1.ds), (sL (List.map eD some2))]) := by
  obtain ⟨k, rfl⟩ : ∃ j, k = j + 3 := ⟨k - 3, by omega⟩
  rw [r__law_any]
  refine C1.mk ?_
  show SRel _ _ (seqS [b__law_any_0 k] [(sL hand1.1.ds), (sL (List.map eD some2))])
  unfold F__law_any_hLld
  refine S_ret ?_
  refine op2_st ?_
  refine st_P (pe_varL rfl) ?_
  refine call_st ?_
  refine argsO_P (pe_varL rfl) ?_
  refine argsO_P (pe_blt (pa_cons (pe_varL rfl) pa_nil) (F1.fin (F1.lenL (f := eD)) some2 rfl rfl)) ?_
  refine argsO_nil ?_
  refine callH_M (ps := [(sL hand1.1.ds), (sI (eI (lenI some2)))]) (E := fun h4 => [(sL h4.1.ds), (sL (List.map eD some2))]) rfl (T__law_draw (k + 2) hand1 (lenI some2) (by omega)) (fun _ => rfl) fun q3 => ?_
  refine fin_M (F2.idxL (f := eD)) some2 q3.1 rfl rfl fun x5 => ?_
  exact ret_h rfl

noncomputable def F__law_no_heat_h (hand1 : HH) : O (D × HH) :=
  (F__law_any_hLld hand1 [(eN ()), (eI (-(1 : Int))), (eI (21 : Int)), (eB true), (eS ("1" : Str))]).bind fun q2 =>
  O.ok (q2.1, q2.2)
theorem T__law_no_heat_h (k : Nat) (hand1 : HH) (hk : 8 ≤ k) : C1 (im' eD) (fun h : HH => [(sL h.1.ds)]) (F__law_no_heat_h hand1) (P.run k d__law_no_heat [(sL hand1.1.ds)]) := by
  obtain ⟨k, rfl⟩ : ∃ j, k = j + 3 := ⟨k - 3, by omega⟩
  rw [r__law_no_heat]
  refine C1.mk ?_
  show SRel _ _ (seqS [b__law_no_heat_0 k] [(sL hand1.1.ds)])
  unfold F__law_no_heat_h
  refine S_ret ?_
  refine call_st ?_
  refine argsO_P (pe_varL rfl) ?_
  refine argsO_P (pe_lst (pd_cons (pe_imm (d := .none)) rfl (pd_cons (pe_neg (1 : Int) pe_imm) rfl (pd_cons pe_imm rfl (pd_cons pe_imm rfl (pd_cons pe_imm rfl pd_nil)))))) ?_
  refine argsO_nil ?_
  refine callH_M (ps := [(sL hand1.1.ds), (sL (List.map eD [(eN ()), (eI (-(1 : Int))), (eI (21 : Int)), (eB true), (eS ("1" : Str))]))]) (E := fun h3 => [(sL h3.1.ds)]) rfl (T__law_any_hLld (k + 2) hand1 [(eN ()), (eI (-(1 : Int))), (eI (21 : Int)), (eB true), (eS ("1" : Str))] (by omega)) (fun _ => rfl) fun q2 => ?_
  exact ret_h rfl

noncomputable def F_is_sized_dii (thing1 : D) (low2 : Int) (high3 : Int) : O Bool :=
  (((tyO (eD thing1) .tuple).bind fun c4 => O.ok c4).bind fun c9 => if c9 then ((O.ok low2).bind fun x6 => ((lenO thing1).bind fun m5 => O.ok m5).bind fun y7 => if decide (x6 ≤ y7) then (O.ok high3).bind fun z8 => O.ok (decide (y7 ≤ z8)) else O.ok false) else O.ok false).bind fun c10 =>
  O.ok c10
theorem T_is_sized_dii (k : Nat) (thing1 : D) (low2 : Int) (high3 : Int) (hk : 4 ≤ k) : C0 (im' eB) [none, none, none] (F_is_sized_dii thing1 low2 high3) (P.run k d_is_sized [(sI (eD thing1)), (sI (eI low2)), (sI (eI high3))]) := by
  obtain ⟨k, rfl⟩ : ∃ j, k = j + 3 := ⟨k - 3, by omega⟩
  rw [r_is_sized]
  refine C0.mk ?_
  show SRel _ _ (seqS [b_is_sized_0 k] [(sI (eD thing1)), (sI (eI low2)), (sI (eI high3))])
  unfold F_is_sized_dii
  refine S_ret ?_
  refine st_M (ea := im' eB) (e1 := [(sI (eD thing1)), (sI (eI low2)), (sI (eI high3))]) (R0.and (R0.of (by
      refine isi_M (d := eD thing1) (pe_var rfl) rfl fun c4 => ?_
      exact rt_ok)) (R0.and1 (R0.chainI cmp_le cmp_le (R0.pure (v := low2) (pe_var rfl)) (R0.of (by
      refine blt_st ?_
      refine argsO_P (pe_var rfl) ?_
      refine argsO_nil ?_
      refine blt_M1 F1.lenD thing1 rfl fun m5 => ?_
      exact rt_ok)) (R0.pure (v := high3) (pe_var rfl))))) fun c10 => ?_
  exact ret_f rfl

noncomputable def F_is_integer_d (thing1 : D) : O Bool :=
  (((tyO (eD thing1) .int).bind fun c2 => O.ok c2).bind fun c4 => if c4 then ((tyO (eD thing1) .bool).bind fun c3 => O.ok (!c3)) else O.ok false).bind fun c5 =>
  O.ok c5
theorem T_is_integer_d (k : Nat) (thing1 : D) (hk : 4 ≤ k) : C0 (im' eB) [none] (F_is_integer_d thing1) (P.run k d_is_integer [(sI (eD thing1))]) := by
  obtain ⟨k, rfl⟩ : ∃ j, k = j + 3 := ⟨k - 3, by omega⟩
  rw [r_is_integer]
  refine C0.mk ?_
  show SRel _ _ (seqS [b_is_integer_0 k] [(sI (eD thing1))])
  unfold F_is_integer_d
  refine S_ret ?_
  refine st_M (ea := im' eB) (e1 := [(sI (eD thing1))]) (R0.and (R0.of (by
      refine isi_M (d := eD thing1) (pe_var rfl) rfl fun c2 => ?_
      exact rt_ok)) (R0.and1 (R0.of (by
      refine not_st ?_
      refine isi_M (d := eD thing1) (pe_var rfl) rfl fun c3 => ?_
      refine st_P (p := (.im (eB (!c3)))) rfl ?_
      exact rt_ok)))) fun c5 => ?_
  exact ret_f rfl

noncomputable def F_is_within_dii (thing1 : D) (low2 : Int) (high3 : Int) : O Bool :=
  (((F_is_integer_d thing1).bind fun v4 => O.ok v4).bind fun c6 => if c6 then ((chD .LtE .LtE (eI low2) (eD thing1) (eI high3)).bind fun c5 => O.ok c5) else O.ok false).bind fun c7 =>
  O.ok c7
theorem T_is_within_dii (k : Nat) (thing1 : D) (low2 : Int) (high3 : Int) (hk : 5 ≤ k) : C0 (im' eB) [none, none, none] (F_is_within_dii thing1 low2 high3) (P.run k d_is_within [(sI (eD thing1)), (sI (eI low2)), (sI (eI high3))]) := by
  obtain ⟨k, rfl⟩ : ∃ j, k = j + 3 := ⟨k - 3, by omega⟩
  rw [r_is_within]
  refine C0.mk ?_
  show SRel _ _ (seqS [b_is_within_0 k] [(sI (eD thing1)), (sI (eI low2)), (sI (eI high3))])
  unfold F_is_within_dii
  refine S_ret ?_
  refine st_M (ea := im' eB) (e1 := [(sI (eD thing1)), (sI (eI low2)), (sI (eI high3))]) (R0.and (R0.of (by
      refine call_st ?_
      refine argsO_P (pe_var rfl) ?_
      refine argsO_nil ?_
      refine call_M (ps := [(sI (eD thing1))]) (e3 := [(sI (eD thing1)), (sI (eI low2)), (sI (eI high3))]) rfl (T_is_integer_d (k + 2) thing1 (by omega)) rfl fun v4 => ?_
      exact rt_ok)) (R0.and1 (R0.of (by
      refine chain_M (x := eI low2) (y := eD thing1) (z := eI high3) (pe_var rfl) (pe_var rfl) (pe_var rfl) rfl rfl rfl fun c5 => ?_
      exact rt_ok)))) fun c7 => ?_
  exact ret_f rfl

noncomputable def F_is_within_ddi (thing1 : D) (low2 : D) (high3 : Int) : O Bool :=
  (((F_is_integer_d thing1).bind fun v4 => O.ok v4).bind fun c6 => if c6 then ((chD .LtE .LtE (eD low2) (eD thing1) (eI high3)).bind fun c5 => O.ok c5) else O.ok false).bind fun c7 =>
  O.ok c7
theorem T_is_within_ddi (k : Nat) (thing1 : D) (low2 : D) (high3 : Int) (hk : 5 ≤ k) : C0 (im' eB) [none, none, none] (F_is_within_ddi thing1 low2 high3) (P.run k d_is_within [(sI (eD thing1)), (sI (eD low2)), (sI (eI high3))]) := by
  obtain ⟨k, rfl⟩ : ∃ j, k = j + 3 := ⟨k - 3, by omega⟩
  rw [r_is_within]
  refine C0.mk ?_
  show SRel _ _ (seqS [b_is_within_0 k] [(sI (eD thing1)), (sI (eD low2)), (sI (eI high3))])
  unfold F_is_within_ddi
  refine S_ret ?_
  refine st_M (ea := im' eB) (e1 := [(sI (eD thing1)), (sI (eD low2)), (sI (eI high3))]) (R0.and (R0.of (by
      refine call_st ?_
      refine argsO_P (pe_var rfl) ?_
      refine argsO_nil ?_
      refine call_M (ps := [(sI (eD thing1))]) (e3 := [(sI (eD thing1)), (sI (eD low2)), (sI (eI high3))]) rfl (T_is_integer_d (k + 2) thing1 (by omega)) rfl fun v4 => ?_
      exact rt_ok)) (R0.and1 (R0.of (by
      refine chain_M (x := eD low2) (y := eD thing1) (z := eI high3) (pe_var rfl) (pe_var rfl) (pe_var rfl) rfl rfl rfl fun c5 => ?_
      exact rt_ok)))) fun c7 => ?_
  exact ret_f rfl

noncomputable def F_are_pieces_d (thing1 : D) : O Bool :=
  (((F_is_sized_dii thing1 (1 : Int) (8 : Int)).bind fun v2 => O.ok (!v2)).bind fun c8 => if c8 then O.ok true else ((seqO thing1).bind fun xs3 => (mapO (fun piece4 : D => (F_is_sized_dii piece4 (2 : Int) (2 : Int)).bind fun v6 => O.ok v6) xs3).bind fun zs7 => (szO zs7).bind fun ys5 => O.ok (!(List.all ys5 id)))).bind fun c9 =>
  if c9 then
    O.ok false
  else
    (seqO thing1).bind fun xs10 =>
    (mapO unp2 xs10).bind fun ys11 =>
    (mapO (fun p12 : (D × D) => ((F_is_within_dii p12.1 (0 : Int) (20 : Int)).bind fun v14 => O.ok v14).bind fun c16 => if c16 then ((F_is_within_ddi p12.2 p12.1 (20 : Int)).bind fun v15 => O.ok v15) else O.ok false) ys11).bind fun zs17 =>
    (szO zs17).bind fun ys13 =>
    O.ok (List.all ys13 id)
theorem T_are_pieces_d (k : Nat) (thing1 : D) (hk : 6 ≤ k) : C0 (im' eB) [none] (F_are_pieces_d thing1) (P.run k d_are_pieces [(sI (eD thing1))]) := by
  obtain ⟨k, rfl⟩ : ∃ j, k = j + 3 := ⟨k - 3, by omega⟩
  rw [r_are_pieces]
  refine C0.mk ?_
  show SRel _ _ (seqS [b_are_pieces_0 k, b_are_pieces_1 k] [(sI (eD thing1)), none, none, none])
  unfold F_are_pieces_d
  refine S_ifC ?_
  refine st_M (ea := im' eB) (e1 := [(sI (eD thing1)), none, none, none]) (R0.or (R0.of (by
      refine not_st ?_
      refine call_st ?_
      refine argsO_P (pe_var rfl) ?_
      refine argsO_P pe_imm ?_
      refine argsO_P pe_imm ?_
      refine argsO_nil ?_
      refine call_M (ps := [(sI (eD thing1)), (sI (eI (1 : Int))), (sI (eI (8 : Int)))]) (e3 := [(sI (eD thing1)), none, none, none]) rfl (T_is_sized_dii (k + 2) thing1 (1 : Int) (8 : Int) (by omega)) rfl fun v2 => ?_
      refine st_P (p := (.im (eB (!v2)))) rfl ?_
      exact rt_ok)) (R0.or1 (R0.of (by
      refine not_st ?_
      refine blt_st ?_
      refine argsO_M ?_
      refine comp_st ?_
      refine it1_st ?_
      refine st_P (pe_var rfl) ?_
      refine it1_D fun xs3 => ?_
      refine comp_mapM (g := (fun piece4 : D => (F_is_sized_dii piece4 (2 : Int) (2 : Int)).bind fun v6 => O.ok v6)) (eb := (im' eB)) (fb := eB) (E2 := fun piece4 => [(sI (eD thing1)), none, none, (sI (eD piece4))]) (E3 := fun piece4 => [(sI (eD thing1)), none, none, (sI (eD piece4))]) (E4 := fun piece4 => [(sI (eD thing1)), none, none, (sI (eD piece4))]) (imOnly_cons rfl imOnly_nil) (fun _ => rfl) (fun piece4 => R0.of (by
          refine call_st ?_
          refine argsO_P (pe_var rfl) ?_
          refine argsO_P pe_imm ?_
          refine argsO_P pe_imm ?_
          refine argsO_nil ?_
          refine call_M (ps := [(sI (eD piece4)), (sI (eI (2 : Int))), (sI (eI (2 : Int)))]) (e3 := [(sI (eD thing1)), none, none, (sI (eD piece4))]) rfl (T_is_sized_dii (k + 2) piece4 (2 : Int) (2 : Int) (by omega)) rfl fun v6 => ?_
          exact rt_ok)) (fun _ _ => rfl) (fun _ => rfl) (fun _ => rfl) rfl fun ys5 => ?_
      refine argsO_nil ?_
      refine blt_ok (F1.fin F1.allL ys5 rfl rfl) ?_
      refine st_P (p := (.im (eB (!(List.all ys5 id))))) rfl ?_
      exact rt_ok)))) fun c9 => ?_
  refine ite_two ?_ ?_
  · refine ap_cons ?_
    refine S_ret ?_
    refine st_P pe_imm ?_
    exact ret_f rfl
  · refine ap_nil ?_
    refine S_ret ?_
    refine blt_st ?_
    refine argsO_M ?_
    refine comp_st ?_
    refine it1_st ?_
    refine st_P (pe_var rfl) ?_
    refine it1_D fun xs10 => ?_
    refine unp2_it fun ys11 => ?_
    refine comp_mapM (g := (fun p12 : (D × D) => ((F_is_within_dii p12.1 (0 : Int) (20 : Int)).bind fun v14 => O.ok v14).bind fun c16 => if c16 then ((F_is_within_ddi p12.2 p12.1 (20 : Int)).bind fun v15 => O.ok v15) else O.ok false)) (eb := (im' eB)) (fb := eB) (E2 := fun p12 => [(sI (eD thing1)), (sI (eD p12.1)), (sI (eD p12.2)), none]) (E3 := fun p12 => [(sI (eD thing1)), (sI (eD p12.1)), (sI (eD p12.2)), none]) (E4 := fun p12 => [(sI (eD thing1)), (sI (eD p12.1)), (sI (eD p12.2)), none]) (imOnly_cons rfl (imOnly_cons rfl imOnly_nil)) (fun _ => rfl) (fun p12 => R0.and (R0.of (by
        refine call_st ?_
        refine argsO_P (pe_var rfl) ?_
        refine argsO_P pe_imm ?_
        refine argsO_P pe_imm ?_
        refine argsO_nil ?_
        refine call_M (ps := [(sI (eD p12.1)), (sI (eI (0 : Int))), (sI (eI (20 : Int)))]) (e3 := [(sI (eD thing1)), (sI (eD p12.1)), (sI (eD p12.2)), none]) rfl (T_is_within_dii (k + 2) p12.1 (0 : Int) (20 : Int) (by omega)) rfl fun v14 => ?_
        exact rt_ok)) (R0.and1 (R0.of (by
        refine call_st ?_
        refine argsO_P (pe_var rfl) ?_
        refine argsO_P (pe_var rfl) ?_
        refine argsO_P pe_imm ?_
        refine argsO_nil ?_
        refine call_M (ps := [(sI (eD p12.2)), (sI (eD p12.1)), (sI (eI (20 : Int)))]) (e3 := [(sI (eD thing1)), (sI (eD p12.1)), (sI (eD p12.2)), none]) rfl (T_is_within_ddi (k + 2) p12.2 p12.1 (20 : Int) (by omega)) rfl fun v15 => ?_
        exact rt_ok)))) (fun _ _ => rfl) (fun _ => rfl) (fun _ => rfl) rfl fun ys13 => ?_
    refine argsO_nil ?_
    refine blt_ok (F1.fin F1.allL ys13 rfl rfl) ?_
    exact ret_f rfl

noncomputable def F_check_pieces_d (thing1 : D) : O Unit :=
  (F_are_pieces_d thing1).bind fun v2 =>
  if (!v2) then
    O.ex ⟨"NoPieces", none⟩
  else
    O.ok ()
theorem T_check_pieces_d (k : Nat) (thing1 : D) (hk : 7 ≤ k) : C0 (im' eN) [none] (F_check_pieces_d thing1) (P.run k d_check_pieces [(sI (eD thing1))]) := by
  obtain ⟨k, rfl⟩ : ∃ j, k = j + 3 := ⟨k - 3, by omega⟩
  rw [r_check_pieces]
  refine C0.mk ?_
  show SRel _ _ (seqS [b_check_pieces_0 k] [(sI (eD thing1))])
  unfold F_check_pieces_d
  refine S_ifC ?_
  refine not_st ?_
  refine call_st ?_
  refine argsO_P (pe_var rfl) ?_
  refine argsO_nil ?_
  refine call_M (ps := [(sI (eD thing1))]) (e3 := [(sI (eD thing1))]) rfl (T_are_pieces_d (k + 2) thing1 (by omega)) rfl fun v2 => ?_
  refine st_P (p := (.im (eB (!v2)))) rfl ?_
  refine ite_two ?_ ?_
  · refine ap_cons ?_
    exact S_raise rfl
  · refine ap_nil ?_
    exact ret_f rfl

noncomputable def F_raw_left_dii (pieces1 : D) (one2 : Int) (other3 : Int) : O Unit :=
  O.un
theorem T_raw_left_dii (k : Nat) (pieces1 : D) (one2 : Int) (other3 : Int) (hk : 4 ≤ k) : C0 (im' eN) [none, none, none] (F_raw_left_dii pieces1 one2 other3) (P.run k d_raw_left [(sI (eD pieces1)), (sI (eI one2)), (sI (eI other3))]) := by
  obtain ⟨k, rfl⟩ : ∃ j, k = j + 3 := ⟨k - 3, by omega⟩
  rw [r_raw_left]
  refine C0.mk ?_
  show SRel _ _ (seqS [b_raw_left_0 k] [(sI (eD pieces1)), (sI (eI one2)), (sI (eI other3)), none, none, none])
  unfold F_raw_left_dii
  exact SRel.un

noncomputable def F_two_irons_d (pieces1 : D) : O Unit :=
  (F_check_pieces_d pieces1).bind fun v2 =>
  (O.ok ([] : (List Int)) : O (List Int)).bind fun found3 =>
  (rng1O ((20 : Int) + (1 : Int))).bind fun xs4 =>
  (foldO (fun (s7 : (List Int)) (one9 : Int) =>
    O.un) found3 xs4).bind fun s14 =>
  O.un
theorem T_two_irons_d (k : Nat) (pieces1 : D) (hk : 8 ≤ k) : C0 (im' eN) [none] (F_two_irons_d pieces1) (P.run k d_two_irons [(sI (eD pieces1))]) := by
  obtain ⟨k, rfl⟩ : ∃ j, k = j + 3 := ⟨k - 3, by omega⟩
  rw [r_two_irons]
  refine C0.mk ?_
  show SRel _ _ (seqS [b_two_irons_0 k, b_two_irons_1 k, b_two_irons_2 k, b_two_irons_3 k] [(sI (eD pieces1)), none, none, none])
  unfold F_two_irons_d
  refine S_expr ?_
  refine call_st ?_
  refine argsO_P (pe_var rfl) ?_
  refine argsO_nil ?_
  refine call_M (ps := [(sI (eD pieces1))]) (e3 := [(sI (eD pieces1)), none, none, none]) rfl (T_check_pieces_d (k + 2) pieces1 (by omega)) rfl fun v2 => ?_
  refine S_asg ?_
  refine st_P (pe_lst pd_nil) ?_
  refine asg_let (ea := (tl' eI)) (E := fun found3 => [(sI (eD pieces1)), (sL (List.map eI found3)), none, none]) ([] : (List Int)) (fun _ => rfl) fun found3 => ?_
  refine S_for ?_
  refine it1_st ?_
  refine st_P (pe_bin F2.add (20 : Int) (1 : Int) pe_imm pe_imm rfl rfl rfl) ?_
  refine it1_rng fun xs4 => ?_
  refine for_fold (fun (s5 : (List Int)) e => ∃ a6 : Option D, e = [(sI (eD pieces1)), (sL (List.map eI s5)), (dm a6), none]) found3 ⟨none, rfl⟩ ?_ ?_
  · rintro one9 s7 _ ⟨a8, rfl⟩
    refine ⟨[(sI (eD pieces1)), (sL (List.map eI s7)), (sI (eI one9)), none], rfl, ?_⟩
    exact SRel.un
  · rintro s14 _ ⟨a15, rfl⟩
    exact SRel.un

noncomputable def F_check_heat_dd (pieces1 : D) (heat2 : D) : O Unit :=
  (F_check_pieces_d pieces1).bind fun v3 =>
  (F_is_within_dii heat2 (0 : Int) (20 : Int)).bind fun v4 =>
  if (!v4) then
    O.ex ⟨"NoHeat", none⟩
  else
    O.ok ()
theorem T_check_heat_dd (k : Nat) (pieces1 : D) (heat2 : D) (hk : 8 ≤ k) : C0 (im' eN) [none, none] (F_check_heat_dd pieces1 heat2) (P.run k d_check_heat [(sI (eD pieces1)), (sI (eD heat2))]) := by
  obtain ⟨k, rfl⟩ : ∃ j, k = j + 3 := ⟨k - 3, by omega⟩
  rw [r_check_heat]
  refine C0.mk ?_
  show SRel _ _ (seqS [b_check_heat_0 k, b_check_heat_1 k] [(sI (eD pieces1)), (sI (eD heat2))])
  unfold F_check_heat_dd
  refine S_expr ?_
  refine call_st ?_
  refine argsO_P (pe_var rfl) ?_
  refine argsO_nil ?_
  refine call_M (ps := [(sI (eD pieces1))]) (e3 := [(sI (eD pieces1)), (sI (eD heat2))]) rfl (T_check_pieces_d (k + 2) pieces1 (by omega)) rfl fun v3 => ?_
  refine S_ifC ?_
  refine not_st ?_
  refine call_st ?_
  refine argsO_P (pe_var rfl) ?_
  refine argsO_P pe_imm ?_
  refine argsO_P pe_imm ?_
  refine argsO_nil ?_
  refine call_M (ps := [(sI (eD heat2)), (sI (eI (0 : Int))), (sI (eI (20 : Int)))]) (e3 := [(sI (eD pieces1)), (sI (eD heat2))]) rfl (T_is_within_dii (k + 2) heat2 (0 : Int) (20 : Int) (by omega)) rfl fun v4 => ?_
  refine st_P (p := (.im (eB (!v4)))) rfl ?_
  refine ite_two ?_ ?_
  · refine ap_cons ?_
    exact S_raise rfl
  · refine ap_nil ?_
    exact ret_f rfl

noncomputable def F_check_two_ddd (pieces1 : D) (one2 : D) (other3 : D) : O Unit :=
  (F_check_heat_dd pieces1 one2).bind fun v4 =>
  (F_check_heat_dd pieces1 other3).bind fun v5 =>
  O.ok ()
theorem T_check_two_ddd (k : Nat) (pieces1 : D) (one2 : D) (other3 : D) (hk : 9 ≤ k) : C0 (im' eN) [none, none, none] (F_check_two_ddd pieces1 one2 other3) (P.run k d_check_two [(sI (eD pieces1)), (sI (eD one2)), (sI (eD other3))]) := by
  obtain ⟨k, rfl⟩ : ∃ j, k = j + 3 := ⟨k - 3, by omega⟩
  rw [r_check_two]
  refine C0.mk ?_
  show SRel _ _ (seqS [b_check_two_0 k, b_check_two_1 k] [(sI (eD pieces1)), (sI (eD one2)), (sI (eD other3))])
  unfold F_check_two_ddd
  refine S_expr ?_
  refine call_st ?_
  refine argsO_P (pe_var rfl) ?_
  refine argsO_P (pe_var rfl) ?_
  refine argsO_nil ?_
  refine call_M (ps := [(sI (eD pieces1)), (sI (eD one2))]) (e3 := [(sI (eD pieces1)), (sI (eD one2)), (sI (eD other3))]) rfl (T_check_heat_dd (k + 2) pieces1 one2 (by omega)) rfl fun v4 => ?_
  refine S_expr ?_
  refine call_st ?_
  refine argsO_P (pe_var rfl) ?_
  refine argsO_P (pe_var rfl) ?_
  refine argsO_nil ?_
  refine call_M (ps := [(sI (eD pieces1)), (sI (eD other3))]) (e3 := [(sI (eD pieces1)), (sI (eD one2)), (sI (eD other3))]) rfl (T_check_heat_dd (k + 2) pieces1 other3 (by omega)) rfl fun v5 => ?_
  exact ret_f rfl

noncomputable def F_raw_left_ddd (pieces1 : D) (one2 : D) (other3 : D) : O Unit :=
  O.un
theorem T_raw_left_ddd (k : Nat) (pieces1 : D) (one2 : D) (other3 : D) (hk : 4 ≤ k) : C0 (im' eN) [none, none, none] (F_raw_left_ddd pieces1 one2 other3) (P.run k d_raw_left [(sI (eD pieces1)), (sI (eD one2)), (sI (eD other3))]) := by
  obtain ⟨k, rfl⟩ : ∃ j, k = j + 3 := ⟨k - 3, by omega⟩
  rw [r_raw_left]
  refine C0.mk ?_
  show SRel _ _ (seqS [b_raw_left_0 k] [(sI (eD pieces1)), (sI (eD one2)), (sI (eD other3)), none, none, none])
  unfold F_raw_left_ddd
  exact SRel.un

noncomputable def F_left_over_ddd (pieces1 : D) (one2 : D) (other3 : D) : O Unit :=
  (F_check_two_ddd pieces1 one2 other3).bind fun v4 =>
  O.un
theorem T_left_over_ddd (k : Nat) (pieces1 : D) (one2 : D) (other3 : D) (hk : 10 ≤ k) : C0 (im' eN) [none, none, none] (F_left_over_ddd pieces1 one2 other3) (P.run k d_left_over [(sI (eD pieces1)), (sI (eD one2)), (sI (eD other3))]) := by
  obtain ⟨k, rfl⟩ : ∃ j, k = j + 3 := ⟨k - 3, by omega⟩
  rw [r_left_over]
  refine C0.mk ?_
  show SRel _ _ (seqS [b_left_over_0 k, b_left_over_1 k] [(sI (eD pieces1)), (sI (eD one2)), (sI (eD other3))])
  unfold F_left_over_ddd
  refine S_expr ?_
  refine call_st ?_
  refine argsO_P (pe_var rfl) ?_
  refine argsO_P (pe_var rfl) ?_
  refine argsO_P (pe_var rfl) ?_
  refine argsO_nil ?_
  refine call_M (ps := [(sI (eD pieces1)), (sI (eD one2)), (sI (eD other3))]) (e3 := [(sI (eD pieces1)), (sI (eD one2)), (sI (eD other3))]) rfl (T_check_two_ddd (k + 2) pieces1 one2 other3 (by omega)) rfl fun v4 => ?_
  exact SRel.un

noncomputable def F_check_heat_tpiiqd (pieces1 : (List (Int × Int))) (heat2 : D) : O Unit :=
  (F_check_pieces_tpiiq pieces1).bind fun v3 =>
  (F_is_within_dii heat2 (0 : Int) (20 : Int)).bind fun v4 =>
  if (!v4) then
    O.ex ⟨"NoHeat", none⟩
  else
    O.ok ()
theorem T_check_heat_tpiiqd (k : Nat) (pieces1 : (List (Int × Int))) (heat2 : D) (hk : 8 ≤ k) : C0 (im' eN) [none, none] (F_check_heat_tpiiqd pieces1 heat2) (P.run k d_check_heat [(sI ((eT (eU (hC eI (h1 eI)))) pieces1)), (sI (eD heat2))]) := by
  obtain ⟨k, rfl⟩ : ∃ j, k = j + 3 := ⟨k - 3, by omega⟩
  rw [r_check_heat]
  refine C0.mk ?_
  show SRel _ _ (seqS [b_check_heat_0 k, b_check_heat_1 k] [(sI ((eT (eU (hC eI (h1 eI)))) pieces1)), (sI (eD heat2))])
  unfold F_check_heat_tpiiqd
  refine S_expr ?_
  refine call_st ?_
  refine argsO_P (pe_var rfl) ?_
  refine argsO_nil ?_
  refine call_M (ps := [(sI ((eT (eU (hC eI (h1 eI)))) pieces1))]) (e3 := [(sI ((eT (eU (hC eI (h1 eI)))) pieces1)), (sI (eD heat2))]) rfl (T_check_pieces_tpiiq (k + 2) pieces1 (by omega)) rfl fun v3 => ?_
  refine S_ifC ?_
  refine not_st ?_
  refine call_st ?_
  refine argsO_P (pe_var rfl) ?_
  refine argsO_P pe_imm ?_
  refine argsO_P pe_imm ?_
  refine argsO_nil ?_
  refine call_M (ps := [(sI (eD heat2)), (sI (eI (0 : Int))), (sI (eI (20 : Int)))]) (e3 := [(sI ((eT (eU (hC eI (h1 eI)))) pieces1)), (sI (eD heat2))]) rfl (T_is_within_dii (k + 2) heat2 (0 : Int) (20 : Int) (by omega)) rfl fun v4 => ?_
  refine st_P (p := (.im (eB (!v4)))) rfl ?_
  refine ite_two ?_ ?_
  · refine ap_cons ?_
    exact S_raise rfl
  · refine ap_nil ?_
    exact ret_f rfl

noncomputable def F_check_two_tpiiqdi (pieces1 : (List (Int × Int))) (one2 : D) (other3 : Int) : O Unit :=
  (F_check_heat_tpiiqd pieces1 one2).bind fun v4 =>
  (F_check_heat_tpiiqi pieces1 other3).bind fun v5 =>
  O.ok ()
theorem T_check_two_tpiiqdi (k : Nat) (pieces1 : (List (Int × Int))) (one2 : D) (other3 : Int) (hk : 9 ≤ k) : C0 (im' eN) [none, none, none] (F_check_two_tpiiqdi pieces1 one2 other3) (P.run k d_check_two [(sI ((eT (eU (hC eI (h1 eI)))) pieces1)), (sI (eD one2)), (sI (eI other3))]) := by
  obtain ⟨k, rfl⟩ : ∃ j, k = j + 3 := ⟨k - 3, by omega⟩
  rw [r_check_two]
  refine C0.mk ?_
  show SRel _ _ (seqS [b_check_two_0 k, b_check_two_1 k] [(sI ((eT (eU (hC eI (h1 eI)))) pieces1)), (sI (eD one2)), (sI (eI other3))])
  unfold F_check_two_tpiiqdi
  refine S_expr ?_
  refine call_st ?_
  refine argsO_P (pe_var rfl) ?_
  refine argsO_P (pe_var rfl) ?_
  refine argsO_nil ?_
  refine call_M (ps := [(sI ((eT (eU (hC eI (h1 eI)))) pieces1)), (sI (eD one2))]) (e3 := [(sI ((eT (eU (hC eI (h1 eI)))) pieces1)), (sI (eD one2)), (sI (eI other3))]) rfl (T_check_heat_tpiiqd (k + 2) pieces1 one2 (by omega)) rfl fun v4 => ?_
  refine S_expr ?_
  refine call_st ?_
  refine argsO_P (pe_var rfl) ?_
  refine argsO_P (pe_var rfl) ?_
  refine argsO_nil ?_
  refine call_M (ps := [(sI ((eT (eU (hC eI (h1 eI)))) pieces1)), (sI (eI other3))]) (e3 := [(sI ((eT (eU (hC eI (h1 eI)))) pieces1)), (sI (eD one2)), (sI (eI other3))]) rfl (T_check_heat_tpiiqi (k + 2) pieces1 other3 (by omega)) rfl fun v5 => ?_
  exact ret_f rfl

noncomputable def F_raw_left_tpiiqdi (pieces1 : (List (Int × Int))) (one2 : D) (other3 : Int) : O (List Int) :=
  (compO (fun p4 : (Int × (Int × Int)) => ((chD .LtE .LtE (eI p4.2.1) (eD one2) (eI p4.2.2)).bind fun c7 => O.ok (!c7)).bind fun c8 => if c8 then (O.ok (!(decide (p4.2.1 ≤ other3) && decide (other3 ≤ p4.2.2)))) else O.ok false) (fun p4 : (Int × (Int × Int)) => O.ok p4.1) (enm 0 pieces1)).bind fun zs6 =>
  (szO zs6).bind fun ys5 =>
  O.ok ys5
theorem T_raw_left_tpiiqdi (k : Nat) (pieces1 : (List (Int × Int))) (one2 : D) (other3 : Int) (hk : 4 ≤ k) : C0 (tl' eI) [none, none, none] (F_raw_left_tpiiqdi pieces1 one2 other3) (P.run k d_raw_left [(sI ((eT (eU (hC eI (h1 eI)))) pieces1)), (sI (eD one2)), (sI (eI other3))]) := by
  obtain ⟨k, rfl⟩ : ∃ j, k = j + 3 := ⟨k - 3, by omega⟩
  rw [r_raw_left]
  refine C0.mk ?_
  show SRel _ _ (seqS [b_raw_left_0 k] [(sI ((eT (eU (hC eI (h1 eI)))) pieces1)), (sI (eD one2)), (sI (eI other3)), none, none, none])
  unfold F_raw_left_tpiiqdi
  refine S_ret ?_
  refine comp_st ?_
  refine it1_st ?_
  refine st_P (pe_var rfl) ?_
  refine it1_ok (d := (eT (eU (hC eI (h1 eI)))) pieces1) (e2 := [(sI ((eT (eU (hC eI (h1 eI)))) pieces1)), (sI (eD one2)), (sI (eI other3)), none, none, none]) rfl enum_T ?_
  refine comp_filMM (p := (fun p4 : (Int × (Int × Int)) => ((chD .LtE .LtE (eI p4.2.1) (eD one2) (eI p4.2.2)).bind fun c7 => O.ok (!c7)).bind fun c8 => if c8 then (O.ok (!(decide (p4.2.1 ≤ other3) && decide (other3 ≤ p4.2.2)))) else O.ok false)) (g := (fun p4 : (Int × (Int × Int)) => O.ok p4.1)) (eb := (im' eI)) (fb := eI) (E2 := fun p4 => [(sI ((eT (eU (hC eI (h1 eI)))) pieces1)), (sI (eD one2)), (sI (eI other3)), (sI (eI p4.1)), (sI (eI p4.2.1)), (sI (eI p4.2.2))]) (E3 := fun p4 => [(sI ((eT (eU (hC eI (h1 eI)))) pieces1)), (sI (eD one2)), (sI (eI other3)), (sI (eI p4.1)), (sI (eI p4.2.1)), (sI (eI p4.2.2))]) (E4 := fun p4 => [(sI ((eT (eU (hC eI (h1 eI)))) pieces1)), (sI (eD one2)), (sI (eI other3)), (sI (eI p4.1)), (sI (eI p4.2.1)), (sI (eI p4.2.2))]) (imOnly_cons rfl (imOnly_cons rfl (imOnly_cons rfl imOnly_nil))) (fun _ => rfl) (fun p4 => R0.and (R0.of (by
      refine not_st ?_
      refine chain_M (x := eI p4.2.1) (y := eD one2) (z := eI p4.2.2) (pe_var rfl) (pe_var rfl) (pe_var rfl) rfl rfl rfl fun c7 => ?_
      refine st_P (p := (.im (eB (!c7)))) rfl ?_
      exact rt_ok)) (R0.and1 (R0.pure (v := (!(decide (p4.2.1 ≤ other3) && decide (other3 ≤ p4.2.2)))) (pe_not (decide (p4.2.1 ≤ other3) && decide (other3 ≤ p4.2.2)) (pe_chain cmp_le cmp_le p4.2.1 other3 p4.2.2 (pe_var rfl) (pe_var rfl) (pe_var rfl)))))) (fun p4 => R0.pure (v := p4.1) (pe_var rfl)) (fun _ _ => rfl) (fun _ => rfl) (fun _ => rfl) rfl fun ys5 => ?_
  exact ret_f rfl

noncomputable def F_left_over_tpiiqdi (pieces1 : (List (Int × Int))) (one2 : D) (other3 : Int) : O (List Int) :=
  (F_check_two_tpiiqdi pieces1 one2 other3).bind fun v4 =>
  (F_raw_left_tpiiqdi pieces1 one2 other3).bind fun v5 =>
  O.ok v5
theorem T_left_over_tpiiqdi (k : Nat) (pieces1 : (List (Int × Int))) (one2 : D) (other3 : Int) (hk : 10 ≤ k) : C0 (im' (eT eI)) [none, none, none] (F_left_over_tpiiqdi pieces1 one2 other3) (P.run k d_left_over [(sI ((eT (eU (hC eI (h1 eI)))) pieces1)), (sI (eD one2)), (sI (eI other3))]) := by
  obtain ⟨k, rfl⟩ : ∃ j, k = j + 3 := ⟨k - 3, by omega⟩
  rw [r_left_over]
  refine C0.mk ?_
  show SRel _ _ (seqS [b_left_over_0 k, b_left_over_1 k] [(sI ((eT (eU (hC eI (h1 eI)))) pieces1)), (sI (eD one2)), (sI (eI other3))])
  unfold F_left_over_tpiiqdi
  refine S_expr ?_
  refine call_st ?_
  refine argsO_P (pe_var rfl) ?_
  refine argsO_P (pe_var rfl) ?_
  refine argsO_P (pe_var rfl) ?_
  refine argsO_nil ?_
  refine call_M (ps := [(sI ((eT (eU (hC eI (h1 eI)))) pieces1)), (sI (eD one2)), (sI (eI other3))]) (e3 := [(sI ((eT (eU (hC eI (h1 eI)))) pieces1)), (sI (eD one2)), (sI (eI other3))]) rfl (T_check_two_tpiiqdi (k + 2) pieces1 one2 other3 (by omega)) rfl fun v4 => ?_
  refine S_ret ?_
  refine blt_st ?_
  refine argsO_M ?_
  refine call_st ?_
  refine argsO_P (pe_var rfl) ?_
  refine argsO_P (pe_var rfl) ?_
  refine argsO_P (pe_var rfl) ?_
  refine argsO_nil ?_
  refine call_M (ps := [(sI ((eT (eU (hC eI (h1 eI)))) pieces1)), (sI (eD one2)), (sI (eI other3))]) (e3 := [(sI ((eT (eU (hC eI (h1 eI)))) pieces1)), (sI (eD one2)), (sI (eI other3))]) rfl (T_raw_left_tpiiqdi (k + 2) pieces1 one2 other3 (by omega)) rfl fun v5 => ?_
  refine argsO_nil ?_
  refine blt_ok (F1.fin (F1.tupL (f := eI)) v5 rfl rfl) ?_
  exact ret_f rfl

noncomputable def F_check_two_tpiiqid (pieces1 : (List (Int × Int))) (one2 : Int) (other3 : D) : O Unit :=
  (F_check_heat_tpiiqi pieces1 one2).bind fun v4 =>
  (F_check_heat_tpiiqd pieces1 other3).bind fun v5 =>
  O.ok ()
theorem T_check_two_tpiiqid (k : Nat) (pieces1 : (List (Int × Int))) (one2 : Int) (other3 : D) (hk : 9 ≤ k) : C0 (im' eN) [none, none, none] (F_check_two_tpiiqid pieces1 one2 other3) (P.run k d_check_two [(sI ((eT (eU (hC eI (h1 eI)))) pieces1)), (sI (eI one2)), (sI (eD other3))]) := by
  obtain ⟨k, rfl⟩ : ∃ j, k = j + 3 := ⟨k - 3, by omega⟩
  rw [r_check_two]
  refine C0.mk ?_
  show SRel _ _ (seqS [b_check_two_0 k, b_check_two_1 k] [(sI ((eT (eU (hC eI (h1 eI)))) pieces1)), (sI (eI one2)), (sI (eD other3))])
  unfold F_check_two_tpiiqid
  refine S_expr ?_
  refine call_st ?_
  refine argsO_P (pe_var rfl) ?_
  refine argsO_P (pe_var rfl) ?_
  refine argsO_nil ?_
  refine call_M (ps := [(sI ((eT (eU (hC eI (h1 eI)))) pieces1)), (sI (eI one2))]) (e3 := [(sI ((eT (eU (hC eI (h1 eI)))) pieces1)), (sI (eI one2)), (sI (eD other3))]) rfl (T_check_heat_tpiiqi (k + 2) pieces1 one2 (by omega)) rfl fun v4 => ?_
  refine S_expr ?_
  refine call_st ?_
  refine argsO_P (pe_var rfl) ?_
  refine argsO_P (pe_var rfl) ?_
  refine argsO_nil ?_
  refine call_M (ps := [(sI ((eT (eU (hC eI (h1 eI)))) pieces1)), (sI (eD other3))]) (e3 := [(sI ((eT (eU (hC eI (h1 eI)))) pieces1)), (sI (eI one2)), (sI (eD other3))]) rfl (T_check_heat_tpiiqd (k + 2) pieces1 other3 (by omega)) rfl fun v5 => ?_
  exact ret_f rfl

noncomputable def F_raw_left_tpiiqid (pieces1 : (List (Int × Int))) (one2 : Int) (other3 : D) : O (List Int) :=
  (compO (fun p4 : (Int × (Int × Int)) => if (!(decide (p4.2.1 ≤ one2) && decide (one2 ≤ p4.2.2))) then ((chD .LtE .LtE (eI p4.2.1) (eD other3) (eI p4.2.2)).bind fun c7 => O.ok (!c7)) else O.ok false) (fun p4 : (Int × (Int × Int)) => O.ok p4.1) (enm 0 pieces1)).bind fun zs6 =>
  (szO zs6).bind fun ys5 =>
  O.ok ys5
theorem T_raw_left_tpiiqid (k : Nat) (pieces1 : (List (Int × Int))) (one2 : Int) (other3 : D) (hk : 4 ≤ k) : C0 (tl' eI) [none, none, none] (F_raw_left_tpiiqid pieces1 one2 other3) (P.run k d_raw_left [(sI ((eT (eU (hC eI (h1 eI)))) pieces1)), (sI (eI one2)), (sI (eD other3))]) := by
  obtain ⟨k, rfl⟩ : ∃ j, k = j + 3 := ⟨k - 3, by omega⟩
  rw [r_raw_left]
  refine C0.mk ?_
  show SRel _ _ (seqS [b_raw_left_0 k] [(sI ((eT (eU (hC eI (h1 eI)))) pieces1)), (sI (eI one2)), (sI (eD other3)), none, none, none])
  unfold F_raw_left_tpiiqid
  refine S_ret ?_
  refine comp_st ?_
  refine it1_st ?_
  refine st_P (pe_var rfl) ?_
  refine it1_ok (d := (eT (eU (hC eI (h1 eI)))) pieces1) (e2 := [(sI ((eT (eU (hC eI (h1 eI)))) pieces1)), (sI (eI one2)), (sI (eD other3)), none, none, none]) rfl enum_T ?_
  refine comp_filMM (p := (fun p4 : (Int × (Int × Int)) => if (!(decide (p4.2.1 ≤ one2) && decide (one2 ≤ p4.2.2))) then ((chD .LtE .LtE (eI p4.2.1) (eD other3) (eI p4.2.2)).bind fun c7 => O.ok (!c7)) else O.ok false)) (g := (fun p4 : (Int × (Int × Int)) => O.ok p4.1)) (eb := (im' eI)) (fb := eI) (E2 := fun p4 => [(sI ((eT (eU (hC eI (h1 eI)))) pieces1)), (sI (eI one2)), (sI (eD other3)), (sI (eI p4.1)), (sI (eI p4.2.1)), (sI (eI p4.2.2))]) (E3 := fun p4 => [(sI ((eT (eU (hC eI (h1 eI)))) pieces1)), (sI (eI one2)), (sI (eD other3)), (sI (eI p4.1)), (sI (eI p4.2.1)), (sI (eI p4.2.2))]) (E4 := fun p4 => [(sI ((eT (eU (hC eI (h1 eI)))) pieces1)), (sI (eI one2)), (sI (eD other3)), (sI (eI p4.1)), (sI (eI p4.2.1)), (sI (eI p4.2.2))]) (imOnly_cons rfl (imOnly_cons rfl (imOnly_cons rfl imOnly_nil))) (fun _ => rfl) (fun p4 => R0.andC (x := (!(decide (p4.2.1 ≤ one2) && decide (one2 ≤ p4.2.2)))) (pe_not (decide (p4.2.1 ≤ one2) && decide (one2 ≤ p4.2.2)) (pe_chain cmp_le cmp_le p4.2.1 one2 p4.2.2 (pe_var rfl) (pe_var rfl) (pe_var rfl))) (R0.and1 (R0.of (by
      refine not_st ?_
      refine chain_M (x := eI p4.2.1) (y := eD other3) (z := eI p4.2.2) (pe_var rfl) (pe_var rfl) (pe_var rfl) rfl rfl rfl fun c7 => ?_
      refine st_P (p := (.im (eB (!c7)))) rfl ?_
      exact rt_ok)))) (fun p4 => R0.pure (v := p4.1) (pe_var rfl)) (fun _ _ => rfl) (fun _ => rfl) (fun _ => rfl) rfl fun ys5 => ?_
  exact ret_f rfl

noncomputable def F_left_over_tpiiqid (pieces1 : (List (Int × Int))) (one2 : Int) (other3 : D) : O (List Int) :=
  (F_check_two_tpiiqid pieces1 one2 other3).bind fun v4 =>
  (F_raw_left_tpiiqid pieces1 one2 other3).bind fun v5 =>
  O.ok v5
theorem T_left_over_tpiiqid (k : Nat) (pieces1 : (List (Int × Int))) (one2 : Int) (other3 : D) (hk : 10 ≤ k) : C0 (im' (eT eI)) [none, none, none] (F_left_over_tpiiqid pieces1 one2 other3) (P.run k d_left_over [(sI ((eT (eU (hC eI (h1 eI)))) pieces1)), (sI (eI one2)), (sI (eD other3))]) := by
  obtain ⟨k, rfl⟩ : ∃ j, k = j + 3 := ⟨k - 3, by omega⟩
  rw [r_left_over]
  refine C0.mk ?_
  show SRel _ _ (seqS [b_left_over_0 k, b_left_over_1 k] [(sI ((eT (eU (hC eI (h1 eI)))) pieces1)), (sI (eI one2)), (sI (eD other3))])
  unfold F_left_over_tpiiqid
  refine S_expr ?_
  refine call_st ?_
  refine argsO_P (pe_var rfl) ?_
  refine argsO_P (pe_var rfl) ?_
  refine argsO_P (pe_var rfl) ?_
  refine argsO_nil ?_
  refine call_M (ps := [(sI ((eT (eU (hC eI (h1 eI)))) pieces1)), (sI (eI one2)), (sI (eD other3))]) (e3 := [(sI ((eT (eU (hC eI (h1 eI)))) pieces1)), (sI (eI one2)), (sI (eD other3))]) rfl (T_check_two_tpiiqid (k + 2) pieces1 one2 other3 (by omega)) rfl fun v4 => ?_
  refine S_ret ?_
  refine blt_st ?_
  refine argsO_M ?_
  refine call_st ?_
  refine argsO_P (pe_var rfl) ?_
  refine argsO_P (pe_var rfl) ?_
  refine argsO_P (pe_var rfl) ?_
  refine argsO_nil ?_
  refine call_M (ps := [(sI ((eT (eU (hC eI (h1 eI)))) pieces1)), (sI (eI one2)), (sI (eD other3))]) (e3 := [(sI ((eT (eU (hC eI (h1 eI)))) pieces1)), (sI (eI one2)), (sI (eD other3))]) rfl (T_raw_left_tpiiqid (k + 2) pieces1 one2 other3 (by omega)) rfl fun v5 => ?_
  refine argsO_nil ?_
  refine blt_ok (F1.fin (F1.tupL (f := eI)) v5 rfl rfl) ?_
  exact ret_f rfl

noncomputable def F_shared_out_tpiiqdi (pieces1 : (List (Int × Int))) (one2 : D) (other3 : Int) : O Unit :=
  (F_check_two_tpiiqdi pieces1 one2 other3).bind fun v4 =>
  (F_raw_left_tpiiqdi pieces1 one2 other3).bind fun v5 =>
  if decide ((0 : Int) < (lenI v5)) then
    O.ex ⟨"LeftOver", none⟩
  else
    (rngLO 0 (lenI pieces1)).bind fun xs6 =>
    (O.ok ([] : (List Int)) : O (List Int)).bind fun found7 =>
    (F_all_lots_li xs6).bind fun v8 =>
    (foldO (fun (s12 : (List Int)) (lot15 : (List Int)) =>
      (szO (List.map (fun piece16 : Int => piece16) (List.filter (fun piece16 : Int => (!decide (piece16 ∈ lot15))) xs6))).bind fun ys17 =>
      O.un) found7 v8).bind fun s22 =>
    O.un
theorem T_shared_out_tpiiqdi (k : Nat) (pieces1 : (List (Int × Int))) (one2 : D) (other3 : Int) (hk : 10 ≤ k) : C0 (im' eN) [none, none, none] (F_shared_out_tpiiqdi pieces1 one2 other3) (P.run k d_shared_out [(sI ((eT (eU (hC eI (h1 eI)))) pieces1)), (sI (eD one2)), (sI (eI other3))]) := by
  obtain ⟨k, rfl⟩ : ∃ j, k = j + 3 := ⟨k - 3, by omega⟩
  rw [r_shared_out]
  refine C0.mk ?_
  show SRel _ _ (seqS [b_shared_out_0 k, b_shared_out_1 k, b_shared_out_2 k, b_shared_out_3 k, b_shared_out_4 k, b_shared_out_5 k] [(sI ((eT (eU (hC eI (h1 eI)))) pieces1)), (sI (eD one2)), (sI (eI other3)), none, none, none, none, none])
  unfold F_shared_out_tpiiqdi
  refine S_expr ?_
  refine call_st ?_
  refine argsO_P (pe_var rfl) ?_
  refine argsO_P (pe_var rfl) ?_
  refine argsO_P (pe_var rfl) ?_
  refine argsO_nil ?_
  refine call_M (ps := [(sI ((eT (eU (hC eI (h1 eI)))) pieces1)), (sI (eD one2)), (sI (eI other3))]) (e3 := [(sI ((eT (eU (hC eI (h1 eI)))) pieces1)), (sI (eD one2)), (sI (eI other3)), none, none, none, none, none]) rfl (T_check_two_tpiiqdi (k + 2) pieces1 one2 other3 (by omega)) rfl fun v4 => ?_
  refine S_ifC ?_
  refine op2_st ?_
  refine blt_st ?_
  refine argsO_M ?_
  refine call_st ?_
  refine argsO_P (pe_var rfl) ?_
  refine argsO_P (pe_var rfl) ?_
  refine argsO_P (pe_var rfl) ?_
  refine argsO_nil ?_
  refine call_M (ps := [(sI ((eT (eU (hC eI (h1 eI)))) pieces1)), (sI (eD one2)), (sI (eI other3))]) (e3 := [(sI ((eT (eU (hC eI (h1 eI)))) pieces1)), (sI (eD one2)), (sI (eI other3)), none, none, none, none, none]) rfl (T_raw_left_tpiiqdi (k + 2) pieces1 one2 other3 (by omega)) rfl fun v5 => ?_
  refine argsO_nil ?_
  refine blt_ok (F1.fin (F1.lenL (f := eI)) v5 rfl rfl) ?_
  refine st_P pe_imm ?_
  refine fin_P F2.gtI (lenI v5) (0 : Int) rfl rfl rfl ?_
  refine ite_two ?_ ?_
  · refine ap_cons ?_
    exact S_raise rfl
  · refine ap_nil ?_
    refine S_asg ?_
    refine blt_st ?_
    refine argsO_P (pe_blt (pa_cons (pe_var rfl) pa_nil) (F1.fin (F1.lenT (f := (eU (hC eI (h1 eI))))) pieces1 rfl rfl)) ?_
    refine argsO_nil ?_
    refine rngL_M1 rfl fun xs6 => ?_
    refine asg_ok (e2 := [(sI ((eT (eU (hC eI (h1 eI)))) pieces1)), (sI (eD one2)), (sI (eI other3)), (sL (List.map eI xs6)), none, none, none, none]) rfl ?_
    refine S_asg ?_
    refine st_P (pe_lst pd_nil) ?_
    refine asg_let (ea := (tl' eI)) (E := fun found7 => [(sI ((eT (eU (hC eI (h1 eI)))) pieces1)), (sI (eD one2)), (sI (eI other3)), (sL (List.map eI xs6)), (sL (List.map eI found7)), none, none, none]) ([] : (List Int)) (fun _ => rfl) fun found7 => ?_
    refine S_for ?_
    refine it1_st ?_
    refine call_st ?_
    refine argsO_P (pe_varL rfl) ?_
    refine argsO_nil ?_
    refine call_M (ps := [(sI ((eL eI) xs6))]) (e3 := [(sI ((eT (eU (hC eI (h1 eI)))) pieces1)), (sI (eD one2)), (sI (eI other3)), (sI ((eL eI) xs6)), (sL (List.map eI found7)), none, none, none]) rfl (T_all_lots_li (k + 2) xs6 (by omega)) rfl fun v8 => ?_
    refine it1_ok (d := (eL (eT eI)) v8) (e2 := [(sI ((eT (eU (hC eI (h1 eI)))) pieces1)), (sI (eD one2)), (sI (eI other3)), (sI ((eL eI) xs6)), (sL (List.map eI found7)), none, none, none]) rfl (seq_L (f := (eT eI))) ?_
    refine for_fold (fun (s9 : (List Int)) e => ∃ a10 : Option D, ∃ a11 : Option D, e = [(sI ((eT (eU (hC eI (h1 eI)))) pieces1)), (sI (eD one2)), (sI (eI other3)), (sI ((eL eI) xs6)), (sL (List.map eI s9)), (dm a11), (dm a10), none]) found7 ⟨none, none, rfl⟩ ?_ ?_
    · rintro lot15 s12 _ ⟨a13, a14, rfl⟩
      refine ⟨[(sI ((eT (eU (hC eI (h1 eI)))) pieces1)), (sI (eD one2)), (sI (eI other3)), (sI ((eL eI) xs6)), (sL (List.map eI s12)), (sI ((eT eI) lot15)), (dm a13), none], rfl, ?_⟩
      refine S_asg ?_
      refine blt_st ?_
      refine argsO_M ?_
      refine comp_st ?_
      refine it1_st ?_
      refine st_P (pe_var rfl) ?_
      refine it1_ok (d := (eL eI) xs6) (e2 := [(sI ((eT (eU (hC eI (h1 eI)))) pieces1)), (sI (eD one2)), (sI (eI other3)), (sI ((eL eI) xs6)), (sL (List.map eI s12)), (sI ((eT eI) lot15)), (dm a13), none]) rfl (seq_L (f := eI)) ?_
      refine comp_fil (p := (fun piece16 : Int => (!decide (piece16 ∈ lot15)))) (g := (fun piece16 : Int => piece16)) (eb := (im' eI)) (fb := eI) (E2 := fun piece16 => [(sI ((eT (eU (hC eI (h1 eI)))) pieces1)), (sI (eD one2)), (sI (eI other3)), (sI ((eL eI) xs6)), (sL (List.map eI s12)), (sI ((eT eI) lot15)), (dm a13), (sI (eI piece16))]) (E3 := fun piece16 => [(sI ((eT (eU (hC eI (h1 eI)))) pieces1)), (sI (eD one2)), (sI (eI other3)), (sI ((eL eI) xs6)), (sL (List.map eI s12)), (sI ((eT eI) lot15)), (dm a13), (sI (eI piece16))]) (E4 := fun piece16 => [(sI ((eT (eU (hC eI (h1 eI)))) pieces1)), (sI (eD one2)), (sI (eI other3)), (sI ((eL eI) xs6)), (sL (List.map eI s12)), (sI ((eT eI) lot15)), (dm a13), (sI (eI piece16))]) (imOnly_cons rfl imOnly_nil) (fun _ => rfl) (fun piece16 => (pe_bin (F2.ninT (f := eI) (by decide)) piece16 lot15 (pe_var rfl) (pe_var rfl) rfl rfl rfl)) (fun piece16 => (pe_var rfl)) (fun _ _ => rfl) (fun _ => rfl) (fun _ => rfl) rfl fun ys17 => ?_
      refine argsO_nil ?_
      refine blt_ok (F1.fin (F1.tupL (f := eI)) ys17 rfl rfl) ?_
      refine asg_ok (e2 := [(sI ((eT (eU (hC eI (h1 eI)))) pieces1)), (sI (eD one2)), (sI (eI other3)), (sI ((eL eI) xs6)), (sL (List.map eI s12)), (sI ((eT eI) lot15)), (sI ((eT eI) ys17)), none]) rfl ?_
      exact SRel.un
    · rintro s22 _ ⟨a23, a24, rfl⟩
      exact SRel.un

noncomputable def F__law_lots_li (some1 : (List Int)) : O (List (List Int)) :=
  (O.ok [([] : (List Int))] : O (List (List Int))).bind fun found2 =>
  (foldO (fun (s5 : (List (List Int))) (one7 : Int) =>
    (mapO (fun lot8 : (List Int) => (catO lot8 [one7]).bind fun v10 => O.ok v10) s5).bind fun zs12 =>
    (szO zs12).bind fun ys9 =>
    (catO s5 ys9).bind fun v11 =>
    O.ok v11) found2 some1).bind fun s13 =>
  (szO (List.map (fun lot15 : (List Int) => ((lenI lot15), lot15)) s13)).bind fun ys16 =>
  (sortO ys16).bind fun m17 =>
  (szO (List.map (fun p18 : (Int × (List Int)) => p18.2) m17)).bind fun ys19 =>
  O.ok ys19
theorem T__law_lots_li (k : Nat) (some1 : (List Int)) (hk : 4 ≤ k) : C0 (tl' (eT eI)) [none] (F__law_lots_li some1) (P.run k d__law_lots [(sI ((eL eI) some1))]) := by
  obtain ⟨k, rfl⟩ : ∃ j, k = j + 3 := ⟨k - 3, by omega⟩
  rw [r__law_lots]
  refine C0.mk ?_
  show SRel _ _ (seqS [b__law_lots_0 k, b__law_lots_1 k, b__law_lots_2 k] [(sI ((eL eI) some1)), none, none, none, none])
  unfold F__law_lots_li
  refine S_asg ?_
  refine st_P (pe_lst (pd_cons (pe_tup pd_nil) rfl pd_nil)) ?_
  refine asg_let (ea := (tl' (eT eI))) (E := fun found2 => [(sI ((eL eI) some1)), (sL (List.map (eT eI) found2)), none, none, none]) [([] : (List Int))] (fun _ => rfl) fun found2 => ?_
  refine S_for ?_
  refine it1_st ?_
  refine st_P (pe_var rfl) ?_
  refine it1_ok (d := (eL eI) some1) (e2 := [(sI ((eL eI) some1)), (sL (List.map (eT eI) found2)), none, none, none]) rfl (seq_L (f := eI)) ?_
  refine for_fold (fun (s3 : (List (List Int))) e => ∃ a4 : Option D, e = [(sI ((eL eI) some1)), (sL (List.map (eT eI) s3)), (dm a4), none, none]) found2 ⟨none, rfl⟩ ?_ ?_
  · rintro one7 s5 _ ⟨a6, rfl⟩
    refine ⟨[(sI ((eL eI) some1)), (sL (List.map (eT eI) s5)), (sI (eI one7)), none, none], rfl, ?_⟩
    refine S_asg ?_
    refine op2_st ?_
    refine st_P (pe_varL rfl) ?_
    refine comp_st ?_
    refine it1_st ?_
    refine st_P (pe_varL rfl) ?_
    refine it1_ok (d := (eL (eT eI)) s5) (e2 := [(sI ((eL eI) some1)), (sI ((eL (eT eI)) s5)), (sI (eI one7)), none, none]) rfl (seq_L (f := (eT eI))) ?_
    refine comp_mapM (g := (fun lot8 : (List Int) => (catO lot8 [one7]).bind fun v10 => O.ok v10)) (eb := (im' (eT eI))) (fb := (eT eI)) (E2 := fun lot8 => [(sI ((eL eI) some1)), (sI ((eL (eT eI)) s5)), (sI (eI one7)), none, (sI ((eT eI) lot8))]) (E3 := fun lot8 => [(sI ((eL eI) some1)), (sI ((eL (eT eI)) s5)), (sI (eI one7)), none, (sI ((eT eI) lot8))]) (E4 := fun lot8 => [(sI ((eL eI) some1)), (sI ((eL (eT eI)) s5)), (sI (eI one7)), none, (sI ((eT eI) lot8))]) (imOnly_cons rfl imOnly_nil) (fun _ => rfl) (fun lot8 => R0.of (by
        refine op2_st ?_
        refine st_P (pe_var rfl) ?_
        refine st_P (pe_tup (pd_cons (pe_var rfl) rfl pd_nil)) ?_
        refine fin_M (F2.catT (f := eI)) lot8 [one7] rfl rfl fun v10 => ?_
        exact rt_ok)) (fun _ _ => rfl) (fun _ => rfl) (fun _ => rfl) rfl fun ys9 => ?_
    refine fin_M (F2.catL (f := (eT eI))) s5 ys9 rfl rfl fun v11 => ?_
    refine asg_ok (e2 := [(sI ((eL eI) some1)), (sL (List.map (eT eI) v11)), (sI (eI one7)), none, none]) rfl ?_
    exact end_nx ⟨(some (eI one7)), rfl⟩
  · rintro s13 _ ⟨a14, rfl⟩
    refine S_ret ?_
    refine comp_st ?_
    refine it1_st ?_
    refine blt_st ?_
    refine argsO_M ?_
    refine comp_st ?_
    refine it1_st ?_
    refine st_P (pe_varL rfl) ?_
    refine it1_ok (d := (eL (eT eI)) s13) (e2 := [(sI ((eL eI) some1)), (sI ((eL (eT eI)) s13)), (dm a14), none, none]) rfl (seq_L (f := (eT eI))) ?_
    refine comp_map (g := (fun lot15 : (List Int) => ((lenI lot15), lot15))) (eb := (im' (eU (hC eI (h1 (eT eI)))))) (fb := (eU (hC eI (h1 (eT eI))))) (E2 := fun lot15 => [(sI ((eL eI) some1)), (sI ((eL (eT eI)) s13)), (dm a14), none, (sI ((eT eI) lot15))]) (E3 := fun lot15 => [(sI ((eL eI) some1)), (sI ((eL (eT eI)) s13)), (dm a14), none, (sI ((eT eI) lot15))]) (E4 := fun lot15 => [(sI ((eL eI) some1)), (sI ((eL (eT eI)) s13)), (dm a14), none, (sI ((eT eI) lot15))]) (imOnly_cons rfl imOnly_nil) (fun _ => rfl) (fun lot15 => (pe_tup (pd_cons (pe_blt (pa_cons (pe_var rfl) pa_nil) (F1.fin (F1.lenT (f := eI)) lot15 rfl rfl)) rfl (pd_cons (pe_var rfl) rfl pd_nil)))) (fun _ _ => rfl) (fun _ => rfl) (fun _ => rfl) rfl fun ys16 => ?_
    refine argsO_nil ?_
    refine blt_M1 (F1.sortL (f := (eU (hC eI (h1 (eT eI))))) (by decide)) ys16 rfl fun m17 => ?_
    refine it1_ok (d := (eL (eU (hC eI (h1 (eT eI))))) m17) (e2 := [(sI ((eL eI) some1)), (sI ((eL (eT eI)) s13)), (dm a14), none, none]) rfl (seq_L (f := (eU (hC eI (h1 (eT eI)))))) ?_
    refine comp_map (g := (fun p18 : (Int × (List Int)) => p18.2)) (eb := (im' (eT eI))) (fb := (eT eI)) (E2 := fun p18 => [(sI ((eL eI) some1)), (sI ((eL (eT eI)) s13)), (dm a14), (sI (eI p18.1)), (sI ((eT eI) p18.2))]) (E3 := fun p18 => [(sI ((eL eI) some1)), (sI ((eL (eT eI)) s13)), (dm a14), (sI (eI p18.1)), (sI ((eT eI) p18.2))]) (E4 := fun p18 => [(sI ((eL eI) some1)), (sI ((eL (eT eI)) s13)), (dm a14), (sI (eI p18.1)), (sI ((eT eI) p18.2))]) (imOnly_cons rfl (imOnly_cons rfl imOnly_nil)) (fun _ => rfl) (fun p18 => (pe_var rfl)) (fun _ _ => rfl) (fun _ => rfl) (fun _ => rfl) rfl fun ys19 => ?_
    exact ret_f rfl

noncomputable def F_law_c (script1 : (List Int)) : O Bool :=
  (F__law_hand script1).bind fun v2 =>
  (rng1O (4 : Int)).bind fun xs3 =>
  (loopO (ρ := Bool) (fun (s25 : HH) (turn46 : Int) =>
    (F__law_pieces_hi s25 (7 : Int)).bind fun q47 =>
    (F__law_draw q47.2 (21 : Int)).bind fun q49 =>
    (F__law_draw q49.2 (21 : Int)).bind fun q51 =>
    (O.ok ((lenI q47.1), ([] : (List (Int × Int × Int)))) : O (Int × (List (Int × Int × Int)))).bind fun z55 =>
    (rng1O (21 : Int)).bind fun xs56 =>
    (foldO (fun (s60 : (List (Int × Int × Int))) (a63 : Int) =>
      (rng2O a63 (21 : Int)).bind fun xs64 =>
      (foldO (fun (s67 : (List (Int × Int × Int))) (b69 : Int) =>
        (compO (fun pair70 : (Int × Int) => (F__law_do_iron_LlpiiqLli [pair70] [a63, b69]).bind fun v74 => O.ok (!v74)) (fun pair70 : (Int × Int) => O.ok (1 : Int)) q47.1).bind fun zs73 =>
        (szO zs73).bind fun ys71 =>
        (appO s67 ((lenI ys71), a63, b69)).bind fun rows72 =>
        O.ok rows72) s60 xs64).bind fun s75 =>
      O.ok s75) z55.2 xs56).bind fun s77 =>
    (F_two_irons_tpiiq q47.1).bind fun v80 =>
    (minO s77).bind fun m81 =>
    if (!decide (v80 = (m81.2.1, m81.2.2))) then
      O.ok (.rt false)
    else
      (
        (F__law_draw q51.2 (2 : Int)).bind fun q83 =>
        if decide (q83.1 = (0 : Int)) then
          (minO s77).bind fun m85 =>
          (O.ok (m85.2.1, m85.2.2) : O (Int × Int)).bind fun t86 =>
          O.ok (q83.2, t86.1, t86.2)
        else
          O.ok (q83.2, q49.1, q51.1) : O (HH × Int × Int)).bind fun s87 =>
      (rng1O z55.1).bind fun xs88 =>
      (compO (fun at89 : Int => (idxO q47.1 at89).bind fun x185 => (F__law_do_iron_LlpiiqLli [x185] [s87.2.1, s87.2.2]).bind fun v186 => O.ok (!v186)) (fun at89 : Int => O.ok at89) xs88).bind fun zs184 =>
      (szO zs184).bind fun ys90 =>
      (F_left_over_tpiiqii q47.1 s87.2.1 s87.2.2).bind fun v91 =>
      if (!decide (v91 = ys90)) then
        O.ok (.rt false)
      else
        if (!decide (ys90 = ([] : (List Int)))) then
          (toL (eU (hC (eT eI) (h1 (eT eI)))) ((F_shared_out_tpiiqii q47.1 s87.2.1 s87.2.2).bind fun v92 => O.ok v92)).bind fun r93 => (F__law_word r93).noe.bind fun w94 =>
          if (!decide (w94 = ("left" : Str))) then
            O.ok (.rt false)
          else
            (F__law_no_pieces_h s87.1).bind fun q95 =>
            (F__law_no_heat_h q95.2).bind fun q97 =>
            (toL eN ((F_two_irons_d q95.1).bind fun v99 => O.ok v99)).bind fun r100 => (F__law_word r100).noe.bind fun w101 =>
            (O.ok [w101] : O (List Str)).bind fun words102 =>
            (toL eN ((F_left_over_ddd q95.1 q97.1 q97.1).bind fun v103 => O.ok v103)).bind fun r104 => (F__law_word r104).noe.bind fun w105 =>
            (appO words102 w105).bind fun words106 =>
            (toL (eT eI) ((F_left_over_tpiiqdi q47.1 q97.1 s87.2.2).bind fun v107 => O.ok v107)).bind fun r108 => (F__law_word r108).noe.bind fun w109 =>
            (appO words106 w109).bind fun words110 =>
            (toL (eT eI) ((F_left_over_tpiiqid q47.1 s87.2.1 q97.1).bind fun v111 => O.ok v111)).bind fun r112 => (F__law_word r112).noe.bind fun w113 =>
            (appO words110 w113).bind fun words114 =>
            (toL eN ((F_shared_out_tpiiqdi q47.1 q97.1 s87.2.2).bind fun v115 => O.ok v115)).bind fun r116 => (F__law_word r116).noe.bind fun w117 =>
            (appO words114 w117).bind fun words118 =>
            if (!decide (words118 = [("pieces" : Str), ("pieces" : Str), ("heat" : Str), ("heat" : Str), ("heat" : Str)])) then
              O.ok (.rt false)
            else
              O.ok (.nx q97.2)
        else
          (rng1O z55.1).bind fun xs119 =>
          (compO (fun at120 : Int => (idxO q47.1 at120).bind fun x182 => (F__law_do_iron_LlpiiqLli [x182] [s87.2.1]).bind fun v183 => O.ok v183) (fun at120 : Int => O.ok at120) xs119).bind fun zs181 =>
          (szO zs181).bind fun ys121 =>
          (rng1O z55.1).bind fun xs122 =>
          (compO (fun at123 : Int => (idxO q47.1 at123).bind fun x179 => (F__law_do_iron_LlpiiqLli [x179] [s87.2.2]).bind fun v180 => O.ok v180) (fun at123 : Int => O.ok at123) xs122).bind fun zs178 =>
          (szO zs178).bind fun ys124 =>
          (szO (List.map (fun at125 : Int => at125) (List.filter (fun at125 : Int => (decide (at125 ∈ ys124))) ys121))).bind fun ys126 =>
          (O.ok ([] : (List (Int × (List Int) × (List Int)))) : O ((List (Int × (List Int) × (List Int))))).bind fun z128 =>
          (F__law_lots_li ys126).bind fun v129 =>
          (foldO (fun (s134 : (List (Int × (List Int) × (List Int)))) (lot138 : (List Int)) =>
            (szO (List.map (fun at139 : Int => at139) (List.filter (fun at139 : Int => ((!decide (at139 ∈ ys124)) || (decide (at139 ∈ lot138)))) ys121))).bind fun ys140 =>
            (rng1O z55.1).bind fun xs141 =>
            (szO (List.map (fun at142 : Int => at142) (List.filter (fun at142 : Int => (!decide (at142 ∈ ys140))) xs141))).bind fun ys143 =>
            (appO s134 ((absI ((lenI ys140) - (lenI ys143))), ys140, ys143)).bind fun some144 =>
            O.ok some144) z128 v129).bind fun s145 =>
          (F_shared_out_tpiiqii q47.1 s87.2.1 s87.2.2).bind fun v149 =>
          (minO s145).bind fun m150 =>
          if (!decide (v149 = (m150.2.1, m150.2.2))) then
            O.ok (.rt false)
          else
            (O.ok (max2 (z55.1 - (lenI ys124)) (z55.1 - (lenI ys121))) : O Int).bind fun alone151 =>
            (minO s145).bind fun m152 =>
            (divO (z55.1 + (1 : Int)) (2 : Int)).bind fun v153 =>
            if (!decide ((decide (m152.1 ≤ (1 : Int))) = (decide (alone151 ≤ v153)))) then
              O.ok (.rt false)
            else
              (F__law_no_pieces_h s87.1).bind fun q154 =>
              (F__law_no_heat_h q154.2).bind fun q156 =>
              (toL eN ((F_two_irons_d q154.1).bind fun v158 => O.ok v158)).bind fun r159 => (F__law_word r159).noe.bind fun w160 =>
              (O.ok [w160] : O (List Str)).bind fun words161 =>
              (toL eN ((F_left_over_ddd q154.1 q156.1 q156.1).bind fun v162 => O.ok v162)).bind fun r163 => (F__law_word r163).noe.bind fun w164 =>
              (appO words161 w164).bind fun words165 =>
              (toL (eT eI) ((F_left_over_tpiiqdi q47.1 q156.1 s87.2.2).bind fun v166 => O.ok v166)).bind fun r167 => (F__law_word r167).noe.bind fun w168 =>
              (appO words165 w168).bind fun words169 =>
              (toL (eT eI) ((F_left_over_tpiiqid q47.1 s87.2.1 q156.1).bind fun v170 => O.ok v170)).bind fun r171 => (F__law_word r171).noe.bind fun w172 =>
              (appO words169 w172).bind fun words173 =>
              (toL eN ((F_shared_out_tpiiqdi q47.1 q156.1 s87.2.2).bind fun v174 => O.ok v174)).bind fun r175 => (F__law_word r175).noe.bind fun w176 =>
              (appO words173 w176).bind fun words177 =>
              if (!decide (words177 = [("pieces" : Str), ("pieces" : Str), ("heat" : Str), ("heat" : Str), ("heat" : Str)])) then
                O.ok (.rt false)
              else
                O.ok (.nx q156.2)) v2 xs3).bind (Fl.el (fun s187 =>
  O.ok true) (fun v => O.ok v))
theorem T_law_c (k : Nat) (script1 : (List Int)) (hk : 13 ≤ k) : C0 (im' eB) [none] (F_law_c script1) (P.run k d_law [(sI (.dict [(.none, .list (iL script1))]))]) := by
  obtain ⟨k, rfl⟩ : ∃ j, k = j + 3 := ⟨k - 3, by omega⟩
  rw [r_law]
  refine C0.mk ?_
  show SRel _ _ (seqS [b_law_0 k, b_law_1 k, b_law_2 k] [(sI (.dict [(.none, .list (iL script1))])), none, none, none, none, none, none, none, none, none, none, none, none, none, none, none, none, none, none, none, none, none, none, none])
  unfold F_law_c
  refine S_asg ?_
  refine call_st ?_
  refine argsO_P (pe_var rfl) ?_
  refine argsO_nil ?_
  refine call_M (ps := [(sI (.dict [(.none, .list (iL script1))]))]) (e3 := [(sI (.dict [(.none, .list (iL script1))])), none, none, none, none, none, none, none, none, none, none, none, none, none, none, none, none, none, none, none, none, none, none, none]) rfl (T__law_hand (k + 2) script1 (by omega)) rfl fun v2 => ?_
  refine asg_ok (e2 := [(sI (.dict [(.none, .list (iL script1))])), (sL v2.1.ds), none, none, none, none, none, none, none, none, none, none, none, none, none, none, none, none, none, none, none, none, none, none]) rfl ?_
  refine S_for ?_
  refine it1_st ?_
  refine st_P pe_imm ?_
  refine it1_rng fun xs3 => ?_
  refine for_loop (fun (s4 : HH) e => ∃ a5 : Option D, ∃ a6 : Option D, ∃ a7 : Option D, ∃ a8 : Option D, ∃ a9 : Option Sv, ∃ a10 : Option D, ∃ a11 : Option D, ∃ a12 : Option Sv, ∃ a13 : Option D, ∃ a14 : Option Sv, ∃ a15 : Option D, ∃ a16 : Option Sv, ∃ a17 : Option D, ∃ a18 : Option D, ∃ a19 : Option D, ∃ a20 : Option D, ∃ a21 : Option D, ∃ a22 : Option D, ∃ a23 : Option Sv, ∃ a24 : Option D, e = [(sI (.dict [(.none, .list (iL script1))])), (sL s4.1.ds), (dm a24), (dm a10), a12, a23, (dm a5), (dm a6), (dm a7), (dm a8), a9, (dm a11), (dm a13), a14, (dm a17), (dm a18), (dm a21), (dm a22), none, (dm a15), a16, (dm a19), (dm a20), none]) (Qr (Qf (im' eB) [none] [false])) v2 Qr_rt Qr_J ⟨none, none, none, none, _, none, none, _, none, _, none, _, none, none, none, none, none, none, _, none, rfl⟩ ?_ ?_
  · rintro turn46 s25 _ ⟨a26, a27, a28, a29, a30, a31, a32, a33, a34, a35, a36, a37, a38, a39, a40, a41, a42, a43, a44, a45, rfl⟩
    refine ⟨[(sI (.dict [(.none, .list (iL script1))])), (sL s25.1.ds), (sI (eI turn46)), (dm a31), a33, a44, (dm a26), (dm a27), (dm a28), (dm a29), a30, (dm a32), (dm a34), a35, (dm a38), (dm a39), (dm a42), (dm a43), none, (dm a36), a37, (dm a40), (dm a41), none], rfl, ?_⟩
    refine S_par ?_
    refine argsP_M ?_
    refine call_st ?_
    refine argsO_P (pe_varL rfl) ?_
    refine argsO_P pe_imm ?_
    refine argsO_nil ?_
    refine callH_M (ps := [(sL s25.1.ds), (sI (eI (7 : Int)))]) (E := fun h48 => [(sI (.dict [(.none, .list (iL script1))])), (sL h48.1.ds), (sI (eI turn46)), (dm a31), a33, a44, (dm a26), (dm a27), (dm a28), (dm a29), a30, (dm a32), (dm a34), a35, (dm a38), (dm a39), (dm a42), (dm a43), none, (dm a36), a37, (dm a40), (dm a41), none]) rfl (T__law_pieces_hi (k + 2) s25 (7 : Int) (by omega)) (fun _ => rfl) fun q47 => ?_
    refine argsPk_im ?_
    refine argsP_M ?_
    refine call_st ?_
    refine argsO_P (pe_varL rfl) ?_
    refine argsO_P pe_imm ?_
    refine argsO_nil ?_
    refine callH_M (ps := [(sL q47.2.1.ds), (sI (eI (21 : Int)))]) (E := fun h50 => [(sI (.dict [(.none, .list (iL script1))])), (sL h50.1.ds), (sI (eI turn46)), (dm a31), a33, a44, (dm a26), (dm a27), (dm a28), (dm a29), a30, (dm a32), (dm a34), a35, (dm a38), (dm a39), (dm a42), (dm a43), none, (dm a36), a37, (dm a40), (dm a41), none]) rfl (T__law_draw (k + 2) q47.2 (21 : Int) (by omega)) (fun _ => rfl) fun q49 => ?_
    refine argsPk_im ?_
    refine argsP_M ?_
    refine call_st ?_
    refine argsO_P (pe_varL rfl) ?_
    refine argsO_P pe_imm ?_
    refine argsO_nil ?_
    refine callH_M (ps := [(sL q49.2.1.ds), (sI (eI (21 : Int)))]) (E := fun h52 => [(sI (.dict [(.none, .list (iL script1))])), (sL h52.1.ds), (sI (eI turn46)), (dm a31), a33, a44, (dm a26), (dm a27), (dm a28), (dm a29), a30, (dm a32), (dm a34), a35, (dm a38), (dm a39), (dm a42), (dm a43), none, (dm a36), a37, (dm a40), (dm a41), none]) rfl (T__law_draw (k + 2) q49.2 (21 : Int) (by omega)) (fun _ => rfl) fun q51 => ?_
    refine argsPk_im ?_
    refine argsP_nil ?_
    refine par_ok (e2 := [(sI (.dict [(.none, .list (iL script1))])), (sL q51.2.1.ds), (sI (eI turn46)), (dm a31), a33, a44, (sI ((eT (eU (hC eI (h1 eI)))) q47.1)), (sI (eI q49.1)), (sI (eI q51.1)), (dm a29), a30, (dm a32), (dm a34), a35, (dm a38), (dm a39), (dm a42), (dm a43), none, (dm a36), a37, (dm a40), (dm a41), none]) rfl ?_
    refine S_par ?_
    refine argsP_P (pe_blt (pa_cons (pe_var rfl) pa_nil) (F1.fin (F1.lenT (f := (eU (hC eI (h1 eI))))) q47.1 rfl rfl)) (fun _ => by simp) ?_
    refine argsP_P (pe_lst pd_nil) (fun _ => by simp) ?_
    refine argsP_nil ?_
    refine par_let (ops := fun z55 : (Int × (List (Int × Int × Int))) => [(.im (eI z55.1)), (.tl (List.map (eU (hC eI (hC eI (h1 eI)))) z55.2))]) (E := fun z55 => [(sI (.dict [(.none, .list (iL script1))])), (sL q51.2.1.ds), (sI (eI turn46)), (dm a31), a33, a44, (sI ((eT (eU (hC eI (h1 eI)))) q47.1)), (sI (eI q49.1)), (sI (eI q51.1)), (sI (eI z55.1)), (sL (List.map (eU (hC eI (hC eI (h1 eI)))) z55.2)), (dm a32), (dm a34), a35, (dm a38), (dm a39), (dm a42), (dm a43), none, (dm a36), a37, (dm a40), (dm a41), none]) ((lenI q47.1), ([] : (List (Int × Int × Int)))) (fun _ => rfl) fun z55 => ?_
    refine S_for ?_
    refine it1_st ?_
    refine st_P pe_imm ?_
    refine it1_rng fun xs56 => ?_
    refine for_fold (fun (s57 : (List (Int × Int × Int))) e => ∃ a58 : Option D, ∃ a59 : Option D, e = [(sI (.dict [(.none, .list (iL script1))])), (sL q51.2.1.ds), (sI (eI turn46)), (dm a59), a33, a44, (sI ((eT (eU (hC eI (h1 eI)))) q47.1)), (sI (eI q49.1)), (sI (eI q51.1)), (sI (eI z55.1)), (sL (List.map (eU (hC eI (hC eI (h1 eI)))) s57)), (dm a58), (dm a34), a35, (dm a38), (dm a39), (dm a42), (dm a43), none, (dm a36), a37, (dm a40), (dm a41), none]) z55.2 ⟨a32, a31, rfl⟩ ?_ ?_
    · rintro a63 s60 _ ⟨a61, a62, rfl⟩
      refine ⟨[(sI (.dict [(.none, .list (iL script1))])), (sL q51.2.1.ds), (sI (eI turn46)), (sI (eI a63)), a33, a44, (sI ((eT (eU (hC eI (h1 eI)))) q47.1)), (sI (eI q49.1)), (sI (eI q51.1)), (sI (eI z55.1)), (sL (List.map (eU (hC eI (hC eI (h1 eI)))) s60)), (dm a61), (dm a34), a35, (dm a38), (dm a39), (dm a42), (dm a43), none, (dm a36), a37, (dm a40), (dm a41), none], rfl, ?_⟩
      refine S_for ?_
      refine it2_st ?_
      refine st_P (pe_var rfl) ?_
      refine it2_go rfl ?_
      refine st_P pe_imm ?_
      refine it2_rng fun xs64 => ?_
      refine for_fold (fun (s65 : (List (Int × Int × Int))) e => ∃ a66 : Option D, e = [(sI (.dict [(.none, .list (iL script1))])), (sL q51.2.1.ds), (sI (eI turn46)), (sI (eI a63)), a33, a44, (sI ((eT (eU (hC eI (h1 eI)))) q47.1)), (sI (eI q49.1)), (sI (eI q51.1)), (sI (eI z55.1)), (sL (List.map (eU (hC eI (hC eI (h1 eI)))) s65)), (dm a66), (dm a34), a35, (dm a38), (dm a39), (dm a42), (dm a43), none, (dm a36), a37, (dm a40), (dm a41), none]) s60 ⟨a61, rfl⟩ ?_ ?_
      · rintro b69 s67 _ ⟨a68, rfl⟩
        refine ⟨[(sI (.dict [(.none, .list (iL script1))])), (sL q51.2.1.ds), (sI (eI turn46)), (sI (eI a63)), a33, a44, (sI ((eT (eU (hC eI (h1 eI)))) q47.1)), (sI (eI q49.1)), (sI (eI q51.1)), (sI (eI z55.1)), (sL (List.map (eU (hC eI (hC eI (h1 eI)))) s67)), (sI (eI b69)), (dm a34), a35, (dm a38), (dm a39), (dm a42), (dm a43), none, (dm a36), a37, (dm a40), (dm a41), none], rfl, ?_⟩
        refine S_mut ?_ rfl
        refine argsD_M ?_
        refine tup_st ?_
        refine argsD_M ?_
        refine blt_st ?_
        refine argsO_M ?_
        refine comp_st ?_
        refine it1_st ?_
        refine st_P (pe_var rfl) ?_
        refine it1_ok (d := (eT (eU (hC eI (h1 eI)))) q47.1) (e2 := [(sI (.dict [(.none, .list (iL script1))])), (sL q51.2.1.ds), (sI (eI turn46)), (sI (eI a63)), a33, a44, (sI ((eT (eU (hC eI (h1 eI)))) q47.1)), (sI (eI q49.1)), (sI (eI q51.1)), (sI (eI z55.1)), (sL (List.map (eU (hC eI (hC eI (h1 eI)))) s67)), (sI (eI b69)), (dm a34), a35, (dm a38), (dm a39), (dm a42), (dm a43), none, (dm a36), a37, (dm a40), (dm a41), none]) rfl (seq_T (f := (eU (hC eI (h1 eI))))) ?_
        refine comp_filMM (p := (fun pair70 : (Int × Int) => (F__law_do_iron_LlpiiqLli [pair70] [a63, b69]).bind fun v74 => O.ok (!v74))) (g := (fun pair70 : (Int × Int) => O.ok (1 : Int))) (eb := (im' eI)) (fb := eI) (E2 := fun pair70 => [(sI (.dict [(.none, .list (iL script1))])), (sL q51.2.1.ds), (sI (eI turn46)), (sI (eI a63)), a33, a44, (sI ((eT (eU (hC eI (h1 eI)))) q47.1)), (sI (eI q49.1)), (sI (eI q51.1)), (sI (eI z55.1)), (sL (List.map (eU (hC eI (hC eI (h1 eI)))) s67)), (sI (eI b69)), (dm a34), a35, (dm a38), (dm a39), (dm a42), (dm a43), none, (dm a36), a37, (dm a40), (dm a41), (sI ((eU (hC eI (h1 eI))) pair70))]) (E3 := fun pair70 => [(sI (.dict [(.none, .list (iL script1))])), (sL q51.2.1.ds), (sI (eI turn46)), (sI (eI a63)), a33, a44, (sI ((eT (eU (hC eI (h1 eI)))) q47.1)), (sI (eI q49.1)), (sI (eI q51.1)), (sI (eI z55.1)), (sL (List.map (eU (hC eI (hC eI (h1 eI)))) s67)), (sI (eI b69)), (dm a34), a35, (dm a38), (dm a39), (dm a42), (dm a43), none, (dm a36), a37, (dm a40), (dm a41), (sI ((eU (hC eI (h1 eI))) pair70))]) (E4 := fun pair70 => [(sI (.dict [(.none, .list (iL script1))])), (sL q51.2.1.ds), (sI (eI turn46)), (sI (eI a63)), a33, a44, (sI ((eT (eU (hC eI (h1 eI)))) q47.1)), (sI (eI q49.1)), (sI (eI q51.1)), (sI (eI z55.1)), (sL (List.map (eU (hC eI (hC eI (h1 eI)))) s67)), (sI (eI b69)), (dm a34), a35, (dm a38), (dm a39), (dm a42), (dm a43), none, (dm a36), a37, (dm a40), (dm a41), (sI ((eU (hC eI (h1 eI))) pair70))]) (imOnly_cons rfl imOnly_nil) (fun _ => rfl) (fun pair70 => R0.of (by
            refine not_st ?_
            refine call_st ?_
            refine argsO_P (pe_lst (pd_cons (pe_var rfl) rfl pd_nil)) ?_
            refine argsO_P (pe_lst (pd_cons (pe_var rfl) rfl (pd_cons (pe_var rfl) rfl pd_nil))) ?_
            refine argsO_nil ?_
            refine call_M (ps := [(sL (List.map (eU (hC eI (h1 eI))) [pair70])), (sL (List.map eI [a63, b69]))]) (e3 := [(sI (.dict [(.none, .list (iL script1))])), (sL q51.2.1.ds), (sI (eI turn46)), (sI (eI a63)), a33, a44, (sI ((eT (eU (hC eI (h1 eI)))) q47.1)), (sI (eI q49.1)), (sI (eI q51.1)), (sI (eI z55.1)), (sL (List.map (eU (hC eI (hC eI (h1 eI)))) s67)), (sI (eI b69)), (dm a34), a35, (dm a38), (dm a39), (dm a42), (dm a43), none, (dm a36), a37, (dm a40), (dm a41), (sI ((eU (hC eI (h1 eI))) pair70))]) rfl (T__law_do_iron_LlpiiqLli (k + 2) [pair70] [a63, b69] (by omega)) rfl fun v74 => ?_
            refine st_P (p := (.im (eB (!v74)))) rfl ?_
            exact rt_ok)) (fun pair70 => R0.pure (v := (1 : Int)) pe_imm) (fun _ _ => rfl) (fun _ => rfl) (fun _ => rfl) rfl fun ys71 => ?_
        refine argsO_nil ?_
        refine blt_ok (F1.fin (F1.lenL (f := eI)) ys71 rfl rfl) ?_
        refine fzk_ok rfl ?_
        refine argsD_P (pe_var rfl) rfl ?_
        refine argsD_P (pe_var rfl) rfl ?_
        refine argsD_nil ?_
        refine fzk_ok rfl ?_
        refine argsD_nil ?_
        refine mut_app (f := (eU (hC eI (hC eI (h1 eI))))) (xs := s67) (x := ((lenI ys71), a63, b69)) (E := fun rows72 => [(sI (.dict [(.none, .list (iL script1))])), (sL q51.2.1.ds), (sI (eI turn46)), (sI (eI a63)), a33, a44, (sI ((eT (eU (hC eI (h1 eI)))) q47.1)), (sI (eI q49.1)), (sI (eI q51.1)), (sI (eI z55.1)), (sL (List.map (eU (hC eI (hC eI (h1 eI)))) rows72)), (sI (eI b69)), (dm a34), a35, (dm a38), (dm a39), (dm a42), (dm a43), none, (dm a36), a37, (dm a40), (dm a41), none]) rfl (fun _ => rfl) fun rows72 => ?_
        exact end_nx ⟨(some (eI b69)), rfl⟩
      · rintro s75 _ ⟨a76, rfl⟩
        exact end_nx ⟨a76, (some (eI a63)), rfl⟩
    · rintro s77 _ ⟨a78, a79, rfl⟩
      refine S_ifC ?_
      refine op2_st ?_
      refine call_st ?_
      refine argsO_P (pe_var rfl) ?_
      refine argsO_nil ?_
      refine call_M (ps := [(sI ((eT (eU (hC eI (h1 eI)))) q47.1))]) (e3 := [(sI (.dict [(.none, .list (iL script1))])), (sL q51.2.1.ds), (sI (eI turn46)), (dm a79), a33, a44, (sI ((eT (eU (hC eI (h1 eI)))) q47.1)), (sI (eI q49.1)), (sI (eI q51.1)), (sI (eI z55.1)), (sL (List.map (eU (hC eI (hC eI (h1 eI)))) s77)), (dm a78), (dm a34), a35, (dm a38), (dm a39), (dm a42), (dm a43), none, (dm a36), a37, (dm a40), (dm a41), none]) rfl (T_two_irons_tpiiq (k + 2) q47.1 (by omega)) rfl fun v80 => ?_
      refine sli_st ?_
      refine blt_st ?_
      refine argsO_P (pe_varL rfl) ?_
      refine argsO_nil ?_
      refine blt_M1 (F1.minL (f := (eU (hC eI (hC eI (h1 eI))))) (by decide)) s77 rfl fun m81 => ?_
      refine slik_o (d := (eU (hC eI (hC eI (h1 eI)))) m81) (.im ((eU (hC eI (h1 eI))) (m81.2.1, m81.2.2))) (pe_optS (1 : Int) pe_imm) pe_optN rfl rfl ?_
      refine fin_P (F2.ne (f := (eU (hC eI (h1 eI)))) (by decide)) v80 (m81.2.1, m81.2.2) rfl rfl rfl ?_
      refine ite_two ?_ ?_
      · refine ap_cons ?_
        refine S_ret ?_
        refine st_P pe_imm ?_
        exact Qr_mk rfl
      · refine ap_nil ?_
        refine S_ifJ (fun (s82 : HH × Int × Int) e => e = [(sI (.dict [(.none, .list (iL script1))])), (sL s82.1.1.ds), (sI (eI turn46)), (dm a79), a33, a44, (sI ((eT (eU (hC eI (h1 eI)))) q47.1)), (sI (eI s82.2.1)), (sI (eI s82.2.2)), (sI (eI z55.1)), (sL (List.map (eU (hC eI (hC eI (h1 eI)))) s77)), (dm a78), (dm a34), a35, (dm a38), (dm a39), (dm a42), (dm a43), none, (dm a36), a37, (dm a40), (dm a41), none]) ?_ ?_
        · refine op2_st ?_
          refine call_st ?_
          refine argsO_P (pe_varL rfl) ?_
          refine argsO_P pe_imm ?_
          refine argsO_nil ?_
          refine callH_M (ps := [(sL q51.2.1.ds), (sI (eI (2 : Int)))]) (E := fun h84 => [(sI (.dict [(.none, .list (iL script1))])), (sL h84.1.ds), (sI (eI turn46)), (dm a79), a33, a44, (sI ((eT (eU (hC eI (h1 eI)))) q47.1)), (sI (eI q49.1)), (sI (eI q51.1)), (sI (eI z55.1)), (sL (List.map (eU (hC eI (hC eI (h1 eI)))) s77)), (dm a78), (dm a34), a35, (dm a38), (dm a39), (dm a42), (dm a43), none, (dm a36), a37, (dm a40), (dm a41), none]) rfl (T__law_draw (k + 2) q51.2 (2 : Int) (by omega)) (fun _ => rfl) fun q83 => ?_
          refine st_P pe_imm ?_
          refine fin_P (F2.eq (f := eI) (by decide)) q83.1 (0 : Int) rfl rfl rfl ?_
          refine ite_two ?_ ?_
          · refine S_asgT ?_
            refine sli_st ?_
            refine blt_st ?_
            refine argsO_P (pe_varL rfl) ?_
            refine argsO_nil ?_
            refine blt_M1 (F1.minL (f := (eU (hC eI (hC eI (h1 eI))))) (by decide)) s77 rfl fun m85 => ?_
            refine slik_o (d := (eU (hC eI (hC eI (h1 eI)))) m85) (.im ((eU (hC eI (h1 eI))) (m85.2.1, m85.2.2))) (pe_optS (1 : Int) pe_imm) pe_optN rfl rfl ?_
            refine asgT_let (ea := im' (eU (hC eI (h1 eI)))) (d := (eU (hC eI (h1 eI)))) (E := fun t86 => [(sI (.dict [(.none, .list (iL script1))])), (sL q83.2.1.ds), (sI (eI turn46)), (dm a79), a33, a44, (sI ((eT (eU (hC eI (h1 eI)))) q47.1)), (sI (eI t86.1)), (sI (eI t86.2)), (sI (eI z55.1)), (sL (List.map (eU (hC eI (hC eI (h1 eI)))) s77)), (dm a78), (dm a34), a35, (dm a38), (dm a39), (dm a42), (dm a43), none, (dm a36), a37, (dm a40), (dm a41), none]) (m85.2.1, m85.2.2) (fun _ => rfl) (fun _ => rfl) fun t86 => ?_
            exact end_j rfl
          · exact end_j rfl
        · rintro s87 _ rfl
          refine S_asg ?_
          refine comp_st ?_
          refine it1_st ?_
          refine st_P (pe_var rfl) ?_
          refine it1_rng fun xs88 => ?_
          refine comp_filMM (p := (fun at89 : Int => (idxO q47.1 at89).bind fun x185 => (F__law_do_iron_LlpiiqLli [x185] [s87.2.1, s87.2.2]).bind fun v186 => O.ok (!v186))) (g := (fun at89 : Int => O.ok at89)) (eb := (im' eI)) (fb := eI) (E2 := fun at89 => [(sI (.dict [(.none, .list (iL script1))])), (sL s87.1.1.ds), (sI (eI turn46)), (dm a79), a33, a44, (sI ((eT (eU (hC eI (h1 eI)))) q47.1)), (sI (eI s87.2.1)), (sI (eI s87.2.2)), (sI (eI z55.1)), (sL (List.map (eU (hC eI (hC eI (h1 eI)))) s77)), (dm a78), (dm a34), a35, (dm a38), (dm a39), (dm a42), (dm a43), (sI (eI at89)), (dm a36), a37, (dm a40), (dm a41), none]) (E3 := fun at89 => [(sI (.dict [(.none, .list (iL script1))])), (sL s87.1.1.ds), (sI (eI turn46)), (dm a79), a33, a44, (sI ((eT (eU (hC eI (h1 eI)))) q47.1)), (sI (eI s87.2.1)), (sI (eI s87.2.2)), (sI (eI z55.1)), (sL (List.map (eU (hC eI (hC eI (h1 eI)))) s77)), (dm a78), (dm a34), a35, (dm a38), (dm a39), (dm a42), (dm a43), (sI (eI at89)), (dm a36), a37, (dm a40), (dm a41), none]) (E4 := fun at89 => [(sI (.dict [(.none, .list (iL script1))])), (sL s87.1.1.ds), (sI (eI turn46)), (dm a79), a33, a44, (sI ((eT (eU (hC eI (h1 eI)))) q47.1)), (sI (eI s87.2.1)), (sI (eI s87.2.2)), (sI (eI z55.1)), (sL (List.map (eU (hC eI (hC eI (h1 eI)))) s77)), (dm a78), (dm a34), a35, (dm a38), (dm a39), (dm a42), (dm a43), (sI (eI at89)), (dm a36), a37, (dm a40), (dm a41), none]) (imOnly_cons rfl imOnly_nil) (fun _ => rfl) (fun at89 => R0.of (by
              refine not_st ?_
              refine call_st ?_
              refine argsO_M ?_
              refine lst_st ?_
              refine argsD_M ?_
              refine op2_st ?_
              refine st_P (pe_var rfl) ?_
              refine st_P (pe_var rfl) ?_
              refine fin_M (F2.idxT (f := (eU (hC eI (h1 eI))))) q47.1 at89 rfl rfl fun x185 => ?_
              refine fzk_ok rfl ?_
              refine argsD_nil ?_
              refine argsO_P (pe_lst (pd_cons (pe_var rfl) rfl (pd_cons (pe_var rfl) rfl pd_nil))) ?_
              refine argsO_nil ?_
              refine call_M (ps := [(sL (List.map (eU (hC eI (h1 eI))) [x185])), (sL (List.map eI [s87.2.1, s87.2.2]))]) (e3 := [(sI (.dict [(.none, .list (iL script1))])), (sL s87.1.1.ds), (sI (eI turn46)), (dm a79), a33, a44, (sI ((eT (eU (hC eI (h1 eI)))) q47.1)), (sI (eI s87.2.1)), (sI (eI s87.2.2)), (sI (eI z55.1)), (sL (List.map (eU (hC eI (hC eI (h1 eI)))) s77)), (dm a78), (dm a34), a35, (dm a38), (dm a39), (dm a42), (dm a43), (sI (eI at89)), (dm a36), a37, (dm a40), (dm a41), none]) rfl (T__law_do_iron_LlpiiqLli (k + 2) [x185] [s87.2.1, s87.2.2] (by omega)) rfl fun v186 => ?_
              refine st_P (p := (.im (eB (!v186)))) rfl ?_
              exact rt_ok)) (fun at89 => R0.pure (v := at89) (pe_var rfl)) (fun _ _ => rfl) (fun _ => rfl) (fun _ => rfl) rfl fun ys90 => ?_
          refine asg_ok (e2 := [(sI (.dict [(.none, .list (iL script1))])), (sL s87.1.1.ds), (sI (eI turn46)), (dm a79), (sL (List.map eI ys90)), a44, (sI ((eT (eU (hC eI (h1 eI)))) q47.1)), (sI (eI s87.2.1)), (sI (eI s87.2.2)), (sI (eI z55.1)), (sL (List.map (eU (hC eI (hC eI (h1 eI)))) s77)), (dm a78), (dm a34), a35, (dm a38), (dm a39), (dm a42), (dm a43), none, (dm a36), a37, (dm a40), (dm a41), none]) rfl ?_
          refine S_ifC ?_
          refine op2_st ?_
          refine call_st ?_
          refine argsO_P (pe_var rfl) ?_
          refine argsO_P (pe_var rfl) ?_
          refine argsO_P (pe_var rfl) ?_
          refine argsO_nil ?_
          refine call_M (ps := [(sI ((eT (eU (hC eI (h1 eI)))) q47.1)), (sI (eI s87.2.1)), (sI (eI s87.2.2))]) (e3 := [(sI (.dict [(.none, .list (iL script1))])), (sL s87.1.1.ds), (sI (eI turn46)), (dm a79), (sL (List.map eI ys90)), a44, (sI ((eT (eU (hC eI (h1 eI)))) q47.1)), (sI (eI s87.2.1)), (sI (eI s87.2.2)), (sI (eI z55.1)), (sL (List.map (eU (hC eI (hC eI (h1 eI)))) s77)), (dm a78), (dm a34), a35, (dm a38), (dm a39), (dm a42), (dm a43), none, (dm a36), a37, (dm a40), (dm a41), none]) rfl (T_left_over_tpiiqii (k + 2) q47.1 s87.2.1 s87.2.2 (by omega)) rfl fun v91 => ?_
          refine st_P (pe_blt (pa_cons (pe_varL rfl) pa_nil) (F1.fin (F1.tupL (f := eI)) ys90 rfl rfl)) ?_
          refine fin_P (F2.ne (f := (eT eI)) (by decide)) v91 ys90 rfl rfl rfl ?_
          refine ite_two ?_ ?_
          · refine ap_cons ?_
            refine S_ret ?_
            refine st_P pe_imm ?_
            exact Qr_mk rfl
          · refine ap_nil ?_
            refine S_ifC ?_
            refine st_P (pe_bin (F2.ne (f := (eL eI)) (by decide)) ys90 ([] : (List Int)) (pe_varL rfl) (pe_lst pd_nil) rfl rfl rfl) ?_
            refine ite_two ?_ ?_
            · refine ap_cons ?_
              refine S_ifC ?_
              refine op2_st ?_
              refine lam_M (eb := (im' (eU (hC (eT eI) (h1 (eT eI)))))) (db := (eU (hC (eT eI) (h1 (eT eI))))) (e1 := [(sI (.dict [(.none, .list (iL script1))])), (sL s87.1.1.ds), (sI (eI turn46)), (dm a79), (sL (List.map eI ys90)), a44, (sI ((eT (eU (hC eI (h1 eI)))) q47.1)), (sI (eI s87.2.1)), (sI (eI s87.2.2)), (sI (eI z55.1)), (sL (List.map (eU (hC eI (hC eI (h1 eI)))) s77)), (dm a78), (dm a34), a35, (dm a38), (dm a39), (dm a42), (dm a43), none, (dm a36), a37, (dm a40), (dm a41), none]) (e3 := imS [(sI (.dict [(.none, .list (iL script1))])), (sL s87.1.1.ds), (sI (eI turn46)), (dm a79), (sL (List.map eI ys90)), a44, (sI ((eT (eU (hC eI (h1 eI)))) q47.1)), (sI (eI s87.2.1)), (sI (eI s87.2.2)), (sI (eI z55.1)), (sL (List.map (eU (hC eI (hC eI (h1 eI)))) s77)), (dm a78), (dm a34), a35, (dm a38), (dm a39), (dm a42), (dm a43), none, (dm a36), a37, (dm a40), (dm a41), none]) rfl (R0.of (by
                  refine call_st ?_
                  refine argsO_P (pe_varI rfl) ?_
                  refine argsO_P (pe_varI rfl) ?_
                  refine argsO_P (pe_varI rfl) ?_
                  refine argsO_nil ?_
                  refine call_M (ps := [(sI ((eT (eU (hC eI (h1 eI)))) q47.1)), (sI (eI s87.2.1)), (sI (eI s87.2.2))]) (e3 := (imS [(sI (.dict [(.none, .list (iL script1))])), (sL s87.1.1.ds), (sI (eI turn46)), (dm a79), (sL (List.map eI ys90)), a44, (sI ((eT (eU (hC eI (h1 eI)))) q47.1)), (sI (eI s87.2.1)), (sI (eI s87.2.2)), (sI (eI z55.1)), (sL (List.map (eU (hC eI (hC eI (h1 eI)))) s77)), (dm a78), (dm a34), a35, (dm a38), (dm a39), (dm a42), (dm a43), none, (dm a36), a37, (dm a40), (dm a41), none])) rfl (T_shared_out_tpiiqii k q47.1 s87.2.1 s87.2.2 (by omega)) rfl fun v92 => ?_
                  exact rt_ok)) (fun _ => rfl) (T__law_word k) fun w94 => ?_
              refine st_P pe_imm ?_
              refine fin_P (F2.ne (f := eS) (by decide)) w94 ("left" : Str) rfl rfl rfl ?_
              refine ite_two ?_ ?_
              · refine ap_cons ?_
                refine S_ret ?_
                refine st_P pe_imm ?_
                exact Qr_mk rfl
              · refine ap_nil ?_
                refine ap_nil ?_
                refine S_par ?_
                refine argsP_M ?_
                refine call_st ?_
                refine argsO_P (pe_varL rfl) ?_
                refine argsO_nil ?_
                refine callH_M (ps := [(sL s87.1.1.ds)]) (E := fun h96 => [(sI (.dict [(.none, .list (iL script1))])), (sL h96.1.ds), (sI (eI turn46)), (dm a79), (sL (List.map eI ys90)), a44, (sI ((eT (eU (hC eI (h1 eI)))) q47.1)), (sI (eI s87.2.1)), (sI (eI s87.2.2)), (sI (eI z55.1)), (sL (List.map (eU (hC eI (hC eI (h1 eI)))) s77)), (dm a78), (dm a34), a35, (dm a38), (dm a39), (dm a42), (dm a43), none, (dm a36), a37, (dm a40), (dm a41), none]) rfl (T__law_no_pieces_h (k + 2) s87.1 (by omega)) (fun _ => rfl) fun q95 => ?_
                refine argsPk_im ?_
                refine argsP_M ?_
                refine call_st ?_
                refine argsO_P (pe_varL rfl) ?_
                refine argsO_nil ?_
                refine callH_M (ps := [(sL q95.2.1.ds)]) (E := fun h98 => [(sI (.dict [(.none, .list (iL script1))])), (sL h98.1.ds), (sI (eI turn46)), (dm a79), (sL (List.map eI ys90)), a44, (sI ((eT (eU (hC eI (h1 eI)))) q47.1)), (sI (eI s87.2.1)), (sI (eI s87.2.2)), (sI (eI z55.1)), (sL (List.map (eU (hC eI (hC eI (h1 eI)))) s77)), (dm a78), (dm a34), a35, (dm a38), (dm a39), (dm a42), (dm a43), none, (dm a36), a37, (dm a40), (dm a41), none]) rfl (T__law_no_heat_h (k + 2) q95.2 (by omega)) (fun _ => rfl) fun q97 => ?_
                refine argsPk_im ?_
                refine argsP_nil ?_
                refine par_ok (e2 := [(sI (.dict [(.none, .list (iL script1))])), (sL q97.2.1.ds), (sI (eI turn46)), (dm a79), (sL (List.map eI ys90)), a44, (sI ((eT (eU (hC eI (h1 eI)))) q47.1)), (sI (eI s87.2.1)), (sI (eI s87.2.2)), (sI (eI z55.1)), (sL (List.map (eU (hC eI (hC eI (h1 eI)))) s77)), (dm a78), (dm a34), a35, (dm a38), (dm a39), (sI (eD q95.1)), (sI (eD q97.1)), none, (dm a36), a37, (dm a40), (dm a41), none]) rfl ?_
                refine S_asg ?_
                refine lst_st ?_
                refine argsD_M ?_
                refine lam_M (eb := (im' eN)) (db := eN) (e1 := [(sI (.dict [(.none, .list (iL script1))])), (sL q97.2.1.ds), (sI (eI turn46)), (dm a79), (sL (List.map eI ys90)), a44, (sI ((eT (eU (hC eI (h1 eI)))) q47.1)), (sI (eI s87.2.1)), (sI (eI s87.2.2)), (sI (eI z55.1)), (sL (List.map (eU (hC eI (hC eI (h1 eI)))) s77)), (dm a78), (dm a34), a35, (dm a38), (dm a39), (sI (eD q95.1)), (sI (eD q97.1)), none, (dm a36), a37, (dm a40), (dm a41), none]) (e3 := imS [(sI (.dict [(.none, .list (iL script1))])), (sL q97.2.1.ds), (sI (eI turn46)), (dm a79), (sL (List.map eI ys90)), a44, (sI ((eT (eU (hC eI (h1 eI)))) q47.1)), (sI (eI s87.2.1)), (sI (eI s87.2.2)), (sI (eI z55.1)), (sL (List.map (eU (hC eI (hC eI (h1 eI)))) s77)), (dm a78), (dm a34), a35, (dm a38), (dm a39), (sI (eD q95.1)), (sI (eD q97.1)), none, (dm a36), a37, (dm a40), (dm a41), none]) rfl (R0.of (by
                    refine call_st ?_
                    refine argsO_P (pe_varI rfl) ?_
                    refine argsO_nil ?_
                    refine call_M (ps := [(sI (eD q95.1))]) (e3 := (imS [(sI (.dict [(.none, .list (iL script1))])), (sL q97.2.1.ds), (sI (eI turn46)), (dm a79), (sL (List.map eI ys90)), a44, (sI ((eT (eU (hC eI (h1 eI)))) q47.1)), (sI (eI s87.2.1)), (sI (eI s87.2.2)), (sI (eI z55.1)), (sL (List.map (eU (hC eI (hC eI (h1 eI)))) s77)), (dm a78), (dm a34), a35, (dm a38), (dm a39), (sI (eD q95.1)), (sI (eD q97.1)), none, (dm a36), a37, (dm a40), (dm a41), none])) rfl (T_two_irons_d k q95.1 (by omega)) rfl fun v99 => ?_
                    exact rt_ok)) (fun _ => rfl) (T__law_word k) fun w101 => ?_
                refine fzk_ok rfl ?_
                refine argsD_nil ?_
                refine asg_let (ea := (tl' eS)) (E := fun words102 => [(sI (.dict [(.none, .list (iL script1))])), (sL q97.2.1.ds), (sI (eI turn46)), (dm a79), (sL (List.map eI ys90)), (sL (List.map eS words102)), (sI ((eT (eU (hC eI (h1 eI)))) q47.1)), (sI (eI s87.2.1)), (sI (eI s87.2.2)), (sI (eI z55.1)), (sL (List.map (eU (hC eI (hC eI (h1 eI)))) s77)), (dm a78), (dm a34), a35, (dm a38), (dm a39), (sI (eD q95.1)), (sI (eD q97.1)), none, (dm a36), a37, (dm a40), (dm a41), none]) [w101] (fun _ => rfl) fun words102 => ?_
                refine S_mut ?_ rfl
                refine argsD_M ?_
                refine lam_M (eb := (im' eN)) (db := eN) (e1 := [(sI (.dict [(.none, .list (iL script1))])), (sL q97.2.1.ds), (sI (eI turn46)), (dm a79), (sL (List.map eI ys90)), (sL (List.map eS words102)), (sI ((eT (eU (hC eI (h1 eI)))) q47.1)), (sI (eI s87.2.1)), (sI (eI s87.2.2)), (sI (eI z55.1)), (sL (List.map (eU (hC eI (hC eI (h1 eI)))) s77)), (dm a78), (dm a34), a35, (dm a38), (dm a39), (sI (eD q95.1)), (sI (eD q97.1)), none, (dm a36), a37, (dm a40), (dm a41), none]) (e3 := imS [(sI (.dict [(.none, .list (iL script1))])), (sL q97.2.1.ds), (sI (eI turn46)), (dm a79), (sL (List.map eI ys90)), (sL (List.map eS words102)), (sI ((eT (eU (hC eI (h1 eI)))) q47.1)), (sI (eI s87.2.1)), (sI (eI s87.2.2)), (sI (eI z55.1)), (sL (List.map (eU (hC eI (hC eI (h1 eI)))) s77)), (dm a78), (dm a34), a35, (dm a38), (dm a39), (sI (eD q95.1)), (sI (eD q97.1)), none, (dm a36), a37, (dm a40), (dm a41), none]) rfl (R0.of (by
                    refine call_st ?_
                    refine argsO_P (pe_varI rfl) ?_
                    refine argsO_P (pe_varI rfl) ?_
                    refine argsO_P (pe_varI rfl) ?_
                    refine argsO_nil ?_
                    refine call_M (ps := [(sI (eD q95.1)), (sI (eD q97.1)), (sI (eD q97.1))]) (e3 := (imS [(sI (.dict [(.none, .list (iL script1))])), (sL q97.2.1.ds), (sI (eI turn46)), (dm a79), (sL (List.map eI ys90)), (sL (List.map eS words102)), (sI ((eT (eU (hC eI (h1 eI)))) q47.1)), (sI (eI s87.2.1)), (sI (eI s87.2.2)), (sI (eI z55.1)), (sL (List.map (eU (hC eI (hC eI (h1 eI)))) s77)), (dm a78), (dm a34), a35, (dm a38), (dm a39), (sI (eD q95.1)), (sI (eD q97.1)), none, (dm a36), a37, (dm a40), (dm a41), none])) rfl (T_left_over_ddd k q95.1 q97.1 q97.1 (by omega)) rfl fun v103 => ?_
                    exact rt_ok)) (fun _ => rfl) (T__law_word k) fun w105 => ?_
                refine fzk_ok rfl ?_
                refine argsD_nil ?_
                refine mut_app (f := eS) (xs := words102) (x := w105) (E := fun words106 => [(sI (.dict [(.none, .list (iL script1))])), (sL q97.2.1.ds), (sI (eI turn46)), (dm a79), (sL (List.map eI ys90)), (sL (List.map eS words106)), (sI ((eT (eU (hC eI (h1 eI)))) q47.1)), (sI (eI s87.2.1)), (sI (eI s87.2.2)), (sI (eI z55.1)), (sL (List.map (eU (hC eI (hC eI (h1 eI)))) s77)), (dm a78), (dm a34), a35, (dm a38), (dm a39), (sI (eD q95.1)), (sI (eD q97.1)), none, (dm a36), a37, (dm a40), (dm a41), none]) rfl (fun _ => rfl) fun words106 => ?_
                refine S_mut ?_ rfl
                refine argsD_M ?_
                refine lam_M (eb := (im' (eT eI))) (db := (eT eI)) (e1 := [(sI (.dict [(.none, .list (iL script1))])), (sL q97.2.1.ds), (sI (eI turn46)), (dm a79), (sL (List.map eI ys90)), (sL (List.map eS words106)), (sI ((eT (eU (hC eI (h1 eI)))) q47.1)), (sI (eI s87.2.1)), (sI (eI s87.2.2)), (sI (eI z55.1)), (sL (List.map (eU (hC eI (hC eI (h1 eI)))) s77)), (dm a78), (dm a34), a35, (dm a38), (dm a39), (sI (eD q95.1)), (sI (eD q97.1)), none, (dm a36), a37, (dm a40), (dm a41), none]) (e3 := imS [(sI (.dict [(.none, .list (iL script1))])), (sL q97.2.1.ds), (sI (eI turn46)), (dm a79), (sL (List.map eI ys90)), (sL (List.map eS words106)), (sI ((eT (eU (hC eI (h1 eI)))) q47.1)), (sI (eI s87.2.1)), (sI (eI s87.2.2)), (sI (eI z55.1)), (sL (List.map (eU (hC eI (hC eI (h1 eI)))) s77)), (dm a78), (dm a34), a35, (dm a38), (dm a39), (sI (eD q95.1)), (sI (eD q97.1)), none, (dm a36), a37, (dm a40), (dm a41), none]) rfl (R0.of (by
                    refine call_st ?_
                    refine argsO_P (pe_varI rfl) ?_
                    refine argsO_P (pe_varI rfl) ?_
                    refine argsO_P (pe_varI rfl) ?_
                    refine argsO_nil ?_
                    refine call_M (ps := [(sI ((eT (eU (hC eI (h1 eI)))) q47.1)), (sI (eD q97.1)), (sI (eI s87.2.2))]) (e3 := (imS [(sI (.dict [(.none, .list (iL script1))])), (sL q97.2.1.ds), (sI (eI turn46)), (dm a79), (sL (List.map eI ys90)), (sL (List.map eS words106)), (sI ((eT (eU (hC eI (h1 eI)))) q47.1)), (sI (eI s87.2.1)), (sI (eI s87.2.2)), (sI (eI z55.1)), (sL (List.map (eU (hC eI (hC eI (h1 eI)))) s77)), (dm a78), (dm a34), a35, (dm a38), (dm a39), (sI (eD q95.1)), (sI (eD q97.1)), none, (dm a36), a37, (dm a40), (dm a41), none])) rfl (T_left_over_tpiiqdi k q47.1 q97.1 s87.2.2 (by omega)) rfl fun v107 => ?_
                    exact rt_ok)) (fun _ => rfl) (T__law_word k) fun w109 => ?_
                refine fzk_ok rfl ?_
                refine argsD_nil ?_
                refine mut_app (f := eS) (xs := words106) (x := w109) (E := fun words110 => [(sI (.dict [(.none, .list (iL script1))])), (sL q97.2.1.ds), (sI (eI turn46)), (dm a79), (sL (List.map eI ys90)), (sL (List.map eS words110)), (sI ((eT (eU (hC eI (h1 eI)))) q47.1)), (sI (eI s87.2.1)), (sI (eI s87.2.2)), (sI (eI z55.1)), (sL (List.map (eU (hC eI (hC eI (h1 eI)))) s77)), (dm a78), (dm a34), a35, (dm a38), (dm a39), (sI (eD q95.1)), (sI (eD q97.1)), none, (dm a36), a37, (dm a40), (dm a41), none]) rfl (fun _ => rfl) fun words110 => ?_
                refine S_mut ?_ rfl
                refine argsD_M ?_
                refine lam_M (eb := (im' (eT eI))) (db := (eT eI)) (e1 := [(sI (.dict [(.none, .list (iL script1))])), (sL q97.2.1.ds), (sI (eI turn46)), (dm a79), (sL (List.map eI ys90)), (sL (List.map eS words110)), (sI ((eT (eU (hC eI (h1 eI)))) q47.1)), (sI (eI s87.2.1)), (sI (eI s87.2.2)), (sI (eI z55.1)), (sL (List.map (eU (hC eI (hC eI (h1 eI)))) s77)), (dm a78), (dm a34), a35, (dm a38), (dm a39), (sI (eD q95.1)), (sI (eD q97.1)), none, (dm a36), a37, (dm a40), (dm a41), none]) (e3 := imS [(sI (.dict [(.none, .list (iL script1))])), (sL q97.2.1.ds), (sI (eI turn46)), (dm a79), (sL (List.map eI ys90)), (sL (List.map eS words110)), (sI ((eT (eU (hC eI (h1 eI)))) q47.1)), (sI (eI s87.2.1)), (sI (eI s87.2.2)), (sI (eI z55.1)), (sL (List.map (eU (hC eI (hC eI (h1 eI)))) s77)), (dm a78), (dm a34), a35, (dm a38), (dm a39), (sI (eD q95.1)), (sI (eD q97.1)), none, (dm a36), a37, (dm a40), (dm a41), none]) rfl (R0.of (by
                    refine call_st ?_
                    refine argsO_P (pe_varI rfl) ?_
                    refine argsO_P (pe_varI rfl) ?_
                    refine argsO_P (pe_varI rfl) ?_
                    refine argsO_nil ?_
                    refine call_M (ps := [(sI ((eT (eU (hC eI (h1 eI)))) q47.1)), (sI (eI s87.2.1)), (sI (eD q97.1))]) (e3 := (imS [(sI (.dict [(.none, .list (iL script1))])), (sL q97.2.1.ds), (sI (eI turn46)), (dm a79), (sL (List.map eI ys90)), (sL (List.map eS words110)), (sI ((eT (eU (hC eI (h1 eI)))) q47.1)), (sI (eI s87.2.1)), (sI (eI s87.2.2)), (sI (eI z55.1)), (sL (List.map (eU (hC eI (hC eI (h1 eI)))) s77)), (dm a78), (dm a34), a35, (dm a38), (dm a39), (sI (eD q95.1)), (sI (eD q97.1)), none, (dm a36), a37, (dm a40), (dm a41), none])) rfl (T_left_over_tpiiqid k q47.1 s87.2.1 q97.1 (by omega)) rfl fun v111 => ?_
                    exact rt_ok)) (fun _ => rfl) (T__law_word k) fun w113 => ?_
                refine fzk_ok rfl ?_
                refine argsD_nil ?_
                refine mut_app (f := eS) (xs := words110) (x := w113) (E := fun words114 => [(sI (.dict [(.none, .list (iL script1))])), (sL q97.2.1.ds), (sI (eI turn46)), (dm a79), (sL (List.map eI ys90)), (sL (List.map eS words114)), (sI ((eT (eU (hC eI (h1 eI)))) q47.1)), (sI (eI s87.2.1)), (sI (eI s87.2.2)), (sI (eI z55.1)), (sL (List.map (eU (hC eI (hC eI (h1 eI)))) s77)), (dm a78), (dm a34), a35, (dm a38), (dm a39), (sI (eD q95.1)), (sI (eD q97.1)), none, (dm a36), a37, (dm a40), (dm a41), none]) rfl (fun _ => rfl) fun words114 => ?_
                refine S_mut ?_ rfl
                refine argsD_M ?_
                refine lam_M (eb := (im' eN)) (db := eN) (e1 := [(sI (.dict [(.none, .list (iL script1))])), (sL q97.2.1.ds), (sI (eI turn46)), (dm a79), (sL (List.map eI ys90)), (sL (List.map eS words114)), (sI ((eT (eU (hC eI (h1 eI)))) q47.1)), (sI (eI s87.2.1)), (sI (eI s87.2.2)), (sI (eI z55.1)), (sL (List.map (eU (hC eI (hC eI (h1 eI)))) s77)), (dm a78), (dm a34), a35, (dm a38), (dm a39), (sI (eD q95.1)), (sI (eD q97.1)), none, (dm a36), a37, (dm a40), (dm a41), none]) (e3 := imS [(sI (.dict [(.none, .list (iL script1))])), (sL q97.2.1.ds), (sI (eI turn46)), (dm a79), (sL (List.map eI ys90)), (sL (List.map eS words114)), (sI ((eT (eU (hC eI (h1 eI)))) q47.1)), (sI (eI s87.2.1)), (sI (eI s87.2.2)), (sI (eI z55.1)), (sL (List.map (eU (hC eI (hC eI (h1 eI)))) s77)), (dm a78), (dm a34), a35, (dm a38), (dm a39), (sI (eD q95.1)), (sI (eD q97.1)), none, (dm a36), a37, (dm a40), (dm a41), none]) rfl (R0.of (by
                    refine call_st ?_
                    refine argsO_P (pe_varI rfl) ?_
                    refine argsO_P (pe_varI rfl) ?_
                    refine argsO_P (pe_varI rfl) ?_
                    refine argsO_nil ?_
                    refine call_M (ps := [(sI ((eT (eU (hC eI (h1 eI)))) q47.1)), (sI (eD q97.1)), (sI (eI s87.2.2))]) (e3 := (imS [(sI (.dict [(.none, .list (iL script1))])), (sL q97.2.1.ds), (sI (eI turn46)), (dm a79), (sL (List.map eI ys90)), (sL (List.map eS words114)), (sI ((eT (eU (hC eI (h1 eI)))) q47.1)), (sI (eI s87.2.1)), (sI (eI s87.2.2)), (sI (eI z55.1)), (sL (List.map (eU (hC eI (hC eI (h1 eI)))) s77)), (dm a78), (dm a34), a35, (dm a38), (dm a39), (sI (eD q95.1)), (sI (eD q97.1)), none, (dm a36), a37, (dm a40), (dm a41), none])) rfl (T_shared_out_tpiiqdi k q47.1 q97.1 s87.2.2 (by omega)) rfl fun v115 => ?_
                    exact rt_ok)) (fun _ => rfl) (T__law_word k) fun w117 => ?_
                refine fzk_ok rfl ?_
                refine argsD_nil ?_
                refine mut_app (f := eS) (xs := words114) (x := w117) (E := fun words118 => [(sI (.dict [(.none, .list (iL script1))])), (sL q97.2.1.ds), (sI (eI turn46)), (dm a79), (sL (List.map eI ys90)), (sL (List.map eS words118)), (sI ((eT (eU (hC eI (h1 eI)))) q47.1)), (sI (eI s87.2.1)), (sI (eI s87.2.2)), (sI (eI z55.1)), (sL (List.map (eU (hC eI (hC eI (h1 eI)))) s77)), (dm a78), (dm a34), a35, (dm a38), (dm a39), (sI (eD q95.1)), (sI (eD q97.1)), none, (dm a36), a37, (dm a40), (dm a41), none]) rfl (fun _ => rfl) fun words118 => ?_
                refine S_ifC ?_
                refine st_P (pe_bin (F2.ne (f := (eL eS)) (by decide)) words118 [("pieces" : Str), ("pieces" : Str), ("heat" : Str), ("heat" : Str), ("heat" : Str)] (pe_varL rfl) (pe_lst (pd_cons pe_imm rfl (pd_cons pe_imm rfl (pd_cons pe_imm rfl (pd_cons pe_imm rfl (pd_cons pe_imm rfl pd_nil)))))) rfl rfl rfl) ?_
                refine ite_two ?_ ?_
                · refine ap_cons ?_
                  refine S_ret ?_
                  refine st_P pe_imm ?_
                  exact Qr_mk rfl
                · refine ap_nil ?_
                  exact end_3 ⟨(some ((eT (eU (hC eI (h1 eI)))) q47.1)), (some (eI s87.2.1)), (some (eI s87.2.2)), (some (eI z55.1)), _, a79, a78, _, a34, _, a36, _, a38, a39, a40, a41, (some (eD q95.1)), (some (eD q97.1)), _, (some (eI turn46)), rfl⟩
            · refine ap_cons ?_
              refine S_asg ?_
              refine comp_st ?_
              refine it1_st ?_
              refine st_P (pe_var rfl) ?_
              refine it1_rng fun xs119 => ?_
              refine comp_filMM (p := (fun at120 : Int => (idxO q47.1 at120).bind fun x182 => (F__law_do_iron_LlpiiqLli [x182] [s87.2.1]).bind fun v183 => O.ok v183)) (g := (fun at120 : Int => O.ok at120)) (eb := (im' eI)) (fb := eI) (E2 := fun at120 => [(sI (.dict [(.none, .list (iL script1))])), (sL s87.1.1.ds), (sI (eI turn46)), (dm a79), (sL (List.map eI ys90)), a44, (sI ((eT (eU (hC eI (h1 eI)))) q47.1)), (sI (eI s87.2.1)), (sI (eI s87.2.2)), (sI (eI z55.1)), (sL (List.map (eU (hC eI (hC eI (h1 eI)))) s77)), (dm a78), (dm a34), a35, (dm a38), (dm a39), (dm a42), (dm a43), (sI (eI at120)), (dm a36), a37, (dm a40), (dm a41), none]) (E3 := fun at120 => [(sI (.dict [(.none, .list (iL script1))])), (sL s87.1.1.ds), (sI (eI turn46)), (dm a79), (sL (List.map eI ys90)), a44, (sI ((eT (eU (hC eI (h1 eI)))) q47.1)), (sI (eI s87.2.1)), (sI (eI s87.2.2)), (sI (eI z55.1)), (sL (List.map (eU (hC eI (hC eI (h1 eI)))) s77)), (dm a78), (dm a34), a35, (dm a38), (dm a39), (dm a42), (dm a43), (sI (eI at120)), (dm a36), a37, (dm a40), (dm a41), none]) (E4 := fun at120 => [(sI (.dict [(.none, .list (iL script1))])), (sL s87.1.1.ds), (sI (eI turn46)), (dm a79), (sL (List.map eI ys90)), a44, (sI ((eT (eU (hC eI (h1 eI)))) q47.1)), (sI (eI s87.2.1)), (sI (eI s87.2.2)), (sI (eI z55.1)), (sL (List.map (eU (hC eI (hC eI (h1 eI)))) s77)), (dm a78), (dm a34), a35, (dm a38), (dm a39), (dm a42), (dm a43), (sI (eI at120)), (dm a36), a37, (dm a40), (dm a41), none]) (imOnly_cons rfl imOnly_nil) (fun _ => rfl) (fun at120 => R0.of (by
                  refine call_st ?_
                  refine argsO_M ?_
                  refine lst_st ?_
                  refine argsD_M ?_
                  refine op2_st ?_
                  refine st_P (pe_var rfl) ?_
                  refine st_P (pe_var rfl) ?_
                  refine fin_M (F2.idxT (f := (eU (hC eI (h1 eI))))) q47.1 at120 rfl rfl fun x182 => ?_
                  refine fzk_ok rfl ?_
                  refine argsD_nil ?_
                  refine argsO_P (pe_lst (pd_cons (pe_var rfl) rfl pd_nil)) ?_
                  refine argsO_nil ?_
                  refine call_M (ps := [(sL (List.map (eU (hC eI (h1 eI))) [x182])), (sL (List.map eI [s87.2.1]))]) (e3 := [(sI (.dict [(.none, .list (iL script1))])), (sL s87.1.1.ds), (sI (eI turn46)), (dm a79), (sL (List.map eI ys90)), a44, (sI ((eT (eU (hC eI (h1 eI)))) q47.1)), (sI (eI s87.2.1)), (sI (eI s87.2.2)), (sI (eI z55.1)), (sL (List.map (eU (hC eI (hC eI (h1 eI)))) s77)), (dm a78), (dm a34), a35, (dm a38), (dm a39), (dm a42), (dm a43), (sI (eI at120)), (dm a36), a37, (dm a40), (dm a41), none]) rfl (T__law_do_iron_LlpiiqLli (k + 2) [x182] [s87.2.1] (by omega)) rfl fun v183 => ?_
                  exact rt_ok)) (fun at120 => R0.pure (v := at120) (pe_var rfl)) (fun _ _ => rfl) (fun _ => rfl) (fun _ => rfl) rfl fun ys121 => ?_
              refine asg_ok (e2 := [(sI (.dict [(.none, .list (iL script1))])), (sL s87.1.1.ds), (sI (eI turn46)), (dm a79), (sL (List.map eI ys90)), a44, (sI ((eT (eU (hC eI (h1 eI)))) q47.1)), (sI (eI s87.2.1)), (sI (eI s87.2.2)), (sI (eI z55.1)), (sL (List.map (eU (hC eI (hC eI (h1 eI)))) s77)), (dm a78), (sL (List.map eI ys121)), a35, (dm a38), (dm a39), (dm a42), (dm a43), none, (dm a36), a37, (dm a40), (dm a41), none]) rfl ?_
              refine ap_cons ?_
              refine S_asg ?_
              refine comp_st ?_
              refine it1_st ?_
              refine st_P (pe_var rfl) ?_
              refine it1_rng fun xs122 => ?_
              refine comp_filMM (p := (fun at123 : Int => (idxO q47.1 at123).bind fun x179 => (F__law_do_iron_LlpiiqLli [x179] [s87.2.2]).bind fun v180 => O.ok v180)) (g := (fun at123 : Int => O.ok at123)) (eb := (im' eI)) (fb := eI) (E2 := fun at123 => [(sI (.dict [(.none, .list (iL script1))])), (sL s87.1.1.ds), (sI (eI turn46)), (dm a79), (sL (List.map eI ys90)), a44, (sI ((eT (eU (hC eI (h1 eI)))) q47.1)), (sI (eI s87.2.1)), (sI (eI s87.2.2)), (sI (eI z55.1)), (sL (List.map (eU (hC eI (hC eI (h1 eI)))) s77)), (dm a78), (sL (List.map eI ys121)), a35, (dm a38), (dm a39), (dm a42), (dm a43), (sI (eI at123)), (dm a36), a37, (dm a40), (dm a41), none]) (E3 := fun at123 => [(sI (.dict [(.none, .list (iL script1))])), (sL s87.1.1.ds), (sI (eI turn46)), (dm a79), (sL (List.map eI ys90)), a44, (sI ((eT (eU (hC eI (h1 eI)))) q47.1)), (sI (eI s87.2.1)), (sI (eI s87.2.2)), (sI (eI z55.1)), (sL (List.map (eU (hC eI (hC eI (h1 eI)))) s77)), (dm a78), (sL (List.map eI ys121)), a35, (dm a38), (dm a39), (dm a42), (dm a43), (sI (eI at123)), (dm a36), a37, (dm a40), (dm a41), none]) (E4 := fun at123 => [(sI (.dict [(.none, .list (iL script1))])), (sL s87.1.1.ds), (sI (eI turn46)), (dm a79), (sL (List.map eI ys90)), a44, (sI ((eT (eU (hC eI (h1 eI)))) q47.1)), (sI (eI s87.2.1)), (sI (eI s87.2.2)), (sI (eI z55.1)), (sL (List.map (eU (hC eI (hC eI (h1 eI)))) s77)), (dm a78), (sL (List.map eI ys121)), a35, (dm a38), (dm a39), (dm a42), (dm a43), (sI (eI at123)), (dm a36), a37, (dm a40), (dm a41), none]) (imOnly_cons rfl imOnly_nil) (fun _ => rfl) (fun at123 => R0.of (by
                  refine call_st ?_
                  refine argsO_M ?_
                  refine lst_st ?_
                  refine argsD_M ?_
                  refine op2_st ?_
                  refine st_P (pe_var rfl) ?_
                  refine st_P (pe_var rfl) ?_
                  refine fin_M (F2.idxT (f := (eU (hC eI (h1 eI))))) q47.1 at123 rfl rfl fun x179 => ?_
                  refine fzk_ok rfl ?_
                  refine argsD_nil ?_
                  refine argsO_P (pe_lst (pd_cons (pe_var rfl) rfl pd_nil)) ?_
                  refine argsO_nil ?_
                  refine call_M (ps := [(sL (List.map (eU (hC eI (h1 eI))) [x179])), (sL (List.map eI [s87.2.2]))]) (e3 := [(sI (.dict [(.none, .list (iL script1))])), (sL s87.1.1.ds), (sI (eI turn46)), (dm a79), (sL (List.map eI ys90)), a44, (sI ((eT (eU (hC eI (h1 eI)))) q47.1)), (sI (eI s87.2.1)), (sI (eI s87.2.2)), (sI (eI z55.1)), (sL (List.map (eU (hC eI (hC eI (h1 eI)))) s77)), (dm a78), (sL (List.map eI ys121)), a35, (dm a38), (dm a39), (dm a42), (dm a43), (sI (eI at123)), (dm a36), a37, (dm a40), (dm a41), none]) rfl (T__law_do_iron_LlpiiqLli (k + 2) [x179] [s87.2.2] (by omega)) rfl fun v180 => ?_
                  exact rt_ok)) (fun at123 => R0.pure (v := at123) (pe_var rfl)) (fun _ _ => rfl) (fun _ => rfl) (fun _ => rfl) rfl fun ys124 => ?_
              refine asg_ok (e2 := [(sI (.dict [(.none, .list (iL script1))])), (sL s87.1.1.ds), (sI (eI turn46)), (dm a79), (sL (List.map eI ys90)), a44, (sI ((eT (eU (hC eI (h1 eI)))) q47.1)), (sI (eI s87.2.1)), (sI (eI s87.2.2)), (sI (eI z55.1)), (sL (List.map (eU (hC eI (hC eI (h1 eI)))) s77)), (dm a78), (sL (List.map eI ys121)), (sL (List.map eI ys124)), (dm a38), (dm a39), (dm a42), (dm a43), none, (dm a36), a37, (dm a40), (dm a41), none]) rfl ?_
              refine ap_cons ?_
              refine S_par ?_
              refine argsP_M ?_
              refine comp_st ?_
              refine it1_st ?_
              refine st_P (pe_varL rfl) ?_
              refine it1_ok (d := (eL eI) ys121) (e2 := [(sI (.dict [(.none, .list (iL script1))])), (sL s87.1.1.ds), (sI (eI turn46)), (dm a79), (sL (List.map eI ys90)), a44, (sI ((eT (eU (hC eI (h1 eI)))) q47.1)), (sI (eI s87.2.1)), (sI (eI s87.2.2)), (sI (eI z55.1)), (sL (List.map (eU (hC eI (hC eI (h1 eI)))) s77)), (dm a78), (sI ((eL eI) ys121)), (sL (List.map eI ys124)), (dm a38), (dm a39), (dm a42), (dm a43), none, (dm a36), a37, (dm a40), (dm a41), none]) rfl (seq_L (f := eI)) ?_
              refine comp_fil (p := (fun at125 : Int => (decide (at125 ∈ ys124)))) (g := (fun at125 : Int => at125)) (eb := (im' eI)) (fb := eI) (E2 := fun at125 => [(sI (.dict [(.none, .list (iL script1))])), (sL s87.1.1.ds), (sI (eI turn46)), (dm a79), (sL (List.map eI ys90)), a44, (sI ((eT (eU (hC eI (h1 eI)))) q47.1)), (sI (eI s87.2.1)), (sI (eI s87.2.2)), (sI (eI z55.1)), (sL (List.map (eU (hC eI (hC eI (h1 eI)))) s77)), (dm a78), (sI ((eL eI) ys121)), (sL (List.map eI ys124)), (dm a38), (dm a39), (dm a42), (dm a43), (sI (eI at125)), (dm a36), a37, (dm a40), (dm a41), none]) (E3 := fun at125 => [(sI (.dict [(.none, .list (iL script1))])), (sL s87.1.1.ds), (sI (eI turn46)), (dm a79), (sL (List.map eI ys90)), a44, (sI ((eT (eU (hC eI (h1 eI)))) q47.1)), (sI (eI s87.2.1)), (sI (eI s87.2.2)), (sI (eI z55.1)), (sL (List.map (eU (hC eI (hC eI (h1 eI)))) s77)), (dm a78), (sI ((eL eI) ys121)), (sL (List.map eI ys124)), (dm a38), (dm a39), (dm a42), (dm a43), (sI (eI at125)), (dm a36), a37, (dm a40), (dm a41), none]) (E4 := fun at125 => [(sI (.dict [(.none, .list (iL script1))])), (sL s87.1.1.ds), (sI (eI turn46)), (dm a79), (sL (List.map eI ys90)), a44, (sI ((eT (eU (hC eI (h1 eI)))) q47.1)), (sI (eI s87.2.1)), (sI (eI s87.2.2)), (sI (eI z55.1)), (sL (List.map (eU (hC eI (hC eI (h1 eI)))) s77)), (dm a78), (sI ((eL eI) ys121)), (sL (List.map eI ys124)), (dm a38), (dm a39), (dm a42), (dm a43), (sI (eI at125)), (dm a36), a37, (dm a40), (dm a41), none]) (imOnly_cons rfl imOnly_nil) (fun _ => rfl) (fun at125 => (pe_bin (F2.inL (f := eI) (by decide)) at125 ys124 (pe_var rfl) (pe_varL rfl) rfl rfl rfl)) (fun at125 => (pe_var rfl)) (fun _ _ => rfl) (fun _ => rfl) (fun _ => rfl) rfl fun ys126 => ?_
              refine argsPk_tl ?_
              refine argsP_P (pe_lst pd_nil) (fun _ => by simp) ?_
              refine argsP_nil ?_
              refine par_let (ops := fun z128 : ((List (Int × (List Int) × (List Int)))) => [(.tl (List.map eI ys126)), (.tl (List.map (eU (hC eI (hC (eT eI) (h1 (eT eI))))) z128))]) (E := fun z128 => [(sI (.dict [(.none, .list (iL script1))])), (sL s87.1.1.ds), (sI (eI turn46)), (dm a79), (sL (List.map eI ys90)), a44, (sI ((eT (eU (hC eI (h1 eI)))) q47.1)), (sI (eI s87.2.1)), (sI (eI s87.2.2)), (sI (eI z55.1)), (sL (List.map (eU (hC eI (hC eI (h1 eI)))) s77)), (dm a78), (sI ((eL eI) ys121)), (sL (List.map eI ys124)), (dm a38), (dm a39), (dm a42), (dm a43), none, (sL (List.map eI ys126)), (sL (List.map (eU (hC eI (hC (eT eI) (h1 (eT eI))))) z128)), (dm a40), (dm a41), none]) ([] : (List (Int × (List Int) × (List Int)))) (fun _ => rfl) fun z128 => ?_
              refine ap_cons ?_
              refine S_for ?_
              refine it1_st ?_
              refine call_st ?_
              refine argsO_P (pe_varL rfl) ?_
              refine argsO_nil ?_
              refine call_M (ps := [(sI ((eL eI) ys126))]) (e3 := [(sI (.dict [(.none, .list (iL script1))])), (sL s87.1.1.ds), (sI (eI turn46)), (dm a79), (sL (List.map eI ys90)), a44, (sI ((eT (eU (hC eI (h1 eI)))) q47.1)), (sI (eI s87.2.1)), (sI (eI s87.2.2)), (sI (eI z55.1)), (sL (List.map (eU (hC eI (hC eI (h1 eI)))) s77)), (dm a78), (sI ((eL eI) ys121)), (sL (List.map eI ys124)), (dm a38), (dm a39), (dm a42), (dm a43), none, (sI ((eL eI) ys126)), (sL (List.map (eU (hC eI (hC (eT eI) (h1 (eT eI))))) z128)), (dm a40), (dm a41), none]) rfl (T__law_lots_li (k + 2) ys126 (by omega)) rfl fun v129 => ?_
              refine it1_ok (d := (eL (eT eI)) v129) (e2 := [(sI (.dict [(.none, .list (iL script1))])), (sL s87.1.1.ds), (sI (eI turn46)), (dm a79), (sL (List.map eI ys90)), a44, (sI ((eT (eU (hC eI (h1 eI)))) q47.1)), (sI (eI s87.2.1)), (sI (eI s87.2.2)), (sI (eI z55.1)), (sL (List.map (eU (hC eI (hC eI (h1 eI)))) s77)), (dm a78), (sI ((eL eI) ys121)), (sL (List.map eI ys124)), (dm a38), (dm a39), (dm a42), (dm a43), none, (sI ((eL eI) ys126)), (sL (List.map (eU (hC eI (hC (eT eI) (h1 (eT eI))))) z128)), (dm a40), (dm a41), none]) rfl (seq_L (f := (eT eI))) ?_
              refine for_fold (fun (s130 : (List (Int × (List Int) × (List Int)))) e => ∃ a131 : Option D, ∃ a132 : Option D, ∃ a133 : Option D, e = [(sI (.dict [(.none, .list (iL script1))])), (sL s87.1.1.ds), (sI (eI turn46)), (dm a79), (sL (List.map eI ys90)), a44, (sI ((eT (eU (hC eI (h1 eI)))) q47.1)), (sI (eI s87.2.1)), (sI (eI s87.2.2)), (sI (eI z55.1)), (sL (List.map (eU (hC eI (hC eI (h1 eI)))) s77)), (dm a78), (sI ((eL eI) ys121)), (sL (List.map eI ys124)), (dm a133), (dm a39), (dm a42), (dm a43), none, (sI ((eL eI) ys126)), (sL (List.map (eU (hC eI (hC (eT eI) (h1 (eT eI))))) s130)), (dm a131), (dm a132), none]) z128 ⟨a40, a41, a38, rfl⟩ ?_ ?_
              · rintro lot138 s134 _ ⟨a135, a136, a137, rfl⟩
                refine ⟨[(sI (.dict [(.none, .list (iL script1))])), (sL s87.1.1.ds), (sI (eI turn46)), (dm a79), (sL (List.map eI ys90)), a44, (sI ((eT (eU (hC eI (h1 eI)))) q47.1)), (sI (eI s87.2.1)), (sI (eI s87.2.2)), (sI (eI z55.1)), (sL (List.map (eU (hC eI (hC eI (h1 eI)))) s77)), (dm a78), (sI ((eL eI) ys121)), (sL (List.map eI ys124)), (sI ((eT eI) lot138)), (dm a39), (dm a42), (dm a43), none, (sI ((eL eI) ys126)), (sL (List.map (eU (hC eI (hC (eT eI) (h1 (eT eI))))) s134)), (dm a135), (dm a136), none], rfl, ?_⟩
                refine S_asg ?_
                refine blt_st ?_
                refine argsO_M ?_
                refine comp_st ?_
                refine it1_st ?_
                refine st_P (pe_var rfl) ?_
                refine it1_ok (d := (eL eI) ys121) (e2 := [(sI (.dict [(.none, .list (iL script1))])), (sL s87.1.1.ds), (sI (eI turn46)), (dm a79), (sL (List.map eI ys90)), a44, (sI ((eT (eU (hC eI (h1 eI)))) q47.1)), (sI (eI s87.2.1)), (sI (eI s87.2.2)), (sI (eI z55.1)), (sL (List.map (eU (hC eI (hC eI (h1 eI)))) s77)), (dm a78), (sI ((eL eI) ys121)), (sL (List.map eI ys124)), (sI ((eT eI) lot138)), (dm a39), (dm a42), (dm a43), none, (sI ((eL eI) ys126)), (sL (List.map (eU (hC eI (hC (eT eI) (h1 (eT eI))))) s134)), (dm a135), (dm a136), none]) rfl (seq_L (f := eI)) ?_
                refine comp_fil (p := (fun at139 : Int => ((!decide (at139 ∈ ys124)) || (decide (at139 ∈ lot138))))) (g := (fun at139 : Int => at139)) (eb := (im' eI)) (fb := eI) (E2 := fun at139 => [(sI (.dict [(.none, .list (iL script1))])), (sL s87.1.1.ds), (sI (eI turn46)), (dm a79), (sL (List.map eI ys90)), a44, (sI ((eT (eU (hC eI (h1 eI)))) q47.1)), (sI (eI s87.2.1)), (sI (eI s87.2.2)), (sI (eI z55.1)), (sL (List.map (eU (hC eI (hC eI (h1 eI)))) s77)), (dm a78), (sI ((eL eI) ys121)), (sL (List.map eI ys124)), (sI ((eT eI) lot138)), (dm a39), (dm a42), (dm a43), (sI (eI at139)), (sI ((eL eI) ys126)), (sL (List.map (eU (hC eI (hC (eT eI) (h1 (eT eI))))) s134)), (dm a135), (dm a136), none]) (E3 := fun at139 => [(sI (.dict [(.none, .list (iL script1))])), (sL s87.1.1.ds), (sI (eI turn46)), (dm a79), (sL (List.map eI ys90)), a44, (sI ((eT (eU (hC eI (h1 eI)))) q47.1)), (sI (eI s87.2.1)), (sI (eI s87.2.2)), (sI (eI z55.1)), (sL (List.map (eU (hC eI (hC eI (h1 eI)))) s77)), (dm a78), (sI ((eL eI) ys121)), (sL (List.map eI ys124)), (sI ((eT eI) lot138)), (dm a39), (dm a42), (dm a43), (sI (eI at139)), (sI ((eL eI) ys126)), (sL (List.map (eU (hC eI (hC (eT eI) (h1 (eT eI))))) s134)), (dm a135), (dm a136), none]) (E4 := fun at139 => [(sI (.dict [(.none, .list (iL script1))])), (sL s87.1.1.ds), (sI (eI turn46)), (dm a79), (sL (List.map eI ys90)), a44, (sI ((eT (eU (hC eI (h1 eI)))) q47.1)), (sI (eI s87.2.1)), (sI (eI s87.2.2)), (sI (eI z55.1)), (sL (List.map (eU (hC eI (hC eI (h1 eI)))) s77)), (dm a78), (sI ((eL eI) ys121)), (sL (List.map eI ys124)), (sI ((eT eI) lot138)), (dm a39), (dm a42), (dm a43), (sI (eI at139)), (sI ((eL eI) ys126)), (sL (List.map (eU (hC eI (hC (eT eI) (h1 (eT eI))))) s134)), (dm a135), (dm a136), none]) (imOnly_cons rfl imOnly_nil) (fun _ => rfl) (fun at139 => (pe_or (!decide (at139 ∈ ys124)) (decide (at139 ∈ lot138)) (pe_bin (F2.ninL (f := eI) (by decide)) at139 ys124 (pe_var rfl) (pe_varL rfl) rfl rfl rfl) (pe_or1 (pe_bin (F2.inT (f := eI) (by decide)) at139 lot138 (pe_var rfl) (pe_var rfl) rfl rfl rfl)))) (fun at139 => (pe_var rfl)) (fun _ _ => rfl) (fun _ => rfl) (fun _ => rfl) rfl fun ys140 => ?_
                refine argsO_nil ?_
                refine blt_ok (F1.fin (F1.tupL (f := eI)) ys140 rfl rfl) ?_
                refine asg_ok (e2 := [(sI (.dict [(.none, .list (iL script1))])), (sL s87.1.1.ds), (sI (eI turn46)), (dm a79), (sL (List.map eI ys90)), a44, (sI ((eT (eU (hC eI (h1 eI)))) q47.1)), (sI (eI s87.2.1)), (sI (eI s87.2.2)), (sI (eI z55.1)), (sL (List.map (eU (hC eI (hC eI (h1 eI)))) s77)), (dm a78), (sI ((eL eI) ys121)), (sL (List.map eI ys124)), (sI ((eT eI) lot138)), (dm a39), (dm a42), (dm a43), none, (sI ((eL eI) ys126)), (sL (List.map (eU (hC eI (hC (eT eI) (h1 (eT eI))))) s134)), (sI ((eT eI) ys140)), (dm a136), none]) rfl ?_
                refine S_asg ?_
                refine blt_st ?_
                refine argsO_M ?_
                refine comp_st ?_
                refine it1_st ?_
                refine st_P (pe_var rfl) ?_
                refine it1_rng fun xs141 => ?_
                refine comp_fil (p := (fun at142 : Int => (!decide (at142 ∈ ys140)))) (g := (fun at142 : Int => at142)) (eb := (im' eI)) (fb := eI) (E2 := fun at142 => [(sI (.dict [(.none, .list (iL script1))])), (sL s87.1.1.ds), (sI (eI turn46)), (dm a79), (sL (List.map eI ys90)), a44, (sI ((eT (eU (hC eI (h1 eI)))) q47.1)), (sI (eI s87.2.1)), (sI (eI s87.2.2)), (sI (eI z55.1)), (sL (List.map (eU (hC eI (hC eI (h1 eI)))) s77)), (dm a78), (sI ((eL eI) ys121)), (sL (List.map eI ys124)), (sI ((eT eI) lot138)), (dm a39), (dm a42), (dm a43), (sI (eI at142)), (sI ((eL eI) ys126)), (sL (List.map (eU (hC eI (hC (eT eI) (h1 (eT eI))))) s134)), (sI ((eT eI) ys140)), (dm a136), none]) (E3 := fun at142 => [(sI (.dict [(.none, .list (iL script1))])), (sL s87.1.1.ds), (sI (eI turn46)), (dm a79), (sL (List.map eI ys90)), a44, (sI ((eT (eU (hC eI (h1 eI)))) q47.1)), (sI (eI s87.2.1)), (sI (eI s87.2.2)), (sI (eI z55.1)), (sL (List.map (eU (hC eI (hC eI (h1 eI)))) s77)), (dm a78), (sI ((eL eI) ys121)), (sL (List.map eI ys124)), (sI ((eT eI) lot138)), (dm a39), (dm a42), (dm a43), (sI (eI at142)), (sI ((eL eI) ys126)), (sL (List.map (eU (hC eI (hC (eT eI) (h1 (eT eI))))) s134)), (sI ((eT eI) ys140)), (dm a136), none]) (E4 := fun at142 => [(sI (.dict [(.none, .list (iL script1))])), (sL s87.1.1.ds), (sI (eI turn46)), (dm a79), (sL (List.map eI ys90)), a44, (sI ((eT (eU (hC eI (h1 eI)))) q47.1)), (sI (eI s87.2.1)), (sI (eI s87.2.2)), (sI (eI z55.1)), (sL (List.map (eU (hC eI (hC eI (h1 eI)))) s77)), (dm a78), (sI ((eL eI) ys121)), (sL (List.map eI ys124)), (sI ((eT eI) lot138)), (dm a39), (dm a42), (dm a43), (sI (eI at142)), (sI ((eL eI) ys126)), (sL (List.map (eU (hC eI (hC (eT eI) (h1 (eT eI))))) s134)), (sI ((eT eI) ys140)), (dm a136), none]) (imOnly_cons rfl imOnly_nil) (fun _ => rfl) (fun at142 => (pe_bin (F2.ninT (f := eI) (by decide)) at142 ys140 (pe_var rfl) (pe_var rfl) rfl rfl rfl)) (fun at142 => (pe_var rfl)) (fun _ _ => rfl) (fun _ => rfl) (fun _ => rfl) rfl fun ys143 => ?_
                refine argsO_nil ?_
                refine blt_ok (F1.fin (F1.tupL (f := eI)) ys143 rfl rfl) ?_
                refine asg_ok (e2 := [(sI (.dict [(.none, .list (iL script1))])), (sL s87.1.1.ds), (sI (eI turn46)), (dm a79), (sL (List.map eI ys90)), a44, (sI ((eT (eU (hC eI (h1 eI)))) q47.1)), (sI (eI s87.2.1)), (sI (eI s87.2.2)), (sI (eI z55.1)), (sL (List.map (eU (hC eI (hC eI (h1 eI)))) s77)), (dm a78), (sI ((eL eI) ys121)), (sL (List.map eI ys124)), (sI ((eT eI) lot138)), (dm a39), (dm a42), (dm a43), none, (sI ((eL eI) ys126)), (sL (List.map (eU (hC eI (hC (eT eI) (h1 (eT eI))))) s134)), (sI ((eT eI) ys140)), (sI ((eT eI) ys143)), none]) rfl ?_
                refine S_mut ?_ rfl
                refine argsD_P (pe_tup (pd_cons (pe_blt (pa_cons (pe_bin F2.sub (lenI ys140) (lenI ys143) (pe_blt (pa_cons (pe_var rfl) pa_nil) (F1.fin (F1.lenT (f := eI)) ys140 rfl rfl)) (pe_blt (pa_cons (pe_var rfl) pa_nil) (F1.fin (F1.lenT (f := eI)) ys143 rfl rfl)) rfl rfl rfl) pa_nil) (F1.fin F1.abs ((lenI ys140) - (lenI ys143)) rfl rfl)) rfl (pd_cons (pe_var rfl) rfl (pd_cons (pe_var rfl) rfl pd_nil)))) rfl ?_
                refine argsD_nil ?_
                refine mut_app (f := (eU (hC eI (hC (eT eI) (h1 (eT eI)))))) (xs := s134) (x := ((absI ((lenI ys140) - (lenI ys143))), ys140, ys143)) (E := fun some144 => [(sI (.dict [(.none, .list (iL script1))])), (sL s87.1.1.ds), (sI (eI turn46)), (dm a79), (sL (List.map eI ys90)), a44, (sI ((eT (eU (hC eI (h1 eI)))) q47.1)), (sI (eI s87.2.1)), (sI (eI s87.2.2)), (sI (eI z55.1)), (sL (List.map (eU (hC eI (hC eI (h1 eI)))) s77)), (dm a78), (sI ((eL eI) ys121)), (sL (List.map eI ys124)), (sI ((eT eI) lot138)), (dm a39), (dm a42), (dm a43), none, (sI ((eL eI) ys126)), (sL (List.map (eU (hC eI (hC (eT eI) (h1 (eT eI))))) some144)), (sI ((eT eI) ys140)), (sI ((eT eI) ys143)), none]) rfl (fun _ => rfl) fun some144 => ?_
                exact end_nx ⟨(some ((eT eI) ys140)), (some ((eT eI) ys143)), (some ((eT eI) lot138)), rfl⟩
              · rintro s145 _ ⟨a146, a147, a148, rfl⟩
                refine ap_cons ?_
                refine S_ifC ?_
                refine op2_st ?_
                refine call_st ?_
                refine argsO_P (pe_var rfl) ?_
                refine argsO_P (pe_var rfl) ?_
                refine argsO_P (pe_var rfl) ?_
                refine argsO_nil ?_
                refine call_M (ps := [(sI ((eT (eU (hC eI (h1 eI)))) q47.1)), (sI (eI s87.2.1)), (sI (eI s87.2.2))]) (e3 := [(sI (.dict [(.none, .list (iL script1))])), (sL s87.1.1.ds), (sI (eI turn46)), (dm a79), (sL (List.map eI ys90)), a44, (sI ((eT (eU (hC eI (h1 eI)))) q47.1)), (sI (eI s87.2.1)), (sI (eI s87.2.2)), (sI (eI z55.1)), (sL (List.map (eU (hC eI (hC eI (h1 eI)))) s77)), (dm a78), (sI ((eL eI) ys121)), (sL (List.map eI ys124)), (dm a148), (dm a39), (dm a42), (dm a43), none, (sI ((eL eI) ys126)), (sL (List.map (eU (hC eI (hC (eT eI) (h1 (eT eI))))) s145)), (dm a146), (dm a147), none]) rfl (T_shared_out_tpiiqii (k + 2) q47.1 s87.2.1 s87.2.2 (by omega)) rfl fun v149 => ?_
                refine sli_st ?_
                refine blt_st ?_
                refine argsO_P (pe_varL rfl) ?_
                refine argsO_nil ?_
                refine blt_M1 (F1.minL (f := (eU (hC eI (hC (eT eI) (h1 (eT eI)))))) (by decide)) s145 rfl fun m150 => ?_
                refine slik_o (d := (eU (hC eI (hC (eT eI) (h1 (eT eI))))) m150) (.im ((eU (hC (eT eI) (h1 (eT eI)))) (m150.2.1, m150.2.2))) (pe_optS (1 : Int) pe_imm) pe_optN rfl rfl ?_
                refine fin_P (F2.ne (f := (eU (hC (eT eI) (h1 (eT eI))))) (by decide)) v149 (m150.2.1, m150.2.2) rfl rfl rfl ?_
                refine ite_two ?_ ?_
                · refine ap_cons ?_
                  refine S_ret ?_
                  refine st_P pe_imm ?_
                  exact Qr_mk rfl
                · refine ap_nil ?_
                  refine ap_cons ?_
                  refine S_asg ?_
                  refine st_P (pe_blt (pa_cons (pe_bin F2.sub z55.1 (lenI ys124) (pe_var rfl) (pe_blt (pa_cons (pe_varL rfl) pa_nil) (F1.fin (F1.lenL (f := eI)) ys124 rfl rfl)) rfl rfl rfl) (pa_cons (pe_bin F2.sub z55.1 (lenI ys121) (pe_var rfl) (pe_blt (pa_cons (pe_var rfl) pa_nil) (F1.fin (F1.lenL (f := eI)) ys121 rfl rfl)) rfl rfl rfl) pa_nil)) (F2b.fin F2b.max (z55.1 - (lenI ys124)) (z55.1 - (lenI ys121)) rfl rfl)) ?_
                  refine asg_let (ea := (im' eI)) (E := fun alone151 => [(sI (.dict [(.none, .list (iL script1))])), (sL s87.1.1.ds), (sI (eI turn46)), (dm a79), (sL (List.map eI ys90)), a44, (sI ((eT (eU (hC eI (h1 eI)))) q47.1)), (sI (eI s87.2.1)), (sI (eI s87.2.2)), (sI (eI z55.1)), (sL (List.map (eU (hC eI (hC eI (h1 eI)))) s77)), (dm a78), (sI ((eL eI) ys121)), (sL (List.map eI ys124)), (dm a148), (sI (eI alone151)), (dm a42), (dm a43), none, (sI ((eL eI) ys126)), (sL (List.map (eU (hC eI (hC (eT eI) (h1 (eT eI))))) s145)), (dm a146), (dm a147), none]) (max2 (z55.1 - (lenI ys124)) (z55.1 - (lenI ys121))) (fun _ => rfl) fun alone151 => ?_
                  refine ap_cons ?_
                  refine S_ifC ?_
                  refine op2_st ?_
                  refine op2_st ?_
                  refine op2_st ?_
                  refine blt_st ?_
                  refine argsO_P (pe_varL rfl) ?_
                  refine argsO_nil ?_
                  refine blt_M1 (F1.minL (f := (eU (hC eI (hC (eT eI) (h1 (eT eI)))))) (by decide)) s145 rfl fun m152 => ?_
                  refine st_P pe_imm ?_
                  refine st_P (p := (.im (eI m152.1))) (e1 := [(sI (.dict [(.none, .list (iL script1))])), (sL s87.1.1.ds), (sI (eI turn46)), (dm a79), (sL (List.map eI ys90)), a44, (sI ((eT (eU (hC eI (h1 eI)))) q47.1)), (sI (eI s87.2.1)), (sI (eI s87.2.2)), (sI (eI z55.1)), (sL (List.map (eU (hC eI (hC eI (h1 eI)))) s77)), (dm a78), (sI ((eL eI) ys121)), (sL (List.map eI ys124)), (dm a148), (sI (eI alone151)), (dm a42), (dm a43), none, (sI ((eL eI) ys126)), (sL (List.map (eU (hC eI (hC (eT eI) (h1 (eT eI))))) s145)), (dm a146), (dm a147), none]) rfl ?_
                  refine st_P pe_imm ?_
                  refine fin_P F2.leI m152.1 (1 : Int) rfl rfl rfl ?_
                  refine op2_st ?_
                  refine st_P (pe_var rfl) ?_
                  refine op2_st ?_
                  refine st_P (pe_bin F2.add z55.1 (1 : Int) (pe_var rfl) pe_imm rfl rfl rfl) ?_
                  refine st_P pe_imm ?_
                  refine fin_M F2.div (z55.1 + (1 : Int)) (2 : Int) rfl rfl fun v153 => ?_
                  refine fin_P F2.leI alone151 v153 rfl rfl rfl ?_
                  refine fin_P (F2.ne (f := eB) (by decide)) (decide (m152.1 ≤ (1 : Int))) (decide (alone151 ≤ v153)) rfl rfl rfl ?_
                  refine ite_two ?_ ?_
                  · refine ap_cons ?_
                    refine S_ret ?_
                    refine st_P pe_imm ?_
                    exact Qr_mk rfl
                  · refine ap_nil ?_
                    refine ap_nil ?_
                    refine S_par ?_
                    refine argsP_M ?_
                    refine call_st ?_
                    refine argsO_P (pe_varL rfl) ?_
                    refine argsO_nil ?_
                    refine callH_M (ps := [(sL s87.1.1.ds)]) (E := fun h155 => [(sI (.dict [(.none, .list (iL script1))])), (sL h155.1.ds), (sI (eI turn46)), (dm a79), (sL (List.map eI ys90)), a44, (sI ((eT (eU (hC eI (h1 eI)))) q47.1)), (sI (eI s87.2.1)), (sI (eI s87.2.2)), (sI (eI z55.1)), (sL (List.map (eU (hC eI (hC eI (h1 eI)))) s77)), (dm a78), (sI ((eL eI) ys121)), (sL (List.map eI ys124)), (dm a148), (sI (eI alone151)), (dm a42), (dm a43), none, (sI ((eL eI) ys126)), (sL (List.map (eU (hC eI (hC (eT eI) (h1 (eT eI))))) s145)), (dm a146), (dm a147), none]) rfl (T__law_no_pieces_h (k + 2) s87.1 (by omega)) (fun _ => rfl) fun q154 => ?_
                    refine argsPk_im ?_
                    refine argsP_M ?_
                    refine call_st ?_
                    refine argsO_P (pe_varL rfl) ?_
                    refine argsO_nil ?_
                    refine callH_M (ps := [(sL q154.2.1.ds)]) (E := fun h157 => [(sI (.dict [(.none, .list (iL script1))])), (sL h157.1.ds), (sI (eI turn46)), (dm a79), (sL (List.map eI ys90)), a44, (sI ((eT (eU (hC eI (h1 eI)))) q47.1)), (sI (eI s87.2.1)), (sI (eI s87.2.2)), (sI (eI z55.1)), (sL (List.map (eU (hC eI (hC eI (h1 eI)))) s77)), (dm a78), (sI ((eL eI) ys121)), (sL (List.map eI ys124)), (dm a148), (sI (eI alone151)), (dm a42), (dm a43), none, (sI ((eL eI) ys126)), (sL (List.map (eU (hC eI (hC (eT eI) (h1 (eT eI))))) s145)), (dm a146), (dm a147), none]) rfl (T__law_no_heat_h (k + 2) q154.2 (by omega)) (fun _ => rfl) fun q156 => ?_
                    refine argsPk_im ?_
                    refine argsP_nil ?_
                    refine par_ok (e2 := [(sI (.dict [(.none, .list (iL script1))])), (sL q156.2.1.ds), (sI (eI turn46)), (dm a79), (sL (List.map eI ys90)), a44, (sI ((eT (eU (hC eI (h1 eI)))) q47.1)), (sI (eI s87.2.1)), (sI (eI s87.2.2)), (sI (eI z55.1)), (sL (List.map (eU (hC eI (hC eI (h1 eI)))) s77)), (dm a78), (sI ((eL eI) ys121)), (sL (List.map eI ys124)), (dm a148), (sI (eI alone151)), (sI (eD q154.1)), (sI (eD q156.1)), none, (sI ((eL eI) ys126)), (sL (List.map (eU (hC eI (hC (eT eI) (h1 (eT eI))))) s145)), (dm a146), (dm a147), none]) rfl ?_
                    refine S_asg ?_
                    refine lst_st ?_
                    refine argsD_M ?_
                    refine lam_M (eb := (im' eN)) (db := eN) (e1 := [(sI (.dict [(.none, .list (iL script1))])), (sL q156.2.1.ds), (sI (eI turn46)), (dm a79), (sL (List.map eI ys90)), a44, (sI ((eT (eU (hC eI (h1 eI)))) q47.1)), (sI (eI s87.2.1)), (sI (eI s87.2.2)), (sI (eI z55.1)), (sL (List.map (eU (hC eI (hC eI (h1 eI)))) s77)), (dm a78), (sI ((eL eI) ys121)), (sL (List.map eI ys124)), (dm a148), (sI (eI alone151)), (sI (eD q154.1)), (sI (eD q156.1)), none, (sI ((eL eI) ys126)), (sL (List.map (eU (hC eI (hC (eT eI) (h1 (eT eI))))) s145)), (dm a146), (dm a147), none]) (e3 := imS [(sI (.dict [(.none, .list (iL script1))])), (sL q156.2.1.ds), (sI (eI turn46)), (dm a79), (sL (List.map eI ys90)), a44, (sI ((eT (eU (hC eI (h1 eI)))) q47.1)), (sI (eI s87.2.1)), (sI (eI s87.2.2)), (sI (eI z55.1)), (sL (List.map (eU (hC eI (hC eI (h1 eI)))) s77)), (dm a78), (sI ((eL eI) ys121)), (sL (List.map eI ys124)), (dm a148), (sI (eI alone151)), (sI (eD q154.1)), (sI (eD q156.1)), none, (sI ((eL eI) ys126)), (sL (List.map (eU (hC eI (hC (eT eI) (h1 (eT eI))))) s145)), (dm a146), (dm a147), none]) rfl (R0.of (by
                        refine call_st ?_
                        refine argsO_P (pe_varI rfl) ?_
                        refine argsO_nil ?_
                        refine call_M (ps := [(sI (eD q154.1))]) (e3 := (imS [(sI (.dict [(.none, .list (iL script1))])), (sL q156.2.1.ds), (sI (eI turn46)), (dm a79), (sL (List.map eI ys90)), a44, (sI ((eT (eU (hC eI (h1 eI)))) q47.1)), (sI (eI s87.2.1)), (sI (eI s87.2.2)), (sI (eI z55.1)), (sL (List.map (eU (hC eI (hC eI (h1 eI)))) s77)), (dm a78), (sI ((eL eI) ys121)), (sL (List.map eI ys124)), (dm a148), (sI (eI alone151)), (sI (eD q154.1)), (sI (eD q156.1)), none, (sI ((eL eI) ys126)), (sL (List.map (eU (hC eI (hC (eT eI) (h1 (eT eI))))) s145)), (dm a146), (dm a147), none])) rfl (T_two_irons_d k q154.1 (by omega)) rfl fun v158 => ?_
                        exact rt_ok)) (fun _ => rfl) (T__law_word k) fun w160 => ?_
                    refine fzk_ok rfl ?_
                    refine argsD_nil ?_
                    refine asg_let (ea := (tl' eS)) (E := fun words161 => [(sI (.dict [(.none, .list (iL script1))])), (sL q156.2.1.ds), (sI (eI turn46)), (dm a79), (sL (List.map eI ys90)), (sL (List.map eS words161)), (sI ((eT (eU (hC eI (h1 eI)))) q47.1)), (sI (eI s87.2.1)), (sI (eI s87.2.2)), (sI (eI z55.1)), (sL (List.map (eU (hC eI (hC eI (h1 eI)))) s77)), (dm a78), (sI ((eL eI) ys121)), (sL (List.map eI ys124)), (dm a148), (sI (eI alone151)), (sI (eD q154.1)), (sI (eD q156.1)), none, (sI ((eL eI) ys126)), (sL (List.map (eU (hC eI (hC (eT eI) (h1 (eT eI))))) s145)), (dm a146), (dm a147), none]) [w160] (fun _ => rfl) fun words161 => ?_
                    refine S_mut ?_ rfl
                    refine argsD_M ?_
                    refine lam_M (eb := (im' eN)) (db := eN) (e1 := [(sI (.dict [(.none, .list (iL script1))])), (sL q156.2.1.ds), (sI (eI turn46)), (dm a79), (sL (List.map eI ys90)), (sL (List.map eS words161)), (sI ((eT (eU (hC eI (h1 eI)))) q47.1)), (sI (eI s87.2.1)), (sI (eI s87.2.2)), (sI (eI z55.1)), (sL (List.map (eU (hC eI (hC eI (h1 eI)))) s77)), (dm a78), (sI ((eL eI) ys121)), (sL (List.map eI ys124)), (dm a148), (sI (eI alone151)), (sI (eD q154.1)), (sI (eD q156.1)), none, (sI ((eL eI) ys126)), (sL (List.map (eU (hC eI (hC (eT eI) (h1 (eT eI))))) s145)), (dm a146), (dm a147), none]) (e3 := imS [(sI (.dict [(.none, .list (iL script1))])), (sL q156.2.1.ds), (sI (eI turn46)), (dm a79), (sL (List.map eI ys90)), (sL (List.map eS words161)), (sI ((eT (eU (hC eI (h1 eI)))) q47.1)), (sI (eI s87.2.1)), (sI (eI s87.2.2)), (sI (eI z55.1)), (sL (List.map (eU (hC eI (hC eI (h1 eI)))) s77)), (dm a78), (sI ((eL eI) ys121)), (sL (List.map eI ys124)), (dm a148), (sI (eI alone151)), (sI (eD q154.1)), (sI (eD q156.1)), none, (sI ((eL eI) ys126)), (sL (List.map (eU (hC eI (hC (eT eI) (h1 (eT eI))))) s145)), (dm a146), (dm a147), none]) rfl (R0.of (by
                        refine call_st ?_
                        refine argsO_P (pe_varI rfl) ?_
                        refine argsO_P (pe_varI rfl) ?_
                        refine argsO_P (pe_varI rfl) ?_
                        refine argsO_nil ?_
                        refine call_M (ps := [(sI (eD q154.1)), (sI (eD q156.1)), (sI (eD q156.1))]) (e3 := (imS [(sI (.dict [(.none, .list (iL script1))])), (sL q156.2.1.ds), (sI (eI turn46)), (dm a79), (sL (List.map eI ys90)), (sL (List.map eS words161)), (sI ((eT (eU (hC eI (h1 eI)))) q47.1)), (sI (eI s87.2.1)), (sI (eI s87.2.2)), (sI (eI z55.1)), (sL (List.map (eU (hC eI (hC eI (h1 eI)))) s77)), (dm a78), (sI ((eL eI) ys121)), (sL (List.map eI ys124)), (dm a148), (sI (eI alone151)), (sI (eD q154.1)), (sI (eD q156.1)), none, (sI ((eL eI) ys126)), (sL (List.map (eU (hC eI (hC (eT eI) (h1 (eT eI))))) s145)), (dm a146), (dm a147), none])) rfl (T_left_over_ddd k q154.1 q156.1 q156.1 (by omega)) rfl fun v162 => ?_
                        exact rt_ok)) (fun _ => rfl) (T__law_word k) fun w164 => ?_
                    refine fzk_ok rfl ?_
                    refine argsD_nil ?_
                    refine mut_app (f := eS) (xs := words161) (x := w164) (E := fun words165 => [(sI (.dict [(.none, .list (iL script1))])), (sL q156.2.1.ds), (sI (eI turn46)), (dm a79), (sL (List.map eI ys90)), (sL (List.map eS words165)), (sI ((eT (eU (hC eI (h1 eI)))) q47.1)), (sI (eI s87.2.1)), (sI (eI s87.2.2)), (sI (eI z55.1)), (sL (List.map (eU (hC eI (hC eI (h1 eI)))) s77)), (dm a78), (sI ((eL eI) ys121)), (sL (List.map eI ys124)), (dm a148), (sI (eI alone151)), (sI (eD q154.1)), (sI (eD q156.1)), none, (sI ((eL eI) ys126)), (sL (List.map (eU (hC eI (hC (eT eI) (h1 (eT eI))))) s145)), (dm a146), (dm a147), none]) rfl (fun _ => rfl) fun words165 => ?_
                    refine S_mut ?_ rfl
                    refine argsD_M ?_
                    refine lam_M (eb := (im' (eT eI))) (db := (eT eI)) (e1 := [(sI (.dict [(.none, .list (iL script1))])), (sL q156.2.1.ds), (sI (eI turn46)), (dm a79), (sL (List.map eI ys90)), (sL (List.map eS words165)), (sI ((eT (eU (hC eI (h1 eI)))) q47.1)), (sI (eI s87.2.1)), (sI (eI s87.2.2)), (sI (eI z55.1)), (sL (List.map (eU (hC eI (hC eI (h1 eI)))) s77)), (dm a78), (sI ((eL eI) ys121)), (sL (List.map eI ys124)), (dm a148), (sI (eI alone151)), (sI (eD q154.1)), (sI (eD q156.1)), none, (sI ((eL eI) ys126)), (sL (List.map (eU (hC eI (hC (eT eI) (h1 (eT eI))))) s145)), (dm a146), (dm a147), none]) (e3 := imS [(sI (.dict [(.none, .list (iL script1))])), (sL q156.2.1.ds), (sI (eI turn46)), (dm a79), (sL (List.map eI ys90)), (sL (List.map eS words165)), (sI ((eT (eU (hC eI (h1 eI)))) q47.1)), (sI (eI s87.2.1)), (sI (eI s87.2.2)), (sI (eI z55.1)), (sL (List.map (eU (hC eI (hC eI (h1 eI)))) s77)), (dm a78), (sI ((eL eI) ys121)), (sL (List.map eI ys124)), (dm a148), (sI (eI alone151)), (sI (eD q154.1)), (sI (eD q156.1)), none, (sI ((eL eI) ys126)), (sL (List.map (eU (hC eI (hC (eT eI) (h1 (eT eI))))) s145)), (dm a146), (dm a147), none]) rfl (R0.of (by
                        refine call_st ?_
                        refine argsO_P (pe_varI rfl) ?_
                        refine argsO_P (pe_varI rfl) ?_
                        refine argsO_P (pe_varI rfl) ?_
                        refine argsO_nil ?_
                        refine call_M (ps := [(sI ((eT (eU (hC eI (h1 eI)))) q47.1)), (sI (eD q156.1)), (sI (eI s87.2.2))]) (e3 := (imS [(sI (.dict [(.none, .list (iL script1))])), (sL q156.2.1.ds), (sI (eI turn46)), (dm a79), (sL (List.map eI ys90)), (sL (List.map eS words165)), (sI ((eT (eU (hC eI (h1 eI)))) q47.1)), (sI (eI s87.2.1)), (sI (eI s87.2.2)), (sI (eI z55.1)), (sL (List.map (eU (hC eI (hC eI (h1 eI)))) s77)), (dm a78), (sI ((eL eI) ys121)), (sL (List.map eI ys124)), (dm a148), (sI (eI alone151)), (sI (eD q154.1)), (sI (eD q156.1)), none, (sI ((eL eI) ys126)), (sL (List.map (eU (hC eI (hC (eT eI) (h1 (eT eI))))) s145)), (dm a146), (dm a147), none])) rfl (T_left_over_tpiiqdi k q47.1 q156.1 s87.2.2 (by omega)) rfl fun v166 => ?_
                        exact rt_ok)) (fun _ => rfl) (T__law_word k) fun w168 => ?_
                    refine fzk_ok rfl ?_
                    refine argsD_nil ?_
                    refine mut_app (f := eS) (xs := words165) (x := w168) (E := fun words169 => [(sI (.dict [(.none, .list (iL script1))])), (sL q156.2.1.ds), (sI (eI turn46)), (dm a79), (sL (List.map eI ys90)), (sL (List.map eS words169)), (sI ((eT (eU (hC eI (h1 eI)))) q47.1)), (sI (eI s87.2.1)), (sI (eI s87.2.2)), (sI (eI z55.1)), (sL (List.map (eU (hC eI (hC eI (h1 eI)))) s77)), (dm a78), (sI ((eL eI) ys121)), (sL (List.map eI ys124)), (dm a148), (sI (eI alone151)), (sI (eD q154.1)), (sI (eD q156.1)), none, (sI ((eL eI) ys126)), (sL (List.map (eU (hC eI (hC (eT eI) (h1 (eT eI))))) s145)), (dm a146), (dm a147), none]) rfl (fun _ => rfl) fun words169 => ?_
                    refine S_mut ?_ rfl
                    refine argsD_M ?_
                    refine lam_M (eb := (im' (eT eI))) (db := (eT eI)) (e1 := [(sI (.dict [(.none, .list (iL script1))])), (sL q156.2.1.ds), (sI (eI turn46)), (dm a79), (sL (List.map eI ys90)), (sL (List.map eS words169)), (sI ((eT (eU (hC eI (h1 eI)))) q47.1)), (sI (eI s87.2.1)), (sI (eI s87.2.2)), (sI (eI z55.1)), (sL (List.map (eU (hC eI (hC eI (h1 eI)))) s77)), (dm a78), (sI ((eL eI) ys121)), (sL (List.map eI ys124)), (dm a148), (sI (eI alone151)), (sI (eD q154.1)), (sI (eD q156.1)), none, (sI ((eL eI) ys126)), (sL (List.map (eU (hC eI (hC (eT eI) (h1 (eT eI))))) s145)), (dm a146), (dm a147), none]) (e3 := imS [(sI (.dict [(.none, .list (iL script1))])), (sL q156.2.1.ds), (sI (eI turn46)), (dm a79), (sL (List.map eI ys90)), (sL (List.map eS words169)), (sI ((eT (eU (hC eI (h1 eI)))) q47.1)), (sI (eI s87.2.1)), (sI (eI s87.2.2)), (sI (eI z55.1)), (sL (List.map (eU (hC eI (hC eI (h1 eI)))) s77)), (dm a78), (sI ((eL eI) ys121)), (sL (List.map eI ys124)), (dm a148), (sI (eI alone151)), (sI (eD q154.1)), (sI (eD q156.1)), none, (sI ((eL eI) ys126)), (sL (List.map (eU (hC eI (hC (eT eI) (h1 (eT eI))))) s145)), (dm a146), (dm a147), none]) rfl (R0.of (by
                        refine call_st ?_
                        refine argsO_P (pe_varI rfl) ?_
                        refine argsO_P (pe_varI rfl) ?_
                        refine argsO_P (pe_varI rfl) ?_
                        refine argsO_nil ?_
                        refine call_M (ps := [(sI ((eT (eU (hC eI (h1 eI)))) q47.1)), (sI (eI s87.2.1)), (sI (eD q156.1))]) (e3 := (imS [(sI (.dict [(.none, .list (iL script1))])), (sL q156.2.1.ds), (sI (eI turn46)), (dm a79), (sL (List.map eI ys90)), (sL (List.map eS words169)), (sI ((eT (eU (hC eI (h1 eI)))) q47.1)), (sI (eI s87.2.1)), (sI (eI s87.2.2)), (sI (eI z55.1)), (sL (List.map (eU (hC eI (hC eI (h1 eI)))) s77)), (dm a78), (sI ((eL eI) ys121)), (sL (List.map eI ys124)), (dm a148), (sI (eI alone151)), (sI (eD q154.1)), (sI (eD q156.1)), none, (sI ((eL eI) ys126)), (sL (List.map (eU (hC eI (hC (eT eI) (h1 (eT eI))))) s145)), (dm a146), (dm a147), none])) rfl (T_left_over_tpiiqid k q47.1 s87.2.1 q156.1 (by omega)) rfl fun v170 => ?_
                        exact rt_ok)) (fun _ => rfl) (T__law_word k) fun w172 => ?_
                    refine fzk_ok rfl ?_
                    refine argsD_nil ?_
                    refine mut_app (f := eS) (xs := words169) (x := w172) (E := fun words173 => [(sI (.dict [(.none, .list (iL script1))])), (sL q156.2.1.ds), (sI (eI turn46)), (dm a79), (sL (List.map eI ys90)), (sL (List.map eS words173)), (sI ((eT (eU (hC eI (h1 eI)))) q47.1)), (sI (eI s87.2.1)), (sI (eI s87.2.2)), (sI (eI z55.1)), (sL (List.map (eU (hC eI (hC eI (h1 eI)))) s77)), (dm a78), (sI ((eL eI) ys121)), (sL (List.map eI ys124)), (dm a148), (sI (eI alone151)), (sI (eD q154.1)), (sI (eD q156.1)), none, (sI ((eL eI) ys126)), (sL (List.map (eU (hC eI (hC (eT eI) (h1 (eT eI))))) s145)), (dm a146), (dm a147), none]) rfl (fun _ => rfl) fun words173 => ?_
                    refine S_mut ?_ rfl
                    refine argsD_M ?_
                    refine lam_M (eb := (im' eN)) (db := eN) (e1 := [(sI (.dict [(.none, .list (iL script1))])), (sL q156.2.1.ds), (sI (eI turn46)), (dm a79), (sL (List.map eI ys90)), (sL (List.map eS words173)), (sI ((eT (eU (hC eI (h1 eI)))) q47.1)), (sI (eI s87.2.1)), (sI (eI s87.2.2)), (sI (eI z55.1)), (sL (List.map (eU (hC eI (hC eI (h1 eI)))) s77)), (dm a78), (sI ((eL eI) ys121)), (sL (List.map eI ys124)), (dm a148), (sI (eI alone151)), (sI (eD q154.1)), (sI (eD q156.1)), none, (sI ((eL eI) ys126)), (sL (List.map (eU (hC eI (hC (eT eI) (h1 (eT eI))))) s145)), (dm a146), (dm a147), none]) (e3 := imS [(sI (.dict [(.none, .list (iL script1))])), (sL q156.2.1.ds), (sI (eI turn46)), (dm a79), (sL (List.map eI ys90)), (sL (List.map eS words173)), (sI ((eT (eU (hC eI (h1 eI)))) q47.1)), (sI (eI s87.2.1)), (sI (eI s87.2.2)), (sI (eI z55.1)), (sL (List.map (eU (hC eI (hC eI (h1 eI)))) s77)), (dm a78), (sI ((eL eI) ys121)), (sL (List.map eI ys124)), (dm a148), (sI (eI alone151)), (sI (eD q154.1)), (sI (eD q156.1)), none, (sI ((eL eI) ys126)), (sL (List.map (eU (hC eI (hC (eT eI) (h1 (eT eI))))) s145)), (dm a146), (dm a147), none]) rfl (R0.of (by
                        refine call_st ?_
                        refine argsO_P (pe_varI rfl) ?_
                        refine argsO_P (pe_varI rfl) ?_
                        refine argsO_P (pe_varI rfl) ?_
                        refine argsO_nil ?_
                        refine call_M (ps := [(sI ((eT (eU (hC eI (h1 eI)))) q47.1)), (sI (eD q156.1)), (sI (eI s87.2.2))]) (e3 := (imS [(sI (.dict [(.none, .list (iL script1))])), (sL q156.2.1.ds), (sI (eI turn46)), (dm a79), (sL (List.map eI ys90)), (sL (List.map eS words173)), (sI ((eT (eU (hC eI (h1 eI)))) q47.1)), (sI (eI s87.2.1)), (sI (eI s87.2.2)), (sI (eI z55.1)), (sL (List.map (eU (hC eI (hC eI (h1 eI)))) s77)), (dm a78), (sI ((eL eI) ys121)), (sL (List.map eI ys124)), (dm a148), (sI (eI alone151)), (sI (eD q154.1)), (sI (eD q156.1)), none, (sI ((eL eI) ys126)), (sL (List.map (eU (hC eI (hC (eT eI) (h1 (eT eI))))) s145)), (dm a146), (dm a147), none])) rfl (T_shared_out_tpiiqdi k q47.1 q156.1 s87.2.2 (by omega)) rfl fun v174 => ?_
                        exact rt_ok)) (fun _ => rfl) (T__law_word k) fun w176 => ?_
                    refine fzk_ok rfl ?_
                    refine argsD_nil ?_
                    refine mut_app (f := eS) (xs := words173) (x := w176) (E := fun words177 => [(sI (.dict [(.none, .list (iL script1))])), (sL q156.2.1.ds), (sI (eI turn46)), (dm a79), (sL (List.map eI ys90)), (sL (List.map eS words177)), (sI ((eT (eU (hC eI (h1 eI)))) q47.1)), (sI (eI s87.2.1)), (sI (eI s87.2.2)), (sI (eI z55.1)), (sL (List.map (eU (hC eI (hC eI (h1 eI)))) s77)), (dm a78), (sI ((eL eI) ys121)), (sL (List.map eI ys124)), (dm a148), (sI (eI alone151)), (sI (eD q154.1)), (sI (eD q156.1)), none, (sI ((eL eI) ys126)), (sL (List.map (eU (hC eI (hC (eT eI) (h1 (eT eI))))) s145)), (dm a146), (dm a147), none]) rfl (fun _ => rfl) fun words177 => ?_
                    refine S_ifC ?_
                    refine st_P (pe_bin (F2.ne (f := (eL eS)) (by decide)) words177 [("pieces" : Str), ("pieces" : Str), ("heat" : Str), ("heat" : Str), ("heat" : Str)] (pe_varL rfl) (pe_lst (pd_cons pe_imm rfl (pd_cons pe_imm rfl (pd_cons pe_imm rfl (pd_cons pe_imm rfl (pd_cons pe_imm rfl pd_nil)))))) rfl rfl rfl) ?_
                    refine ite_two ?_ ?_
                    · refine ap_cons ?_
                      refine S_ret ?_
                      refine st_P pe_imm ?_
                      exact Qr_mk rfl
                    · refine ap_nil ?_
                      exact end_3 ⟨(some ((eT (eU (hC eI (h1 eI)))) q47.1)), (some (eI s87.2.1)), (some (eI s87.2.2)), (some (eI z55.1)), _, a79, a78, _, (some ((eL eI) ys121)), _, (some ((eL eI) ys126)), _, a148, (some (eI alone151)), a146, a147, (some (eD q154.1)), (some (eD q156.1)), _, (some (eI turn46)), rfl⟩
  · rintro s187 _ ⟨a188, a189, a190, a191, a192, a193, a194, a195, a196, a197, a198, a199, a200, a201, a202, a203, a204, a205, a206, a207, rfl⟩
    refine S_ret ?_
    refine st_P pe_imm ?_
    exact ret_f rfl

end Lw
end
section
set_option maxHeartbeats 1000000
namespace Lw
open PySem Ev
abbrev P2 := Int × Int
def Ps (ps : List P2) : Prop := 1 ≤ ps.length ∧ ps.length ≤ 8 ∧ ∀ p ∈ ps, 0 ≤ p.1 ∧ p.1 ≤ p.2 ∧ p.2 ≤ 20
def ir (p : P2) (h : Int) : Bool := decide (p.1 ≤ h) && decide (h ≤ p.2)
theorem is_int (x : Int) : F_is_integer_i x = .ok true := by simp [F_is_integer_i]
theorem is_in (x lo hi : Int) : F_is_within_iii x lo hi = .ok (decide (lo ≤ x) && decide (x ≤ hi)) := by simp [F_is_within_iii, is_int]
theorem pieces_ok {ps : List P2} (h : Ps ps) : F_are_pieces_tpiiq ps = .ok true := by
  obtain ⟨h1, h2, h3⟩ := h
  have a1 : (1 : Int) ≤ lenI ps := by rw [lenI_eq]; omega
  have a2 : lenI ps ≤ 8 := by rw [lenI_eq]; omega
  have s1 : F_is_sized_tpiiqii ps 1 8 = .ok true := by simp [F_is_sized_tpiiqii, a1, a2]
  have s2 : ∀ p, F_is_sized_piiqii p 2 2 = .ok true := fun p => by simp [F_is_sized_piiqii]
  unfold F_are_pieces_tpiiq
  simp only [s1, s2, O.bind_ok, Bool.not_true, Bool.false_eq_true, if_false, mapO_map]
  rw [szO_le (n := 8) (by simpa using h2) (by decide)]
  simp only [O.bind_ok]
  rw [if_neg (by simp)]
  rw [mapO_eq (f := fun _ => true) (fun p hp => by
    obtain ⟨a, b, c⟩ := h3 p hp
    simp [is_in, a, b, c]; omega)]
  simp only [O.bind_ok]
  rw [szO_le (n := 8) (by simpa using h2) (by decide)]
  simp
theorem check_pieces {ps : List P2} (h : Ps ps) : F_check_pieces_tpiiq ps = .ok () := by simp [F_check_pieces_tpiiq, pieces_ok h]
theorem check_heat {ps : List P2} {a : Int} (h : Ps ps) (a0 : 0 ≤ a) (a1 : a ≤ 20) : F_check_heat_tpiiqi ps a = .ok () := by simp [F_check_heat_tpiiqi, check_pieces h, is_in, a0, a1]
theorem check_two {ps : List P2} {a b : Int} (h : Ps ps) (a0 : 0 ≤ a) (a1 : a ≤ 20) (b0 : 0 ≤ b) (b1 : b ≤ 20) : F_check_two_tpiiqii ps a b = .ok () := by simp [F_check_two_tpiiqii, check_heat h, a0, a1, b0, b1]
/-- those that neither irons -/
def lf (ps : List P2) (a b : Int) : List Int := (rng 0 (lenI ps)).filter fun i => !(ir (at_ ps i) a || ir (at_ ps i) b)
theorem lf_len {ps : List P2} {a b : Int} : (lf ps a b).length ≤ ps.length := by
  have := List.length_filter_le (fun i => !(ir (at_ ps i) a || ir (at_ ps i) b)) (rng 0 (lenI ps))
  unfold lf
  simp [lenI_eq] at this ⊢
  omega
theorem raw_left {ps : List P2} {a b : Int} (h : ps.length ≤ 8) : F_raw_left_tpiiqii ps a b = .ok (lf ps a b) := by
  unfold F_raw_left_tpiiqii
  have e : List.map (fun p4 : (Int × (Int × Int)) => p4.1) (List.filter (fun p4 : (Int × (Int × Int)) => ((!(decide (p4.2.1 ≤ a) && decide (a ≤ p4.2.2))) && (!(decide (p4.2.1 ≤ b) && decide (b ≤ p4.2.2))))) (enm 0 ps)) = lf ps a b := by
    rw [enm0, List.filter_map, List.map_map]
    unfold lf ir
    have : ∀ l : List Int, List.map ((fun p4 : Int × P2 => p4.1) ∘ fun i => (i, at_ ps i)) l = l := fun l => by
      show List.map (fun i => i) l = l
      simp
    rw [this]
    refine List.filter_congr fun i _ => ?_
    simp [Function.comp, Bool.not_or]
  rw [e, szO_le (n := 8) (by have := @lf_len ps a b; omega) (by decide)]
  rfl
theorem do1 {p : P2} {a : Int} : F__law_do_iron_LlpiiqLli [p] [a] = .ok (ir p a) := by
  simp [F__law_do_iron_LlpiiqLli, compO, szO, sizeMax, ir]
theorem do2 {p : P2} {a b : Int} : F__law_do_iron_LlpiiqLli [p] [a, b] = .ok (ir p a || ir p b) := by
  simp [F__law_do_iron_LlpiiqLli, compO, szO, sizeMax, ir]
/-- all pairs of heats, with how many are left -/
def rowsL (ps : List P2) : List (Int × Int × Int) := (rng 0 21).flatMap fun a => (rng a 21).map fun b => (lenI (lf ps a b), a, b)
theorem rows_len {ps : List P2} : (rowsL ps).length ≤ 441 := by
  unfold rowsL
  refine Nat.le_trans (flatMap_len_le (n := 21) fun a ha => ?_) (by simp)
  have := mem_rng.mp ha
  simp; omega
theorem two_ok {ps : List P2} (h : Ps ps) : ∃ m, minO (rowsL ps) = .ok m ∧ m ∈ rowsL ps ∧ F_two_irons_tpiiq ps = .ok m.2 := by
  obtain ⟨m, e, hm, _⟩ := minO_spec (xs := rowsL ps) (by
    refine List.ne_nil_of_mem (a := (lenI (lf ps 0 0), 0, 0)) ?_
    exact List.mem_flatMap.mpr ⟨0, mem_rng.mpr (by omega), List.mem_map.mpr ⟨0, mem_rng.mpr (by omega), rfl⟩⟩)
  refine ⟨m, e, hm, ?_⟩
  unfold F_two_irons_tpiiq
  simp only [check_pieces h, O.bind_ok]
  rw [rng1O_ok (by decide) (by decide)]
  simp only [O.bind_ok]
  rw [foldO_ext (g := fun a => (rng a 21).map fun b => (lenI (lf ps a b), a, b)) (n := 441)]
  · simp only [O.bind_ok, List.nil_append]
    have : (rng 0 (20 + 1)).flatMap (fun a => (rng a 21).map fun b => (lenI (lf ps a b), a, b)) = rowsL ps := rfl
    rw [this, e]; rfl
  · intro s a ha hs
    have := mem_rng.mp ha
    rw [rng2O_ok (by omega) (by omega) (by decide) (by decide)]
    simp only [O.bind_ok, raw_left h.2.1, mapO_map]
    rw [szO_le (n := 21) (by simp; omega) (by decide)]
    simp only [O.bind_ok]
    rw [catO_le (by simp at hs ⊢; omega)]
    rfl
  · simp only [List.length_nil, Nat.zero_add]
    exact rows_len (ps := ps)
theorem law_rows {ps : List P2} (h : ps.length ≤ 8) : foldO (fun (s60 : (List (Int × Int × Int))) (a63 : Int) =>
      (rng2O a63 (21 : Int)).bind fun xs64 =>
      (foldO (fun (s67 : (List (Int × Int × Int))) (b69 : Int) =>
        (compO (fun pair70 : (Int × Int) => (F__law_do_iron_LlpiiqLli [pair70] [a63, b69]).bind fun v74 => O.ok (!v74)) (fun pair70 : (Int × Int) => O.ok (1 : Int)) ps).bind fun zs73 =>
        (szO zs73).bind fun ys71 =>
        (appO s67 ((lenI ys71), a63, b69)).bind fun rows72 =>
        O.ok rows72) s60 xs64).bind fun s75 =>
      O.ok s75) [] (rng 0 21) = .ok (rowsL ps) := by
  have cnt : ∀ a b, lenI ((ps.filter fun p => !(ir p a || ir p b)).map fun _ => (1 : Int)) = lenI (lf ps a b) := by
    intro a b
    conv => lhs; rw [← map_at (xs := ps)]
    rw [List.filter_map, List.map_map]
    simp only [lenI_map]
    rfl
  rw [foldO_ext (g := fun a => (rng a 21).map fun b => (lenI (lf ps a b), a, b)) (n := 441)]
  · rfl
  · intro s a ha hs
    have := mem_rng.mp ha
    rw [rng2O_ok (by omega) (by omega) (by decide) (by decide)]
    simp only [O.bind_ok]
    rw [foldO_app (g := fun b => (lenI (lf ps a b), a, b)) (n := 441)]
    · rfl
    · intro s b hb hn
      rw [compO_ok (q := fun p => !(ir p a || ir p b)) (f := fun _ => (1 : Int)) (fun p _ => by simp only [do2, O.bind_ok]) (fun _ _ _ => rfl)]
      simp only [O.bind_ok]
      rw [szO_le (n := 8) (by have := List.length_filter_le (fun p => !(ir p a || ir p b)) ps; simp at this ⊢; omega) (by decide)]
      simp only [O.bind_ok, cnt]
      rw [appO_le (by omega)]
      rfl
    · simp at hs ⊢; omega
  · simp only [List.length_nil, Nat.zero_add]
    exact rows_len (ps := ps)
theorem law_left {ps : List P2} {a b : Int} (h : ps.length ≤ 8) : (compO (fun at89 : Int => (idxO ps at89).bind fun x185 => (F__law_do_iron_LlpiiqLli [x185] [a, b]).bind fun v186 => O.ok (!v186)) (fun at89 : Int => O.ok at89) (rng 0 (lenI ps))) = .ok (lf ps a b) := by
  rw [compO_ok (q := fun i => !(ir (at_ ps i) a || ir (at_ ps i) b)) (f := fun i => i)]
  · simp [lf]
  · intro i hi
    have := mem_rng.mp hi
    rw [idxO_ok this.1 this.2]
    simp only [O.bind_ok, do2]
  · intro _ _ _; rfl
/-- those that a heat irons -/
def mi (ps : List P2) (a : Int) : List Int := (rng 0 (lenI ps)).filter fun i => ir (at_ ps i) a
theorem mi_len {ps : List P2} {a : Int} : (mi ps a).length ≤ ps.length := by
  have := List.length_filter_le (fun i => ir (at_ ps i) a) (rng 0 (lenI ps))
  unfold mi
  simp [lenI_eq] at this ⊢
  omega
theorem law_mine {ps : List P2} {a : Int} (h : ps.length ≤ 8) : (compO (fun at120 : Int => (idxO ps at120).bind fun x182 => (F__law_do_iron_LlpiiqLli [x182] [a]).bind fun v183 => O.ok v183) (fun at120 : Int => O.ok at120) (rng 0 (lenI ps))) = .ok (mi ps a) := by
  rw [compO_ok (q := fun i => ir (at_ ps i) a) (f := fun i => i)]
  · simp [mi]
  · intro i hi
    have := mem_rng.mp hi
    rw [idxO_ok this.1 this.2]
    simp only [O.bind_ok, do1]
  · intro _ _ _; rfl
theorem all_lots {xs : List Int} (h : xs.length ≤ 8) : F_all_lots_li xs = .ok (lotsS xs) := by
  unfold F_all_lots_li
  simp only [O.bind_ok]
  rw [lots_fold (by omega)]
  have l : (lotsF xs).length ≤ 256 := by rw [lotsF_len]; exact Nat.pow_le_pow_right (n := 2) (by decide) h
  simp only [O.bind_ok]
  rw [szO_le (n := 256) (by simpa using l) (by decide)]
  simp only [O.bind_ok]
  rw [sortO_le (by simp; omega)]
  simp only [O.bind_ok]
  rw [szO_le (n := 256) (by simpa using l) (by decide)]
  rfl
theorem law_lots {xs : List Int} (h : xs.length ≤ 8) : F__law_lots_li xs = .ok (lotsS xs) := all_lots h
end Lw
end
section
set_option maxHeartbeats 1000000
namespace Lw
open PySem Ev
theorem sub_fil {α : Type} [DecidableEq α] : ∀ {R L : List α}, L.Sublist R → R.Nodup → R.filter (fun i => decide (i ∈ L)) = L
  | _, _, .slnil, _ => rfl
  | a :: R, L, .cons _ h, hn => by
    have hn' := List.nodup_cons.mp hn
    rw [List.filter_cons_of_neg (by simp; exact fun hl => hn'.1 (h.subset hl))]
    exact sub_fil h hn'.2
  | a :: R, _ :: L, .cons_cons _ h, hn => by
    have hn' := List.nodup_cons.mp hn
    rw [List.filter_cons_of_pos (by simp)]
    congr 1
    conv => rhs; rw [← sub_fil h hn'.2]
    refine List.filter_congr fun i hi => ?_
    have : i ≠ a := fun e => hn'.1 (e ▸ hi)
    simp [this]
def G (n : Int) (L : List Int) : Int × List Int × List Int := (absI (lenI L - lenI ((rng 0 n).filter fun i => !decide (i ∈ L))), L, (rng 0 n).filter fun i => !decide (i ∈ L))
def okL (ps : List P2) (a b : Int) (L : List Int) : Bool := L.all (fun i => ir (at_ ps i) a) && ((rng 0 (lenI ps)).filter fun i => !decide (i ∈ L)).all fun i => ir (at_ ps i) b
def shF (ps : List P2) (a b : Int) : List (Int × List Int × List Int) := ((lotsS (rng 0 (lenI ps))).filter (okL ps a b)).map (G (lenI ps))
theorem el_ok {ps : List P2} {a i : Int} (h : i ∈ rng 0 (lenI ps)) : (((idxO ps i).bind fun x20 => O.ok x20.1).bind fun x22 => if decide (x22 ≤ a) then ((idxO ps i).bind fun x21 => O.ok x21.2).bind fun z24 => O.ok (decide (a ≤ z24)) else O.ok false) = O.ok (ir (at_ ps i) a) := by
  have := mem_rng.mp h
  rw [idxO_ok this.1 this.2]
  simp only [O.bind_ok, ir]
  by_cases e : (at_ ps i).1 ≤ a <;> simp [e]
theorem shared_out {ps : List P2} {a b : Int} (h : Ps ps) (a0 : 0 ≤ a) (a1 : a ≤ 20) (b0 : 0 ≤ b) (b1 : b ≤ 20) (hl : lf ps a b = []) : F_shared_out_tpiiqii ps a b = (minO (shF ps a b)).bind fun m => .ok m.2 := by
  unfold F_shared_out_tpiiqii
  simp only [check_two h a0 a1 b0 b1, O.bind_ok, raw_left h.2.1, hl]
  rw [if_neg (by simp)]
  have n8 : lenI ps ≤ 8 := by have := h.2.1; rw [lenI_eq]; omega
  have n1 : 1 ≤ lenI ps := by have := h.1; rw [lenI_eq]; omega
  rw [rngLO_ok (by decide) (by decide) (by omega) (by omega)]
  simp only [O.bind_ok]
  have rl : (rng 0 (lenI ps)).length ≤ 8 := by simp; omega
  rw [all_lots rl]
  simp only [O.bind_ok]
  rw [foldO_fil (p := okL ps a b) (g := G (lenI ps)) (n := 256)]
  · simp only [O.bind_ok, List.nil_append, shF]
  · intro s L hL hs
    have hL := mem_lotsS.mp hL
    have fl := List.length_filter_le (fun i => !decide (i ∈ L)) (rng 0 (lenI ps))
    have ll := hL.length_le
    rw [List.map_id', szO_le (n := 8) (by omega) (by decide)]
    simp only [O.bind_ok]
    rw [mapO_eq (f := fun i => ir (at_ ps i) a) (fun i hi => el_ok (hL.subset hi))]
    simp only [O.bind_ok]
    rw [szO_le (n := 8) (by simp; omega) (by decide)]
    simp only [O.bind_ok, List.all_map, Function.comp_def, id_eq]
    rw [mapO_eq (f := fun i => ir (at_ ps i) b) (fun i hi => el_ok (List.mem_filter.mp hi).1)]
    simp only [O.bind_ok]
    rw [szO_le (n := 8) (by simp; omega) (by decide)]
    simp only [O.bind_ok, List.all_map, Function.comp_def, id_eq]
    rw [appO_le (by omega)]
    unfold okL
    cases L.all (fun i => ir (at_ ps i) a)
    · rfl
    · cases ((rng 0 (lenI ps)).filter fun i => !decide (i ∈ L)).all fun i => ir (at_ ps i) b <;> rfl
  · rw [lotsS_len]
    have : 2 ^ (rng 0 (lenI ps)).length ≤ 2 ^ 8 := Nat.pow_le_pow_right (by decide) rl
    simpa using this
/-- the law's own ways -/
def bo (ps : List P2) (a b : Int) : List Int := (mi ps a).filter fun i => decide (i ∈ mi ps b)
def fi (ps : List P2) (a b : Int) (L : List Int) : List Int := (mi ps a).filter fun i => (!decide (i ∈ mi ps b)) || decide (i ∈ L)
def soL (ps : List P2) (a b : Int) : List (Int × List Int × List Int) := (lotsS (bo ps a b)).map fun L => G (lenI ps) (fi ps a b L)
theorem fi_sub {ps : List P2} {a b : Int} {L : List Int} : (fi ps a b L).Sublist (rng 0 (lenI ps)) := List.filter_sublist.trans List.filter_sublist
theorem mi_def {ps : List P2} {a : Int} : mi ps a = (rng 0 (lenI ps)).filter fun i => ir (at_ ps i) a := rfl
theorem mem_mi {ps : List P2} {a i : Int} : i ∈ mi ps a ↔ i ∈ rng 0 (lenI ps) ∧ ir (at_ ps i) a = true := by unfold mi; rw [List.mem_filter]
theorem either {ps : List P2} {a b i : Int} (hl : lf ps a b = []) (hi : i ∈ rng 0 (lenI ps)) : ir (at_ ps i) a = true ∨ ir (at_ ps i) b = true := by
  have := List.filter_eq_nil_iff.mp hl i hi
  cases h : ir (at_ ps i) a
  · simp [h] at this; exact .inr this
  · exact .inl rfl
theorem same {ps : List P2} {a b : Int} (hl : lf ps a b = []) : minO (shF ps a b) = minO (soL ps a b) := by
  refine minO_congr fun x => ?_
  unfold shF soL
  rw [List.mem_map, List.mem_map]
  constructor
  · rintro ⟨L, hL, rfl⟩
    obtain ⟨hs, ho⟩ := List.mem_filter.mp hL
    have hs := mem_lotsS.mp hs
    unfold okL at ho
    rw [Bool.and_eq_true, List.all_eq_true, List.all_eq_true] at ho
    obtain ⟨oa, ob⟩ := ho
    refine ⟨(bo ps a b).filter fun i => decide (i ∈ L), mem_lotsS.mpr List.filter_sublist, ?_⟩
    congr 1
    conv => rhs; rw [← sub_fil hs rng_nodup]
    unfold fi
    rw [mi_def (a := a), List.filter_filter]
    refine List.filter_congr fun i hi => ?_
    have nb : i ∉ L → ir (at_ ps i) b = true := fun hn => ob i (List.mem_filter.mpr ⟨hi, by simpa using hn⟩)
    have ea : (i ∈ mi ps b) ↔ ir (at_ ps i) b = true := by rw [mem_mi]; exact ⟨fun h => h.2, fun h => ⟨hi, h⟩⟩
    have eb : (i ∈ (bo ps a b).filter fun i => decide (i ∈ L)) ↔ (ir (at_ ps i) a = true ∧ ir (at_ ps i) b = true ∧ i ∈ L) := by
      rw [List.mem_filter, bo, List.mem_filter, mem_mi, decide_eq_true_eq, decide_eq_true_eq, ea]
      exact ⟨fun h => ⟨h.1.1.2, h.1.2, h.2⟩, fun h => ⟨⟨⟨hi, h.1⟩, h.2.1⟩, h.2.2⟩⟩
    rw [Bool.eq_iff_iff]
    simp only [Bool.and_eq_true, Bool.or_eq_true, Bool.not_eq_true', decide_eq_true_eq, decide_eq_false_iff_not, ea, eb]
    by_cases hiL : i ∈ L
    · have := oa i hiL
      simp only [hiL, this, true_and, and_true, iff_true]
      cases ir (at_ ps i) b <;> simp
    · have := nb hiL
      simp [hiL, this]
  · rintro ⟨L, hL, rfl⟩
    have hL := mem_lotsS.mp hL
    refine ⟨fi ps a b L, List.mem_filter.mpr ⟨mem_lotsS.mpr fi_sub, ?_⟩, rfl⟩
    unfold okL
    rw [Bool.and_eq_true, List.all_eq_true, List.all_eq_true]
    refine ⟨fun i hi => (mem_mi.mp (List.mem_filter.mp hi).1).2, fun i hi => ?_⟩
    obtain ⟨h1, h2⟩ := List.mem_filter.mp hi
    rcases either hl h1 with h | h
    · by_cases hb : ir (at_ ps i) b = true
      · exact hb
      · exfalso
        simp only [Bool.not_eq_true', decide_eq_false_iff_not] at h2
        refine h2 (List.mem_filter.mpr ⟨mem_mi.mpr ⟨h1, h⟩, ?_⟩)
        simp only [Bool.or_eq_true, Bool.not_eq_true', decide_eq_false_iff_not]
        exact .inl fun hm => hb (mem_mi.mp hm).2
    · exact h
theorem lenI_or {α : Type} {p q : α → Bool} : ∀ {xs : List α}, (∀ x ∈ xs, p x = true → q x = false) → lenI (xs.filter fun x => p x || q x) = lenI (xs.filter p) + lenI (xs.filter q)
  | [], _ => rfl
  | x :: xs, h => by
    have ih := lenI_or (xs := xs) fun y hy => h y (List.mem_cons_of_mem _ hy)
    have hx := h x List.mem_cons_self
    simp only [List.filter_cons]
    cases hp : p x <;> cases hq : q x <;> simp only [hp, hq, Bool.or_false, Bool.or_true, Bool.or_self, if_true, Bool.false_eq_true, if_false, lenI_cons, ih] <;> first | omega | (rw [hx hp] at hq; cases hq)
theorem lenI_not {α : Type} {p : α → Bool} : ∀ {xs : List α}, lenI (xs.filter fun x => !p x) = lenI xs - lenI (xs.filter p)
  | [] => rfl
  | x :: xs => by
    have ih := lenI_not (p := p) (xs := xs)
    simp only [List.filter_cons]
    cases hp : p x <;> simp only [Bool.not_false, Bool.not_true, if_true, Bool.false_eq_true, if_false, lenI_cons, ih] <;> omega
theorem lenI_rng {n : Int} (h : 0 ≤ n) : lenI (rng 0 n) = n := by rw [lenI_eq]; simp; omega
theorem lenI_le {α : Type} {xs ys : List α} (h : xs.Sublist ys) : lenI xs ≤ lenI ys := by have := h.length_le; simp only [lenI_eq]; omega
section
variable {ps : List P2} {a b : Int}
theorem fi_len (hl : lf ps a b = []) {L : List Int} (hL : L.Sublist (bo ps a b)) : lenI (fi ps a b L) = (lenI ps - lenI (mi ps b)) + lenI L := by
  unfold fi
  rw [lenI_or (fun i hi h => by
    simp only [Bool.not_eq_true', decide_eq_false_iff_not] at h
    rw [decide_eq_false_iff_not]
    exact fun hL' => h (by
      have := hL.subset hL'
      unfold bo at this
      simpa using (List.mem_filter.mp this).2))]
  have e1 : (mi ps a).filter (fun i => !decide (i ∈ mi ps b)) = (rng 0 (lenI ps)).filter fun i => !(ir (at_ ps i) b) := by
    rw [mi_def (a := a), List.filter_filter]
    refine List.filter_congr fun i hi => ?_
    have ea : decide (i ∈ mi ps b) = ir (at_ ps i) b := by
      rw [Bool.eq_iff_iff, decide_eq_true_eq, mem_mi]
      exact ⟨fun h => h.2, fun h => ⟨hi, h⟩⟩
    rw [ea]
    rcases either hl hi with h | h
    · simp [h]
    · simp [h]
  have e2 : (mi ps a).filter (fun i => decide (i ∈ L)) = L := sub_fil (hL.trans List.filter_sublist) (List.Nodup.sublist List.filter_sublist rng_nodup)
  rw [e1, e2, lenI_not, lenI_rng lenI_nn]
  rfl
theorem G_1 {n : Int} {L : List Int} (h : L.Sublist (rng 0 n)) (hn : 0 ≤ n) : (G n L).1 = absI (lenI L - (n - lenI L)) := by
  unfold G
  simp only
  rw [lenI_not, lenI_rng hn, sub_fil h rng_nodup]
theorem bo_len (hl : lf ps a b = []) : lenI (mi ps a) = (lenI ps - lenI (mi ps b)) + lenI (bo ps a b) := by
  rw [← fi_len hl (List.Sublist.refl _)]
  unfold fi
  congr 1
  refine (List.filter_eq_self.mpr fun i hi => ?_).symm
  by_cases h : i ∈ mi ps b
  · have : i ∈ bo ps a b := List.mem_filter.mpr ⟨hi, by simpa using h⟩
    simp [this]
  · simp [h]
theorem alike (h : Ps ps) (hl : lf ps a b = []) {m : Int × List Int × List Int} (hm : m ∈ soL ps a b) (hy : ∀ y ∈ soL ps a b, lx y m = false) :
    decide (m.1 ≤ 1) = decide (max2 (lenI ps - lenI (mi ps b)) (lenI ps - lenI (mi ps a)) ≤ (lenI ps + 1).fdiv 2) := by
  have n0 : 0 ≤ lenI ps := lenI_nn
  have le : ∀ y ∈ soL ps a b, m.1 ≤ y.1 := by
    intro y hy'
    have := hy y hy'
    rw [lx_pair] at this
    by_cases e : y.1 = m.1
    · omega
    · rw [if_neg e, lx_int, decide_eq_false_iff_not] at this; omega
  have bl := bo_len hl
  have ma : lenI (mi ps a) ≤ lenI ps := by have := @mi_len ps a; simp only [lenI_eq]; omega
  have mb : lenI (mi ps b) ≤ lenI ps := by have := @mi_len ps b; simp only [lenI_eq]; omega
  have some : ∀ j : Int, 0 ≤ j → j ≤ lenI (bo ps a b) → m.1 ≤ absI (2 * ((lenI ps - lenI (mi ps b)) + j) - lenI ps) := by
    intro j j0 j1
    have hs : ((bo ps a b).take j.toNat).Sublist (bo ps a b) := List.take_sublist _ _
    have hl' : lenI ((bo ps a b).take j.toNat) = j := by
      rw [lenI_eq] at j1 ⊢
      rw [List.length_take]; omega
    have := le _ (List.mem_map.mpr ⟨_, mem_lotsS.mpr hs, rfl⟩)
    rw [G_1 fi_sub n0, fi_len hl hs, hl'] at this
    rw [show 2 * (lenI ps - lenI (mi ps b) + j) - lenI ps = lenI ps - lenI (mi ps b) + j - (lenI ps - (lenI ps - lenI (mi ps b) + j)) by omega]
    exact this
  obtain ⟨L, hL, rfl⟩ := List.mem_map.mp hm
  have hL := mem_lotsS.mp hL
  have lL := lenI_le hL
  have l0 : 0 ≤ lenI L := lenI_nn
  rw [G_1 fi_sub n0, fi_len hl hL] at some ⊢
  rw [Int.fdiv_eq_ediv_of_nonneg _ (by decide)]
  rw [Bool.eq_iff_iff, decide_eq_true_eq, decide_eq_true_eq]
  unfold max2
  constructor
  · intro hm1
    unfold absI at hm1
    split at hm1 <;> split <;> omega
  · intro hm1
    have h1 : lenI ps - lenI (mi ps b) ≤ (lenI ps + 1) / 2 ∧ lenI ps - lenI (mi ps a) ≤ (lenI ps + 1) / 2 := by split at hm1 <;> omega
    have b0 : 0 ≤ lenI (bo ps a b) := lenI_nn
    by_cases c : lenI ps - lenI (mi ps b) ≤ lenI ps / 2
    · have := some (lenI ps / 2 - (lenI ps - lenI (mi ps b))) (by omega) (by omega)
      refine Int.le_trans this ?_
      unfold absI
      split <;> omega
    · have := some 0 (by omega) (by omega)
      refine Int.le_trans this ?_
      unfold absI
      split <;> omega
end
end Lw
end
section
set_option maxHeartbeats 1000000
namespace Lw
open PySem Ev
theorem pieces_draw (h : HH) : ∃ ps h', F__law_pieces_hi h 7 = .ok (ps, h') ∧ Ps ps := by
  obtain ⟨n, h1, e1, n0, n1⟩ := draw_is h (m := 7) (by decide) (by decide)
  unfold F__law_pieces_hi
  simp only [O.bind_ok, e1]
  rw [rng1O_ok (by omega) (by omega)]
  simp only [O.bind_ok]
  obtain ⟨s, es, hs⟩ := foldO_len (J := fun (s : List P2 × HH) => ∀ p ∈ s.1, 0 ≤ p.1 ∧ p.1 ≤ p.2 ∧ p.2 ≤ 20) (ℓ := fun s => s.1.length)
    (f := (fun (s10 : (List (Int × Int)) × HH) (piece13 : Int) =>
    (F__law_draw s10.2 (21 : Int)).bind fun q14 =>
    (F__law_draw q14.2 (8 : Int)).bind fun q16 =>
    (appO s10.1 (q14.1, (min2 (20 : Int) (q14.1 + q16.1)))).bind fun found18 =>
    O.ok (found18, q16.2))) (xs := rng 0 (1 + n)) (s := ([], h1)) (by simp) (n := 100) (by simp; omega) (fun s x hs hx hl => by
      obtain ⟨a, h2, e2, a0, a1⟩ := draw_is s.2 (m := 21) (by decide) (by decide)
      obtain ⟨b, h3, e3, b0, b1⟩ := draw_is h2 (m := 8) (by decide) (by decide)
      refine ⟨(s.1 ++ [(a, min2 20 (a + b))], h3), ?_, by simp, ?_⟩
      · simp only [e2, e3, O.bind_ok]
        rw [appO_le (by omega)]
        rfl
      · intro p hp
        rcases List.mem_append.mp hp with hp | hp
        · exact hs p hp
        · rw [List.mem_singleton.mp hp]
          simp only [min2]
          split <;> omega)
  refine ⟨s.1, s.2, by simp only [es, O.bind_ok], ?_, ?_, hs.1⟩
  · have := hs.2; simp at this; omega
  · have := hs.2; simp at this; omega
theorem any_is {xs : List D} (h : HH) (h0 : 0 < xs.length) (h1 : xs.length < 1000) : ∃ d h', F__law_any_hld h xs = .ok (d, h') ∧ d ∈ xs := by
  obtain ⟨i, h2, e, i0, i1⟩ := draw_is h (m := lenI xs) (by rw [lenI_eq]; omega) (by rw [lenI_eq]; omega)
  unfold F__law_any_hld
  simp only [e, O.bind_ok]
  rw [idxO_ok i0 i1]
  exact ⟨_, _, rfl, at_mem i0 i1⟩
theorem any_is1 {xs : List D} (h : HH) (h0 : 0 < xs.length) (h1 : xs.length < 1000) : ∃ d h', F__law_any_hLld h xs = .ok (d, h') ∧ d ∈ xs := any_is h h0 h1
theorem no_pieces (h : HH) : ∃ d h', F__law_no_pieces_h h = .ok (d, h') ∧ F_check_pieces_d d = .ex ⟨"NoPieces", none⟩ := by
  unfold F__law_no_pieces_h
  have e : repO [((1 : Int), (2 : Int))] 9 = .ok (List.replicate 9 (1, 2)) := rfl
  rw [e]
  simp only [O.bind_ok]
  obtain ⟨d, h', e, hd⟩ := any_is (xs := [(eN ()), ((eT eI) ([] : (List Int))), ((eL (eU (hC eI (h1 eI)))) [((1 : Int), (2 : Int))]), ((eT (eT eI)) [[(1 : Int)]]), ((eT (eU (hC eI (h1 eI)))) [((2 : Int), (1 : Int))]), ((eT (eU (hC eI (h1 eI)))) [((0 : Int), (21 : Int))]), ((eT (eU (hC eI (h1 eI)))) [((-(1 : Int)), (2 : Int))]), ((eT (eU (hC eB (h1 eI)))) [(true, (2 : Int))]), ((eT (eU (hC eI (h1 eI)))) (List.replicate 9 (1, 2))), (eI (0 : Int))]) h (by simp) (by simp)
  refine ⟨d, h', by simp only [e, O.bind_ok], ?_⟩
  simp only [List.mem_cons, List.not_mem_nil, or_false] at hd
  have : F_are_pieces_d d = .ok false := by
    rcases hd with rfl | rfl | rfl | rfl | rfl | rfl | rfl | rfl | rfl | rfl <;> rfl
  simp [F_check_pieces_d, this]
theorem no_heat (h : HH) : ∃ d h', F__law_no_heat_h h = .ok (d, h') ∧ F_is_within_dii d 0 20 = .ok false := by
  unfold F__law_no_heat_h
  obtain ⟨d, h', e, hd⟩ := any_is1 (xs := [(eN ()), (eI (-(1 : Int))), (eI (21 : Int)), (eB true), (eS ("1" : Str))]) h (by simp) (by simp)
  refine ⟨d, h', by simp only [e, O.bind_ok], ?_⟩
  simp only [List.mem_cons, List.not_mem_nil, or_false] at hd
  rcases hd with rfl | rfl | rfl | rfl | rfl <;> rfl
section
variable {ps : List P2} {a b : Int} {d e : D}
theorem w1 (hd : F_check_pieces_d d = .ex ⟨"NoPieces", none⟩) : F_two_irons_d d = .ex ⟨"NoPieces", none⟩ := by simp [F_two_irons_d, hd]
theorem w2 (hd : F_check_pieces_d d = .ex ⟨"NoPieces", none⟩) : F_left_over_ddd d e e = .ex ⟨"NoPieces", none⟩ := by simp [F_left_over_ddd, F_check_two_ddd, F_check_heat_dd, hd]
theorem w3 (h : Ps ps) (he : F_is_within_dii e 0 20 = .ok false) : F_left_over_tpiiqdi ps e b = .ex ⟨"NoHeat", none⟩ := by simp [F_left_over_tpiiqdi, F_check_two_tpiiqdi, F_check_heat_tpiiqd, check_pieces h, he]
theorem w4 (h : Ps ps) (a0 : 0 ≤ a) (a1 : a ≤ 20) (he : F_is_within_dii e 0 20 = .ok false) : F_left_over_tpiiqid ps a e = .ex ⟨"NoHeat", none⟩ := by simp [F_left_over_tpiiqid, F_check_two_tpiiqid, F_check_heat_tpiiqd, check_heat h a0 a1, check_pieces h, he]
theorem w5 (h : Ps ps) (he : F_is_within_dii e 0 20 = .ok false) : F_shared_out_tpiiqdi ps e b = .ex ⟨"NoHeat", none⟩ := by simp [F_shared_out_tpiiqdi, F_check_two_tpiiqdi, F_check_heat_tpiiqd, check_pieces h, he]
theorem left_over (h : Ps ps) (a0 : 0 ≤ a) (a1 : a ≤ 20) (b0 : 0 ≤ b) (b1 : b ≤ 20) : F_left_over_tpiiqii ps a b = .ok (lf ps a b) := by simp [F_left_over_tpiiqii, check_two h a0 a1 b0 b1, raw_left h.2.1]
theorem shared_no (h : Ps ps) (a0 : 0 ≤ a) (a1 : a ≤ 20) (b0 : 0 ≤ b) (b1 : b ≤ 20) (hl : lf ps a b ≠ []) : F_shared_out_tpiiqii ps a b = .ex ⟨"LeftOver", none⟩ := by
  unfold F_shared_out_tpiiqii
  simp only [check_two h a0 a1 b0 b1, O.bind_ok, raw_left h.2.1]
  rw [if_pos]
  have : 0 < (lf ps a b).length := List.length_pos_iff.mpr hl
  rw [decide_eq_true_eq, lenI_eq]; omega
end
theorem str3 : [("pieces" : Str), "pieces", "heat", "heat", "heat"] = [("pieces" : Str), ("pieces" : Str), ("heat" : Str), ("heat" : Str), ("heat" : Str)] := rfl
theorem law_true (ns : List Int) : F_law_c ns = .ok true := by
  unfold F_law_c
  simp only [F__law_hand, O.bind_ok]
  rw [rng1O_ok (by decide) (by decide)]
  simp only [O.bind_ok]
  refine loop_true (J := fun _ => True) trivial ?_
  intro s _ x hx
  obtain ⟨ps, h1, e1, hp⟩ := pieces_draw s
  obtain ⟨one, h2, e2, o0, o1⟩ := draw_is h1 (m := 21) (by decide) (by decide)
  obtain ⟨other, h3, e3, t0, t1⟩ := draw_is h2 (m := 21) (by decide) (by decide)
  obtain ⟨m, em, hm, et⟩ := two_ok hp
  obtain ⟨c, h4, e4, c0, c1⟩ := draw_is h3 (m := 2) (by decide) (by decide)
  simp only [e1, e2, e3, O.bind_ok]
  rw [rng1O_ok (by decide) (by decide)]
  simp only [O.bind_ok]
  rw [law_rows hp.2.1]
  simp only [O.bind_ok, et, em, e4]
  rw [if_neg (by simp)]
  have ab : ∃ a b, (if decide (c = (0 : Int)) then O.ok (h4, m.2.1, m.2.2) else O.ok (h4, one, other)) = O.ok (h4, a, b) ∧ 0 ≤ a ∧ a ≤ 20 ∧ 0 ≤ b ∧ b ≤ 20 := by
    split
    · obtain ⟨a, ha, hb⟩ := List.mem_flatMap.mp hm
      obtain ⟨b, hb', rfl⟩ := List.mem_map.mp hb
      have := mem_rng.mp ha
      have := mem_rng.mp hb'
      exact ⟨a, b, rfl, by omega, by omega, by omega, by omega⟩
    · exact ⟨_, _, rfl, by omega, by omega, by omega, by omega⟩
  obtain ⟨a, b, eab, a0, a1, b0, b1⟩ := ab
  rw [eab]
  have n8 : lenI ps ≤ 8 := by have := hp.2.1; rw [lenI_eq]; omega
  have n0 : 0 ≤ lenI ps := lenI_nn
  have rn : rng1O (lenI ps) = .ok (rng 0 (lenI ps)) := rng1O_ok (by omega) (by omega)
  have ll := @lf_len ps a b
  have p8 := hp.2.1
  have sl : szO (lf ps a b) = .ok (lf ps a b) := szO_le (n := 8) (by omega) (by decide)
  obtain ⟨d, h5, e5, hd⟩ := no_pieces h4
  obtain ⟨e, h6, e6, he⟩ := no_heat h5
  have ap : ∀ (xs : List Str) (x : Str), xs.length < 10 → appO xs x = .ok (xs ++ [x]) := fun xs x h => appO_le (by omega)
  simp only [O.bind_ok, rn, law_left p8, sl, left_over hp a0 a1 b0 b1]
  rw [if_neg (by simp)]
  by_cases hl : lf ps a b = []
  · rw [if_neg (by simp [hl])]
    have ma : szO (mi ps a) = .ok (mi ps a) := szO_le (n := 8) (by have := @mi_len ps a; omega) (by decide)
    have mb : szO (mi ps b) = .ok (mi ps b) := szO_le (n := 8) (by have := @mi_len ps b; omega) (by decide)
    have bl : (bo ps a b).length ≤ 8 := by have := @mi_len ps a; have := List.length_filter_le (fun i => decide (i ∈ mi ps b)) (mi ps a); unfold bo; omega
    have bs : szO (bo ps a b) = .ok (bo ps a b) := szO_le (n := 8) bl (by decide)
    have bd : List.map (fun at125 : Int => at125) (List.filter (fun at125 : Int => (decide (at125 ∈ mi ps b))) (mi ps a)) = bo ps a b := by rw [List.map_id']; rfl
    simp only [law_mine p8, O.bind_ok, ma, mb, bd, bs, law_lots bl]
    rw [foldO_app (g := fun L => G (lenI ps) (fi ps a b L)) (n := 256)]
    · obtain ⟨m2, em2, hm2, hy2⟩ := minO_spec (xs := soL ps a b) (by
        unfold soL
        refine List.ne_nil_of_mem (List.mem_map.mpr ⟨[], mem_lotsS.mpr (List.nil_sublist _), rfl⟩))
      have es : (lotsS (bo ps a b)).map (fun L => G (lenI ps) (fi ps a b L)) = soL ps a b := rfl
      have al := alike hp hl hm2 hy2
      have dv : divO (lenI ps + 1) 2 = .ok ((lenI ps + 1).fdiv 2) := rfl
      simp only [O.bind_ok, List.nil_append, es, shared_out hp a0 a1 b0 b1 hl, same hl, em2, dv, e5, e6, w1 hd, w2 hd, w3 hp he, w4 hp a0 a1 he, w5 hp he, O.bind_ex, toL_ex, law_word_NoPieces, law_word_NoHeat, O.noe_ok]
      rw [if_neg (by simp)]
      rw [al]
      rw [if_neg (by simp)]
      rw [ap _ _ (by simp)]
      simp only [O.bind_ok]
      rw [ap _ _ (by simp)]
      simp only [O.bind_ok]
      rw [ap _ _ (by simp)]
      simp only [O.bind_ok]
      rw [ap _ _ (by simp)]
      simp only [O.bind_ok]
      rw [if_neg (by decide)]
      exact ⟨_, rfl, trivial⟩
    · intro s L hL hs
      have f1 := (@fi_sub ps a b L).length_le
      have f2 := List.length_filter_le (fun i => !decide (i ∈ fi ps a b L)) (rng 0 (lenI ps))
      have rl : (rng 0 (lenI ps)).length ≤ 8 := by simp; omega
      have fd : List.map (fun at139 : Int => at139) (List.filter (fun at139 : Int => ((!decide (at139 ∈ mi ps b)) || (decide (at139 ∈ L)))) (mi ps a)) = fi ps a b L := by rw [List.map_id']; rfl
      rw [fd, szO_le (n := 8) (by omega) (by decide)]
      simp only [O.bind_ok]
      rw [List.map_id', szO_le (n := 8) (by omega) (by decide)]
      simp only [O.bind_ok]
      rw [appO_le (by omega)]
      rfl
    · rw [lotsS_len]
      have : 2 ^ (bo ps a b).length ≤ 2 ^ 8 := Nat.pow_le_pow_right (by decide) bl
      simpa using this
  · rw [if_pos (by simp [hl])]
    simp only [shared_no hp a0 a1 b0 b1 hl, O.bind_ex, toL_ex, law_word_LeftOver, O.noe_ok, O.bind_ok]
    rw [if_neg (by decide)]
    simp only [e5, e6, w1 hd, w2 hd, w3 hp he, w4 hp a0 a1 he, w5 hp he, O.bind_ex, toL_ex, law_word_NoPieces, law_word_NoHeat, O.noe_ok, O.bind_ok]
    rw [ap _ _ (by simp)]
    simp only [O.bind_ok]
    rw [ap _ _ (by simp)]
    simp only [O.bind_ok]
    rw [ap _ _ (by simp)]
    simp only [O.bind_ok]
    rw [ap _ _ (by simp)]
    simp only [O.bind_ok]
    rw [if_neg (by decide)]
    exact ⟨_, rfl, trivial⟩
theorem t_law (ns : List Int) : ∃ fin, P.run 30 d_law [some (.im (.dict [(.none, .list (iL ns))]))] = .ok (.im (.bool true)) fin := (T_law_c 30 ns (by decide)).run (law_true ns)
end Lw
end
section
set_option maxHeartbeats 0
namespace Lw
open Ev
theorem pays : Pays P 30 d_law 63 := fun ns _ => t_law ns
end Lw
end
section
set_option maxHeartbeats 0
namespace Lw
open PySem PySem.Spec PyProof.Rows L2 Ev
theorem sc_is_integer : FnScope ["thing"] ["thing"] (defScope s_is_integer) := ⟨rfl, rfl, rfl, by decide +kernel, rfl, by decide +kernel, by decide +kernel⟩
def D_is_integer : He.DefD := ⟨("is_integer", none), "is_integer", "is_integer", defArgs s_is_integer, defBody s_is_integer, defScope s_is_integer, [], []⟩
theorem sc_is_within : FnScope ["thing", "low", "high"] ["thing", "low", "high"] (defScope s_is_within) := ⟨rfl, rfl, rfl, by decide +kernel, rfl, by decide +kernel, by decide +kernel⟩
def D_is_within : He.DefD := ⟨("is_within", none), "is_within", "is_within", defArgs s_is_within, defBody s_is_within, defScope s_is_within, [], []⟩
theorem sc_is_sized : FnScope ["thing", "low", "high"] ["thing", "low", "high"] (defScope s_is_sized) := ⟨rfl, rfl, rfl, by decide +kernel, rfl, by decide +kernel, by decide +kernel⟩
def D_is_sized : He.DefD := ⟨("is_sized", none), "is_sized", "is_sized", defArgs s_is_sized, defBody s_is_sized, defScope s_is_sized, [], []⟩
theorem sc_all_lots : FnScope ["some", "found", "one", "size", "lot"] ["some"] (defScope s_all_lots) := ⟨rfl, rfl, rfl, by decide +kernel, rfl, by decide +kernel, by decide +kernel⟩
def D_all_lots : He.DefD := ⟨("all_lots", none), "all_lots", "all_lots", defArgs s_all_lots, defBody s_all_lots, defScope s_all_lots, [], []⟩
theorem sc_are_pieces : FnScope ["thing", "low", "high", "piece"] ["thing"] (defScope s_are_pieces) := ⟨rfl, rfl, rfl, by decide +kernel, rfl, by decide +kernel, by decide +kernel⟩
def D_are_pieces : He.DefD := ⟨("are_pieces", none), "are_pieces", "are_pieces", defArgs s_are_pieces, defBody s_are_pieces, defScope s_are_pieces, [], []⟩
theorem sc_check_pieces : FnScope ["thing"] ["thing"] (defScope s_check_pieces) := ⟨rfl, rfl, rfl, by decide +kernel, rfl, by decide +kernel, by decide +kernel⟩
def D_check_pieces : He.DefD := ⟨("check_pieces", none), "check_pieces", "check_pieces", defArgs s_check_pieces, defBody s_check_pieces, defScope s_check_pieces, [], []⟩
theorem sc_check_heat : FnScope ["pieces", "heat"] ["pieces", "heat"] (defScope s_check_heat) := ⟨rfl, rfl, rfl, by decide +kernel, rfl, by decide +kernel, by decide +kernel⟩
def D_check_heat : He.DefD := ⟨("check_heat", none), "check_heat", "check_heat", defArgs s_check_heat, defBody s_check_heat, defScope s_check_heat, [], []⟩
theorem sc_raw_left : FnScope ["pieces", "one", "other", "piece", "low", "high"] ["pieces", "one", "other"] (defScope s_raw_left) := ⟨rfl, rfl, rfl, by decide +kernel, rfl, by decide +kernel, by decide +kernel⟩
def D_raw_left : He.DefD := ⟨("raw_left", none), "raw_left", "raw_left", defArgs s_raw_left, defBody s_raw_left, defScope s_raw_left, [], []⟩
theorem sc_two_irons : FnScope ["pieces", "found", "one", "other"] ["pieces"] (defScope s_two_irons) := ⟨rfl, rfl, rfl, by decide +kernel, rfl, by decide +kernel, by decide +kernel⟩
def D_two_irons : He.DefD := ⟨("two_irons", none), "two_irons", "two_irons", defArgs s_two_irons, defBody s_two_irons, defScope s_two_irons, [], []⟩
theorem sc_check_two : FnScope ["pieces", "one", "other"] ["pieces", "one", "other"] (defScope s_check_two) := ⟨rfl, rfl, rfl, by decide +kernel, rfl, by decide +kernel, by decide +kernel⟩
def D_check_two : He.DefD := ⟨("check_two", none), "check_two", "check_two", defArgs s_check_two, defBody s_check_two, defScope s_check_two, [], []⟩
theorem sc_left_over : FnScope ["pieces", "one", "other"] ["pieces", "one", "other"] (defScope s_left_over) := ⟨rfl, rfl, rfl, by decide +kernel, rfl, by decide +kernel, by decide +kernel⟩
def D_left_over : He.DefD := ⟨("left_over", none), "left_over", "left_over", defArgs s_left_over, defBody s_left_over, defScope s_left_over, [], []⟩
theorem sc_shared_out : FnScope ["pieces", "one", "other", "every", "found", "lot", "rest", "piece"] ["pieces", "one", "other"] (defScope s_shared_out) := ⟨rfl, rfl, rfl, by decide +kernel, rfl, by decide +kernel, by decide +kernel⟩
def D_shared_out : He.DefD := ⟨("shared_out", none), "shared_out", "shared_out", defArgs s_shared_out, defBody s_shared_out, defScope s_shared_out, [], []⟩
theorem sc__law_hand : FnScope ["script", "cells", "cell"] ["script"] (defScope s__law_hand) := ⟨rfl, rfl, rfl, by decide +kernel, rfl, by decide +kernel, by decide +kernel⟩
def D__law_hand : He.DefD := ⟨("_law_hand", none), "_law_hand", "_law_hand", defArgs s__law_hand, defBody s__law_hand, defScope s__law_hand, [], []⟩
theorem sc__law_draw : FnScope ["hand", "many", "number", "cell", "digit"] ["hand", "many"] (defScope s__law_draw) := ⟨rfl, rfl, rfl, by decide +kernel, rfl, by decide +kernel, by decide +kernel⟩
def D__law_draw : He.DefD := ⟨("_law_draw", none), "_law_draw", "_law_draw", defArgs s__law_draw, defBody s__law_draw, defScope s__law_draw, [], []⟩
theorem sc__law_any : FnScope ["hand", "some"] ["hand", "some"] (defScope s__law_any) := ⟨rfl, rfl, rfl, by decide +kernel, rfl, by decide +kernel, by decide +kernel⟩
def D__law_any : He.DefD := ⟨("_law_any", none), "_law_any", "_law_any", defArgs s__law_any, defBody s__law_any, defScope s__law_any, [], []⟩
theorem sc__law_pieces : FnScope ["hand", "most", "found", "piece", "low"] ["hand", "most"] (defScope s__law_pieces) := ⟨rfl, rfl, rfl, by decide +kernel, rfl, by decide +kernel, by decide +kernel⟩
def D__law_pieces : He.DefD := ⟨("_law_pieces", none), "_law_pieces", "_law_pieces", defArgs s__law_pieces, defBody s__law_pieces, defScope s__law_pieces, [], []⟩
theorem sc__law_lots : FnScope ["some", "found", "one", "size", "lot"] ["some"] (defScope s__law_lots) := ⟨rfl, rfl, rfl, by decide +kernel, rfl, by decide +kernel, by decide +kernel⟩
def D__law_lots : He.DefD := ⟨("_law_lots", none), "_law_lots", "_law_lots", defArgs s__law_lots, defBody s__law_lots, defScope s__law_lots, [], []⟩
theorem sc__law_do_iron : FnScope ["pieces", "heats", "low", "high", "heat"] ["pieces", "heats"] (defScope s__law_do_iron) := ⟨rfl, rfl, rfl, by decide +kernel, rfl, by decide +kernel, by decide +kernel⟩
def D__law_do_iron : He.DefD := ⟨("_law_do_iron", none), "_law_do_iron", "_law_do_iron", defArgs s__law_do_iron, defBody s__law_do_iron, defScope s__law_do_iron, [], []⟩
theorem sc__law_no_pieces : FnScope ["hand", "some"] ["hand"] (defScope s__law_no_pieces) := ⟨rfl, rfl, rfl, by decide +kernel, rfl, by decide +kernel, by decide +kernel⟩
def D__law_no_pieces : He.DefD := ⟨("_law_no_pieces", none), "_law_no_pieces", "_law_no_pieces", defArgs s__law_no_pieces, defBody s__law_no_pieces, defScope s__law_no_pieces, [], []⟩
theorem sc__law_no_heat : FnScope ["hand"] ["hand"] (defScope s__law_no_heat) := ⟨rfl, rfl, rfl, by decide +kernel, rfl, by decide +kernel, by decide +kernel⟩
def D__law_no_heat : He.DefD := ⟨("_law_no_heat", none), "_law_no_heat", "_law_no_heat", defArgs s__law_no_heat, defBody s__law_no_heat, defScope s__law_no_heat, [], []⟩
theorem sc__law_word : FnScope ["call", "word", "e", "flags", "names"] ["call"] (defScope s__law_word) := ⟨rfl, rfl, rfl, by decide +kernel, rfl, by decide +kernel, by decide +kernel⟩
def D__law_word : He.DefD := ⟨("_law_word", none), "_law_word", "_law_word", defArgs s__law_word, defBody s__law_word, defScope s__law_word, [], []⟩
theorem sc_law : FnScope ["script", "hand", "turn", "a", "left", "words", "pieces", "one", "other", "n", "rows", "b", "mine", "yours", "lot", "alone", "bad", "off", "at", "both", "some", "first", "last", "pair"] ["script"] (defScope s_law) := ⟨rfl, rfl, rfl, by decide +kernel, rfl, by decide +kernel, by decide +kernel⟩
def D_law : He.DefD := ⟨("law", none), "law", "law", defArgs s_law, defBody s_law, defScope s_law, [], []⟩
def fn : List He.DefD := [D_is_integer, D_is_within, D_is_sized, D_all_lots, D_are_pieces, D_check_pieces, D_check_heat, D_raw_left, D_two_irons, D_check_two, D_left_over, D_shared_out, D__law_hand, D__law_draw, D__law_any, D__law_pieces, D__law_lots, D__law_do_iron, D__law_no_pieces, D__law_no_heat, D__law_word, D_law]
def tf : List He.Defn := [("law", none)]
abbrev hk : PySem.W.Hook := He.hookX 5 [] fn [] tf (modB P tf)
abbrev R : PySem.W.OpenRow := PySem.W.OpenLaw.row PySem.Challenge.rw_washhouse_k33_whole_two_irons
def ob (s : PySem.W.SharedT) : He.AlX := He.obsX 5 [] fn [] tf (modB P tf) (HandSHeadRun.getT s)
theorem ob_eq (s : PySem.W.SharedT) : ob s = hk.obs s.abs := He.obsX_eq (HandSHeadRun.getT_eq s)
def loose0 : List Str := ["is_integer", "is_within", "is_sized", "all_lots", "WashError", "LeftOver", "NoCount", "NoHeat", "NoPieces", "TooFew", "TooMany", "MOST_PIECES", "MOST_HEAT", "are_pieces", "check_pieces", "check_heat", "raw_left", "two_irons", "check_two", "left_over"]
def loose1 : List Str := ["shared_out", "_law_hand", "_law_draw", "_law_any", "_law_pieces", "_law_lots", "_law_do_iron", "_law_no_pieces", "_law_no_heat", "_law_word"]
def loose : List Str := (loose0 ++ loose1)
theorem run (w : World) : HandSHeadRun.RunEq R (PySem.W.view R.prog [34]) hk ob 4000 loose w := by
  intro os
  kernel_rfl
open PySem.W in
theorem at_law {w : World} {mg : Str → Option Value} {f : Addr} {h : Heap} {K : PySem.W.Frag} (X : K.In h) (G : h.Ns mainGlobals mg) (S : He.SaysX [] fn [] tf (modB P tf) w h K) (hf : mg ("law" : Str) = some (.ref f)) (hp : Pays P 30 d_law 63) :
    LamX.LawAtS PySem.Challenge.rw_washhouse_k33_whole_two_irons w K (L2.CX (PySem.Challenge.rw_washhouse_k33_whole_two_irons).prog w) 30 63 "script" mg f h := by
  have hu := uniq_of S.more
  have gd : ∀ (i : Nat) (x : Str) (d : Df), P.defs[i]? = some (x, d) → mg x = some (.ref (He.ga K x)) := fun i x d hx => glos_ok X G (gloD_of S.more) (List.mem_of_getElem? hx)
  have gl : ∀ (i : Nat) (x : Str) (d : Df), P.lams[i]? = some (x, d) → mg x = some (.ref (He.ga K x)) := fun i x d hx => glos_ok X G (gloL_of S.more) (List.mem_of_getElem? hx)
  obtain ⟨e0, F0⟩ := He.SaysD.def_ S.t.d 0 (d := D_is_integer) rfl
  obtain ⟨e1, F1⟩ := He.SaysD.def_ S.t.d 1 (d := D_is_within) rfl
  obtain ⟨e2, F2⟩ := He.SaysD.def_ S.t.d 2 (d := D_is_sized) rfl
  obtain ⟨e3, F3⟩ := He.SaysD.def_ S.t.d 3 (d := D_all_lots) rfl
  obtain ⟨e4, F4⟩ := He.SaysD.def_ S.t.d 4 (d := D_are_pieces) rfl
  obtain ⟨e5, F5⟩ := He.SaysD.def_ S.t.d 5 (d := D_check_pieces) rfl
  obtain ⟨e6, F6⟩ := He.SaysD.def_ S.t.d 6 (d := D_check_heat) rfl
  obtain ⟨e7, F7⟩ := He.SaysD.def_ S.t.d 7 (d := D_raw_left) rfl
  obtain ⟨e8, F8⟩ := He.SaysD.def_ S.t.d 8 (d := D_two_irons) rfl
  obtain ⟨e9, F9⟩ := He.SaysD.def_ S.t.d 9 (d := D_check_two) rfl
  obtain ⟨e10, F10⟩ := He.SaysD.def_ S.t.d 10 (d := D_left_over) rfl
  obtain ⟨e11, F11⟩ := He.SaysD.def_ S.t.d 11 (d := D_shared_out) rfl
  obtain ⟨e12, F12⟩ := He.SaysD.def_ S.t.d 12 (d := D__law_hand) rfl
  obtain ⟨e13, F13⟩ := He.SaysD.def_ S.t.d 13 (d := D__law_draw) rfl
  obtain ⟨e14, F14⟩ := He.SaysD.def_ S.t.d 14 (d := D__law_any) rfl
  obtain ⟨e15, F15⟩ := He.SaysD.def_ S.t.d 15 (d := D__law_pieces) rfl
  obtain ⟨e16, F16⟩ := He.SaysD.def_ S.t.d 16 (d := D__law_lots) rfl
  obtain ⟨e17, F17⟩ := He.SaysD.def_ S.t.d 17 (d := D__law_do_iron) rfl
  obtain ⟨e18, F18⟩ := He.SaysD.def_ S.t.d 18 (d := D__law_no_pieces) rfl
  obtain ⟨e19, F19⟩ := He.SaysD.def_ S.t.d 19 (d := D__law_no_heat) rfl
  obtain ⟨e20, F20⟩ := He.SaysD.def_ S.t.d 20 (d := D__law_word) rfl
  obtain ⟨e21, F21⟩ := He.SaysD.def_ S.t.d 21 (d := D_law) rfl
  have D21 : DefsOk K (ltOf K mg tf) (csOf K tf) mg [] := .nil
  have D20 := DefsOk.addF D21 (x := "law") (st := s_law) (N := ["script", "hand", "turn", "a", "left", "words", "pieces", "one", "other", "n", "rows", "b", "mine", "yours", "lot", "alone", "bad", "off", "at", "both", "some", "first", "last", "pair"]) (br := [false]) (tab := true) hu (gd 20 "law" d_law rfl) F21 (fun _ => by decide) sc_law rfl (fun _ _ _ _ _ _ us hl => match us, hl with | [_], _ => by kernel_rfl)
  have D19 := DefsOk.addF D20 (x := "_law_no_heat") (st := s__law_no_heat) (N := ["hand"]) (br := [true]) (tab := false) hu (gd 19 "_law_no_heat" d__law_no_heat rfl) F19 (fun z => by cases z) sc__law_no_heat rfl (fun _ _ _ _ _ _ us hl => match us, hl with | [_], _ => by kernel_rfl)
  have D18 := DefsOk.addF D19 (x := "_law_no_pieces") (st := s__law_no_pieces) (N := ["hand", "some"]) (br := [true]) (tab := false) hu (gd 18 "_law_no_pieces" d__law_no_pieces rfl) F18 (fun z => by cases z) sc__law_no_pieces rfl (fun _ _ _ _ _ _ us hl => match us, hl with | [_], _ => by kernel_rfl)
  have D17 := DefsOk.addF D18 (x := "_law_do_iron") (st := s__law_do_iron) (N := ["pieces", "heats", "low", "high", "heat"]) (br := [false, false]) (tab := false) hu (gd 17 "_law_do_iron" d__law_do_iron rfl) F17 (fun z => by cases z) sc__law_do_iron rfl (fun _ _ _ _ _ _ us hl => match us, hl with | [_, _], _ => by kernel_rfl)
  have D16 := DefsOk.addF D17 (x := "_law_lots") (st := s__law_lots) (N := ["some", "found", "one", "size", "lot"]) (br := [false]) (tab := false) hu (gd 16 "_law_lots" d__law_lots rfl) F16 (fun z => by cases z) sc__law_lots rfl (fun _ _ _ _ _ _ us hl => match us, hl with | [_], _ => by kernel_rfl)
  have D15 := DefsOk.addF D16 (x := "_law_pieces") (st := s__law_pieces) (N := ["hand", "most", "found", "piece", "low"]) (br := [true, false]) (tab := false) hu (gd 15 "_law_pieces" d__law_pieces rfl) F15 (fun z => by cases z) sc__law_pieces rfl (fun _ _ _ _ _ _ us hl => match us, hl with | [_, _], _ => by kernel_rfl)
  have D14 := DefsOk.addF D15 (x := "_law_any") (st := s__law_any) (N := ["hand", "some"]) (br := [true, false]) (tab := false) hu (gd 14 "_law_any" d__law_any rfl) F14 (fun z => by cases z) sc__law_any rfl (fun _ _ _ _ _ _ us hl => match us, hl with | [_, _], _ => by kernel_rfl)
  have D13 := DefsOk.addF D14 (x := "_law_draw") (st := s__law_draw) (N := ["hand", "many", "number", "cell", "digit"]) (br := [true, false]) (tab := false) hu (gd 13 "_law_draw" d__law_draw rfl) F13 (fun z => by cases z) sc__law_draw rfl (fun _ _ _ _ _ _ us hl => match us, hl with | [_, _], _ => by kernel_rfl)
  have D12 := DefsOk.addF D13 (x := "_law_hand") (st := s__law_hand) (N := ["script", "cells", "cell"]) (br := [false]) (tab := false) hu (gd 12 "_law_hand" d__law_hand rfl) F12 (fun z => by cases z) sc__law_hand rfl (fun _ _ _ _ _ _ us hl => match us, hl with | [_], _ => by kernel_rfl)
  have D11 := DefsOk.addF D12 (x := "shared_out") (st := s_shared_out) (N := ["pieces", "one", "other", "every", "found", "lot", "rest", "piece"]) (br := [false, false, false]) (tab := false) hu (gd 11 "shared_out" d_shared_out rfl) F11 (fun z => by cases z) sc_shared_out rfl (fun _ _ _ _ _ _ us hl => match us, hl with | [_, _, _], _ => by kernel_rfl)
  have D10 := DefsOk.addF D11 (x := "left_over") (st := s_left_over) (N := ["pieces", "one", "other"]) (br := [false, false, false]) (tab := false) hu (gd 10 "left_over" d_left_over rfl) F10 (fun z => by cases z) sc_left_over rfl (fun _ _ _ _ _ _ us hl => match us, hl with | [_, _, _], _ => by kernel_rfl)
  have D9 := DefsOk.addF D10 (x := "check_two") (st := s_check_two) (N := ["pieces", "one", "other"]) (br := [false, false, false]) (tab := false) hu (gd 9 "check_two" d_check_two rfl) F9 (fun z => by cases z) sc_check_two rfl (fun _ _ _ _ _ _ us hl => match us, hl with | [_, _, _], _ => by kernel_rfl)
  have D8 := DefsOk.addF D9 (x := "two_irons") (st := s_two_irons) (N := ["pieces", "found", "one", "other"]) (br := [false]) (tab := false) hu (gd 8 "two_irons" d_two_irons rfl) F8 (fun z => by cases z) sc_two_irons rfl (fun _ _ _ _ _ _ us hl => match us, hl with | [_], _ => by kernel_rfl)
  have D7 := DefsOk.addF D8 (x := "raw_left") (st := s_raw_left) (N := ["pieces", "one", "other", "piece", "low", "high"]) (br := [false, false, false]) (tab := false) hu (gd 7 "raw_left" d_raw_left rfl) F7 (fun z => by cases z) sc_raw_left rfl (fun _ _ _ _ _ _ us hl => match us, hl with | [_, _, _], _ => by kernel_rfl)
  have D6 := DefsOk.addF D7 (x := "check_heat") (st := s_check_heat) (N := ["pieces", "heat"]) (br := [false, false]) (tab := false) hu (gd 6 "check_heat" d_check_heat rfl) F6 (fun z => by cases z) sc_check_heat rfl (fun _ _ _ _ _ _ us hl => match us, hl with | [_, _], _ => by kernel_rfl)
  have D5 := DefsOk.addF D6 (x := "check_pieces") (st := s_check_pieces) (N := ["thing"]) (br := [false]) (tab := false) hu (gd 5 "check_pieces" d_check_pieces rfl) F5 (fun z => by cases z) sc_check_pieces rfl (fun _ _ _ _ _ _ us hl => match us, hl with | [_], _ => by kernel_rfl)
  have D4 := DefsOk.addF D5 (x := "are_pieces") (st := s_are_pieces) (N := ["thing", "low", "high", "piece"]) (br := [false]) (tab := false) hu (gd 4 "are_pieces" d_are_pieces rfl) F4 (fun z => by cases z) sc_are_pieces rfl (fun _ _ _ _ _ _ us hl => match us, hl with | [_], _ => by kernel_rfl)
  have D3 := DefsOk.addF D4 (x := "all_lots") (st := s_all_lots) (N := ["some", "found", "one", "size", "lot"]) (br := [false]) (tab := false) hu (gd 3 "all_lots" d_all_lots rfl) F3 (fun z => by cases z) sc_all_lots rfl (fun _ _ _ _ _ _ us hl => match us, hl with | [_], _ => by kernel_rfl)
  have D2 := DefsOk.addF D3 (x := "is_sized") (st := s_is_sized) (N := ["thing", "low", "high"]) (br := [false, false, false]) (tab := false) hu (gd 2 "is_sized" d_is_sized rfl) F2 (fun z => by cases z) sc_is_sized rfl (fun _ _ _ _ _ _ us hl => match us, hl with | [_, _, _], _ => by kernel_rfl)
  have D1 := DefsOk.addF D2 (x := "is_within") (st := s_is_within) (N := ["thing", "low", "high"]) (br := [false, false, false]) (tab := false) hu (gd 1 "is_within" d_is_within rfl) F1 (fun z => by cases z) sc_is_within rfl (fun _ _ _ _ _ _ us hl => match us, hl with | [_, _, _], _ => by kernel_rfl)
  have D0 := DefsOk.addF D1 (x := "is_integer") (st := s_is_integer) (N := ["thing"]) (br := [false]) (tab := false) hu (gd 0 "is_integer" d_is_integer rfl) F0 (fun z => by cases z) sc_is_integer rfl (fun _ _ _ _ _ _ us hl => match us, hl with | [_], _ => by kernel_rfl)
  have L1 : LamsOk K mg [] := .nil
  have L0 := LamsOk.addF L1 (x := "_law_word") (st := s__law_word) (N := ["call", "word", "e", "flags", "names"]) (br := [false]) (tab := false) (gl 0 "_law_word" d__law_word rfl) F20 sc__law_word rfl rfl (fun _ _ _ _ _ _ us hl => match us, hl with | [_], _ => by kernel_rfl)
  exact law_at (Pr := P) (st := s_law) (N := ["script", "hand", "turn", "a", "left", "words", "pieces", "one", "other", "n", "rows", "b", "mine", "yours", "lot", "alone", "bad", "off", "at", "both", "some", "first", "last", "pair"]) (tab := true) X G S D0 L0 hf (gd 20 "law" d_law rfl) F21 (fun _ => by decide) sc_law (fun _ _ _ _ _ _ us hl => match us, hl with | [_], _ => by kernel_rfl) hp
end Lw
open PySem PySem.W PySem.Calls PyProof.Rows
set_option maxRecDepth 100000 in
set_option maxHeartbeats 0 in
theorem PySem.Challenge.cw_washhouse_k33_whole_two_irons_holds : PySem.Challenge.rw_washhouse_k33_whole_two_irons.Holds := by
  w_on; o_law
  refine HandSHeadRun.head_any (r := OpenLaw.row PySem.Challenge.rw_washhouse_k33_whole_two_irons) (q := view (OpenLaw.row PySem.Challenge.rw_washhouse_k33_whole_two_irons).prog [34]) (H := Lw.hk) (ob := Lw.ob) (M := 4000) (loose := Lw.loose) (d := HandSHeadRun.topDef (OpenLaw.row PySem.Challenge.rw_washhouse_k33_whole_two_irons).prog 34) (kwd := []) Lw.ob_eq
    (by kernel_rfl) (fun s => by kernel_rfl) Lw.run (by kernel_rfl) (by kernel_rfl) (by kernel_rfl) (by rfl) (by first | assumption | decide +kernel) (by decide +kernel) ⟨rfl, rfl, rfl, rfl, rfl, by decide +kernel⟩ ?hw ?hc
  case hw => w_witness2
  case hc =>
    refine LamX.walk_ofTsE (l := PySem.Challenge.rw_washhouse_k33_whole_two_irons) (n := 63) (k := 30) (x := "script") (CX := fun w => L2.CX (PySem.Challenge.rw_washhouse_k33_whole_two_irons).prog w) rfl (by decide) (by kernel_rfl) ⟨rfl, by decide, by decide⟩ ?F (fun w H s e s' ⟨_, _, _, _, _, _, _, _, _, _, _, _, z⟩ => z)
    intro w mg fa h Y G hmg0
    obtain ⟨K, KX, c⟩ := Y
    have hmg : mg ("law" : PySem.Str) = some (.ref fa) := by
      have e : (HandSHeadRun.topDef (OpenLaw.row PySem.Challenge.rw_washhouse_k33_whole_two_irons).prog 34).name = ("law" : PySem.Str) := by kernel_rfl
      rw [← e]
      exact hmg0
    exact ⟨K, KX, Lw.at_law KX G c hmg Lw.pays⟩
end
