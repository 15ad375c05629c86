import PyProof.Rows.All
import Wide.All
import OpenK.AllK
import Wide.FinOn
import HandS.Walk
import HandS.Zip
import KE.GoesMore
import PyProof.EnumMake
import PySem.Syntax
import PySem.Eval
import PySem.PyData
import PyProof.P3Statements
import KE.DataMinMax
import KE.DataFind
import KE.DataAny
import KE.SortData
import KE.KTupSum
import HandS.ForMost
import HandS.ForExc
import HandS.IsInst
import HandS.TupAny
import HandS.TupMul
import HandS.TryMany
import HandS.Deep
import HandS.Lambda
import HandS.TupLe
import PyProof.Rows.InDataRows
import PyProof.MaxThree
import HandS.RaiseMore
import HandS.ExcIs
import HandS.Conv
import HandS.Ends
import HandS.Defaults
import HandS.Head0
import HandS.Head1
import HandS.Head2
import HandS.HeadHook1
import HandS.HeadHook2
import HandS.HeadHook3
import HandS.HeadHook4
import HandS.HeadWalk
import HandS.EndTab
import HandS.Words
import PySem.Challenge.RW_washhouse_k14_whole_rows_of_three_machin
set_option Elab.async false
set_option linter.all false
set_option maxRecDepth 100000
section
set_option maxHeartbeats 2000000
/-! EvN: enumerate of a tuple. -/
namespace PySem
open Sem (wp)
open AutoSeq1 (wpAny_loadPart')
theorem ev_enum_newT (l : Addr) (items : Array Value) (n : Nat) (dct : Option Addr) (sl : Array (Option Value)) :
    Meets (Builtin.«enumerate.__new__» ⟨[.type "enumerate", .ref l], []⟩) (fun _ R s => s.heap.get? l = some { cls := .type "tuple", dict := dct, data := .seq items n, slots := sl } ∧
      R (.ok (.ret (.ref (s.heap.push { cls := .type "tuple_iterator", data := .fields #[.ref l, .int 0 0] }).objs.size)))
        { s with heap := (s.heap.push { cls := .type "tuple_iterator", data := .fields #[.ref l, .int 0 0] }).push { cls := .type "enumerate", data := .fields #[.none, .bool false, .ref s.heap.objs.size, rawInt 0, .none, .none] } }) :=
  .of_wp fun prog w A R s h => by
    obtain ⟨hp, g, d, tk, os⟩ := s; obtain ⟨hl, h⟩ := h
    have hsub := sub_enumerate
    have hL : Heap.IsTuple (Shared.heap ⟨hp, g, d, tk, os⟩) l items := ⟨_, hl, rfl, n, rfl⟩
    wp_walk using wpAny_loadPart' hl
    refine wpAny_stack_any fun st => wpAny_pure ?_
    split
    · rename_i c _ _ _ _ _
      cases (c == Value.type "enumerate")
      · wp_walk using wpAny_loadPart' hl, wpAny_pyIter_tuple hL
        exact ⟨_, rfl, h⟩
      · wp_walk using wpAny_loadPart' hl, wpAny_pyIter_tuple hL
        exact ⟨_, rfl, h⟩
    · wp_walk using wpAny_loadPart' hl, wpAny_pyIter_tuple hL
      exact ⟨_, rfl, h⟩
section
variable {prog : Program} {w : World} {A : Around} {E : Value → Shared → Prop} {s : Shared}
theorem ev_call_enumT {l : Addr} {items : Array Value} {Q : Value → Shared → Prop} (hL : s.heap.IsTuple l items)
    (h : ∀ h', IsEnum h' (s.heap.objs.size + 1) s.heap.objs.size 0 .none → h'.IsTupleIter s.heap.objs.size l 0 → h'.objs.size = s.heap.objs.size + 2 →
      (∀ b o, s.heap.get? b = some o → h'.get? b = some o) → Q (.ref (s.heap.objs.size + 1)) { s with heap := h' }) :
    wpAny (model prog w) A (call (.type "enumerate") [.ref l]) Q E s := by
  obtain ⟨⟨c, dct, dt, sl⟩, hl, hc, n, hd⟩ := hL
  replace hc : c = .type "tuple" := hc
  replace hd : dt = .seq items n := hd
  subst hc hd
  refine callType_new F.called_enumerate (by decide) (F.typeCall_enumerate_1 _) (F.newCall_enumerate_1 _) (fun obj => F.args_object_init_2 obj _) F.entry_enumerate_new
    (ev_enum_newT l items n dct sl) ⟨hl, ?_⟩
  have hz : (s.heap.push { cls := .type "tuple_iterator", data := .fields #[.ref l, .int 0 0] }).objs.size = s.heap.objs.size + 1 := Heap.size_push ..
  show _ ∧ _
  rw [hz]
  have he : IsEnum ((s.heap.push { cls := .type "tuple_iterator", data := .fields #[.ref l, .int 0 0] }).push
      { cls := .type "enumerate", data := .fields #[.none, .bool false, .ref s.heap.objs.size, rawInt 0, .none, .none] }) (s.heap.objs.size + 1) s.heap.objs.size 0 .none := by
    have := Heap.get?_push_size (s.heap.push { cls := .type "tuple_iterator", data := .fields #[.ref l, .int 0 0] })
      (o := { cls := .type "enumerate", data := .fields #[.none, .bool false, .ref s.heap.objs.size, rawInt 0, .none, .none] }) rfl
    rw [hz] at this; exact this
  refine ⟨⟨_, he, rfl⟩, h _ he ⟨_, Heap.get?_push_of_some _ (Heap.get?_push_size _ rfl), rfl, rfl⟩ (by rw [Heap.size_push, hz]) fun b o x => Heap.get?_push_of_some _ (Heap.get?_push_of_some _ x)⟩
end
end PySem
namespace Ev
open PySem PySem.Spec PyProof.Rows L2
/-- the tuple at a, each item in a new pair -/
def IteT (K : PySem.W.Frag) (a : Addr) : It :=
  ⟨fun i H => ∃ (xs : List V) (x : V), SqT K H a xs ∧ xs[i]? = some x, fun i H v H' => ∃ T x, v = .ref T ∧ H T = none ∧ H' = upd H T (.tup [.int (i : Nat), x]) ∧ ∀ xs, SqT K H a xs → xs[i]? = some x, fun i H => ∃ xs : List V, SqT K H a xs ∧ xs.length = i⟩
theorem turn_enumT {P : Program} {w : World} {K : PySem.W.Frag} {elts : List Expr} {kk : Nat} {tpos : Pos} (a e it : Addr) (hea : e ≠ a) (hia : it ≠ a) :
    Turn P w K (.Tuple elts kk tpos) (IteT K a) [e, it] e (fun i h => (∃ old, IsEnum h e it ((i : Nat) : Int) old) ∧ h.IsTupleIter it a i ∧ e ≠ it) where
  mem := by simp
  obj := fun i h st b hb => by
    obtain ⟨⟨old, he⟩, ⟨o, ho, hc, hd⟩, _⟩ := st
    have e' : b = e ∨ b = it := by simpa using hb
    rcases e' with z | z
    · rw [z]; exact ⟨_, he, fun v q => nomatch q⟩
    · rw [z]; exact ⟨o, ho, fun v q => by rw [hd] at q; cases q⟩
  keep := fun i h h' st k => let ⟨⟨old, he⟩, hi, hne⟩ := st; ⟨⟨old, k e (by simp) _ he⟩, hi.at fun o q => k it (by simp) o q, hne⟩
  item := by
    intro X hP hw hK hc i pins s σ H E I hf st hg
    subst hP hw hK
    obtain ⟨⟨old, he⟩, hit, hne⟩ := st
    obtain ⟨xs, x, hq, hx⟩ := hg
    obtain ⟨its, rv, p, hz⟩ := I.tuple hq
    obtain ⟨u, hu, ru⟩ := rv.get hx
    have hel : e < s.heap.objs.size := Heap.lt_size he
    have hil : it < s.heap.objs.size := by obtain ⟨_, q, _⟩ := hit; exact Heap.lt_size q
    have pt : s.heap.IsTuple a its.toArray := p
    have hlt : i < its.toArray.size := by
      have := (List.getElem?_eq_some_iff.mp hu).1
      simpa using this
    refine wpAny_pyNext_enum_itemD (PySem.Draws.tuple (A := X.A.in1) (I.ok.hd hc) it a (Ne.symm hia) its.toArray) he ⟨hit, pt⟩ hlt hne (by simp [hne, hea]) fun x' h' tk hPx ho hst' hT hsz hk => ?_
    have ex : x' = u := by
      have h2 : its.toArray[i]? = some u := by simpa using hu
      rw [h2] at hPx
      exact (Option.some.inj hPx).symm
    subst ex
    refine ⟨_, rfl, wpAny_letOwnedTupleGo_enum (s := { s with heap := h', toks := tk + 1 }) ho fun h'' he' sb => ?_⟩
    have hT2 : h''.get? s.heap.objs.size = some { cls := .type "tuple", data := .seq #[.int i tk, x'] } := (sb.2 _ (Nat.ne_of_gt hel)).trans hT
    have new : ObjOk X.prog X.w (upd H s.heap.objs.size (.tup [.int (i : Nat), x])) h'' s.heap.objs.size (.tup [.int (i : Nat), x]) :=
      ⟨by show 2 ≤ sizeLine; decide, [.int i tk, x'], .cons ⟨_, rfl⟩ (.cons ru .nil), ⟨_, hT2, rfl, _, rfl⟩⟩
    have I1 : Inv X pins σ (upd H s.heap.objs.size (.tup [.int (i : Nat), x])) { s with heap := h'', toks := tk + 1 } :=
      I.turnedNew (ch := [e, it]) (fun b ob hb q => (sb.2 b (fun z => hb (by simp [z]))).trans (hk b ob (fun z => hb (by simp [z])) (fun z => hb (by simp [z])) q)) hf (Nat.le_refl _) new
    refine ⟨.ref s.heap.objs.size, _, I1, rfl, ⟨_, x, rfl, I.hok.fresh (Nat.le_refl _), rfl, fun ys hy => by rw [I.tuple_inj hy hq]; exact hx⟩, ⟨⟨x', ?_⟩, hst'.1.at fun o q => (sb.2 it (Ne.symm hne)).trans q, hne⟩, fun b hb => ?_⟩
    · have e1 : ((i + 1 : Nat) : Int) = (i : Int) + 1 := by omega
      rw [e1]; exact he'
    · have hb' : b < s.heap.objs.size := by
        have e' : b = e ∨ b = it := by simpa using hb
        rcases e' with z | z
        · rw [z]; exact hel
        · rw [z]; exact hil
      rw [upd_ne (Nat.ne_of_lt hb')]
      exact (hf b hb).1
  done := by
    intro X hP hw hK hc i pins s σ H E I hf st hg
    subst hP hw hK
    obtain ⟨⟨old, he⟩, hit, hne⟩ := st
    obtain ⟨xs, hq, hx⟩ := hg
    obtain ⟨its, rv, p, hz⟩ := I.tuple hq
    obtain ⟨f0, f1, f2, f3, f4, f5⟩ := hf it (by simp)
    have pt : s.heap.IsTuple a its.toArray := p
    have hl : i = its.toArray.size := by rw [← hx, rv.length]; simp
    subst hl
    exact wpAny_pyNext_enum_endD (PySem.Draws.tuple (A := X.A.in1) (I.ok.hd hc) it a (Ne.symm hia) its.toArray) he ⟨hit, pt⟩ fun h' eb => ⟨rfl, I.turned (t' := s.toks) (fun b o hb q => eb b o hb q) f0 f1 f3 f4 f5⟩
  self := fun A i s Q E st h => let ⟨⟨_, he⟩, _⟩ := st; wpAny_pyIter_enum he h
theorem walk_enumT {K : PySem.W.Frag} {a : Addr} {xs : List V} : Walk (IteT K a) xs.length (fun H => SqT K H a xs) (YPair (fun i => some (.int (i : Nat))) (fun i => xs[i]?)) := by
  refine ⟨fun i _ hi q => ⟨xs, xs[i], q, by simp [hi]⟩, fun _ q => ⟨xs, q, rfl⟩, fun i H v H' _ q y => ?_⟩
  obtain ⟨T, x, h1, h2, h3, h4⟩ := y
  exact ⟨T, .int (i : Nat), x, h1, h2, h3, rfl, h4 xs q⟩
/-- enumerate of a list or of a tuple -/
def iEnumA (K : PySem.W.Frag) (ta : TA) : TI := fun σ H R => ta σ H fun vs H1 => ∃ a xs, vs = [.ref a] ∧ ((SqL K H1 a xs ∧ R (Ite K a) H1) ∨ (SqT K H1 a xs ∧ R (IteT K a) H1))
theorem pi_enumA {X : Cx} {e : Expr} {ta : TA} {p pos tpos : Pos} {elts : List Expr} {kk : Nat} (hg : Gl X "enumerate") (hm : X.mg "enumerate" = none) (ha : PA X [e] ta) (hs : starEach [e] X.env = [(false, eval e X.env)] := by rfl) :
    PI X (.Tuple elts kk tpos) (.Call (.Name "enumerate" p) [e] [] pos) (iEnumA X.K ta) := by
  refine ⟨fun pins s σ H R I h => ?_⟩
  refine Call_ (ld_blt I hg hm boot_enumerate (PyProof.Rows.callWith_type1 (thn (ha.run pos pins s σ H _ I h) fun us s1 ⟨vs, H1, I1, r1, q1⟩ => ?_) hs rfl))
  obtain ⟨a, xs, ex, q⟩ := q1
  subst ex
  cases r1 with
  | cons r rr =>
    cases rr
    cases r
    have fp : ∀ b ∈ [s1.heap.objs.size + 1, s1.heap.objs.size], FpOk X pins H1 b := fun b hb => by
      have e' : b = s1.heap.objs.size + 1 ∨ b = s1.heap.objs.size := by simpa using hb
      have hle : s1.heap.objs.size ≤ b := by
        rcases e' with z | z
        · rw [z]; exact Nat.le_add_right _ _
        · rw [z]; exact Nat.le_refl _
      exact I1.fpOk hle (I1.hok.fresh hle)
    rcases q with ⟨hq, q⟩ | ⟨hq, q⟩
    · obtain ⟨its, rv, p', hz⟩ := I1.list hq
      refine call_enumerate_list p'.isList fun h' he hit hsz hk => wpAny_pyIter_enum he ?_
      have I2 : Inv X pins σ H1 { s1 with heap := h' } := I1.kept (t' := s1.toks) hk
      exact ⟨s1.heap.objs.size + 1, [s1.heap.objs.size + 1, s1.heap.objs.size], _, _, H1, rfl, I2, turn_enum a (s1.heap.objs.size + 1) s1.heap.objs.size, ⟨⟨.none, he⟩, hit, Nat.succ_ne_self _⟩, fp, q⟩
    · obtain ⟨its, rv, p', hz⟩ := I1.tuple hq
      have pt : s1.heap.IsTuple a its.toArray := p'
      have hlt : a < s1.heap.objs.size := by obtain ⟨_, q, _⟩ := pt; exact Heap.lt_size q
      refine PySem.ev_call_enumT pt fun h' he hit hsz hk => wpAny_pyIter_enum he ?_
      have I2 : Inv X pins σ H1 { s1 with heap := h' } := I1.kept (t' := s1.toks) hk
      exact ⟨s1.heap.objs.size + 1, [s1.heap.objs.size + 1, s1.heap.objs.size], _, _, H1, rfl, I2, turn_enumT a (s1.heap.objs.size + 1) s1.heap.objs.size (Nat.ne_of_gt (Nat.lt_succ_of_lt hlt)) (Nat.ne_of_gt hlt), ⟨⟨.none, he⟩, hit, Nat.succ_ne_self _⟩, fp, q⟩
end Ev
end
section
/-! EvPure: an evaluator by values for the plain part of Python that the laws and the program use. -/
namespace Ev
open PySem

abbrev D := PyData
/-- what a slot holds: an unchanging value; an own list, an own dict; a caught exception -/
structure Exc where
  cls : Str
  arg : Option (Str × D)
inductive Sv where
  | im (d : D) | ol (xs : List D) | od (kvs : List (D × D)) | ex (x : Exc)
abbrev Sl := List (Option Sv)
/-- an operand: an unchanging value, a new list or dict, a slot that holds an own one -/
inductive Op where
  | im (d : D) | tl (xs : List D) | td (kvs : List (D × D)) | bor (i : Nat)
inductive Res (α : Type) where
  | ok (a : α) (e : Sl) | er (x : Exc) (e : Sl) | bad
def Res.bind {α β : Type} (r : Res α) (f : α → Sl → Res β) : Res β :=
  match r with
  | .ok a e => f a e
  | .er x e => .er x e
  | .bad => .bad
abbrev ME := Sl → Res Op
/-- a call's end: what is returned, what the arguments hold -/
inductive CRes where
  | ok (r : Op) (fin : Sl) | er (x : Exc) (fin : Sl) | bad
inductive LRes where
  | ok (d : D) | er (x : Exc)

def gt : Sl → Nat → Option Sv
  | [], _ => none
  | x :: _, 0 => x
  | _ :: r, i + 1 => gt r i
def pt : Sl → Nat → Option Sv → Sl
  | [], _, _ => []
  | _ :: r, 0, v => v :: r
  | x :: r, i + 1, v => x :: pt r i v

def vw : Op → Sl → Option D
  | .im d, _ => some d
  | .tl xs, _ => some (.list xs)
  | .td kvs, _ => some (.dict kvs)
  | .bor i, e => match gt e i with
    | some (.im d) => some d
    | some (.ol xs) => some (.list xs)
    | some (.od kvs) => some (.dict kvs)
    | _ => none
def vws : List Op → Sl → Option (List D)
  | [], _ => some []
  | o :: os, e => match vw o e, vws os e with
    | some d, some ds => some (d :: ds)
    | _, _ => none
/-- made unchanging -/
def fzO : Op → Sl → Option (D × Sl)
  | .im d, e => some (d, e)
  | .tl xs, e => some (.list xs, e)
  | .td kvs, e => some (.dict kvs, e)
  | .bor i, e => match gt e i with
    | some (.im d) => some (d, e)
    | some (.ol xs) => some (.list xs, pt e i (some (.im (.list xs))))
    | some (.od kvs) => some (.dict kvs, pt e i (some (.im (.dict kvs))))
    | _ => none

/-! ### expressions -/
def immE (d : D) : ME := fun e => .ok (.im d) e
def badE : ME := fun _ => .bad
def varE (i : Nat) : ME := fun e => match gt e i with
  | some (.im d) => .ok (.im d) e
  | some (.ex _) => .bad
  | some _ => .ok (.bor i) e
  | none => .bad
def lift (r : Option Op) (e : Sl) : Res Op := match r with
  | some o => .ok o e
  | none => .bad
def un1 (f : D → Option Op) (a : ME) : ME := fun e => (a e).bind fun x e1 => match vw x e1 with
  | some p => lift (f p) e1
  | none => .bad
def op2 (f : D → D → Option Op) (a b : ME) : ME := fun e => (a e).bind fun x e1 => (b e1).bind fun y e2 => match vw x e2, vw y e2 with
  | some p, some q => lift (f p q) e2
  | _, _ => .bad
def tru : Op → Option Bool
  | .im (.bool b) => some b
  | _ => none
def andE : List ME → ME
  | [] => badE
  | [a] => a
  | a :: r => fun e => (a e).bind fun o e1 => match tru o with
    | some true => andE r e1
    | some false => .ok (.im (.bool false)) e1
    | none => .bad
def orE : List ME → ME
  | [] => badE
  | [a] => a
  | a :: r => fun e => (a e).bind fun o e1 => match tru o with
    | some true => .ok (.im (.bool true)) e1
    | some false => orE r e1
    | none => .bad
def notE (a : ME) : ME := fun e => (a e).bind fun o e1 => match tru o with
  | some b => .ok (.im (.bool (!b))) e1
  | none => .bad
def ifE (t a b : ME) : ME := fun e => (t e).bind fun o e1 => match tru o with
  | some true => a e1
  | some false => b e1
  | none => .bad
/-- a < b < c -/
def chainE (f g : D → D → Option Bool) (a b c : ME) : ME := fun e => (a e).bind fun x e1 => (b e1).bind fun y e2 => match vw x e2, vw y e2 with
  | some p, some q => (match f p q with
    | some true => (c e2).bind fun z e3 => (match vw y e3, vw z e3 with
      | some q', some r => (match g q' r with
        | some k => .ok (.im (.bool k)) e3
        | none => .bad)
      | _, _ => .bad)
    | some false => .ok (.im (.bool false)) e2
    | none => .bad)
  | _, _ => .bad
/-- operands made unchanging, from the left -/
def argsD : List ME → Sl → Res (List D)
  | [], e => .ok [] e
  | a :: r, e => (a e).bind fun o e1 => match fzO o e1 with
    | some (d, e2) => (argsD r e2).bind fun ds e3 => .ok (d :: ds) e3
    | none => .bad
def tupE (ms : List ME) : ME := fun e => (argsD ms e).bind fun ds e1 => .ok (.im (.tuple ds)) e1
def lstE (ms : List ME) : ME := fun e => (argsD ms e).bind fun ds e1 => .ok (.tl ds) e1
def argsO : List ME → Sl → Res (List Op)
  | [], e => .ok [] e
  | a :: r, e => (a e).bind fun o e1 => (argsO r e1).bind fun os e2 => .ok (o :: os) e2
/-- operands handed to a def; br: which may be handed as they are -/
def toPar : List Op → List Bool → Sl → Option (Sl × Sl)
  | [], [], e => some ([], e)
  | [], _ :: _, _ => none
  | .bor i :: os, b :: bs, e => (match gt e i, b with
    | some (.ol xs), true => (toPar os bs (pt e i none)).map fun r => (some (.ol xs) :: r.1, r.2)
    | some (.od kvs), true => (toPar os bs (pt e i none)).map fun r => (some (.od kvs) :: r.1, r.2)
    | _, _ => (match fzO (.bor i) e with
      | some (d, e1) => (toPar os bs e1).map fun r => (some (.im d) :: r.1, r.2)
      | none => none))
  | .im d :: os, _ :: bs, e => (toPar os bs e).map fun r => (some (.im d) :: r.1, r.2)
  | .tl xs :: os, _ :: bs, e => (toPar os bs e).map fun r => (some (.ol xs) :: r.1, r.2)
  | .td kvs :: os, _ :: bs, e => (toPar os bs e).map fun r => (some (.od kvs) :: r.1, r.2)
  | _ :: _, [], _ => none
/-- the slots handed over get back what they hold -/
def backs : List Op → Sl → Sl → Sl
  | .bor i :: os, f :: fs, e => (match gt e i with
    | none => backs os fs (pt e i f)
    | some _ => backs os fs e)
  | _ :: os, _ :: fs, e => backs os fs e
  | _, _, e => e
def callE (br : List Bool) (F : Sl → CRes) (ms : List ME) : ME := fun e => (argsO ms e).bind fun os e1 => match toPar os br e1 with
  | some (ps, e2) => (match F ps with
    | .ok r fin => .ok r (backs os fin e2)
    | .er x fin => .er x (backs os fin e2)
    | .bad => .bad)
  | none => .bad
/-- the slots in fv made unchanging, where they are none of fx -/
def frzS (fx : List Nat) : List Nat → Sl → Sl
  | [], e => e
  | i :: r, e => if fx.contains i then frzS fx r e else match gt e i with
    | some (.ol xs) => frzS fx r (pt e i (some (.im (.list xs))))
    | some (.od kvs) => frzS fx r (pt e i (some (.im (.dict kvs))))
    | _ => frzS fx r e
/-- what does not change -/
def imS : Sl → Sl
  | [] => []
  | some (.im d) :: r => some (.im d) :: imS r
  | _ :: r => none :: imS r
/-- what comes of a lambda's body -/
def lres : Res Op → Option LRes
  | .ok o e => match fzO o e with
    | some (d, _) => some (.ok d)
    | none => none
  | .er x _ => some (.er x)
  | .bad => none
/-- a lambda without parameters handed to a def that calls it -/
def lamE (fx fv : List Nat) (G : LRes → CRes) (m : ME) : ME := fun e => match lres (m (imS (frzS fx fv e))) with
  | some r => (match G r with
    | .ok (.im d) _ => .ok (.im d) (frzS fx fv e)
    | _ => .bad)
  | none => .bad

/-! ### what is walked -/
structure Itm where
  items : List D
  hid : List (Nat × Sv)
abbrev MI := Sl → Res Itm
/-- what is walked stands still from now on; a parameter's own list stands still and is not read while it is walked -/
def hideO (fx : List Nat) (o : Op) (e : Sl) : Option (D × List (Nat × Sv) × Sl) := match o with
  | .bor i => if fx.contains i then (match gt e i with
    | some (.ol xs) => some (.list xs, [(i, .ol xs)], pt e i none)
    | some (.im d) => some (d, [], e)
    | _ => none) else (fzO (.bor i) e).map fun r => (r.1, [], r.2)
  | o => (fzO o e).map fun r => (r.1, [], r.2)
def argsI (fx : List Nat) : List ME → Sl → Res (List D × List (Nat × Sv))
  | [], e => .ok ([], []) e
  | a :: r, e => (a e).bind fun o e1 => match hideO fx o e1 with
    | some (d, hs, e2) => (argsI fx r e2).bind fun p e3 => .ok (d :: p.1, hs ++ p.2) e3
    | none => .bad
def unhS : List (Nat × Sv) → Sl → Sl
  | [], e => e
  | (i, sv) :: r, e => match gt (unhS r e) i with
    | none => pt (unhS r e) i (some sv)
    | some _ => unhS r e
def itE (fx : List Nat) (f : List D → Option (List D)) (ms : List ME) : MI := fun e => (argsI fx ms e).bind fun p e1 => match f p.1 with
  | some xs => .ok ⟨xs, p.2⟩ e1
  | none => .bad

abbrev MT := D → Sl → Option Sl
/-- a comprehension: own are the slots of its own names -/
def wipeS : Sl → List Nat → Sl
  | e, [] => e
  | e, i :: is => pt (wipeS e is) i none
/-- the slots in is as they stand in e0 -/
def restS (e0 : Sl) : Sl → List Nat → Sl
  | e, [] => e
  | e, i :: is => pt (restS e0 e is) i (gt e0 i)
def sizeMax : Nat := 16777216
/-- nothing may be raised within -/
def noer {α : Type} : Res α → Res α
  | .er _ _ => .bad
  | r => r
def condE : List ME → ME
  | [] => fun e => .ok (.im (.bool true)) e
  | t :: _ => t
def compL (own : List Nat) (tg : MT) (cond elt : ME) : List D → List D → Sl → Res (List D)
  | [], acc, e => .ok acc e
  | d :: ds, acc, e => match tg d e with
    | none => .bad
    | some e1 => (noer (cond e1)).bind fun o e2 => match tru o with
      | none => .bad
      | some false => compL own tg cond elt ds acc (wipeS e2 own)
      | some true => (noer (elt e2)).bind fun y e3 => match fzO y e3 with
        | none => .bad
        | some (z, e4) => if acc.length < sizeMax then compL own tg cond elt ds (acc ++ [z]) (wipeS e4 own) else .bad
/-- the block's own names stand for unchanging values, or for nothing, ahead of it -/
def imOnly (e : Sl) (own : List Nat) : Bool := own.all fun i => match gt e i with
  | none => true
  | some (.im _) => true
  | _ => false
def compE (own : List Nat) (it : MI) (tg : MT) (cond elt : ME) : ME := fun e => (it e).bind fun m e1 =>
  if imOnly e1 own then (compL own tg cond elt m.items [] (wipeS e1 own)).bind fun acc e2 => .ok (.tl acc) (unhS m.hid (restS e1 e2 own)) else .bad

/-! ### statements -/
inductive SR where
  | nx (e : Sl) | rt (o : Op) (e : Sl) | bk (e : Sl) | ct (e : Sl) | er (x : Exc) (e : Sl) | bad
abbrev MS := Sl → SR
def SR.bind (r : SR) (f : Sl → SR) : SR := match r with
  | .nx e => f e
  | r => r
def Res.st {α : Type} (r : Res α) (f : α → Sl → SR) : SR := match r with
  | .ok a e => f a e
  | .er x e => .er x e
  | .bad => .bad
def seqS : List MS → MS
  | [] => fun e => .nx e
  | [a] => a
  | a :: r => fun e => (a e).bind (seqS r)
def badS : MS := fun _ => .bad
def retS (a : ME) : MS := fun e => (a e).st fun o e1 => .rt o e1
def retN : MS := fun e => .rt (.im .none) e
def exprS (a : ME) : MS := fun e => (a e).st fun _ e1 => .nx e1
def ifS (t : ME) (a b : MS) : MS := fun e => (t e).st fun o e1 => match tru o with
  | some true => a e1
  | some false => b e1
  | none => .bad
abbrev MG := Op → Sl → Option Sl
/-- a slot stored: fx are those that may not be -/
def stS (fx : List Nat) (i : Nat) (v : Sv) (e : Sl) : Option Sl := if fx.contains i then none else some (pt e i (some v))
def nameG (fx : List Nat) (i : Nat) : MG := fun o e => match o with
  | .im d => stS fx i (.im d) e
  | .tl xs => stS fx i (.ol xs) e
  | .td kvs => stS fx i (.od kvs) e
  | .bor _ => (match fzO o e with
    | some (d, e1) => stS fx i (.im d) e1
    | none => none)
def nameT (fx : List Nat) (i : Nat) : MT := fun d e => stS fx i (.im d) e
def tupT : List MT → List D → Sl → Option Sl
  | [], [], e => some e
  | t :: ts, d :: ds, e => (match t d e with
    | some e1 => tupT ts ds e1
    | none => none)
  | _, _, _ => none
def unpT (ts : List MT) : MT := fun d e => match d with
  | .tuple ds => tupT ts ds e
  | _ => none
def asgS (g : MG) (a : ME) : MS := fun e => (a e).st fun o e1 => match g o e1 with
  | some e2 => .nx e2
  | none => .bad
/-- a value stored to a target that is no name -/
def asgT (t : MT) (a : ME) : MS := fun e => (a e).st fun o e1 => match fzO o e1 with
  | some (d, e2) => (match t d e2 with
    | some e3 => .nx e3
    | none => .bad)
  | none => .bad
/-- the last is stored first -/
def parG : List MG → List Op → Sl → Option Sl
  | [], [], e => some e
  | g :: gs, o :: os, e => (match parG gs os e with
    | some e1 => g o e1
    | none => none)
  | _, _, _ => none
/-- a, b = x, y; operands that are slots are made unchanging first -/
def argsP : List ME → Sl → Res (List Op)
  | [], e => .ok [] e
  | a :: r, e => (a e).bind fun o e1 => match o with
    | .bor i => (match fzO (.bor i) e1 with
      | some (d, e2) => (argsP r e2).bind fun os e3 => .ok (.im d :: os) e3
      | none => .bad)
    | o => (argsP r e1).bind fun os e3 => .ok (o :: os) e3
def parS (gs : List MG) (as : List ME) : MS := fun e => (argsP as e).st fun os e1 => match parG gs os e1 with
  | some e2 => .nx e2
  | none => .bad
def forL (tg : MT) (body : MS) : List D → MS
  | [], e => .nx e
  | d :: ds, e => match tg d e with
    | none => .bad
    | some e1 => (match body e1 with
      | .nx e2 => forL tg body ds e2
      | .ct e2 => forL tg body ds e2
      | r => r)
def endL (f : Sl → Sl) : SR → SR
  | .nx e => .nx (f e)
  | .bk e => .nx (f e)
  | .rt o e => .rt o (f e)
  | .er x e => .er x (f e)
  | r => r
def forS (it : MI) (tg : MT) (body : MS) : MS := fun e => (it e).st fun m e1 => endL (unhS m.hid) (forL tg body m.items e1)
def whL (t : ME) (body : MS) : Nat → MS
  | 0, _ => .bad
  | w + 1, e => (t e).st fun o e1 => match tru o with
    | some true => (match body e1 with
      | .nx e2 => whL t body w e2
      | .ct e2 => whL t body w e2
      | .bk e2 => .nx e2
      | r => r)
    | some false => .nx e1
    | none => .bad
/-- raise C(..) -/
def raiseS (C : Str) : MS := fun e => .er ⟨C, none⟩ e
def raiseS1 (C f : Str) (a : ME) : MS := fun e => (a e).st fun o e1 => match fzO o e1 with
  | some (d, e2) => .er ⟨C, some (f, d)⟩ e2
  | none => .bad
def endT (f : Sl → Sl) : SR → SR
  | .nx e => .nx (f e)
  | .bk e => .bk (f e)
  | .ct e => .ct (f e)
  | .rt o e => .rt o (f e)
  | .er x e => .er x (f e)
  | .bad => .bad
/-- what is held is let go -/
def noEx : Sl → Sl
  | [] => []
  | some (.ex _) :: r => none :: noEx r
  | x :: r => x :: noEx r
/-- the clauses: of which class, under which name, what then (nothing is known of the slots) -/
def tryH (sub : Str → Str → Option Bool) (x : Exc) (n : Nat) : List (Str × Nat × MS) → SR
  | [] => .bad
  | (C, j, m) :: r => match sub x.cls C with
    | some true => endT (fun e' => pt (noEx e') j none) (m (pt (List.replicate n none) j (some (.ex x))))
    | some false => tryH sub x n r
    | none => .bad
/-- try: call() or return call() -/
def tryS (n : Nat) (ret : Bool) (r : LRes) (sub : Str → Str → Option Bool) (hs : List (Str × Nat × MS)) : MS := fun e => match r with
  | .ok d => if ret then .rt (.im d) (imS e) else .nx (imS e)
  | .er x => tryH sub x n hs
/-- isinstance(e, C), e.f of what is held -/
def isxE (sub : Str → Str → Option Bool) (C : Str) (i : Nat) : ME := fun e => match gt e i with
  | some (.ex ⟨cl, none⟩) => (match sub cl C with
    | some b => .ok (.im (.bool b)) e
    | none => .bad)
  | _ => .bad
def fldE (f : Str) (i : Nat) : ME := fun e => match gt e i with
  | some (.ex ⟨_, some (g, d)⟩) => if f = g then .ok (.im d) e else .bad
  | _ => .bad
/-! ### stores into an own list or dict -/
def isOl : Option Sv → Bool
  | some (.ol _) => true
  | _ => false
def mutE (i : Nat) (f : List D → List D → Option (D × List D)) (ms : List ME) : ME := fun e => if isOl (gt e i) then (argsD ms e).bind fun ds e1 => match gt e1 i with
  | some (.ol xs) => (match f xs ds with
    | some (r, ys) => .ok (.im r) (pt e1 i (some (.ol ys)))
    | none => .bad)
  | _ => .bad else .bad
def setiS (i : Nat) (f : List D → D → D → Option (List D)) (ix v : ME) : MS := fun e => (v e).st fun o e1 => match fzO o e1 with
  | some (d, e2) => if isOl (gt e2 i) then (ix e2).st fun p e3 => (match vw p e3, gt e3 i with
    | some k, some (.ol xs) => (match f xs k d with
      | some ys => .nx (pt e3 i (some (.ol ys)))
      | none => .bad)
    | _, _ => .bad) else .bad
  | none => .bad
def keyB : D → Bool
  | .int _ => true
  | .str _ => true
  | _ => false
/-- {k: v} -/
def dct1E (k v : ME) : ME := fun e => (k e).bind fun o e1 => match fzO o e1 with
  | some (dk, e2) => (v e2).bind fun y e3 => (match fzO y e3 with
    | some (dv, e4) => if keyB dk then .ok (.td [(dk, dv)]) e4 else .bad
    | none => .bad)
  | none => .bad
/-- o.m(a) of a list -/
def metE (f : List D → D → Option Op) (a b : ME) : ME := fun e => (a e).bind fun x e1 => match vw x e1 with
  | some (.list _) => (b e1).bind fun y e2 => (match vw x e2, vw y e2 with
    | some (.list xs), some q => lift (f xs q) e2
    | _, _ => .bad)
  | _ => .bad
/-! ### what the built-ins do -/
def imB (b : Bool) : Option Op := some (.im (.bool b))
def imI (i : Int) : Option Op := some (.im (.int i))
def maxDepth : Nat := 60
def shp (d : D) : Bool := PyData.plain d && decide (PyData.depth d ≤ maxDepth)
def eqD (p q : D) : Option Bool := if shp p && shp q then some (PyData.eqv p q) else none
def isNone : D → Bool
  | .none => true
  | _ => false
def ltD (p q : D) : Option Bool := if PySem.W.alike p q && !isNone p && shp p && shp q then some (PySem.W.dataLt p q) else none
def leD (p q : D) : Option Bool := if PySem.W.alike p q && !isNone p && shp p && shp q then some (!PySem.W.dataLt q p) else none
def isD (p q : D) : Option Bool := match p, q with
  | p, .none => some (isNone p)
  | .bool a, .bool b => some (decide (a = b))
  | _, _ => none
def dictGet (k : D) : List (D × D) → Option D
  | [] => none
  | (a, v) :: r => if PyData.eqv a k then some v else dictGet k r
def dictPut (k v : D) : List (D × D) → List (D × D)
  | [] => [(k, v)]
  | (a, w) :: r => if PyData.eqv a k then (a, v) :: r else (a, w) :: dictPut k v r
def inD (x : D) : D → Option Bool
  | .list ds => if shp x && shp (.list ds) then some (ds.any fun z => PyData.eqv z x) else none
  | .tuple ds => if shp x && shp (.tuple ds) then some (ds.any fun z => PyData.eqv z x) else none
  | _ => none
def cmpD (op : CmpOp) (p q : D) : Option Bool := match op with
  | .Eq => eqD p q
  | .NotEq => (eqD p q).map (!·)
  | .Lt => ltD p q
  | .LtE => leD p q
  | .Gt => ltD q p
  | .GtE => leD q p
  | .Is => isD p q
  | .IsNot => (isD p q).map (!·)
  | .In => inD p q
  | .NotIn => (inD p q).map (!·)
def small64 (i : Int) : Bool := decide (-(2 ^ 64) < i) && decide (i < 2 ^ 64)
def binD (op : Operator) (p q : D) : Option Op := match op, p, q with
  | .Add, .int i, .int j => imI (i + j)
  | .Add, .tuple xs, .tuple ys => if xs.length + ys.length ≤ sizeMax then some (.im (.tuple (xs ++ ys))) else none
  | .Add, .list xs, .list ys => if xs.length + ys.length ≤ sizeMax then some (.tl (xs ++ ys)) else none
  | .Sub, .int i, .int j => imI (i - j)
  | .Mult, .int i, .int j => if small64 i || small64 j then imI (i * j) else none
  | .Mult, .tuple xs, .int k => if decide (0 ≤ k) && decide (k ≤ 1000) && decide (xs.length ≤ 1000) then some (.im (.tuple (List.replicate k.toNat xs).flatten)) else none
  | .Mult, .list xs, .int k => if decide (0 ≤ k) && decide (k ≤ 1000) && decide (xs.length ≤ 1000) then some (.tl (List.replicate k.toNat xs).flatten) else none
  | .FloorDiv, .int i, .int j => if decide (j ≠ 0) && decide (j.natAbs < 1073741824) then imI (i.fdiv j) else none
  | .Mod, .int i, .int j => if decide (j ≠ 0) then imI (i.fmod j) else none
  | .Pow, .int i, .int j => if decide (0 ≤ j) && decide (j ≤ 1000000) && decide (i.natAbs < 2 ^ 64) then imI (i ^ j.toNat) else none
  | .LShift, .int i, .int j => if decide (0 ≤ j) && decide (j ≤ 1000000) && decide (i.natAbs < 2 ^ 64) then imI (i * 2 ^ j.toNat) else none
  | _, _, _ => none
/-- op= at a name: numbers -/
def augD (op : Operator) (p q : D) : Option Op := match op, p, q with
  | .Add, .int i, .int j => imI (i + j)
  | .Sub, .int i, .int j => imI (i - j)
  | _, _, _ => none
def negD : D → Option Op
  | .int i => imI (-i)
  | _ => none
/-- the place that i names in n items -/
def ixD (n : Nat) (i : Int) : Option Nat := if 0 ≤ i then (if i < n then some i.toNat else none) else if -(n : Int) ≤ i then some (i + n).toNat else none
def subD (p q : D) : Option Op := match p, q with
  | .tuple xs, .int i => (match ixD xs.length i with
    | some j => (xs[j]?).map Op.im
    | none => none)
  | .list xs, .int i => (match ixD xs.length i with
    | some j => (xs[j]?).map Op.im
    | none => none)
  | _, _ => none
/-- an end of a slice -/
def cutI (n : Nat) (dflt : Nat) : Option Int → Nat
  | none => dflt
  | some v => if v < 0 then (v + (n : Int)).toNat else min v.toNat n
def cutL (xs : List D) (lo hi : Option Int) : List D := (xs.drop (cutI xs.length 0 lo)).take (cutI xs.length xs.length hi - cutI xs.length 0 lo)
def sliD (p : D) (lo hi : Option Int) : Option Op := match p with
  | .tuple xs => some (.im (.tuple (cutL xs lo hi)))
  | .list xs => some (.tl (cutL xs lo hi))
  | .dict [(.none, .list xs)] => some (.tl (cutL xs lo hi))
  | _ => none
def optE : Option ME → Sl → Res (Option Int)
  | none, e => .ok none e
  | some a, e => (a e).bind fun o e1 => match o with
    | .im (.int i) => .ok (some i) e1
    | _ => .bad
def sliE (a : ME) (lo hi : Option ME) : ME := fun e => (a e).bind fun o e1 => (optE lo e1).bind fun l e2 => (optE hi e2).bind fun h e3 =>
  match vw o e3 with
  | some p => lift (sliD p l h) e3
  | none => .bad
def intsD : List D → Option (List Int)
  | [] => some []
  | .int i :: r => (intsD r).map (i :: ·)
  | _ => none
def boolsD : List D → Option (List Bool)
  | [] => some []
  | .bool i :: r => (boolsD r).map (i :: ·)
  | _ => none
def seqD : D → Option (List D)
  | .list xs => some xs
  | .tuple xs => some xs
  | _ => none
/-- all of one kind, so that they can be ordered -/
def alikeB (xs : List D) : Bool := xs.all (fun x => xs.all fun y => PySem.W.alike x y) && xs.all (fun x => !isNone x)
def shps (xs : List D) : Bool := PyData.plainAll xs && decide (PyData.depthAll xs ≤ maxDepth)
def sortB (xs : List D) : Bool := xs.all (fun x => match x with | .tuple (_ :: _) => true | _ => false) || xs.all (fun x => match x with | .tuple _ => false | .none => false | _ => true)
def leB (x y : D) : Bool := !PySem.W.dataLt y x
inductive Bl where
  | len | sum | max | min | any | all | tuple | list | abs | int | sorted
def bltOf (f : Str) : Option Bl :=
  if f = "len" then some .len else if f = "sum" then some .sum else if f = "max" then some .max else if f = "min" then some .min else if f = "any" then some .any else if f = "all" then some .all
  else if f = "tuple" then some .tuple else if f = "list" then some .list else if f = "abs" then some .abs else if f = "int" then some .int else if f = "sorted" then some .sorted else none
def bltD : Bl → List D → Option Op
  | .len, [.tuple xs] => imI xs.length
  | .len, [.list xs] => imI xs.length
  | .sum, [p] => (match seqD p with
    | some xs => (match intsD xs with | some ns => imI ns.sum | none => none)
    | none => none)
  | .max, [p] => (match seqD p with
    | some (x :: xs) => if alikeB (x :: xs) && shps (x :: xs) then some (.im (PySem.W.maxD x xs)) else none
    | _ => none)
  | .min, [p] => (match seqD p with
    | some (x :: xs) => if alikeB (x :: xs) && shps (x :: xs) then some (.im (PySem.W.minD x xs)) else none
    | _ => none)
  | .sorted, [.list xs] => if alikeB xs && shps xs && sortB xs && decide (xs.length ≤ sizeMax) then some (.tl (xs.mergeSort leB)) else none
  | .sorted, [.tuple xs] => if alikeB xs && shps xs && sortB xs && decide (xs.length ≤ sizeMax) then some (.tl (xs.mergeSort leB)) else none
  | .max, [.int i, .int j] => imI (if j > i then j else i)
  | .min, [.int i, .int j] => imI (if j < i then j else i)
  | .max, [.int i, .int j, .int k] => imI (if j > i then (if k > j then k else j) else (if k > i then k else i))
  | .any, [.list xs] => (match boolsD xs with | some bs => imB (bs.any id) | none => none)
  | .all, [.list xs] => (match boolsD xs with | some bs => imB (bs.all id) | none => none)
  | .tuple, [p] => (match seqD p with | some xs => some (.im (.tuple xs)) | none => none)
  | .list, [p] => (match seqD p with | some xs => some (.tl xs) | none => none)
  | .abs, [.int i] => imI (if i < 0 then -i else i)
  | .int, [.int i] => imI i
  | _, _ => none
def cntD (xs : List D) (q : D) : Option Op := if shps xs && shp q then imI (xs.countP fun y => PyData.eqv y q) else none
def idxD (xs : List D) (q : D) : Option Op := if shps xs && shp q && decide (xs.length ≤ sizeMax) then (match xs.findIdx? fun y => PyData.eqv y q with
  | some j => imI j
  | none => none) else none
def bltE (F : List D → Option Op) (ms : List ME) : ME := fun e => (argsO ms e).bind fun os e1 => match vws os e1 with
  | some ds => lift (F ds) e1
  | none => .bad
/-- of which built-in class a value is -/
inductive Ty where
  | int | bool | str | tuple | list | dict
  deriving DecidableEq
def tyOf (t : Str) : Option Ty :=
  if t = "int" then some .int else if t = "bool" then some .bool else if t = "str" then some .str else if t = "tuple" then some .tuple else if t = "list" then some .list else if t = "dict" then some .dict else none
def tyD : D → Ty → Option Bool
  | .none, _ => some false
  | .bool _, t => some (decide (t = .bool) || decide (t = .int))
  | .int _, t => some (decide (t = .int))
  | .str _, t => some (decide (t = .str))
  | .list _, t => some (decide (t = .list))
  | .tuple _, t => some (decide (t = .tuple))
  | .dict [(.none, _)], _ => none
  | .dict _, t => some (decide (t = .dict))
/-- of one of several -/
def tyDs (d : D) : List Ty → Option Bool
  | [] => some false
  | t :: r => match tyD d t with
    | some true => some true
    | some false => tyDs d r
    | none => none
def isiE (t : Ty) (a : ME) : ME := un1 (fun d => (tyD d t).bind imB) a
def isisE (ts : List Ty) (a : ME) : ME := un1 (fun d => (tyDs d ts).bind imB) a

/-! ### the evaluator: n bounds the syntax tree's depth; nothing where the text is not of the kind that is covered -/
structure Cfg where
  N : List Str
  fx : List Nat
  W : Nat
  fns : Str → Option (List Bool × (Sl → CRes))
  lam : Str → Option (LRes → CRes)
  clo : Option LRes
  cst : Str → Option D
  exs : Str → Bool
  sub : Str → Str → Option Bool
  calm : Bool
  hot : Bool
  tab : Bool
  fns2 : Str → Option (List Bool × (Sl → CRes))
def o1 {α β : Type} (f : α → β) : Option α → Option β
  | some a => some (f a)
  | none => none
def o2 {α β γ : Type} (f : α → β → γ) : Option α → Option β → Option γ
  | some a, some b => some (f a b)
  | _, _ => none
def o3 {α β γ δ : Type} (f : α → β → γ → δ) : Option α → Option β → Option γ → Option δ
  | some a, some b, some c => some (f a b c)
  | _, _, _ => none
def allO {α : Type} : List (Option α) → Option (List α)
  | [] => some []
  | a :: r => o2 (fun x xs => x :: xs) a (allO r)
/-- a part that may be left out -/
def oo {α : Type} : Option (Option α) → Option (Option α)
  | none => some none
  | some none => none
  | some (some a) => some (some a)
def iff {α : Type} (b : Bool) (r : Option α) : Option α := if b then r else none
def visB (sc : Scope) (x : Str) : Bool := match sc.names.lookup x with
  | some .local => true
  | some .cell => true
  | some .free => true
  | _ => false
def locB (sc : Scope) (x : Str) : Bool := match sc.names.lookup x with
  | some .local => true
  | some .cell => true
  | _ => false
def glB (sc : Scope) (x : Str) : Bool := (match sc.names.lookup x with
  | some .globalImplicit => true
  | _ => false) && !(x == ("__debug__" : Str)) && !(x == ("__name__" : Str))
def isStar : Expr → Bool
  | .Starred .. => true
  | _ => false
def noStar (es : List Expr) : Bool := es.all fun e => !isStar e
def ixN : List Str → Str → Option Nat
  | [], _ => none
  | x :: r, y => if x = y then some 0 else (ixN r y).map (· + 1)
def ixNs (N : List Str) : List Str → Option (List Nat)
  | [] => some []
  | x :: r => match ixN N x, ixNs N r with
    | some i, some is => some (i :: is)
    | _, _ => none
/-- the names of a target -/
def tgN : Nat → Expr → List Str
  | 0, _ => []
  | n + 1, .Name x _ => [x]
  | n + 1, .Tuple es _ _ => (es.map (tgN n)).flatten
  | _ + 1, _ => []
def tgE : Nat → Scope → Cfg → Expr → Option MT
  | 0, _, _, _ => none
  | n + 1, sc, c, e => match e with
    | .Name x _ => iff (locB sc x) (o1 (nameT c.fx) (ixN c.N x))
    | .Tuple es _ _ => iff (noStar es) (o1 unpT (allO (es.map (tgE n sc c))))
    | _ => none
def appF (xs : List D) (ds : List D) : Option (D × List D) := match ds with
  | [d] => if xs.length < sizeMax then some (.none, xs ++ [d]) else none
  | _ => none
def extF (xs : List D) (ds : List D) : Option (D × List D) := match ds with
  | [.list ys] => if xs.length + ys.length ≤ sizeMax then some (.none, xs ++ ys) else none
  | _ => none
def popF (xs : List D) (ds : List D) : Option (D × List D) := match ds with
  | [.int i] => if decide (-(2 ^ 62) ≤ i) && decide (i < 2 ^ 62) then (match ixD xs.length i with
    | some k => (xs[k]?).map fun d => (d, xs.eraseIdx k)
    | none => none) else none
  | _ => none
inductive Mt where
  | append | extend | pop
def mtOf (m : Str) : Option Mt := if m = "append" then some .append else if m = "extend" then some .extend else if m = "pop" then some .pop else none
def mtF : Mt → List D → List D → Option (D × List D)
  | .append => appF
  | .extend => extF
  | .pop => popF
def setF (xs : List D) (k d : D) : Option (List D) := match k with
  | .int i => (ixD xs.length i).map fun j => xs.set j d
  | _ => none
def enumI : Int → List D → List D
  | _, [] => []
  | i, d :: r => .tuple [.int i, d] :: enumI (i + 1) r
def zipI : List D → List D → List D
  | a :: as, b :: bs => .tuple [a, b] :: zipI as bs
  | _, _ => []
def rangeI (lo : Int) : Nat → List D
  | 0 => []
  | n + 1 => .int lo :: rangeI (lo + 1) n
def rngB (i : Int) : Bool := decide (-(2 ^ 62) ≤ i) && decide (i < 2 ^ 62)
def rangeF1 : List D → Option (List D)
  | [.int n] => if rngB n then some (rangeI 0 n.toNat) else none
  | _ => none
def rangeF2 : List D → Option (List D)
  | [.int a, .int b] => if rngB a && rngB b then some (rangeI a (b - a).toNat) else none
  | _ => none
def enumF : List D → Option (List D)
  | [.list xs] => some (enumI 0 xs)
  | [.tuple xs] => some (enumI 0 xs)
  | _ => none
def zipF : List D → Option (List D)
  | [.list xs, .list ys] => some (zipI xs ys)
  | [.tuple xs, .tuple ys] => some (zipI xs ys)
  | _ => none
def seqF : List D → Option (List D)
  | [p] => seqD p
  | _ => none
def isTup : Expr → Bool
  | .Tuple .. => true
  | _ => false
def isSet : Expr → Bool
  | .Set .. => true
  | _ => false
/-- what is walked; tup: the target is a tuple -/
def evI (sc : Scope) (fx : List Nat) (tup : Bool) (ev : Expr → Option ME) (it : Expr) : Option MI := match it with
  | .Call (.Name f _) as [] _ => if f = "range" then iff (glB sc f && noStar as) (match as with
    | [a] => o1 (fun m => itE fx rangeF1 [m]) (ev a)
    | [a, b] => o2 (fun m m' => itE fx rangeF2 [m, m']) (ev a) (ev b)
    | _ => none)
    else if f = "enumerate" then iff (glB sc f && noStar as && tup) (match as with
    | [a] => o1 (fun m => itE fx enumF [m]) (ev a)
    | _ => none)
    else if f = "zip" then iff (glB sc f && noStar as && tup) (match as with
    | [a, b] => o2 (fun m m' => itE fx zipF [m, m']) (ev a) (ev b)
    | _ => none) else o1 (fun m => itE fx seqF [m]) (ev it)
  | e => iff (!isSet e) (o1 (fun m => itE fx seqF [m]) (ev it))
/-- the names of a comprehension's block -/
def blkB (N : List Str) (sc scope : Scope) (own : List (Str × Nat)) : Bool :=
  (match scope.kind with | .function => true | _ => false) && (scope.names.all fun y => decide (scope.names.lookup y.1 = some y.2)) && (own.all fun p => decide (N[p.2]? = some p.1)) &&
    (scope.names.all fun y => match y.2 with
      | .free => (match sc.names.lookup y.1 with | some .cell => true | some .free => true | _ => false)
      | .local => decide (y.1 ∈ own.map (·.1)) || decide (y.1 ∉ N)
      | .cell => decide (y.1 ∈ own.map (·.1)) || decide (y.1 ∉ N)
      | _ => true)
/-- a block's scope as it runs: what is free there and a cell around is a cell -/
def relB (scope sc : Scope) : Scope :=
  { scope with names := scope.names.map fun (n, k) => if (k == .free && sc.kind == .function && sc.names.lookup n == some .cell) then (n, .cell) else (n, k) }
/-- the types that a tuple of names names -/
def tysOf : List Expr → Option (List Ty)
  | [] => some []
  | .Name t _ :: r => o2 (fun x xs => x :: xs) (tyOf t) (tysOf r)
  | _ :: _ => none
def glBs (sc : Scope) : List Expr → Bool
  | [] => true
  | .Name t _ :: r => glB sc t && glBs sc r
  | _ :: _ => false
/-- a lambda's names: captured ones and globals -/
def lamB (sc scope : Scope) : Bool :=
  decide (scope.kind = .function) && !scope.isCoroutine && !scope.isGenerator && scope.names.all fun y => !decide (y.2 = .local) && !decide (y.2 = .cell) && (!decide (y.2 = .free) || decide (sc.names.lookup y.1 = some .cell) || decide (sc.names.lookup y.1 = some .free))
def noPar (p : Arguments) : Bool := p.posonlyargs.isEmpty && p.args.isEmpty && p.vararg.isNone && p.kwonlyargs.isEmpty && p.kw_defaults.isEmpty && p.kwarg.isNone && p.defaults.isEmpty
def freesOf (N : List Str) (scope : Scope) : List Nat := scope.names.filterMap fun y => if y.2 = .free then ixN N y.1 else none
def isCall : Expr → Bool
  | .Call .. => true
  | _ => false
/-- list(range(..)), tuple(range(..)): which, the range's arguments -/
def rngArg (f : Str) : List Expr → Option (Bool × List Expr)
  | [.Call (.Name r _) rs [] _] => if r = "range" then (if f = "list" then some (false, rs) else if f = "tuple" then some (true, rs) else none) else none
  | _ => none
def rngOk (a b : Int) : Bool := rngB a && rngB b && decide ((b - a).toNat ≤ 2 ^ 24)
def rngO (t : Bool) (xs : List D) : Op := if t then .im (.tuple xs) else .tl xs
def rngD (t : Bool) : List D → Option Op
  | [.int n] => if rngOk 0 n then some (rngO t (rangeI 0 (n - 0).toNat)) else none
  | [.int a, .int b] => if rngOk a b then some (rngO t (rangeI a (b - a).toNat)) else none
  | _ => none
inductive Vm where
  | count | index
def vmOf (m : Str) : Option Vm := if m = "count" then some .count else if m = "index" then some .index else none
def vmF : Vm → List D → D → Option Op
  | .count => cntD
  | .index => idxD
def evE : Nat → Scope → Cfg → Expr → Option ME
  | 0, _, _, _ => none
  | n + 1, sc, c, e => match e with
    | .Constant (.int i) _ _ => some (immE (.int i))
    | .Constant (.bool b) _ _ => some (immE (.bool b))
    | .Constant .none _ _ => some (immE .none)
    | .Constant (.str s) _ _ => some (immE (.str s))
    | .Name x _ => iff (!(x == ("__debug__" : Str)) && !(x == ("__classdict__" : Str))) (match ixN c.N x with
      | some i => iff (visB sc x) (some (varE i))
      | none => iff (glB sc x) (o1 immE (c.cst x)))
    | .BinOp a op b _ => o2 (op2 (binD op)) (evE n sc c a) (evE n sc c b)
    | .UnaryOp .Not a _ => o1 notE (evE n sc c a)
    | .UnaryOp .USub a _ => o1 (un1 negD) (evE n sc c a)
    | .BoolOp .And es _ => o1 andE (allO (es.map (evE n sc c)))
    | .BoolOp .Or es _ => o1 orE (allO (es.map (evE n sc c)))
    | .IfExp t a b _ => o3 ifE (evE n sc c t) (evE n sc c a) (evE n sc c b)
    | .Compare a [op] [b] _ => iff (!behindInMarks op b) (o2 (op2 fun p q => (cmpD op p q).bind imB) (evE n sc c a) (evE n sc c b))
    | .Compare a [op, op'] [b, d] _ => iff (!lastMarks [op, op'] [b, d]) (o3 (chainE (cmpD op) (cmpD op')) (evE n sc c a) (evE n sc c b) (evE n sc c d))
    | .Tuple es _ _ => iff (noStar es && decide (es.length ≤ sizeMax)) (o1 tupE (allO (es.map (evE n sc c))))
    | .List es _ => iff (noStar es && decide (es.length ≤ sizeMax)) (o1 lstE (allO (es.map (evE n sc c))))
    | .Subscript a (.Slice lo hi none _) _ => o3 sliE (evE n sc c a) (oo (lo.map (evE n sc c))) (oo (hi.map (evE n sc c)))
    | .Subscript a i _ => o2 (op2 subD) (evE n sc c a) (evE n sc c i)
    | .ListComp elt [⟨tg, it, ifs, 0⟩] scope _ => (match ixNs c.N (tgN n tg) with
      | some own => iff (c.calm && blkB c.N sc scope ((tgN n tg).zip own) && !isSet it && decide (ifs.length ≤ 1)) (match evI sc c.fx (isTup tg) (evE n sc c) it, tgE n scope c tg, allO (ifs.map (evE n (relB scope sc) c)), evE n (relB scope sc) c elt with
        | some m, some t, some cs, some x => some (compE own m t (condE cs) x)
        | _, _, _, _ => none)
      | none => none)
    | .Dict [] [] _ => some fun e => .ok (.td []) e
    | .Dict [some x] [y] _ => o2 dct1E (evE n sc c x) (evE n sc c y)
    | .Attribute (.Name _ _) _ _ => iff c.hot (some badE)
    | .Call (.Name g _) [.Lambda params body scope _] [] _ => iff (c.calm && glB sc g && c.tab && noPar params && lamB sc scope) (o2 (lamE c.fx (freesOf c.N scope)) (c.lam g) (evE n scope { c with fns := c.fns2, fns2 := fun _ => none, lam := fun _ => none, tab := false, calm := true, hot := false } body))
    | .Call (.Name f _) as [] _ => iff (glB sc f && noStar as) (match rngArg f as with
      | some (t, rs) => iff (c.calm && glB sc "range" && noStar rs) (match rs with
        | [a] => o1 (fun m => bltE (rngD t) [m]) (evE n sc c a)
        | [a, b] => o2 (fun m m' => bltE (rngD t) [m, m']) (evE n sc c a) (evE n sc c b)
        | _ => none)
      | none => if f = "isinstance" then (match as with
      | [.Name x _, .Name t _] => (match tyOf t with
        | some ty => iff (glB sc t) (o1 (isiE ty) (evE n sc c (.Name x ⟨0, 0, 0, 0⟩)))
        | none => iff (c.hot && visB sc x && glB sc t && !(x == ("__debug__" : Str)) && !(x == ("__classdict__" : Str))) (o1 (isxE c.sub t) (ixN c.N x)))
      | [a, .Name t _] => iff (glB sc t) (o2 isiE (tyOf t) (evE n sc c a))
      | [a, .Tuple ts _ _] => iff (glBs sc ts && decide (ts ≠ []) && decide (ts.length ≤ sizeMax)) (o2 isisE (tysOf ts) (evE n sc c a))
      | _ => none) else (match bltOf f with
      | some b => iff (c.calm && decide (as ≠ [])) (o1 (bltE (bltD b)) (allO (as.map (evE n sc c))))
      | none => (match c.fns f with
        | some (br, F) => iff (c.calm && decide (as.length = br.length)) (o1 (callE br F) (allO (as.map (evE n sc c))))
        | none => none)))
    | .Call (.Attribute o m apos) [a] [] cpos => (match mtOf m with
      | some f => (match o with
        | .Name x _ => iff (visB sc x && !isStar a && (apos.endLine == cpos.line) && !(x == ("__debug__" : Str)) && !(x == ("__classdict__" : Str))) (o2 (fun i x => mutE i (mtF f) [x]) (ixN c.N x) (evE n sc c a))
        | _ => none)
      | none => (match vmOf m with
        | some f => iff (!isCall o && !isStar a && (apos.endLine == cpos.line)) (o2 (metE (vmF f)) (evE n sc c o) (evE n sc c a))
        | none => none))
    | _ => none
def nameOn (loc : Str → Bool) (line : Nat) : Expr → Option Str
  | .Name id pos => if loc id && pos.line == line then some id else none
  | _ => none
/-- is this a swap of plain local names (of which), as Python compiles it? -/
def swp (loc : Str → Bool) (ts es : List Expr) : Option (Option (List Str)) :=
  if !(ts.length == 2 || ts.length == 3) || es.length != ts.length then some none else
  if es.any isStar then some none else
  if (ts.filterMap (nameOn loc ((ts.head?.map (·.pos.line)).getD 0))).length != ts.length || (ts.filterMap (nameOn loc ((ts.head?.map (·.pos.line)).getD 0))).eraseDups.length != (ts.filterMap (nameOn loc ((ts.head?.map (·.pos.line)).getD 0))).length then some none else
  if es.all (foldedForSure 8) then some none else
  if es.all (constantsAlone 8) then none else some (some (ts.filterMap (nameOn loc ((ts.head?.map (·.pos.line)).getD 0))))
def locOnly (sc : Scope) (x : Str) : Bool := sc.names.lookup x == some .local
/-- targets that are names -/
def plainN : List Expr → Option (List Str)
  | [] => some []
  | .Name x _ :: r => (plainN r).map fun ns => x :: ns
  | _ :: _ => none
/-- names that are plain locals -/
def allLoc (sc : Scope) (ns : List Str) : Bool := ns.all (locOnly sc)
/-- the one statement of a try's body: call() or return call(), of the first parameter -/
def tryB (c : Cfg) : Stmt → Option Bool
  | .Expr (.Call (.Name a _) [] [] _) _ => iff (c.N.head? == some a) (some false)
  | .Return (some (.Call (.Name a _) [] [] _)) _ => iff (c.N.head? == some a) (some true)
  | _ => none
def evS : Nat → Scope → Cfg → Stmt → Option MS
  | 0, _, _, _ => none
  | n + 1, sc, c, s => match s with
    | .Return (some e) _ => o1 retS (evE n sc c e)
    | .Return none _ => some retN
    | .Expr e _ => iff (isCall e) (o1 exprS (evE n sc c e))
    | .If t a b _ => o3 ifS (evE n sc c t) (o1 seqS (allO (a.map (evS n sc c)))) (o1 seqS (allO (b.map (evS n sc c))))
    | .For tg it body [] _ => (match ixNs c.N (tgN n tg) with
      | some own => iff (c.calm && !isSet it) (o3 forS (evI sc c.fx (isTup tg) (evE n sc c) it) (tgE n sc c tg) (o1 seqS (allO (body.map (evS n sc c)))))
      | none => none)
    | .While t body [] _ => iff c.calm (o2 (fun t b e => whL t b c.W e) (evE n sc c t) (o1 seqS (allO (body.map (evS n sc c)))))
    | .Assign [.Name x _] e _ => iff (locB sc x) (o2 (fun i m => asgS (nameG c.fx i) m) (ixN c.N x) (evE n sc c e))
    | .Assign [.Tuple ts k p] e _ => (match e with
      | .Tuple es k2 p2 => (match swp (locOnly sc) ts es with
        | some (some ns) => iff (c.calm && noStar es && allLoc sc ns) (o2 (fun is ms => parS (is.map (nameG c.fx)) ms) (ixNs c.N ns) (allO (es.map (evE n sc c))))
        | some none => (match plainN ts with
          | some ns => (match ixNs c.N ns with
            | some is => iff (c.calm && noStar es && ns.all (locB sc) && decide is.Nodup && decide (is.length ≤ sizeMax)) (o1 (fun ms => parS (is.map (nameG c.fx)) ms) (allO (es.map (evE n sc c))))
            | none => none)
          | none => (match ixNs c.N (tgN n (.Tuple ts k p)) with
            | some own => iff c.calm (o2 asgT (tgE n sc c (.Tuple ts k p)) (evE n sc c (.Tuple es k2 p2)))
            | none => none))
        | none => none)
      | e => (match ixNs c.N (tgN n (.Tuple ts k p)) with
          | some own => iff c.calm (o2 asgT (tgE n sc c (.Tuple ts k p)) (evE n sc c e))
          | none => none))
    | .Assign [.Subscript (.Name x _) i _] e _ => iff (visB sc x && !(x == ("__debug__" : Str)) && !(x == ("__classdict__" : Str))) (o3 (fun j mi me => setiS j setF mi me) (ixN c.N x) (evE n sc c i) (evE n sc c e))
    | .AugAssign (.Name x _) op e _ => iff (locB sc x) (o2 (fun i m => asgS (nameG c.fx i) (op2 (augD op) (varE i) m)) (ixN c.N x) (evE n sc c e))
    | .Raise (some (.Call (.Name C _) [] [] _)) none _ => iff (c.calm && glB sc C && c.exs C) (some (raiseS C))
    | .Try [b] (h₀ :: hs) [] [] _ => iff c.calm (match c.clo with
      | some r => o2 (fun ret hs => tryS c.N.length ret r c.sub hs) (tryB c b) (allO ((h₀ :: hs).map fun h => match h with
        | .ExceptHandler (some (.Name C _)) (some y) (s₀ :: ss) _ => iff (glB sc C && locOnly sc y && (c.sub C C).isSome) (o2 (fun j ms => (C, j, seqS ms)) (ixN c.N y) (allO ((s₀ :: ss).map (evS n sc { c with fx := [], calm := false, hot := true, clo := none }))))
        | _ => none))
      | none => none)
    | .Pass _ => some fun e => .nx e
    | .Break _ => some fun e => .bk e
    | .Continue _ => some fun e => .ct e
    | _ => none

/-! ### defs -/
structure Df where
  N : List Str
  sc : Scope
  br : List Bool
  tab : Bool
  body : List Stmt
/-- the parameters that were handed as they are -/
def fxOf : Nat → List Bool → List Nat
  | _, [] => []
  | i, b :: bs => if b then i :: fxOf (i + 1) bs else fxOf (i + 1) bs
/-- what they hold at the end -/
def finsOf : List Bool → Sl → Sl
  | [], _ => []
  | _ :: bs, [] => none :: finsOf bs []
  | b :: bs, x :: r => (if b then x else none) :: finsOf bs r
/-- what leaves a def: an own list that a slot holds goes along, where it is no argument's -/
def outO (fx : List Nat) : Op → Sl → Option (Op × Sl)
  | .bor i, e => if fx.contains i then (fzO (.bor i) e).map fun r => (.im r.1, r.2) else (match gt e i with
    | some (.ol xs) => some (.tl xs, pt e i none)
    | some (.od kvs) => some (.td kvs, pt e i none)
    | some (.im d) => some (.im d, e)
    | _ => none)
  | o, e => some (o, e)
def endF (br : List Bool) : SR → CRes
  | .nx e => .ok (.im .none) (finsOf br e)
  | .rt o e => (match outO (fxOf 0 br) o e with
    | some (r, e1) => .ok r (finsOf br e1)
    | none => .bad)
  | .er x e => .er x (finsOf br e)
  | _ => .bad
def callDf (n : Nat) (c : Cfg) (d : Df) (ps : Sl) : CRes := match allO (d.body.map (evS n d.sc { c with N := d.N, fx := fxOf 0 d.br })) with
  | some ms => endF d.br (seqS ms (ps ++ List.replicate (d.N.length - d.br.length) none))
  | none => .bad
/-- a program: its defs by name, those that call a lambda, its constants, its own exceptions, which is of which class -/
structure Prg where
  defs : List (Str × Df)
  lams : List (Str × Df)
  tabs : List Str
  cst : List (Str × D)
  exs : List Str
  sub : List (Str × List (Str × Bool))
  W : Nat
def fuel : Nat := 40
def Prg.cfg (P : Prg) (tab : Bool) (G G2 : Df → Sl → CRes) (L : Df → LRes → CRes) : Cfg where
  N := []
  fx := []
  W := P.W
  fns := fun f => (P.defs.lookup f).map fun d => (d.br, G d)
  fns2 := fun f => (P.defs.lookup f).map fun d => (d.br, G2 d)
  lam := fun f => (P.lams.lookup f).map fun d => L d
  clo := none
  cst := fun x => P.cst.lookup x
  exs := fun x => P.exs.contains x
  sub := fun x y => (P.sub.lookup x).bind fun r => r.lookup y
  calm := true
  hot := false
  tab := tab
/-- what a def that calls a lambda makes of what comes of it -/
def isTry : Stmt → Bool
  | .Try .. => true
  | _ => false
def splitT : List Stmt → List Stmt × List Stmt
  | [] => ([], [])
  | s :: r => if isTry s then ([], s :: r) else ((s :: (splitT r).1), (splitT r).2)
/-- no def is called there -/
def lmCfg (c : Cfg) (d : Df) : Cfg := { c with N := d.N, fx := [], fns := fun _ => none, fns2 := fun _ => none, lam := fun _ => none, exs := fun _ => false, clo := none, tab := false, calm := true, hot := false }
def callLm (n : Nat) (c : Cfg) (d : Df) (r : LRes) : CRes := match splitT d.body with
  | (pre, t :: post) => (match allO (pre.map (evS n d.sc { lmCfg c d with fx := [0] })), evS n d.sc { lmCfg c d with clo := some r } t, allO (post.map (evS n d.sc (lmCfg c d))) with
    | some a, some m, some b => endF [] ((seqS a (List.replicate d.N.length none)).bind fun e => (m e).bind (seqS b))
    | _, _, _ => .bad)
  | _ => .bad
def Prg.run (P : Prg) : Nat → Df → Sl → CRes
  | k + 3, d, ps => callDf fuel (P.cfg d.tab (P.run (k + 2)) (P.run k) (callLm fuel (P.cfg false (P.run k) (fun _ _ => .bad) fun _ _ => .bad))) d ps
  | _, _, _ => .bad
end Ev
end
section
set_option maxHeartbeats 2000000
/-! EvRel: how the evaluator's values stand in the abstract heap; readings that speak of the evaluator. -/
namespace Ev
open PySem PySem.Spec PyProof.Rows L2
/-- what stands around: tables of code objects; what names stand for; the exception that is held: where, its class, its dict -/
structure LT where
  tabs : List (Addr × Str)
  mg : Str → Option Value
  exc : Option (Addr × Value × Option Addr)
variable {T : LT}

/-- a list, a dict -/
def Md : HO → Prop
  | .lst _ => True
  | .dK _ => True
  | .dT _ => True
  | _ => False
/-! ### values that never change -/
/-- a list that is known to the object, or one of the module's own: the script -/
def ScrAt (K : PySem.W.Frag) (Z : Addr → Prop) (H : Hp) (a : Addr) (xs : List V) : Prop :=
  (Z a ∧ H a = some (.lst xs)) ∨ (∃ o, H a = some (.frz o (.lst xs))) ∨
    ∃ (o : Obj) (its : Array Value) (n : Nat), K.lookup a = some o ∧ o.cls = .type "list" ∧ o.dict = none ∧ o.data = .seq its n ∧ its.size ≤ sizeLine ∧ Vals xs its.toList
def keyD : Key → D
  | .inl i => .int i
  | .inr x => .str x
mutual
inductive EncD (K : PySem.W.Frag) (Z : Addr → Prop) (H : Hp) : V → D → Prop
  | non : EncD K Z H .non .none
  | bl (b : Bool) : EncD K Z H (.bl b) (.bool b)
  | int (i : Int) : EncD K Z H (.int i) (.int i)
  | str (x : Str) : EncD K Z H (.str x) (.str x)
  | lst {a : Addr} {xs : List V} {ds : List D} : Z a → H a = some (.lst xs) → EncDs K Z H xs ds → EncD K Z H (.ref a) (.list ds)
  | tup {a : Addr} {xs : List V} {ds : List D} : SqT K H a xs → EncDs K Z H xs ds → EncD K Z H (.ref a) (.tuple ds)
  | scr {a : Addr} {xs : List V} {ds : List D} : ScrAt K Z H a xs → EncDs K Z H xs ds → EncD K Z H (.ref a) (.dict [(.none, .list ds)])
  | dK {a : Addr} {kvs : List (Key × V)} {ds : List (D × D)} : Z a → H a = some (.dK kvs) → EncK K Z H kvs ds → EncD K Z H (.ref a) (.dict ds)
  | dT {a : Addr} {kvs : List (List Key × V)} {ds : List (D × D)} : Z a → H a = some (.dT kvs) → EncT K Z H kvs ds → EncD K Z H (.ref a) (.dict ds)
inductive EncDs (K : PySem.W.Frag) (Z : Addr → Prop) (H : Hp) : List V → List D → Prop
  | nil : EncDs K Z H [] []
  | cons {v : V} {vs : List V} {d : D} {ds : List D} : EncD K Z H v d → EncDs K Z H vs ds → EncDs K Z H (v :: vs) (d :: ds)
inductive EncK (K : PySem.W.Frag) (Z : Addr → Prop) (H : Hp) : List (Key × V) → List (D × D) → Prop
  | nil : EncK K Z H [] []
  | cons {k : Key} {v : V} {d : D} {r : List (Key × V)} {r' : List (D × D)} : EncD K Z H v d → EncK K Z H r r' → EncK K Z H ((k, v) :: r) ((keyD k, d) :: r')
inductive EncT (K : PySem.W.Frag) (Z : Addr → Prop) (H : Hp) : List (List Key × V) → List (D × D) → Prop
  | nil : EncT K Z H [] []
  | cons {k : List Key} {v : V} {d : D} {r : List (List Key × V)} {r' : List (D × D)} : EncD K Z H v d → EncT K Z H r r' → EncT K Z H ((k, v) :: r) ((.tuple (k.map keyD), d) :: r')
end
def DctAt (K : PySem.W.Frag) (Z : Addr → Prop) (H : Hp) (a : Addr) (kvs : List (D × D)) : Prop :=
  (∃ l, H a = some (.dK l) ∧ EncK K Z H l kvs) ∨ ∃ l, H a = some (.dT l) ∧ EncT K Z H l kvs
structure Le (Z : Addr → Prop) (H : Hp) (Z' : Addr → Prop) (H' : Hp) : Prop where
  z : ∀ a, Z a → Z' a
  keep : ∀ a, Z a → H' a = H a
  tup : ∀ a xs, H a = some (.tup xs) → H' a = some (.tup xs)
  frz : ∀ a o u, H a = some (.frz o u) → H' a = some (.frz o u)
theorem Le.refl {Z H} : Le Z H Z H := ⟨fun _ h => h, fun _ _ => rfl, fun _ _ h => h, fun _ _ _ h => h⟩
theorem Le.trans {Z H Z1 H1 Z2 H2} (a : Le Z H Z1 H1) (b : Le Z1 H1 Z2 H2) : Le Z H Z2 H2 :=
  ⟨fun x h => b.z x (a.z x h), fun x h => (b.keep x (a.z x h)).trans (a.keep x h), fun x xs h => b.tup x xs (a.tup x xs h), fun x o u h => b.frz x o u (a.frz x o u h)⟩
theorem ScrAt.mono {K : PySem.W.Frag} {Z Z' : Addr → Prop} {H H' : Hp} {a xs} (l : Le Z H Z' H') (h : ScrAt K Z H a xs) : ScrAt K Z' H' a xs := by
  rcases h with ⟨z, h⟩ | ⟨o, h⟩ | h
  · exact .inl ⟨l.z _ z, by rw [l.keep _ z]; exact h⟩
  · exact .inr (.inl ⟨o, l.frz _ _ _ h⟩)
  · exact .inr (.inr h)
theorem SqT.mono' {K : PySem.W.Frag} {Z Z' : Addr → Prop} {H H' : Hp} {a xs} (l : Le Z H Z' H') (h : SqT K H a xs) : SqT K H' a xs := by
  rcases h with (h | ⟨o, h⟩) | h
  · exact .inl (.inl (l.tup _ _ h))
  · exact .inl (.inr ⟨o, l.frz _ _ _ h⟩)
  · exact .inr h
mutual
theorem EncD.mono {K Z H Z' H'} (l : Le Z H Z' H') : ∀ {v d}, EncD K Z H v d → EncD K Z' H' v d
  | _, _, .non => .non
  | _, _, .bl b => .bl b
  | _, _, .int i => .int i
  | _, _, .str x => .str x
  | _, _, .lst z h hs => .lst (l.z _ z) (by rw [l.keep _ z]; exact h) (EncDs.mono l hs)
  | _, _, .tup h hs => .tup (SqT.mono' l h) (EncDs.mono l hs)
  | _, _, .scr h hs => .scr (h.mono l) (EncDs.mono l hs)
  | _, _, .dK z h q => .dK (l.z _ z) (by rw [l.keep _ z]; exact h) (EncK.mono l q)
  | _, _, .dT z h q => .dT (l.z _ z) (by rw [l.keep _ z]; exact h) (EncT.mono l q)
theorem EncDs.mono {K Z H Z' H'} (l : Le Z H Z' H') : ∀ {vs ds}, EncDs K Z H vs ds → EncDs K Z' H' vs ds
  | _, _, .nil => .nil
  | _, _, .cons h hs => .cons (EncD.mono l h) (EncDs.mono l hs)
theorem EncK.mono {K Z H Z' H'} (l : Le Z H Z' H') : ∀ {vs ds}, EncK K Z H vs ds → EncK K Z' H' vs ds
  | _, _, .nil => .nil
  | _, _, .cons h hs => .cons (EncD.mono l h) (EncK.mono l hs)
theorem EncT.mono {K Z H Z' H'} (l : Le Z H Z' H') : ∀ {vs ds}, EncT K Z H vs ds → EncT K Z' H' vs ds
  | _, _, .nil => .nil
  | _, _, .cons h hs => .cons (EncD.mono l h) (EncT.mono l hs)
end
theorem DctAt.mono {K Z H Z' H' a kvs} (l : Le Z H Z' H') (h : DctAt K Z H a kvs) (e : H' a = H a) : DctAt K Z' H' a kvs := by
  rcases h with ⟨m, h, q⟩ | ⟨m, h, q⟩
  · exact .inl ⟨m, e.trans h, q.mono l⟩
  · exact .inr ⟨m, e.trans h, q.mono l⟩
theorem DctAt.some {K Z H a kvs} (h : DctAt K Z H a kvs) : ∃ u, H a = some u ∧ Md u := by
  rcases h with ⟨m, h, q⟩ | ⟨m, h, q⟩
  · exact ⟨_, h, trivial⟩
  · exact ⟨_, h, trivial⟩
theorem DctAt.enc {K Z H a kvs} (h : DctAt K Z H a kvs) (z : Z a) : EncD K Z H (.ref a) (.dict kvs) := by
  rcases h with ⟨m, h, q⟩ | ⟨m, h, q⟩
  · exact .dK z h q
  · exact .dT z h q
theorem EncDs.length {K Z H} : ∀ {vs ds}, EncDs K Z H vs ds → vs.length = ds.length
  | _, _, .nil => rfl
  | _, _, .cons _ h => by rw [List.length_cons, List.length_cons, EncDs.length h]
theorem EncDs.get {K Z H} : ∀ {vs ds} {i : Nat} {d : D}, EncDs K Z H vs ds → ds[i]? = some d → ∃ v, vs[i]? = some v ∧ EncD K Z H v d
  | _, _, _, _, .nil, e => by simp at e
  | _, _, 0, _, .cons h _, e => by simp at e; subst e; exact ⟨_, rfl, h⟩
  | _, _, i + 1, _, .cons _ t, e => by
    obtain ⟨v, h1, h2⟩ := EncDs.get (i := i) t (by simpa using e)
    exact ⟨v, by simpa using h1, h2⟩
theorem EncDs.append {K Z H} : ∀ {vs ds ws es}, EncDs K Z H vs ds → EncDs K Z H ws es → EncDs K Z H (vs ++ ws) (ds ++ es)
  | _, _, _, _, .nil, h => h
  | _, _, _, _, .cons a b, h => .cons a (EncDs.append b h)
theorem EncDs.set {K Z H} {v : V} {d : D} (h : EncD K Z H v d) : ∀ {vs ds} (i : Nat), EncDs K Z H vs ds → EncDs K Z H (vs.set i v) (ds.set i d)
  | _, _, _, .nil => .nil
  | _, _, 0, .cons _ t => .cons h t
  | _, _, i + 1, .cons a t => .cons a (EncDs.set h i t)
theorem EncDs.take {K Z H} : ∀ {vs ds} (n : Nat), EncDs K Z H vs ds → EncDs K Z H (vs.take n) (ds.take n)
  | _, _, 0, _ => by simp; exact .nil
  | _, _, _ + 1, .nil => .nil
  | _, _, n + 1, .cons a t => .cons a (EncDs.take n t)
theorem EncDs.drop {K Z H} : ∀ {vs ds} (n : Nat), EncDs K Z H vs ds → EncDs K Z H (vs.drop n) (ds.drop n)
  | _, _, 0, h => h
  | _, _, _ + 1, .nil => .nil
  | _, _, n + 1, .cons _ t => EncDs.drop n t

/-! ### what may be read -/
inductive Vw (K : PySem.W.Frag) (Z : Addr → Prop) (H : Hp) : V → D → Prop
  | im {v d} : EncD K Z H v d → Vw K Z H v d
  | lst {a vs xs} : H a = some (.lst vs) → EncDs K Z H vs xs → Vw K Z H (.ref a) (.list xs)
  | dct {a kvs} : DctAt K Z H a kvs → Vw K Z H (.ref a) (.dict kvs)
theorem Vw.list {K Z H v xs} (h : Vw K Z H v (.list xs)) : ∃ a vs, v = .ref a ∧ H a = some (.lst vs) ∧ EncDs K Z H vs xs := by
  cases h with
  | im h => cases h with | lst z h hs => exact ⟨_, _, rfl, h, hs⟩
  | lst h hs => exact ⟨_, _, rfl, h, hs⟩
/-- a dict, or the script -/
theorem Vw.dict {K Z H v xs} (h : Vw K Z H v (.dict xs)) : ∃ a, v = .ref a ∧ (DctAt K Z H a xs ∨ ∃ ds vs, xs = [(.none, .list ds)] ∧ ScrAt K Z H a vs ∧ EncDs K Z H vs ds) := by
  cases h with
  | im h => cases h with
    | scr h hs => exact ⟨_, rfl, .inr ⟨_, _, rfl, h, hs⟩⟩
    | dK z h hs => exact ⟨_, rfl, .inl (.inl ⟨_, h, hs⟩)⟩
    | dT z h hs => exact ⟨_, rfl, .inl (.inr ⟨_, h, hs⟩)⟩
  | dct h => exact ⟨_, rfl, .inl h⟩
theorem Vw.tuple {K Z H v xs} (h : Vw K Z H v (.tuple xs)) : ∃ a vs, v = .ref a ∧ SqT K H a vs ∧ EncDs K Z H vs xs := by
  cases h with
  | im h => cases h with | tup h hs => exact ⟨_, _, rfl, h, hs⟩
theorem Vw.int {K Z H v i} (h : Vw K Z H v (.int i)) : v = .int i := by
  cases h with | im h => cases h; rfl
theorem Vw.bool {K Z H v b} (h : Vw K Z H v (.bool b)) : v = .bl b := by
  cases h with | im h => cases h; rfl
theorem Vw.str {K Z H v b} (h : Vw K Z H v (.str b)) : v = .str b := by
  cases h with | im h => cases h; rfl
theorem Vw.none {K Z H v} (h : Vw K Z H v .none) : v = .non := by
  cases h with | im h => cases h; rfl
inductive Vws (K : PySem.W.Frag) (Z : Addr → Prop) (H : Hp) : List V → List D → Prop
  | nil : Vws K Z H [] []
  | cons {v vs d ds} : Vw K Z H v d → Vws K Z H vs ds → Vws K Z H (v :: vs) (d :: ds)

/-- an exception of the class that a name stands for, with its one field, which is kept -/
def ExOk (K : PySem.W.Frag) (mg : Str → Option Value) (Z : Addr → Prop) (x : Exc) (cls : Value) (d : Option Addr) (H : Hp) : Prop :=
  ∃ C, mg x.cls = some (.ref C) ∧ cls = .ref C ∧ match x.arg with
    | none => d = none
    | some (f, a) => ∃ p v, d = some p ∧ Z p ∧ H p = some (.xd [(f, v)]) ∧ EncD K Z H v a
theorem ExOk.mono {K : PySem.W.Frag} {mg : Str → Option Value} {Z Z' : Addr → Prop} {x : Exc} {cls : Value} {d : Option Addr} {H H' : Hp} (h : ExOk K mg Z x cls d H) (l : Le Z H Z' H') : ExOk K mg Z' x cls d H' := by
  obtain ⟨C, h1, h2, h3⟩ := h
  refine ⟨C, h1, h2, ?_⟩
  split
  · rename_i e; rw [e] at h3; exact h3
  · rename_i f a e
    rw [e] at h3
    obtain ⟨p, v, e1, z, e2, e3⟩ := h3
    exact ⟨p, v, e1, l.z _ z, by rw [l.keep _ z]; exact e2, e3.mono l⟩
/-! ### slots -/
def Sv.own : Sv → Bool
  | .im _ => false
  | .ex _ => false
  | _ => true
def SvOk (K : PySem.W.Frag) (T : LT) (Z G : Addr → Prop) (H : Hp) (v : V) : Sv → Prop
  | .im d => EncD K Z H v d
  | .ol xs => ∃ a vs, v = .ref a ∧ H a = some (.lst vs) ∧ EncDs K Z H vs xs ∧ ¬ Z a ∧ ¬ G a
  | .od kvs => ∃ a, v = .ref a ∧ DctAt K Z H a kvs ∧ ¬ Z a ∧ ¬ G a
  | .ex x => ∃ a cls d, T.exc = some (a, cls, d) ∧ v = .ref a ∧ ExOk K T.mg Z x cls d H
/-- the tables of code objects stand; they are none of ours -/
def TbOk (T : LT) (H : Hp) (Z G : Addr → Prop) : Prop := LamX.Tabs T.tabs H ∧ (∀ a, Z a → ∀ ps, H a ≠ some (.tbl ps)) ∧ ∀ a, G a → ∃ u, H a = some u ∧ Md u
theorem TbOk.less {H : Hp} {Z G G' : Addr → Prop} (t : TbOk T H Z G) (h : ∀ a, G' a → G a) : TbOk T H Z G' := ⟨t.1, t.2.1, fun a z => t.2.2 a (h a z)⟩
structure StOk (K : PySem.W.Frag) (T : LT) (e : Sl) (σ : L2.St) (H : Hp) (Z G : Addr → Prop) : Prop where
  tb : TbOk T H Z G
  zs : ∀ a, Z a → H a ≠ none
  gs : ∀ a, G a → H a ≠ none ∧ ¬ Z a
  sl : ∀ i sv, gt e i = some sv → ∃ v, σ[i]? = some (some v) ∧ SvOk K T Z G H v sv
  inj : ∀ i j si sj v, gt e i = some si → gt e j = some sj → si.own = true → sj.own = true → σ[i]? = some (some v) → σ[j]? = some (some v) → i = j
theorem SvOk.addr {K Z G H v sv} (h : SvOk K T Z G H v sv) (o : sv.own = true) : ∃ a u, v = .ref a ∧ H a = some u ∧ Md u ∧ ¬ Z a ∧ ¬ G a := by
  cases sv with
  | im d => cases o
  | ex x => cases o
  | ol xs => obtain ⟨a, vs, e, h1, _, h2, h3⟩ := h; exact ⟨a, _, e, h1, trivial, h2, h3⟩
  | od xs => obtain ⟨a, e, h1, h2, h3⟩ := h; obtain ⟨u, h1, m⟩ := h1.some; exact ⟨a, _, e, h1, m, h2, h3⟩
/-- from a state to another in which the own ones stand -/
theorem SvOk.mono {K Z G H Z' G' H' v sv} (h : SvOk K T Z G H v sv) (l : Le Z H Z' H') (k : sv.own = true → ∀ a, v = .ref a → H' a = H a ∧ ¬ Z' a ∧ ¬ G' a) : SvOk K T Z' G' H' v sv := by
  cases sv with
  | im d => exact EncD.mono l h
  | ex x =>
    obtain ⟨a, cls, d, e1, e2, e3⟩ := h
    exact ⟨a, cls, d, e1, e2, e3.mono l⟩
  | ol xs =>
    obtain ⟨a, vs, e, h1, hs, _, _⟩ := h
    obtain ⟨k1, k2, k3⟩ := k rfl a e
    exact ⟨a, vs, e, by rw [k1]; exact h1, hs.mono l, k2, k3⟩
  | od kvs =>
    obtain ⟨a, e, h1, _, _⟩ := h
    obtain ⟨k1, k2, k3⟩ := k rfl a e
    exact ⟨a, e, h1.mono l k1, k2, k3⟩
/-- fewer things are kept -/
theorem StOk.less {K e σ H Z G G'} (s : StOk K T e σ H Z G) (h : ∀ a, G' a → G a) : StOk K T e σ H Z G' :=
  ⟨s.tb.less h, s.zs, fun a g => s.gs a (h a g), fun i sv q => by
    obtain ⟨v, h1, h2⟩ := s.sl i sv q
    refine ⟨v, h1, h2.mono Le.refl fun o a e => ?_⟩
    obtain ⟨a', u, e', _, _, n1, n2⟩ := h2.addr o
    rw [e] at e'; cases e'
    exact ⟨rfl, n1, fun z => n2 (h a z)⟩, s.inj⟩
/-- new objects alone -/
theorem Same.le {Z : Addr → Prop} {H H' : Hp} (s : Same H H') (zs : ∀ a, Z a → H a ≠ none) : Le Z H Z H' :=
  ⟨fun _ h => h, fun a h => by
    cases q : H a with
    | none => exact absurd q (zs a h)
    | some o => exact s a o q, fun a xs h => s a _ h, fun a o u h => s a _ h⟩
theorem TbOk.same {H H' : Hp} {Z G : Addr → Prop} (t : TbOk T H Z G) (x : Same H H') (zs : ∀ a, Z a → H a ≠ none) : TbOk T H' Z G := ⟨t.1.ext x, fun a z ps e => by
  cases q : H a with
  | none => exact zs a z q
  | some o =>
    have := x a o q
    rw [e] at this
    cases this
    exact t.2.1 a z ps q, fun a g => by
  obtain ⟨u, h1, h2⟩ := t.2.2 a g
  exact ⟨u, x a u h1, h2⟩⟩
theorem StOk.same {K e σ H H' Z G} (s : StOk K T e σ H Z G) (x : Same H H') : StOk K T e σ H' Z G :=
  ⟨s.tb.same x s.zs, fun a h q => s.zs a h (x.free q), fun a h => ⟨fun q => (s.gs a h).1 (x.free q), (s.gs a h).2⟩, fun i sv q => by
    obtain ⟨v, h1, h2⟩ := s.sl i sv q
    refine ⟨v, h1, h2.mono (Same.le x s.zs) fun o a e => ?_⟩
    obtain ⟨a', u, e', h3, _, n1, n2⟩ := h2.addr o
    rw [e] at e'; cases e'
    exact ⟨by rw [h3]; exact x _ _ h3, n1, n2⟩, s.inj⟩
theorem same_new {H : Hp} {p : Addr} {o : HO} (h : H p = none) : Same H (upd H p o) := fun b x e => by
  rw [upd_ne (ne_of_none e h)]
  exact e

/-! ### operands -/
def OwnA (v : V) : Op → Addr → Prop
  | .tl _, a => v = .ref a
  | .td _, a => v = .ref a
  | _, _ => False
def OpOk (K : PySem.W.Frag) (Z : Addr → Prop) (H : Hp) (σ : L2.St) (v : V) : Op → Prop
  | .im d => EncD K Z H v d
  | .tl xs => ∃ a vs, v = .ref a ∧ H a = some (.lst vs) ∧ EncDs K Z H vs xs
  | .td kvs => ∃ a, v = .ref a ∧ DctAt K Z H a kvs
  | .bor i => σ[i]? = some (some v)
/-- G and one more operand -/
def Gx (G : Addr → Prop) (v : V) (o : Op) : Addr → Prop := fun a => G a ∨ OwnA v o a
def KeepG (G : Addr → Prop) (H H' : Hp) : Prop := ∀ a, G a → H' a = H a
theorem KeepG.refl {G H} : KeepG G H H := fun _ _ => rfl
theorem KeepG.trans {G H H1 H2} (a : KeepG G H H1) (b : KeepG G H1 H2) : KeepG G H H2 := fun x h => (b x h).trans (a x h)
theorem KeepG.less {G G' : Addr → Prop} {H H'} (a : KeepG G H H') (h : ∀ a, G' a → G a) : KeepG G' H H' := fun x g => a x (h x g)
theorem KeepG.of_same {G H H'} (s : Same H H') (gs : ∀ a, G a → H a ≠ none) : KeepG G H H' := fun a h => by
  cases q : H a with
  | none => exact absurd q (gs a h)
  | some o => exact s a o q
/-- an operand ahead of code that keeps it -/
theorem OpOk.mono {K Z H σ v o Z' H'} (h : OpOk K Z H σ v o) (l : Le Z H Z' H') (k : ∀ a, OwnA v o a → H' a = H a) : OpOk K Z' H' σ v o := by
  cases o with
  | im d => exact EncD.mono l h
  | tl xs => obtain ⟨a, vs, e, h1, hs⟩ := h; exact ⟨a, vs, e, by rw [k a e]; exact h1, hs.mono l⟩
  | td xs => obtain ⟨a, e, h1⟩ := h; exact ⟨a, e, h1.mono l (k a e)⟩
  | bor i => exact h
theorem OpOk.vw {K e σ H Z G v o d} (h : OpOk K Z H σ v o) (s : StOk K T e σ H Z G) (q : vw o e = some d) : Vw K Z H v d := by
  cases o with
  | im d' =>
    have : d' = d := Option.some.inj q
    subst this
    exact .im h
  | tl xs =>
    have : PyData.list xs = d := Option.some.inj q
    subst this
    obtain ⟨a, vs, rfl, h1, hs⟩ := h
    exact .lst h1 hs
  | td kvs =>
    have : PyData.dict kvs = d := Option.some.inj q
    subst this
    obtain ⟨a, rfl, h1⟩ := h
    exact .dct h1
  | bor i =>
    simp only [Ev.vw] at q
    have h : σ[i]? = some (some v) := h
    split at q <;> (try (cases q; done))
    all_goals
      rename_i hg
      obtain ⟨v', h1, h2⟩ := s.sl i _ hg
      rw [h] at h1; cases h1
      cases q
    · exact .im h2
    · obtain ⟨a, vs, rfl, h3, hs, _⟩ := h2; exact .lst h3 hs
    · obtain ⟨a, rfl, h3, _⟩ := h2; exact .dct h3
/-- a new result -/
def NewOk (K : PySem.W.Frag) (Z : Addr → Prop) (H H' : Hp) (w : V) : Op → Prop
  | .im d => EncD K Z H' w d
  | .tl xs => ∃ a vs, w = .ref a ∧ H a = none ∧ H' a = some (.lst vs) ∧ EncDs K Z H' vs xs
  | .td kvs => ∃ a, w = .ref a ∧ H a = none ∧ DctAt K Z H' a kvs
  | .bor _ => False
theorem NewOk.op {K Z H H' w o σ} (h : NewOk K Z H H' w o) : OpOk K Z H' σ w o := by
  cases o with
  | im d => exact h
  | tl xs => obtain ⟨a, vs, e, _, h1, hs⟩ := h; exact ⟨a, vs, e, h1, hs⟩
  | td xs => obtain ⟨a, e, _, h1⟩ := h; exact ⟨a, e, h1⟩
  | bor i => exact h.elim
/-- what a slot owns, is not the new one -/
theorem StOk.notOwn {K e σ H Z G} (s : StOk K T e σ H Z G) {i sv a} (h : gt e i = some sv) (o : sv.own = true) (e' : σ[i]? = some (some (V.ref a))) : ∃ u, H a = some u ∧ Md u ∧ ¬ Z a ∧ ¬ G a := by
  obtain ⟨v, h1, h2⟩ := s.sl i sv h
  rw [e'] at h1; cases h1
  obtain ⟨b, u, eb, h3, h4, h5, h6⟩ := h2.addr o
  cases eb
  exact ⟨u, h3, h4, h5, h6⟩
theorem NewOk.st {K e σ H H' Z G w o} (h : NewOk K Z H H' w o) (s : StOk K T e σ H Z G) (x : Same H H') : StOk K T e σ H' Z (Gx G w o) := by
  have s' := s.same x
  have new : ∀ a, OwnA w o a → H a = none ∧ H' a ≠ none := fun a ha => by
    cases o with
    | im d => exact ha.elim
    | tl xs => obtain ⟨b, vs, e, hn, h1, _⟩ := h; have e2 : w = .ref a := ha; rw [e] at e2; cases e2; exact ⟨hn, by rw [h1]; simp⟩
    | td xs => obtain ⟨b, e, hn, h1⟩ := h; have e2 : w = .ref a := ha; rw [e] at e2; cases e2; obtain ⟨u, h1, _⟩ := h1.some; exact ⟨hn, by rw [h1]; simp⟩
    | bor i => exact ha.elim
  refine ⟨⟨s'.tb.1, s'.tb.2.1, fun a z => ?_⟩, s'.zs, fun a g => ?_, fun i sv q => ?_, s'.inj⟩
  · rcases z with z | z
    · exact s'.tb.2.2 a z
    · cases o with
      | im d => exact z.elim
      | tl xs => obtain ⟨b, vs, eb, _, h1, _⟩ := h; have e2 : w = .ref a := z; rw [eb] at e2; cases e2; exact ⟨_, h1, trivial⟩
      | td xs => obtain ⟨b, eb, _, h1⟩ := h; have e2 : w = .ref a := z; rw [eb] at e2; cases e2; exact h1.some
      | bor i => exact z.elim
  · rcases g with g | g
    · exact s'.gs a g
    · exact ⟨(new a g).2, fun z => s.zs a z (new a g).1⟩
  · obtain ⟨v, h1, h2⟩ := s'.sl i sv q
    refine ⟨v, h1, h2.mono Le.refl fun ow a ea => ?_⟩
    subst ea
    obtain ⟨u, h3, _, h4, h5⟩ := s.notOwn q ow h1
    exact ⟨rfl, h4, fun z => z.elim h5 fun z => by rw [(new a z).1] at h3; cases h3⟩

/-- an operand as it comes out of an expression -/
structure Out (K : PySem.W.Frag) (T : LT) (e : Sl) (σ : L2.St) (H : Hp) (Z G : Addr → Prop) (v : V) (o : Op) : Prop where
  st : StOk K T e σ H Z (Gx G v o)
  ok : OpOk K Z H σ v o
  ne : ∀ a, OwnA v o a → ¬ G a
theorem Out.st0 {K e σ H Z G v o} (x : Out K T e σ H Z G v o) : StOk K T e σ H Z G := x.st.less fun _ z => .inl z
theorem NewOk.out {K e σ H H' Z G w o} (h : NewOk K Z H H' w o) (s : StOk K T e σ H Z G) (x : Same H H') : Out K T e σ H' Z G w o := by
  refine ⟨h.st s x, h.op, fun a ha g => ?_⟩
  cases o with
  | im d => exact ha.elim
  | tl xs => obtain ⟨b, vs, e, hn, h1, _⟩ := h; have e2 : w = .ref a := ha; rw [e] at e2; cases e2; exact (s.gs _ g).1 hn
  | td xs => obtain ⟨b, e, hn, h1⟩ := h; have e2 : w = .ref a := ha; rw [e] at e2; cases e2; exact (s.gs _ g).1 hn
  | bor i => exact ha.elim

/-! ### exceptions, readings -/
/-- what is wanted of a result: C of what comes, W of what is raised -/
def PostC (K : PySem.W.Frag) (T : LT) (mg : Str → Option Value) (W : WX) (σ : L2.St) (Z G : Addr → Prop) (H : Hp) {α : Type} (C : α → Sl → (Addr → Prop) → Hp → Prop) : Res α → Prop
  | .ok a e' => ∀ H' Z', Le Z H Z' H' → KeepG G H H' → C a e' Z' H'
  | .er x e' => ∀ cls d H' Z', Le Z H Z' H' → KeepG G H H' → StOk K T e' σ H' Z' G → ExOk K mg Z' x cls d H' → W cls d σ H'
  | .bad => False
section
variable {K : PySem.W.Frag} {mg : Str → Option Value} {W : WX} {σ : L2.St} {Z G Z1 G1 : Addr → Prop} {H H1 : Hp} {α β : Type}
theorem PostC.trans {C : α → Sl → (Addr → Prop) → Hp → Prop} {r : Res α} (l : Le Z H Z1 H1) (k : KeepG G H H1) (h : PostC K T mg W σ Z G H C r) : PostC K T mg W σ Z1 G H1 C r := by
  cases r with
  | ok a e => exact fun H' Z' l' k' => h H' Z' (l.trans l') (k.trans k')
  | er x e => exact fun cls d H' Z' l' k' s x => h cls d H' Z' (l.trans l') (k.trans k') s x
  | bad => exact h
theorem PostC.imp {C C' : α → Sl → (Addr → Prop) → Hp → Prop} {r : Res α} (h : PostC K T mg W σ Z G H C r) (f : ∀ a e' Z' H', Le Z H Z' H' → KeepG G H H' → C a e' Z' H' → C' a e' Z' H') : PostC K T mg W σ Z G H C' r := by
  cases r with
  | ok a e => exact fun H' Z' l' k' => f a e Z' H' l' k' (h H' Z' l' k')
  | er x e => exact h
  | bad => exact h
theorem PostC.bind {C : β → Sl → (Addr → Prop) → Hp → Prop} {r : Res α} {f : α → Sl → Res β} (hG : ∀ a, G a → G1 a) (h : PostC K T mg W σ Z G H C (r.bind f)) :
    PostC K T mg W σ Z G1 H (fun a e1 Z1 H1 => PostC K T mg W σ Z1 G H1 C (f a e1)) r := by
  cases r with
  | ok a e => exact fun H' Z' l' k' => PostC.trans l' (k'.less hG) h
  | er x e => exact fun cls d H' Z' l' k' s x => h cls d H' Z' l' (k'.less hG) (s.less hG) x
  | bad => exact h
theorem PostC.ret {C : α → Sl → (Addr → Prop) → Hp → Prop} {a : α} {e : Sl} (h : PostC K T mg W σ Z G H C (.ok a e)) : C a e Z H := h H Z Le.refl KeepG.refl
end
/-- an expression's reading by the evaluator -/
def CE' (K : PySem.W.Frag) (T : LT) (σ : L2.St) (G : Addr → Prop) (Q : VK) : Op → Sl → (Addr → Prop) → Hp → Prop := fun o e' Z' H' => ∀ v, Out K T e' σ H' Z' G v o → Q v H'
def RdE (K : PySem.W.Frag) (T : LT) (mg : Str → Option Value) (m : ME) (W : WX) : TE := fun σ H Q => ∃ e Z G, StOk K T e σ H Z G ∧ PostC K T mg W σ Z G H (CE' K T σ G Q) (m e)
theorem _root_.L2.PE.weaken {X : Cx} {e : Expr} {t t' : TE} (h : PE X e t) (w : ∀ σ H Q, t' σ H Q → t σ H Q) : PE X e t' := ⟨fun pins s σ H Q I q => h.run pins s σ H Q I (w σ H Q q)⟩
theorem _root_.L2.PT.weaken {X : Cx} {e : Expr} {t t' : TT} (h : PT X e t) (w : ∀ σ H Q, t' σ H Q → t σ H Q) : PT X e t' := ⟨fun pins s σ H Q I q => h.run pins s σ H Q I (w σ H Q q)⟩
theorem _root_.L2.PW.weaken {X : Cx} {e : Expr} {t t' : TT} (h : PW X e t) (w : ∀ σ H Q, t' σ H Q → t σ H Q) : PW X e t' := ⟨fun wh pins s σ H Q I q => h.run wh pins s σ H Q I (w σ H Q q)⟩
theorem _root_.L2.PS.weaken {X : Cx} {e : Stmt} {t t' : TS} (h : PS X e t) (w : ∀ D σ H, t' D σ H → t D σ H) : PS X e t' := ⟨fun pins s σ H D I q => h.run pins s σ H D I (w D σ H q)⟩
theorem _root_.L2.PSs.weaken {X : Cx} {e : List Stmt} {t t' : TS} (h : PSs X e t) (w : ∀ D σ H, t' D σ H → t D σ H) : PSs X e t' := ⟨fun pins s σ H D I q => h.run pins s σ H D I (w D σ H q)⟩
theorem _root_.L2.PA.weaken {X : Cx} {e : List Expr} {t t' : TA} (h : PA X e t) (w : ∀ σ H Q, t' σ H Q → t σ H Q) : PA X e t' := ⟨fun p pins s σ H Q I q => h.run p pins s σ H Q I (w σ H Q q)⟩
theorem _root_.L2.PI.weaken {X : Cx} {tg e : Expr} {t t' : TI} (h : PI X tg e t) (w : ∀ σ H Q, t' σ H Q → t σ H Q) : PI X tg e t' := ⟨fun pins s σ H Q I q => h.run pins s σ H Q I (w σ H Q q)⟩

/-- a two-place operation by a function on values -/
def rF (K : PySem.W.Frag) (f : D → D → Option Op) : R2 := fun v u H Q => ∃ Z p q o, (∀ a, Z a → H a ≠ none) ∧ f p q = some o ∧ Vw K Z H v p ∧ Vw K Z H u q ∧ ∀ w H', Same H H' → NewOk K Z H H' w o → Q w H'
section
variable {K : PySem.W.Frag} {mg : Str → Option Value} {W : WX} {ma mb mc : ME} {σ : L2.St} {H H1 : Hp} {Q : VK} {Z Z1 G : Addr → Prop}
/-- at a value's end -/
theorem PostC.fin {o : Op} {e1 : Sl} {w : V} (h : PostC K T mg W σ Z G H (CE' K T σ G Q) (.ok o e1)) (s : StOk K T e1 σ H Z G) (sm : Same H H1) (nw : NewOk K Z H H1 w o) : Q w H1 :=
  h H1 Z (Same.le sm s.zs) (KeepG.of_same sm fun a g => (s.gs a g).1) w (nw.out s sm)
theorem rd_op2 {f : D → D → Option Op} (h : RdE K T mg (op2 f ma mb) W σ H Q) : tOp (rF K f) (RdE K T mg ma W) (RdE K T mg mb W) σ H Q := by
  obtain ⟨e, Z, G, s, h⟩ := h
  refine ⟨e, Z, G, s, (h.bind fun _ z => z).imp fun o1 e1 Z1 H1 l1 k1 h v ox => ?_⟩
  refine ⟨e1, Z1, Gx G v o1, ox.st, (h.bind fun _ z => .inl z).imp fun o2 e2 Z2 H2 l2 k2 h u oy => ?_⟩
  have s2 := oy.st
  cases q1 : vw o1 e2 with
  | none => rw [q1] at h; exact h.elim
  | some p =>
    cases q2 : vw o2 e2 with
    | none => rw [q1, q2] at h; exact h.elim
    | some q =>
      rw [q1, q2] at h
      simp only [lift] at h
      cases q3 : f p q with
      | none => rw [q3] at h; exact h.elim
      | some o =>
        rw [q3] at h
        have ox2 : OpOk K Z2 H2 σ v o1 := ox.ok.mono l2 fun a z => k2 a (.inr z)
        exact ⟨Z2, p, q, o, s2.zs, q3, ox2.vw s2 q1, oy.ok.vw s2 q2, fun w H3 sm nw => h.fin (s2.less fun a z => .inl (.inl z)) sm nw⟩
end
end Ev
end
section
set_option maxHeartbeats 2000000
/-! EvS1: constants, names, operators, tests, displays. -/
namespace Ev
open PySem PySem.Spec PyProof.Rows L2
variable {T : LT}

theorem gt_nil {i : Nat} : gt [] i = none := by cases i <;> rfl
theorem gt_pt_same : ∀ {e : Sl} {i : Nat} {v w : Option Sv}, gt e i = some w' → gt (pt e i v) i = v
  | [], i, _, _, h => by rw [gt_nil] at h; cases h
  | _ :: _, 0, _, _, _ => rfl
  | _ :: r, i + 1, v, w, h => gt_pt_same (e := r) (i := i) (v := v) (w := w) h
theorem gt_pt_ne : ∀ {e : Sl} {i j : Nat} {v : Option Sv}, i ≠ j → gt (pt e i v) j = gt e j
  | [], _, _, _, _ => rfl
  | _ :: _, 0, 0, _, h => absurd rfl h
  | _ :: _, 0, _ + 1, _, _ => rfl
  | _ :: _, _ + 1, 0, _, _ => rfl
  | _ :: r, i + 1, j + 1, v, h => gt_pt_ne (e := r) (fun z => h (by rw [z]))
/-- behind a store at i a slot is the new one or as it was -/
theorem gt_pt {e : Sl} {i j : Nat} {v : Option Sv} {sv : Sv} (h : gt (pt e i v) j = some sv) : (j = i ∧ v = some sv) ∨ (j ≠ i ∧ gt e j = some sv) := by
  by_cases hj : j = i
  · subst hj
    left
    refine ⟨rfl, ?_⟩
    induction e generalizing j with
    | nil => rw [show pt [] j v = [] from by cases j <;> rfl, gt_nil] at h; cases h
    | cons x r ih =>
      cases j with
      | zero => exact h
      | succ j => exact ih (j := j) h
  · exact .inr ⟨hj, by rw [gt_pt_ne (Ne.symm hj)] at h; exact h⟩
theorem pt_length : ∀ {e : Sl} {i : Nat} {v : Option Sv}, (pt e i v).length = e.length
  | [], _, _ => rfl
  | _ :: _, 0, _ => rfl
  | _ :: r, i + 1, v => by show (pt r i v).length + 1 = r.length + 1; rw [pt_length]

theorem pt_pt : ∀ {e : Sl} {i : Nat} {v w : Option Sv}, pt (pt e i v) i w = pt e i w
  | [], i, _, _ => by cases i <;> rfl
  | _ :: _, 0, _, _ => rfl
  | _ :: r, i + 1, v, w => by show _ :: pt (pt r i v) i w = _ :: pt r i w; rw [pt_pt]
section
variable {K : PySem.W.Frag} {e : Sl} {σ : L2.St} {H : Hp} {Z G : Addr → Prop}
/-- a slot is emptied -/
theorem StOk.drop (s : StOk K T e σ H Z G) (i : Nat) : StOk K T (pt e i none) σ H Z G := by
  refine ⟨s.tb, s.zs, s.gs, fun j sv q => ?_, fun j k sj sk v q1 q2 o1 o2 => ?_⟩
  · rcases gt_pt q with ⟨_, z⟩ | ⟨_, z⟩
    · cases z
    · exact s.sl j sv z
  · rcases gt_pt q1 with ⟨_, z⟩ | ⟨_, z1⟩
    · cases z
    · rcases gt_pt q2 with ⟨_, z⟩ | ⟨_, z2⟩
      · cases z
      · exact s.inj j k sj sk v z1 z2 o1 o2
/-- a slot holds an unchanging value from now on (its V is the same) -/
theorem StOk.imm (s : StOk K T e σ H Z G) {i : Nat} {v : V} {d : D} (hv : σ[i]? = some (some v)) (h : EncD K Z H v d) : StOk K T (pt e i (some (.im d))) σ H Z G := by
  refine ⟨s.tb, s.zs, s.gs, fun j sv q => ?_, fun j k sj sk w q1 q2 o1 o2 => ?_⟩
  · rcases gt_pt q with ⟨rfl, z⟩ | ⟨_, z⟩
    · cases z; exact ⟨v, hv, h⟩
    · exact s.sl j sv z
  · rcases gt_pt q1 with ⟨_, z⟩ | ⟨_, z1⟩
    · cases z; cases o1
    · rcases gt_pt q2 with ⟨_, z⟩ | ⟨_, z2⟩
      · cases z; cases o2
      · exact s.inj j k sj sk w z1 z2 o1 o2
/-- an object that nothing owns stands still from now on -/
theorem StOk.zadd (s : StOk K T e σ H Z G) {a : Addr} (hm : ∃ u, H a = some u ∧ Md u) (hg : ¬ G a) (ho : ∀ i sv, gt e i = some sv → sv.own = true → σ[i]? ≠ some (some (.ref a))) : StOk K T e σ H (fun b => Z b ∨ b = a) G := by
  have l : Le Z H (fun b => Z b ∨ b = a) H := ⟨fun _ h => .inl h, fun _ _ => rfl, fun _ _ h => h, fun _ _ _ h => h⟩
  have ha : H a ≠ none := by obtain ⟨u, e, _⟩ := hm; rw [e]; simp
  refine ⟨⟨s.tb.1, fun b z ps e => ?_, s.tb.2.2⟩, fun b h => h.elim (s.zs b) fun z => z ▸ ha, fun b g => ⟨(s.gs b g).1, fun z => z.elim (s.gs b g).2 fun z => hg (z ▸ g)⟩, fun i sv q => ?_, s.inj⟩
  · rcases z with z | rfl
    · exact s.tb.2.1 b z ps e
    · obtain ⟨u, e2, m⟩ := hm; rw [e] at e2; cases e2; exact m
  obtain ⟨v, h1, h2⟩ := s.sl i sv q
  refine ⟨v, h1, h2.mono l fun o b eb => ?_⟩
  obtain ⟨b', u, eb', _, _, n1, n2⟩ := h2.addr o
  rw [eb] at eb'; cases eb'
  exact ⟨rfl, fun z => z.elim n1 fun z => ho i sv q o (by rw [h1, eb, z]), n2⟩
theorem le_zadd {a : Addr} : Le Z H (fun b => Z b ∨ b = a) H := ⟨fun _ h => .inl h, fun _ _ => rfl, fun _ _ h => h, fun _ _ _ h => h⟩
/-- an operand made unchanging -/
theorem fz_ok {v : V} {o : Op} {d : D} {e1 : Sl} (x : Out K T e σ H Z G v o) (h : fzO o e = some (d, e1)) : ∃ Z1, Le Z H Z1 H ∧ StOk K T e1 σ H Z1 G ∧ EncD K Z1 H v d := by
  have s := x.st
  have ok := x.ok
  cases o with
  | im d' =>
    simp only [fzO, Option.some.injEq, Prod.mk.injEq] at h
    obtain ⟨rfl, rfl⟩ := h
    exact ⟨Z, Le.refl, x.st0, ok⟩
  | tl xs =>
    simp only [fzO, Option.some.injEq, Prod.mk.injEq] at h
    obtain ⟨rfl, rfl⟩ := h
    obtain ⟨a, vs, rfl, h1, hs⟩ := ok
    refine ⟨_, le_zadd (a := a), x.st0.zadd ⟨_, h1, trivial⟩ (x.ne a rfl) (fun i sv q ow q' => ?_), .lst (.inr rfl) h1 (hs.mono le_zadd)⟩
    obtain ⟨_, _, _, _, n⟩ := s.notOwn q ow q'
    exact n (.inr rfl)
  | td kvs =>
    simp only [fzO, Option.some.injEq, Prod.mk.injEq] at h
    obtain ⟨rfl, rfl⟩ := h
    obtain ⟨a, rfl, h1⟩ := ok
    obtain ⟨u, hu, hmu⟩ := h1.some
    refine ⟨_, le_zadd (a := a), x.st0.zadd ⟨_, hu, hmu⟩ (x.ne a rfl) (fun i sv q ow q' => ?_), (h1.mono le_zadd rfl).enc (.inr rfl)⟩
    obtain ⟨_, _, _, _, n⟩ := s.notOwn q ow q'
    exact n (.inr rfl)
  | bor i =>
    have hv : σ[i]? = some (some v) := ok
    have s0 := x.st0
    simp only [fzO] at h
    split at h <;> (try (cases h; done))
    all_goals
      rename_i hg
      simp only [Option.some.injEq, Prod.mk.injEq] at h
      obtain ⟨rfl, rfl⟩ := h
      obtain ⟨v', h1, h2⟩ := s0.sl i _ hg
      rw [hv] at h1; cases h1
    · exact ⟨Z, Le.refl, s0, h2⟩
    · obtain ⟨a, vs, rfl, h3, hs, nz, ng⟩ := h2
      have z := (s0.drop i).zadd (a := a) ⟨_, h3, trivial⟩ ng (fun j sv q ow q' => by
        rcases gt_pt q with ⟨_, z⟩ | ⟨hj, z⟩
        · cases z
        · exact hj (s0.inj j i sv _ _ z hg ow rfl q' hv))
      have := z.imm (i := i) (v := .ref a) (d := .list _) hv (.lst (.inr rfl) h3 (hs.mono le_zadd))
      rw [pt_pt] at this
      exact ⟨_, le_zadd (a := a), this, .lst (.inr rfl) h3 (hs.mono le_zadd)⟩
    · obtain ⟨a, rfl, h3, nz, ng⟩ := h2
      obtain ⟨u, hu, hmu⟩ := h3.some
      have z := (s0.drop i).zadd (a := a) ⟨_, hu, hmu⟩ ng (fun j sv q ow q' => by
        rcases gt_pt q with ⟨_, z⟩ | ⟨hj, z⟩
        · cases z
        · exact hj (s0.inj j i sv _ _ z hg ow rfl q' hv))
      have := z.imm (i := i) (v := .ref a) (d := .dict _) hv ((h3.mono le_zadd rfl).enc (.inr rfl))
      rw [pt_pt] at this
      exact ⟨_, le_zadd (a := a), this, (h3.mono le_zadd rfl).enc (.inr rfl)⟩
end

/-! ### tests -/
def CT' (K : PySem.W.Frag) (T : LT) (σ : L2.St) (G : Addr → Prop) (Q : Bool → Hp → Prop) : Op → Sl → (Addr → Prop) → Hp → Prop := fun o e' Z' H' => ∃ b, tru o = some b ∧ (StOk K T e' σ H' Z' G → Q b H')
def RdT (K : PySem.W.Frag) (T : LT) (mg : Str → Option Value) (m : ME) (W : WX) : TT := fun σ H Q => ∃ e Z G, StOk K T e σ H Z G ∧ PostC K T mg W σ Z G H (CT' K T σ G Q) (m e)
section
variable {K : PySem.W.Frag} {mg : Str → Option Value} {W : WX} {m ma mb mc : ME} {σ : L2.St} {H : Hp}
theorem tru_im {o : Op} {b : Bool} (h : tru o = some b) : o = .im (.bool b) := by
  unfold tru at h
  split at h
  · cases h; rfl
  · cases h
theorem Out.tru {e Z G v o b} (x : Out K T e σ H Z G v o) (h : tru o = some b) : v = .bl b := by
  have e := tru_im h
  subst e
  have := x.ok
  cases (show EncD K Z H v (.bool b) from this)
  rfl
theorem StOk.im {e Z G v d} (s : StOk K T e σ H Z G) (h : EncD K Z H v d) : Out K T e σ H Z G v (.im d) := ⟨s.less fun a z => z.elim id False.elim, h, fun a z => z.elim⟩
theorem rd_T {Q : Bool → Hp → Prop} (h : RdT K T mg m W σ H Q) : tTest (RdE K T mg m W) σ H Q := by
  obtain ⟨e, Z, G, s, h⟩ := h
  exact ⟨e, Z, G, s, h.imp fun o e1 Z1 H1 l k ⟨b, q, h⟩ v x => ⟨b, x.tru q, h x.st0⟩⟩
theorem pt_of {X : Cx} {e : Expr} (h : PE X e (RdE K T mg m W)) (he : ∀ whole, isTrue e X.env whole = (do let v ← whole; standAt e.pos; holding [v] (truthy v))) : PT X e (RdT K T mg m W) :=
  (pt_val h he).weaken fun _ _ _ q => rd_T q

/-! ### constants, names -/
theorem se_imm {X : Cx} {e : Expr} {v : V} {d : D} (h : PE X e (tC v)) (hd : ∀ Z H, EncD K Z H v d) : PE X e (RdE K T mg (immE d) W) :=
  h.weaken fun σ H Q ⟨e, Z, G, s, h⟩ => h.ret v (s.im (hd Z H))
theorem se_bad {X : Cx} {e : Expr} : PE X e (RdE K T mg badE W) := ⟨fun _ _ _ _ _ _ ⟨_, _, _, _, h⟩ => h.elim⟩
theorem se_var {X : Cx} {x : Str} {pos : Pos} {i : Nat} (hN : X.N[i]? = some x) (hv : Vis X.env.scope x) (hd : (x == ("__debug__" : Str)) = false) (hcd : (x == ("__classdict__" : Str)) = false) : PE X (.Name x pos) (RdE K T mg (varE i) W) :=
  (pe_var hN hv hd hcd).weaken fun σ H Q q => by
    obtain ⟨e, Z, G, s, h⟩ := q
    cases qg : gt e i with
    | none => simp only [varE, qg] at h; exact h.elim
    | some sv =>
      obtain ⟨v, h1, h2⟩ := s.sl i sv qg
      have bor : PostC K T mg W σ Z G H (CE' K T σ G Q) (.ok (.bor i) e) → tVar i σ H Q := fun h => ⟨v, h1, h.ret v ⟨s.less fun a z => z.elim id False.elim, h1, fun a z => z.elim⟩⟩
      cases sv with
      | im d =>
        simp only [varE, qg] at h
        exact ⟨v, h1, h.ret v (s.im h2)⟩
      | ex x => simp only [varE, qg] at h; exact h.elim
      | ol xs => simp only [varE, qg] at h; exact bor h
      | od xs => simp only [varE, qg] at h; exact bor h

/-! ### and, or, not, if -/
theorem rd_not {Q : Bool → Hp → Prop} (h : RdT K T mg (notE m) W σ H Q) : tNot (RdT K T mg m W) σ H Q := by
  obtain ⟨e, Z, G, s, h⟩ := h
  refine ⟨e, Z, G, s, (h.bind fun _ z => z).imp fun o e1 Z1 H1 l k h => ?_⟩
  cases qt : tru o with
  | none => rw [qt] at h; exact h.elim
  | some b =>
    rw [qt] at h
    obtain ⟨b', q, h⟩ := h.ret
    cases q
    exact ⟨b, qt, h⟩
theorem rd_notV {Q : VK} (h : RdE K T mg (notE m) W σ H Q) : tNotV (RdE K T mg m W) σ H Q := by
  obtain ⟨e, Z, G, s, h⟩ := h
  refine ⟨e, Z, G, s, (h.bind fun _ z => z).imp fun o e1 Z1 H1 l k h v x => ?_⟩
  cases qt : tru o with
  | none => rw [qt] at h; exact h.elim
  | some b =>
    rw [qt] at h
    exact ⟨b, x.tru qt, h.ret _ (x.st0.im (.bl _))⟩
theorem PostC.tru {α : Type} {Z G : Addr → Prop} {C : α → Sl → (Addr → Prop) → Hp → Prop} {o : Op} {f : Bool → Res α} (h : PostC K T mg W σ Z G H C (match Ev.tru o with | some true => f true | some false => f false | none => .bad)) :
    ∃ b, Ev.tru o = some b ∧ PostC K T mg W σ Z G H C (f b) := by
  cases qt : Ev.tru o with
  | none => rw [qt] at h; exact h.elim
  | some b =>
    rw [qt] at h
    cases b with
    | true => exact ⟨true, rfl, h⟩
    | false => exact ⟨false, rfl, h⟩
theorem rd_andT {r : List ME} {Q : Bool → Hp → Prop} (h : RdT K T mg (andE (ma :: mb :: r)) W σ H Q) : tAnd (RdT K T mg ma W) (RdT K T mg (andE (mb :: r)) W) σ H Q := by
  obtain ⟨e, Z, G, s, h⟩ := h
  refine ⟨e, Z, G, s, (PostC.bind (f := fun o e1 => match tru o with | some true => andE (mb :: r) e1 | some false => .ok (.im (.bool false)) e1 | none => .bad) (fun _ z => z) h).imp fun o e1 Z1 H1 l k h => ?_⟩
  obtain ⟨b, qt, h⟩ := PostC.tru (f := fun b => if b then andE (mb :: r) e1 else .ok (.im (.bool false)) e1) h
  refine ⟨b, qt, fun s1 => ?_⟩
  cases b with
  | false =>
    obtain ⟨b', q, h⟩ := PostC.ret h
    cases q
    exact iteF (h s1)
  | true => exact iteT ⟨e1, Z1, G, s1, h⟩
theorem rd_orT {r : List ME} {Q : Bool → Hp → Prop} (h : RdT K T mg (orE (ma :: mb :: r)) W σ H Q) : tOr (RdT K T mg ma W) (RdT K T mg (orE (mb :: r)) W) σ H Q := by
  obtain ⟨e, Z, G, s, h⟩ := h
  refine ⟨e, Z, G, s, (PostC.bind (f := fun o e1 => match tru o with | some true => .ok (.im (.bool true)) e1 | some false => orE (mb :: r) e1 | none => .bad) (fun _ z => z) h).imp fun o e1 Z1 H1 l k h => ?_⟩
  obtain ⟨b, qt, h⟩ := PostC.tru (f := fun b => if b then .ok (.im (.bool true)) e1 else orE (mb :: r) e1) h
  refine ⟨b, qt, fun s1 => ?_⟩
  cases b with
  | true =>
    obtain ⟨b', q, h⟩ := PostC.ret h
    cases q
    exact iteT (h s1)
  | false => exact iteF ⟨e1, Z1, G, s1, h⟩
theorem rd_andV {r : List ME} {Q : VK} (h : RdE K T mg (andE (ma :: mb :: r)) W σ H Q) : tAndV (RdE K T mg ma W) (RdE K T mg (andE (mb :: r)) W) σ H Q := by
  obtain ⟨e, Z, G, s, h⟩ := h
  refine ⟨e, Z, G, s, (PostC.bind (f := fun o e1 => match tru o with | some true => andE (mb :: r) e1 | some false => .ok (.im (.bool false)) e1 | none => .bad) (fun _ z => z) h).imp fun o e1 Z1 H1 l k h v x => ?_⟩
  obtain ⟨b, qt, h⟩ := PostC.tru (f := fun b => if b then andE (mb :: r) e1 else .ok (.im (.bool false)) e1) h
  refine ⟨b, x.tru qt, ?_⟩
  cases b with
  | false => exact iteF (PostC.ret h _ (x.st0.im (.bl _)))
  | true => exact iteT ⟨e1, Z1, G, x.st0, h⟩
theorem rd_orV {r : List ME} {Q : VK} (h : RdE K T mg (orE (ma :: mb :: r)) W σ H Q) : tOrV (RdE K T mg ma W) (RdE K T mg (orE (mb :: r)) W) σ H Q := by
  obtain ⟨e, Z, G, s, h⟩ := h
  refine ⟨e, Z, G, s, (PostC.bind (f := fun o e1 => match tru o with | some true => .ok (.im (.bool true)) e1 | some false => orE (mb :: r) e1 | none => .bad) (fun _ z => z) h).imp fun o e1 Z1 H1 l k h v x => ?_⟩
  obtain ⟨b, qt, h⟩ := PostC.tru (f := fun b => if b then .ok (.im (.bool true)) e1 else orE (mb :: r) e1) h
  refine ⟨b, x.tru qt, ?_⟩
  cases b with
  | true => exact iteT (PostC.ret h _ (x.st0.im (.bl _)))
  | false => exact iteF ⟨e1, Z1, G, x.st0, h⟩
theorem rd_if {Q : VK} (h : RdE K T mg (ifE mc ma mb) W σ H Q) : tIf (RdT K T mg mc W) (RdE K T mg ma W) (RdE K T mg mb W) σ H Q := by
  obtain ⟨e, Z, G, s, h⟩ := h
  refine ⟨e, Z, G, s, (PostC.bind (f := fun o e1 => match tru o with | some true => ma e1 | some false => mb e1 | none => .bad) (fun _ z => z) h).imp fun o e1 Z1 H1 l k h => ?_⟩
  obtain ⟨b, qt, h⟩ := PostC.tru (f := fun b => if b then ma e1 else mb e1) h
  refine ⟨b, qt, fun s1 => ?_⟩
  cases b with
  | true => exact iteT ⟨e1, Z1, G, s1, h⟩
  | false => exact iteF ⟨e1, Z1, G, s1, h⟩
end

/-! ### one-place operations -/
def rF1 (K : PySem.W.Frag) (f : D → Option Op) : V → Hp → VK → Prop := fun v H Q => ∃ Z p o, (∀ a, Z a → H a ≠ none) ∧ f p = some o ∧ Vw K Z H v p ∧ ∀ w H', Same H H' → NewOk K Z H H' w o → Q w H'
section
variable {K : PySem.W.Frag} {mg : Str → Option Value} {W : WX} {m ma mb mc : ME} {σ : L2.St} {H : Hp}
theorem rd_un1 {f : D → Option Op} {Q : VK} (h : RdE K T mg (un1 f m) W σ H Q) : tUn (rF1 K f) (RdE K T mg m W) σ H Q := by
  obtain ⟨e, Z, G, s, h⟩ := h
  refine ⟨e, Z, G, s, (h.bind fun _ z => z).imp fun o e1 Z1 H1 l k h v x => ?_⟩
  cases q1 : vw o e1 with
  | none => rw [q1] at h; exact h.elim
  | some p =>
    rw [q1] at h
    simp only [lift] at h
    cases q3 : f p with
    | none => rw [q3] at h; exact h.elim
    | some r =>
      rw [q3] at h
      exact ⟨Z1, p, r, x.st.zs, q3, x.ok.vw x.st q1, fun w H3 sm nw => h.fin x.st0 sm nw⟩
end

/-! ### lists of operands -/
def RdAD (K : PySem.W.Frag) (T : LT) (mg : Str → Option Value) (ms : List ME) (W : WX) : TA := fun σ H Q => ∃ e Z G, StOk K T e σ H Z G ∧ PostC K T mg W σ Z G H (fun ds e' Z' H' => ∀ vs, StOk K T e' σ H' Z' G → EncDs K Z' H' vs ds → vs.length = ms.length → Q vs H') (argsD ms e)
section
variable {K : PySem.W.Frag} {mg : Str → Option Value} {W : WX} {m ma mb mc : ME} {ms : List ME} {σ : L2.St} {H : Hp}
theorem rd_nil {Q : List V → Hp → Prop} (h : RdAD K T mg [] W σ H Q) : tNil σ H Q := by
  obtain ⟨e, Z, G, s, h⟩ := h
  exact h.ret [] s .nil rfl
theorem rd_cons {Q : List V → Hp → Prop} (h : RdAD K T mg (m :: ms) W σ H Q) : tCons (RdE K T mg m W) (RdAD K T mg ms W) σ H Q := by
  obtain ⟨e, Z, G, s, h⟩ := h
  refine ⟨e, Z, G, s, (h.bind fun _ z => z).imp fun o e1 Z1 H1 l k h v x => ?_⟩
  cases q1 : fzO o e1 with
  | none => rw [q1] at h; exact h.elim
  | some p =>
    rw [q1] at h
    obtain ⟨d, e2⟩ := p
    obtain ⟨Z2, l2, s2, enc⟩ := fz_ok x q1
    have h := PostC.trans l2 KeepG.refl h
    refine ⟨e2, Z2, G, s2, (h.bind fun _ z => z).imp fun ds e3 Z3 H3 l3 k3 h vs s3 encs le => ?_⟩
    exact h.ret (v :: vs) s3 (.cons (enc.mono l3) encs) (by rw [List.length_cons, List.length_cons, le])
theorem rd_tup {Q : VK} (hl : ms.length ≤ sizeLine) (h : RdE K T mg (tupE ms) W σ H Q) : tTup (RdAD K T mg ms W) σ H Q := by
  obtain ⟨e, Z, G, s, h⟩ := h
  refine ⟨e, Z, G, s, (h.bind fun _ z => z).imp fun ds e1 Z1 H1 l k h vs s1 encs le => ⟨by rw [le]; exact hl, fun p np => ?_⟩⟩
  · have sm : Same H1 (upd H1 p (.tup vs)) := same_new np
    exact h.fin s1 sm (show EncD K Z1 _ _ _ from .tup (.inl (.inl upd_same)) (encs.mono (Same.le sm s1.zs)))
theorem rd_lst {Q : VK} (hl : ms.length ≤ sizeLine) (h : RdE K T mg (lstE ms) W σ H Q) : tLst (RdAD K T mg ms W) σ H Q := by
  obtain ⟨e, Z, G, s, h⟩ := h
  refine ⟨e, Z, G, s, (h.bind fun _ z => z).imp fun ds e1 Z1 H1 l k h vs s1 encs le => ⟨by rw [le]; exact hl, fun p np => ?_⟩⟩
  · have sm : Same H1 (upd H1 p (.lst vs)) := same_new np
    exact h.fin s1 sm ⟨p, vs, rfl, np, upd_same, encs.mono (Same.le sm s1.zs)⟩
end
end Ev
end
section
set_option maxHeartbeats 4000000
/-! EvS2: what operators do with values. -/
namespace Ev
open PySem PySem.Spec PyProof.Rows L2
variable {T : LT}

/-! ### tuple * k for k up to 1, or nothing -/
theorem tuple_mul_same (l : Addr) (items : Array Value) (n : Nat) (dd : Option Addr) (sl : Array (Option Value)) (x : Int) (u : Tok) (c0 : (decide (x < -(2 ^ 63)) || decide (x ≥ 2 ^ 63)) = false) (c1 : (items.isEmpty || x == 1) = true) :
    Meets (Builtin.«tuple.__mul__» ⟨[.ref l, .int x u], []⟩) (fun _ R s => s.heap.get? l = some { cls := .type "tuple", dict := dd, data := .seq items n, slots := sl } ∧
      R (.ok (.ret (Value.ref l))) s) :=
  .of_wp fun prog w A R s h => by
    obtain ⟨hp, g, d, tk, os⟩ := s
    obtain ⟨hl, h⟩ := h
    have f1 := AutoSeq1.idx_int
    wp_walk using wpAny_loadPart' hl
    repeat (first
      | (refine wpAny_ite_false (decide_eq_false (by rw [c0]; exact Bool.false_ne_true)) ?_; wp_walk using wpAny_loadPart' hl)
      | (refine wpAny_ite_true (decide_eq_true (by rw [c1])) ?_; wp_walk using wpAny_loadPart' hl))
    exact ⟨_, rfl, h⟩
theorem tuple_mul_zero (l : Addr) (items : Array Value) (n : Nat) (dd : Option Addr) (sl : Array (Option Value)) (x : Int) (u : Tok) (c0 : (decide (x < -(2 ^ 63)) || decide (x ≥ 2 ^ 63)) = false) (c1 : (items.isEmpty || x == 1) = false) (c2 : (decide (x ≤ 0) || items.isEmpty) = true) :
    Meets (Builtin.«tuple.__mul__» ⟨[.ref l, .int x u], []⟩) (fun _ R s => s.heap.get? l = some { cls := .type "tuple", dict := dd, data := .seq items n, slots := sl } ∧
      R (.ok (.ret (Value.ref s.heap.objs.size))) { s with heap := s.heap.push { cls := Value.type "tuple", data := Data.seq #[] }, toks := s.toks }) :=
  .of_wp fun prog w A R s h => by
    obtain ⟨hp, g, d, tk, os⟩ := s
    obtain ⟨hl, h⟩ := h
    have f1 := AutoSeq1.idx_int
    have hsz : (#[] : Array Value).size ≤ sizeLine := Nat.zero_le _
    wp_walk using wpAny_loadPart' hl
    repeat (first
      | (refine wpAny_ite_false (decide_eq_false (by rw [c0]; exact Bool.false_ne_true)) ?_; wp_walk using wpAny_loadPart' hl)
      | (refine wpAny_ite_false (decide_eq_false (by rw [c1]; exact Bool.false_ne_true)) ?_; wp_walk using wpAny_loadPart' hl)
      | (refine wpAny_ite_true (decide_eq_true (by rw [c2])) ?_; wp_walk using wpAny_loadPart' hl)
      | (refine wpAny_ite_false (decide_eq_false (Nat.not_lt.mpr hsz)) ?_; wp_walk using wpAny_loadPart' hl))
    exact ⟨_, rfl, h⟩
section
variable {X : Cx}
/-- tuple * k: few, or the same, or nothing -/
theorem op_repAny {pins : List (Addr × Obj)} {s : Shared} {σ : L2.St} {H : Hp} {v u : Value} {Q : VK} {l : Addr} {k : Int} {xs : List V} (I : Inv X pins σ H s) (rx : RelV (.ref l) v) (ry : RelV (.int k) u) (hT : SqT X.K H l xs)
    (h0 : 0 ≤ k) (h1 : k ≤ 1000) (h2 : xs.length ≤ 1000) (q : ∀ w H', Same H H' → (∃ p, w = .ref p ∧ SqT X.K H' p (List.replicate k.toNat xs).flatten) → Q w H') :
    wpAny (model X.prog X.w) X.A (binaryOp .Mult v u) (EP X pins σ Q) X.xe s := by
  by_cases hb : xs ≠ [] ∧ 2 ≤ k
  · refine op_repT pins s σ H _ _ v u Q I rx ry ⟨l, k, xs, rfl, rfl, hT, hb.1, hb.2, h1, h2, fun p np => q _ _ (same_new np) ⟨p, rfl, .inl (.inl upd_same)⟩⟩
  · cases rx
    obtain ⟨t, rfl⟩ := ry
    obtain ⟨its, r, ⟨⟨cls, dd, data, sl⟩, ho, hc, n, hd⟩, hs⟩ := I.tuple hT
    simp only at hc hd
    subst hc hd
    have c0 : (decide (k < -(2 ^ 63)) || decide (k ≥ 2 ^ 63)) = false := by
      rw [decide_eq_false (by omega), decide_eq_false (by omega)] <;> rfl
    by_cases c1 : (its.toArray.isEmpty || k == 1) = true
    · refine wpAny_binaryOp_repeat_ref (T := "tuple") (U := "int") (by decide) ⟨_, ho, rfl⟩ (fun s' => typeIs_int s' k t) noFill_tuple_mul F.fills_int_mul F.slot_int_rmul repeat_tuple F.slot_int_index.lookup
        (call_meets F.slot_int_rmul (typeIs_int s k t) F.entry_int_rmul (F.args_int_rmul_2 _ _) (int_rmul_tuple k t l its.toArray n dd sl)
          ⟨ho, rfl, ⟨_, ho, rfl⟩, call_meets F.slot_tuple_mul ⟨_, ho, rfl⟩ F.entry_tuple_mul (F.args_tuple_mul_2 _ _) (tuple_mul_same l its.toArray n dd sl k t c0 c1) ⟨ho, ?_⟩⟩)
      refine ⟨.ref l, H, I, rfl, q _ _ (Same.refl H) ⟨l, rfl, ?_⟩⟩
      have e : (List.replicate k.toNat xs).flatten = xs := by
        rw [Bool.or_eq_true] at c1
        rcases c1 with c | c
        · have : its = [] := by cases its with | nil => rfl | cons a b => simp at c
          subst this
          cases r
          simp
        · have : k = 1 := by simpa using c
          subst this
          simp
      rw [e]
      exact hT
    · have c1 : (its.toArray.isEmpty || k == 1) = false := by simpa using c1
      have hk : k ≤ 0 := by
        rw [Bool.or_eq_false_iff] at c1
        have h3 : k ≠ 1 := by simpa using c1.2
        have h4 : xs ≠ [] := fun z => by subst z; cases r; simp at c1
        by_cases h5 : 2 ≤ k
        · exact absurd ⟨h4, h5⟩ hb
        · omega
      have c2 : (decide (k ≤ 0) || its.toArray.isEmpty) = true := by rw [decide_eq_true hk]; rfl
      refine wpAny_binaryOp_repeat_ref (T := "tuple") (U := "int") (by decide) ⟨_, ho, rfl⟩ (fun s' => typeIs_int s' k t) noFill_tuple_mul F.fills_int_mul F.slot_int_rmul repeat_tuple F.slot_int_index.lookup
        (call_meets F.slot_int_rmul (typeIs_int s k t) F.entry_int_rmul (F.args_int_rmul_2 _ _) (int_rmul_tuple k t l its.toArray n dd sl)
          ⟨ho, rfl, ⟨_, ho, rfl⟩, call_meets F.slot_tuple_mul ⟨_, ho, rfl⟩ F.entry_tuple_mul (F.args_tuple_mul_2 _ _) (tuple_mul_zero l its.toArray n dd sl k t c0 c1 c2) ⟨ho, ?_⟩⟩)
      have e : (List.replicate k.toNat xs).flatten = [] := by rw [show k.toNat = 0 by omega]; rfl
      refine ⟨.ref s.heap.objs.size, _, I.laid (t' := s.toks) (o := .tup []) (fun b ob q => Heap.get?_push_of_some _ q) (Nat.le_refl _) ?_, rfl, q _ _ (same_new (I.hok.fresh (Nat.le_refl _))) ⟨_, rfl, ?_⟩⟩
      · exact ⟨Nat.zero_le _, [], .nil, IsTup.new _ _⟩
      · rw [e]; exact .inl (.inl upd_same)

theorem EncDs.rep {K : PySem.W.Frag} {Z : Addr → Prop} {H : Hp} {vs : List V} {ds : List D} (h : EncDs K Z H vs ds) : ∀ n : Nat, EncDs K Z H (List.replicate n vs).flatten (List.replicate n ds).flatten
  | 0 => .nil
  | n + 1 => by
    rw [List.replicate_succ, List.replicate_succ, List.flatten_cons, List.flatten_cons]
    exact h.append (EncDs.rep h n)
theorem sizeMax_eq : sizeMax = sizeLine := by rw [sizeLine_eq]; rfl
theorem imB_some {b : Bool} {o : Op} (h : imB b = some o) : o = .im (.bool b) := (Option.some.inj h).symm
theorem imI_some {b : Int} {o : Op} (h : imI b = some o) : o = .im (.int b) := (Option.some.inj h).symm
theorem small64_ok {i : Int} (h : small64 i = true) : -(2 ^ 64) < i ∧ i < 2 ^ 64 := by
  unfold small64 at h
  rw [Bool.and_eq_true] at h
  exact ⟨of_decide_eq_true h.1, of_decide_eq_true h.2⟩
theorem opR_bin {op : Operator} : OpR X (binaryOp op) (rF X.K (binD op)) := by
  intro pins s σ H x y v u Q I rx ry h
  obtain ⟨Z, p, q, o, zs, hf, vx, vy, fin⟩ := h
  have int : ∀ {i : Int}, o = .im (.int i) → Q (.int i) H := fun {i} e => fin _ H (Same.refl H) (by subst e; exact EncD.int i)
  unfold binD at hf
  split at hf
  · exact op_add pins s σ H x y v u Q I rx ry ⟨_, _, vx.int, vy.int, int (imI_some hf)⟩
  · split at hf
    · rename_i xs ys hz
      have e := (Option.some.inj hf).symm
      subst e
      obtain ⟨a, vs, rfl, ha, es⟩ := vx.tuple
      obtain ⟨b, us, rfl, hb, fs⟩ := vy.tuple
      have hz : vs.length + us.length ≤ sizeLine := by rw [es.length, fs.length, ← sizeMax_eq]; exact hz
      refine op_catA pins s σ H _ _ v u Q I rx ry ⟨a, b, vs, us, rfl, rfl, ha, hb, hz, fun e => ?_, fun e1 e2 => ?_, fun e1 e2 p np => ?_⟩
      · subst e
        have := es.length
        have e : xs = [] := List.eq_nil_of_length_eq_zero (by simpa using this.symm)
        subst e
        exact fin _ H (Same.refl H) (EncD.tup hb fs)
      · subst e2
        have := fs.length
        have e : ys = [] := List.eq_nil_of_length_eq_zero (by simpa using this.symm)
        subst e
        rw [List.append_nil] at fin
        exact fin _ H (Same.refl H) (EncD.tup ha es)
      · have sm : Same H (upd H p (.tup (vs ++ us))) := same_new np
        exact fin _ _ sm (EncD.tup (.inl (.inl upd_same)) ((es.append fs).mono (Same.le sm zs)))
    · cases hf
  · split at hf
    · rename_i xs ys hz
      have e := (Option.some.inj hf).symm
      subst e
      obtain ⟨a, vs, rfl, ha, es⟩ := vx.list
      obtain ⟨b, us, rfl, hb, fs⟩ := vy.list
      refine op_cat pins s σ H _ _ v u Q I rx ry ⟨a, b, vs, us, rfl, rfl, ha, hb, by rw [es.length, fs.length, ← sizeMax_eq]; exact hz, fun p np => ?_⟩
      have sm : Same H (upd H p (.lst (vs ++ us))) := same_new np
      exact fin _ _ sm ⟨p, _, rfl, np, upd_same, (es.append fs).mono (Same.le sm zs)⟩
    · cases hf
  · exact op_sub pins s σ H x y v u Q I rx ry ⟨_, _, vx.int, vy.int, int (imI_some hf)⟩
  · split at hf
    · rename_i hc
      refine op_mul pins s σ H x y v u Q I rx ry ⟨_, _, vx.int, vy.int, ?_, int (imI_some hf)⟩
      rw [Bool.or_eq_true] at hc
      exact hc.imp small64_ok small64_ok
    · cases hf
  · split at hf
    · rename_i xs k hc
      have e := (Option.some.inj hf).symm
      subst e
      simp only [Bool.and_eq_true, decide_eq_true_eq] at hc
      obtain ⟨a, vs, rfl, ha, es⟩ := vx.tuple
      have := vy.int
      subst this
      refine op_repAny I rx ry ha hc.1.1 hc.1.2 (by rw [es.length]; exact hc.2) fun w H' sm ⟨p, e, hp⟩ => fin w H' sm ?_
      subst e
      exact EncD.tup hp ((es.rep _).mono (Same.le sm zs))
    · cases hf
  · split at hf
    · rename_i xs k hc
      have e := (Option.some.inj hf).symm
      subst e
      simp only [Bool.and_eq_true, decide_eq_true_eq] at hc
      obtain ⟨a, vs, rfl, ha, es⟩ := vx.list
      have hl := es.length
      refine op_rep pins s σ H _ y v u Q I rx ry ⟨a, k, vs, rfl, vy.int, ha, by omega, by omega, ?_, fun p np => ?_⟩
      · rw [hl, sizeLine_eq]
        have : xs.length * k.toNat ≤ 1000 * 1000 := Nat.mul_le_mul hc.2 (by omega)
        omega
      · have sm : Same H (upd H p (.lst (List.replicate k.toNat vs).flatten)) := same_new np
        exact fin _ _ sm ⟨p, _, rfl, np, upd_same, (es.rep _).mono (Same.le sm zs)⟩
    · cases hf
  · split at hf
    · rename_i hc
      simp only [Bool.and_eq_true, decide_eq_true_eq] at hc
      exact op_fdivN pins s σ H x y v u Q I rx ry ⟨_, _, vx.int, vy.int, hc, int (imI_some hf)⟩
    · cases hf
  · split at hf
    · rename_i hc
      exact op_modN pins s σ H x y v u Q I rx ry ⟨_, _, vx.int, vy.int, of_decide_eq_true hc, int (imI_some hf)⟩
    · cases hf
  · split at hf
    · rename_i hc
      simp only [Bool.and_eq_true, decide_eq_true_eq] at hc
      exact op_pow pins s σ H x y v u Q I rx ry ⟨_, _, vx.int, vy.int, ⟨hc.1.1, hc.1.2, hc.2⟩, int (imI_some hf)⟩
    · cases hf
  · split at hf
    · rename_i hc
      simp only [Bool.and_eq_true, decide_eq_true_eq] at hc
      exact op_shl pins s σ H x y v u Q I rx ry ⟨_, _, vx.int, vy.int, ⟨hc.1.1, hc.1.2, hc.2⟩, int (imI_some hf)⟩
    · cases hf
  · cases hf
theorem unR_neg : UnR X (unaryOp .USub) (rF1 X.K negD) := by
  intro pins s σ H x v Q I rx h
  obtain ⟨Z, p, o, zs, hf, vx, fin⟩ := h
  unfold negD at hf
  split at hf
  · exact un_neg pins s σ H x v Q I rx ⟨_, vx.int, fin _ H (Same.refl H) (by have e := imI_some hf; subst e; exact EncD.int _)⟩
  · cases hf

/-! ### comparisons -/
mutual
theorem EncD.dp {K : PySem.W.Frag} {Z : Addr → Prop} {H : Hp} : ∀ {v : V} {d : D}, EncD K Z H v d → PyData.plain d = true → Dp K H v d
  | _, _, .non, _ => .non
  | _, _, .bl b, _ => .bl b
  | _, _, .int i, _ => .int i
  | _, _, .str x, _ => .str x
  | _, _, .lst z h hs, c => .lst (.inl (.inl h)) (EncDs.dp hs (by simpa [PyData.plain] using c))
  | _, _, .tup h hs, c => .tup h (EncDs.dp hs (by simpa [PyData.plain] using c))
  | _, _, .scr h hs, c => by simp [PyData.plain] at c
  | _, _, .dK _ _ _, c => by simp [PyData.plain] at c
  | _, _, .dT _ _ _, c => by simp [PyData.plain] at c
theorem EncDs.dp {K : PySem.W.Frag} {Z : Addr → Prop} {H : Hp} : ∀ {v : List V} {d : List D}, EncDs K Z H v d → PyData.plainAll d = true → DpAll K H v d
  | _, _, .nil, _ => .nil
  | _, _, .cons h hs, c => by
    rw [PyData.plainAll, Bool.and_eq_true] at c
    exact .cons (EncD.dp h c.1) (EncDs.dp hs c.2)
end
theorem Vw.dp {K : PySem.W.Frag} {Z : Addr → Prop} {H : Hp} {v : V} {d : D} (h : Vw K Z H v d) (c : PyData.plain d = true) : Dp K H v d := by
  cases h with
  | im h => exact h.dp c
  | lst h hs => exact .lst (.inl (.inl h)) (hs.dp (by simpa [PyData.plain] using c))
  | dct h => simp [PyData.plain] at c
theorem shp_ok {d : D} (h : shp d = true) : PyData.plain d = true ∧ PyData.depth d ≤ 60 := by
  unfold shp at h
  rw [Bool.and_eq_true] at h
  exact ⟨h.1, of_decide_eq_true h.2⟩
theorem Vw.reads {pins : List (Addr × Obj)} {s : Shared} {σ : L2.St} {H : Hp} {v : V} {u : Value} {Z : Addr → Prop} {d : D} (h : Vw X.K Z H v d) (I : Inv X pins σ H s) (r : RelV v u) (c : PyData.plain d = true) : ∃ as, Reads s.heap u d as := Dp.reads I d v u (h.dp c) r
theorem room60 {A : Around} {m k : Nat} (hu : A.units + 64 < cLine) (h : m ≤ 60) : A.units + min m k < cLine := by
  have := Nat.min_le_left m k
  omega
theorem op_eqB (hu : X.A.units + 64 < cLine) {pins : List (Addr × Obj)} {s : Shared} {σ : L2.St} {H : Hp} {x y : V} {v u : Value} {Q : VK} {Z : Addr → Prop} {p q : D} {b : Bool} (I : Inv X pins σ H s) (rx : RelV x v) (ry : RelV y u) (vx : Vw X.K Z H x p) (vy : Vw X.K Z H y q)
    (h : eqD p q = some b) : (Q (.bl b) H → wpAny (model X.prog X.w) X.A (compareOp .Eq v u) (EP X pins σ Q) X.xe s) ∧ (Q (.bl (!b)) H → wpAny (model X.prog X.w) X.A (compareOp .NotEq v u) (EP X pins σ Q) X.xe s) := by
  unfold eqD at h
  split at h
  · rename_i hc
    rw [Bool.and_eq_true] at hc
    have e := Option.some.inj h
    subst e
    obtain ⟨c1, d1⟩ := shp_ok hc.1
    obtain ⟨c2, _⟩ := shp_ok hc.2
    obtain ⟨as, r1⟩ := vx.reads I rx c1
    obtain ⟨bs, r2⟩ := vy.reads I ry c2
    exact ⟨fun fin => SeqAt.eq_plain r1 r2 c1 c2 (room60 hu d1) ⟨.bl _, H, I, rfl, fin⟩, fun fin => SeqAt.ne_plain r1 r2 c1 c2 (room60 hu d1) ⟨.bl _, H, I, rfl, fin⟩⟩
  · cases h
theorem op_ltB (hu : X.A.units + 64 < cLine) {pins : List (Addr × Obj)} {s : Shared} {σ : L2.St} {H : Hp} {x y : V} {v u : Value} {Q : VK} {Z : Addr → Prop} {p q : D} {b : Bool} (I : Inv X pins σ H s) (rx : RelV x v) (ry : RelV y u) (vx : Vw X.K Z H x p) (vy : Vw X.K Z H y q)
    (h : ltD p q = some b) (fin : Q (.bl b) H) : wpAny (model X.prog X.w) X.A (compareOp .Lt v u) (EP X pins σ Q) X.xe s ∧ wpAny (model X.prog X.w) X.A (compareOp .Gt u v) (EP X pins σ Q) X.xe s := by
  unfold ltD at h
  split at h
  · rename_i hc
    simp only [Bool.and_eq_true] at hc
    obtain ⟨⟨⟨al, nn⟩, h1⟩, h2⟩ := hc
    have e := Option.some.inj h
    subst e
    obtain ⟨c1, d1⟩ := shp_ok h1
    obtain ⟨c2, d2⟩ := shp_ok h2
    obtain ⟨as, r1⟩ := vx.reads I rx c1
    obtain ⟨bs, r2⟩ := vy.reads I ry c2
    have n1 : p ≠ .none := fun z => by subst z; simp [isNone] at nn
    have n2 : q ≠ .none := PySem.W.ne_none_both al n1
    exact ⟨PySem.W.lt_data r1 r2 al n1 (room60 hu d1) ⟨.bl _, H, I, rfl, fin⟩, PySem.W.gt_data r2 r1 (by rw [PySem.W.alike_comm]; exact al) n2 (room60 hu d2) ⟨.bl _, H, I, rfl, fin⟩⟩
  · cases h
theorem op_leB (hu : X.A.units + 64 < cLine) {pins : List (Addr × Obj)} {s : Shared} {σ : L2.St} {H : Hp} {x y : V} {v u : Value} {Q : VK} {Z : Addr → Prop} {p q : D} {b : Bool} (I : Inv X pins σ H s) (rx : RelV x v) (ry : RelV y u) (vx : Vw X.K Z H x p) (vy : Vw X.K Z H y q)
    (h : leD p q = some b) (fin : Q (.bl b) H) : wpAny (model X.prog X.w) X.A (compareOp .LtE v u) (EP X pins σ Q) X.xe s ∧ wpAny (model X.prog X.w) X.A (compareOp .GtE u v) (EP X pins σ Q) X.xe s := by
  unfold leD at h
  split at h
  · rename_i hc
    simp only [Bool.and_eq_true] at hc
    obtain ⟨⟨⟨al, nn⟩, h1⟩, h2⟩ := hc
    have e := Option.some.inj h
    subst e
    obtain ⟨c1, d1⟩ := shp_ok h1
    obtain ⟨c2, d2⟩ := shp_ok h2
    obtain ⟨as, r1⟩ := vx.reads I rx c1
    obtain ⟨bs, r2⟩ := vy.reads I ry c2
    have n1 : p ≠ .none := fun z => by subst z; simp [isNone] at nn
    have n2 : q ≠ .none := PySem.W.ne_none_both al n1
    exact ⟨PySem.W.le_data r1 r2 al n1 (room60 hu d1) ⟨.bl _, H, I, rfl, fin⟩, PySem.W.ge_data r2 r1 (by rw [PySem.W.alike_comm]; exact al) n2 (room60 hu d2) ⟨.bl _, H, I, rfl, fin⟩⟩
  · cases h
theorem op_inB (hu : X.A.units + 65 < cLine) {pins : List (Addr × Obj)} {s : Shared} {σ : L2.St} {H : Hp} {x y : V} {v u : Value} {Q : VK} {Z : Addr → Prop} {p q : D} {b : Bool} (I : Inv X pins σ H s) (rx : RelV x v) (ry : RelV y u) (vx : Vw X.K Z H x p) (vy : Vw X.K Z H y q)
    (h : inD p q = some b) : (Q (.bl b) H → wpAny (model X.prog X.w) X.A (compareOp .In v u) (EP X pins σ Q) X.xe s) ∧ (Q (.bl (!b)) H → wpAny (model X.prog X.w) X.A (compareOp .NotIn v u) (EP X pins σ Q) X.xe s) := by
  have room : ∀ {ds : List D}, PyData.depth p ≤ 60 → X.A.units + 1 + min (PyData.depthAll ds) p.depth < cLine := fun {ds} h => by
    have := Nat.min_le_right (PyData.depthAll ds) p.depth
    omega
  unfold inD at h
  split at h
  · split at h
    · rename_i ds hc
      rw [Bool.and_eq_true] at hc
      have e := Option.some.inj h
      subst e
      obtain ⟨c1, d1⟩ := shp_ok hc.1
      obtain ⟨c2, _⟩ := shp_ok hc.2
      obtain ⟨as, r1⟩ := vx.reads I rx c1
      obtain ⟨bs, r2⟩ := vy.reads I ry c2
      have c3 : PyData.plainAll ds = true := by simpa [PyData.plain] using c2
      exact ⟨fun fin => SeqAt.in_list_data r2 r1 c3 c1 (room d1) ⟨.bl _, H, I, rfl, fin⟩, fun fin => SeqAt.notIn_list_data r2 r1 c3 c1 (room d1) ⟨.bl _, H, I, rfl, fin⟩⟩
    · cases h
  · split at h
    · rename_i ds hc
      rw [Bool.and_eq_true] at hc
      have e := Option.some.inj h
      subst e
      obtain ⟨c1, d1⟩ := shp_ok hc.1
      obtain ⟨c2, _⟩ := shp_ok hc.2
      obtain ⟨as, r1⟩ := vx.reads I rx c1
      obtain ⟨bs, r2⟩ := vy.reads I ry c2
      have c3 : PyData.plainAll ds = true := by simpa [PyData.plain] using c2
      exact ⟨fun fin => SeqAt.in_tuple_data r2 r1 c3 c1 (room d1) ⟨.bl _, H, I, rfl, fin⟩, fun fin => SeqAt.notIn_tuple_data r2 r1 c3 c1 (room d1) ⟨.bl _, H, I, rfl, fin⟩⟩
    · cases h
  · cases h
theorem enc_none {K : PySem.W.Frag} {Z : Addr → Prop} {H : Hp} {x : V} {p : D} (h : Vw K Z H x p) : decide (x = .non) = isNone p := by
  cases h with
  | im h => cases h <;> rfl
  | lst _ _ => rfl
  | dct _ => rfl
theorem op_isB {pins : List (Addr × Obj)} {s : Shared} {σ : L2.St} {H : Hp} {x y : V} {v u : Value} {Q : VK} {Z : Addr → Prop} {p q : D} {b : Bool} (I : Inv X pins σ H s) (rx : RelV x v) (ry : RelV y u) (vx : Vw X.K Z H x p) (vy : Vw X.K Z H y q)
    (h : isD p q = some b) : ((Q (.bl b) H → wpAny (model X.prog X.w) X.A (compareOp .Is v u) (EP X pins σ Q) X.xe s) ∧ (Q (.bl (!b)) H → wpAny (model X.prog X.w) X.A (compareOp .IsNot v u) (EP X pins σ Q) X.xe s)) := by
  unfold isD at h
  split at h
  · have e := Option.some.inj h
    subst e
    rw [← enc_none vx]
    exact ⟨fun fin => op_isN pins s σ H x y v u Q I rx ry ⟨vy.none, fin⟩, fun fin => op_notN pins s σ H x y v u Q I rx ry ⟨vy.none, fin⟩⟩
  · have e := Option.some.inj h
    subst e
    exact ⟨fun fin => op_is_bl pins s σ H x y v u Q I rx ry ⟨_, _, vx.bool, vy.bool, fin⟩, fun fin => op_isnot_bl pins s σ H x y v u Q I rx ry ⟨_, _, vx.bool, vy.bool, fin⟩⟩
  · cases h
theorem map_not {r : Option Bool} {o : Op} (h : (r.map (!·)).bind imB = some o) : ∃ b, r = some b ∧ o = .im (.bool (!b)) := by
  cases r with
  | none => cases h
  | some b => exact ⟨b, rfl, imB_some h⟩
theorem bind_imB {r : Option Bool} {o : Op} (h : r.bind imB = some o) : ∃ b, r = some b ∧ o = .im (.bool b) := by
  cases r with
  | none => cases h
  | some b => exact ⟨b, rfl, imB_some h⟩
theorem opR_cmp {op : CmpOp} (hu : X.A.units + 65 < cLine) : OpR X (compareOp op) (rF X.K fun p q => (cmpD op p q).bind imB) := by
  intro pins s σ H x y v u Q I rx ry h
  obtain ⟨Z, p, q, o, zs, hf, vx, vy, fin⟩ := h
  have bl : ∀ {b : Bool}, o = .im (.bool b) → Q (.bl b) H := fun {b} e => fin _ H (Same.refl H) (by subst e; exact EncD.bl b)
  cases op with
  | Eq => obtain ⟨b, e, e2⟩ := bind_imB hf; exact (op_eqB (by omega) I rx ry vx vy e).1 (bl e2)
  | NotEq => obtain ⟨b, e, e2⟩ := map_not hf; exact (op_eqB (by omega) I rx ry vx vy e).2 (bl e2)
  | In => obtain ⟨b, e, e2⟩ := bind_imB hf; exact (op_inB hu I rx ry vx vy e).1 (bl e2)
  | NotIn => obtain ⟨b, e, e2⟩ := map_not hf; exact (op_inB hu I rx ry vx vy e).2 (bl e2)
  | Is => obtain ⟨b, e, e2⟩ := bind_imB hf; exact (op_isB I rx ry vx vy e).1 (bl e2)
  | IsNot => obtain ⟨b, e, e2⟩ := map_not hf; exact (op_isB I rx ry vx vy e).2 (bl e2)
  | Lt => obtain ⟨b, e, e2⟩ := bind_imB hf; exact (op_ltB (by omega) I rx ry vx vy e (bl e2)).1
  | LtE => obtain ⟨b, e, e2⟩ := bind_imB hf; exact (op_leB (by omega) I rx ry vx vy e (bl e2)).1
  | Gt => obtain ⟨b, e, e2⟩ := bind_imB hf; exact (op_ltB (by omega) I ry rx vy vx e (bl e2)).2
  | GtE => obtain ⟨b, e, e2⟩ := bind_imB hf; exact (op_leB (by omega) I ry rx vy vx e (bl e2)).2
/-- a < b < c -/
theorem rd_chain {K : PySem.W.Frag} {mg : Str → Option Value} {W : WX} {f g : D → D → Option Bool} {ma mb mc : ME} {σ : L2.St} {H : Hp} {Q : VK} (h : RdE K T mg (chainE f g ma mb mc) W σ H Q) :
    tChain (rF K fun p q => (f p q).bind imB) (rF K fun p q => (g p q).bind imB) (RdE K T mg ma W) (RdE K T mg mb W) (RdE K T mg mc W) σ H Q := by
  obtain ⟨e, Z, G, s, h⟩ := h
  refine ⟨e, Z, G, s, (h.bind fun _ z => z).imp fun o1 e1 Z1 H1 l1 k1 h v ox => ?_⟩
  refine ⟨e1, Z1, Gx G v o1, ox.st, (PostC.bind (f := _) (fun _ z => .inl z) h).imp fun o2 e2 Z2 H2 l2 k2 h u oy => ?_⟩
  have s2 := oy.st
  cases q1 : vw o1 e2 with
  | none => rw [q1] at h; exact h.elim
  | some p =>
    cases q2 : vw o2 e2 with
    | none => rw [q1, q2] at h; exact h.elim
    | some q =>
      rw [q1, q2] at h
      dsimp only at h
      cases q3 : f p q with
      | none => rw [q3] at h; exact h.elim
      | some b =>
        rw [q3] at h
        have ox2 : OpOk K Z2 H2 σ v o1 := ox.ok.mono l2 fun a z => k2 a (.inr z)
        refine ⟨Z2, p, q, .im (.bool b), s2.zs, by show (f p q).bind imB = _; rw [q3]; rfl, ox2.vw s2 q1, oy.ok.vw s2 q2, fun w H3 sm nw => ?_⟩
        have nw : EncD K Z2 H3 w (.bool b) := nw
        cases nw
        refine ⟨b, rfl, ?_⟩
        have s20 : StOk K T e2 σ H2 Z2 G := s2.less fun a z => .inl (.inl z)
        have l3 := Same.le sm s2.zs
        cases b with
        | false =>
          exact iteF (PostC.fin h s20 sm (EncD.bl false))
        | true =>
          refine iteT ?_
          have k3 : KeepG (Gx (Gx G v o1) u o2) H2 H3 := KeepG.of_same sm fun a g => (s2.gs a g).1
          have s3 := s2.same sm
          have h := PostC.trans l3 (k3.less fun a z => .inl (.inl z)) h
          refine ⟨e2, Z2, Gx (Gx G v o1) u o2, s3, (PostC.bind (fun a z => .inl (.inl z)) h).imp fun o3 e3 Z4 H4 l4 k4 h w oz => ?_⟩
          have s4 := oz.st
          cases q5 : vw o2 e3 with
          | none => rw [q5] at h; exact h.elim
          | some q' =>
            cases q6 : vw o3 e3 with
            | none => rw [q5, q6] at h; exact h.elim
            | some r =>
              rw [q5, q6] at h
              dsimp only at h
              cases q7 : g q' r with
              | none => rw [q7] at h; exact h.elim
              | some k =>
                rw [q7] at h
                have oy2 : OpOk K Z4 H4 σ u o2 := (oy.ok.mono l3 fun a z => k3 a (.inr z)).mono l4 fun a z => k4 a (.inr z)
                refine ⟨Z4, q', r, .im (.bool k), s4.zs, by show (g q' r).bind imB = _; rw [q7]; rfl, oy2.vw s4 q5, oz.ok.vw s4 q6, fun w5 H5 sm5 nw5 => ?_⟩
                exact PostC.fin h (s4.less fun a z => .inl (.inl (.inl z))) sm5 nw5
end
end Ev
end
section
set_option maxHeartbeats 4000000
/-! EvS3: subscripts, slices, calls of built-ins. -/
namespace Ev
open PySem PySem.Spec PyProof.Rows L2
variable {T : LT}

theorem EncK.noscr {K Z H} {m : List (Key × V)} {kvs : List (D × D)} {d : D} (h : EncK K Z H m kvs) (e : kvs = [(.none, d)]) : False := by
  cases h with
  | nil => cases e
  | @cons k v d r r' _ _ =>
    have e2 := (Prod.mk.inj (List.cons.inj e).1).1
    cases k <;> cases e2
theorem EncT.noscr {K Z H} {m : List (List Key × V)} {kvs : List (D × D)} {d : D} (h : EncT K Z H m kvs) (e : kvs = [(.none, d)]) : False := by
  cases h with
  | nil => cases e
  | cons _ _ => cases (Prod.mk.inj (List.cons.inj e).1).1
theorem DctAt.noscr {K Z H a} {kvs : List (D × D)} {d : D} (h : DctAt K Z H a kvs) (e : kvs = [(.none, d)]) : False := by
  rcases h with ⟨_, _, h⟩ | ⟨_, _, h⟩
  · exact h.noscr e
  · exact h.noscr e
theorem ixD_eq (n : Nat) (i : Int) : ixD n i = L2.ixN n i := rfl
theorem cutI_eq (n d : Nat) (o : Option Int) : cutI n d o = HT.sIx n d o := rfl
section
variable {X : Cx}
theorem EncDs.atI {K : PySem.W.Frag} {Z : Addr → Prop} {H : Hp} {vs : List V} {ds : List D} {i : Int} {j : Nat} {d : D} (h : EncDs K Z H vs ds) (e1 : ixD ds.length i = some j) (e2 : ds[j]? = some d) : ∃ v, L2.atI vs i = some v ∧ EncD K Z H v d := by
  obtain ⟨v, h1, h2⟩ := h.get e2
  refine ⟨v, ?_, h2⟩
  unfold L2.atI
  rw [h.length, ← ixD_eq, e1]
  exact h1
theorem ixR_sub (hu : X.A.units + 65 < cLine) : IxR X (rF X.K subD) := by
  intro value slice pins s σ H x y v u Q I rx ry h hs
  obtain ⟨Z, p, q, o, zs, hf, vx, vy, fin⟩ := h
  unfold subD at hf
  split at hf
  · rename_i xs i
    cases q1 : ixD xs.length i with
    | none => rw [q1] at hf; cases hf
    | some j =>
      rw [q1] at hf
      cases q2 : xs[j]? with
      | none => simp [q2] at hf
      | some d =>
        simp only [q2, Option.map_some, Option.some.injEq] at hf
        subst hf
        obtain ⟨a, vs, rfl, ha, es⟩ := vx.tuple
        obtain ⟨w, h1, h2⟩ := es.atI q1 q2
        exact ix_tup value slice pins s σ H _ y v u Q I rx ry ⟨a, vs, i, w, rfl, vy.int, ha, h1, fin w H (Same.refl H) h2⟩ hs
  · rename_i xs i
    cases q1 : ixD xs.length i with
    | none => rw [q1] at hf; cases hf
    | some j =>
      rw [q1] at hf
      cases q2 : xs[j]? with
      | none => simp [q2] at hf
      | some d =>
        simp only [q2, Option.map_some, Option.some.injEq] at hf
        subst hf
        obtain ⟨a, vs, rfl, ha, es⟩ := vx.list
        obtain ⟨w, h1, h2⟩ := es.atI q1 q2
        exact ix_list value slice pins s σ H _ y v u Q I rx ry ⟨a, vs, i, w, rfl, vy.int, .inl (.inl ha), h1, fin w H (Same.refl H) h2⟩ hs
  · cases hf

/-! ### slices -/
/-- a slice by values; the ends are ints that stand for what the evaluator has -/
def rSl (K : PySem.W.Frag) : V → Option Int → Option Int → Hp → VK → Prop := fun x lo hi H Q => ∃ Z p o, (∀ a, Z a → H a ≠ none) ∧ sliD p lo hi = some o ∧ Vw K Z H x p ∧ ∀ w H', Same H H' → NewOk K Z H H' w o → Q w H'
theorem EncDs.cut {K : PySem.W.Frag} {Z : Addr → Prop} {H : Hp} {vs : List V} {ds : List D} {lo hi : Option Int} (h : EncDs K Z H vs ds) : EncDs K Z H (cutV vs lo hi) (cutL ds lo hi) := by
  unfold cutV cutL
  rw [cutI_eq, cutI_eq, h.length]
  exact (h.drop _).take _
theorem slR_cut : SlR X (rSl X.K) := by
  intro pins s σ H x v vl vu lo hi sl Q I rx hs pl pu h
  obtain ⟨Z, p, o, zs, hp, vx, fin⟩ := h
  unfold sliD at hp
  split at hp <;> (try (cases hp; done)) <;> (have e := (Option.some.inj hp).symm; subst e; clear hp)
  · rename_i xs
    obtain ⟨a, vs, rfl, ha, es⟩ := vx.tuple
    refine sl_tupA pins s σ H _ v vl vu lo hi sl Q I rx hs pl pu ⟨a, vs, rfl, ha, fun ⟨e1, e2⟩ => ?_, fun ne p np => ?_⟩
    · have e : cutL xs lo hi = xs := by
        unfold cutL
        rw [cutI_eq, cutI_eq, ← es.length, e1, e2, es.length]
        simp
      rw [e] at fin
      exact fin _ H (Same.refl H) (EncD.tup ha es)
    · have sm : Same H (upd H p (.tup (cutV vs lo hi))) := same_new np
      exact fin _ _ sm (EncD.tup (.inl (.inl upd_same)) (es.cut.mono (Same.le sm zs)))
  · rename_i xs
    obtain ⟨a, vs, rfl, ha, es⟩ := vx.list
    refine sl_list pins s σ H _ v vl vu lo hi sl Q I rx hs pl pu ⟨a, vs, rfl, .inl (.inl ha), fun p np => ?_⟩
    have sm : Same H (upd H p (.lst (cutV vs lo hi))) := same_new np
    exact fin _ _ sm ⟨p, _, rfl, np, upd_same, es.cut.mono (Same.le sm zs)⟩
  · rename_i xs
    obtain ⟨a, rfl, ha⟩ := vx.dict
    rcases ha with ha | ⟨ds, vs, e, ha, es⟩
    · exact (ha.noscr rfl).elim
    · cases e
      refine sl_list pins s σ H _ v vl vu lo hi sl Q I rx hs pl pu ⟨a, vs, rfl, ?_, fun p np => ?_⟩
      · rcases ha with ⟨_, ha⟩ | ⟨o, ha⟩ | ha
        · exact .inl (.inl ha)
        · exact .inl (.inr ⟨o, ha⟩)
        · exact .inr ha
      · have sm : Same H (upd H p (.lst (cutV vs lo hi))) := same_new np
        exact fin _ _ sm ⟨p, _, rfl, np, upd_same, es.cut.mono (Same.le sm zs)⟩

/-- the ends of a slice: one that is left out, or an int -/
def OptT (K : PySem.W.Frag) (T : LT) (mg : Str → Option Value) (W : WX) (lo : Option ME) (tl : TO) : Prop := (lo = none ∧ tl = tNoPart) ∨ ∃ a, lo = some a ∧ tl = tPart (RdE K T mg a W)
theorem opt_part {K : PySem.W.Frag} {mg : Str → Option Value} {W : WX} {σ : L2.St} {lo : Option ME} {tl : TO} {e1 : Sl} {Z1 G G1 : Addr → Prop} {H1 : Hp} {C : Op → Sl → (Addr → Prop) → Hp → Prop} {f : Option Int → Sl → Res Op} {R : Option Int → Hp → Prop}
    (hl : OptT K T mg W lo tl) (hG : ∀ a, G a → G1 a) (s : StOk K T e1 σ H1 Z1 G1) (h : PostC K T mg W σ Z1 G H1 C ((optE lo e1).bind f))
    (k : ∀ i e2 Z2 H2, Le Z1 H1 Z2 H2 → KeepG G1 H1 H2 → StOk K T e2 σ H2 Z2 G1 → PostC K T mg W σ Z2 G H2 C (f i e2) → R i H2) : tl σ H1 R := by
  rcases hl with ⟨rfl, rfl⟩ | ⟨a, rfl, rfl⟩
  · exact k none e1 Z1 H1 Le.refl KeepG.refl s h
  · have h2 := PostC.bind hG h
    refine ⟨e1, Z1, G1, s, (PostC.bind (fun _ z => z) h2).imp fun o e2 Z2 H2 l2 k2 h v x => ?_⟩
    split at h
    · rename_i i
      have := x.ok
      cases (show EncD K Z2 H2 v (.int i) from this)
      exact ⟨i, rfl, k (some i) e2 Z2 H2 l2 k2 x.st0 (PostC.ret h)⟩
    · exact h.elim
theorem rd_slice {K : PySem.W.Frag} {mg : Str → Option Value} {W : WX} {m : ME} {σ : L2.St} {H : Hp} {Q : VK} {lo hi : Option ME} {tl th : TO} (h : RdE K T mg (sliE m lo hi) W σ H Q)
    (hl : OptT K T mg W lo tl) (hh : OptT K T mg W hi th) : tSl (rSl K) (RdE K T mg m W) tl th σ H Q := by
  obtain ⟨e, Z, G, s, h⟩ := h
  refine ⟨e, Z, G, s, (h.bind fun _ z => z).imp fun o1 e1 Z1 H1 l1 k1 h v ox => ?_⟩
  refine opt_part hl (fun _ z => .inl z) ox.st h fun i e2 Z2 H2 l2 k2 s2 h => ?_
  refine opt_part hh (fun _ z => .inl z) s2 h fun j e3 Z3 H3 l3 k3 s3 h => ?_
  have ox3 : OpOk K Z3 H3 σ v o1 := (ox.ok.mono l2 fun a z => k2 a (.inr z)).mono l3 fun a z => k3 a (.inr z)
  cases q1 : vw o1 e3 with
  | none => rw [q1] at h; exact h.elim
  | some p =>
    rw [q1] at h
    simp only [lift] at h
    cases q2 : sliD p i j with
    | none => rw [q2] at h; exact h.elim
    | some o =>
      rw [q2] at h
      exact ⟨Z3, p, o, s3.zs, q2, ox3.vw s3 q1, fun w H4 sm nw => PostC.fin h (s3.less fun a z => .inl z) sm nw⟩
end
end Ev
end
section
set_option maxHeartbeats 4000000
/-! EvSo: sorted of a tuple. -/
namespace PySem
open AutoSeq1 (wpAny_loadPart')
/-- the items of a tuple collected: the heap has one object more -/
theorem collect_tup_sz {prog : Program} {w : World} {A : Around} {E : Value → Shared → Prop} {s : Shared} {Q : List Value → Shared → Prop} (it : Addr) {o : Obj} {items : Array Value} {n : Nat}
    (ho : s.heap.get? it = some o) (hc : o.cls = .type "tuple") (hd : o.data = .seq items n)
    (hQ : ∀ h', h'.objs.size = s.heap.objs.size + 1 → (∀ b o', s.heap.get? b = some o' → h'.get? b = some o') → Q items.toList { s with heap := h' }) (hsz : items.size ≤ sizeLine) :
    wpAny (model prog w) A (collect (.ref it)) Q E s := by
  let h0 : Heap := s.heap.push { cls := .type "list", data := .seq ([] : List Value).toArray }
  have hS : h0.get? s.heap.objs.size = some { cls := .type "list", data := .seq #[] 0 } := Heap.get?_push_size _ rfl
  let h1 : Heap := h0.update s.heap.objs.size (Obj.mapSeq (· ++ items))
  have hS2 := Heap.get?_update_self (Obj.mapSeq (· ++ items)) hS rfl
  have goal : Q items.toList { s with heap := h1 } := hQ h1 (by show (Heap.update _ _ _).objs.size = _; rw [Heap.size_update]; exact PyProof.Rows.size_push' _ _) fun b o' hb => (Heap.get?_update_other _ _ (Nat.ne_of_gt (Heap.lt_size hb))).trans (Heap.get?_push_of_some _ hb)
  have last : wpAny (model prog w) A (match Value.ref s.heap.objs.size with
      | Value.ref a => do
        match (← load a).data with
          | Data.seq xs _ => pure xs.toList
          | _ => unsupported "internal:collect"
      | _ => unsupported "internal:collect") Q E { s with heap := h1 } := by
    show wpAny _ A (load s.heap.objs.size >>= _) _ _ _
    refine wpAny_bind (wpAny_load hS2 (wpAny_pure ?_))
    show Q ((#[] : Array Value) ++ items).toList _
    have e : ((#[] : Array Value) ++ items).toList = items.toList := by simp
    rw [e]
    exact goal
  unfold collect
  refine wpAny_bind (wpAny_runValue (codeAny_builtin F.entry_proto_collect ?_))
  rw [Around.under_plainId F.plain_proto_collect _]
  show wpAny _ A.in1 (newList [] >>= fun l => again (.builtin "list.__iadd__" ⟨[l, .ref it], []⟩)) _ _ s
  refine wpAny_bind (wpAny_newObj_type (wpAny_pure ⟨plainId_quiet F.plain_list_iadd _, codeAny_builtin F.entry_list_iadd ?_⟩))
  rw [Around.under_plainId F.plain_list_iadd _]
  show wpAny _ A.in1 (Builtin.List.listExtendWith (.ref s.heap.objs.size) (.ref it) (.ref s.heap.objs.size)) _ _ { s with heap := h0 }
  refine wpAny_mono (wpAny_extend_seq (hsz := hsz) (A := A) (R := fun r s' => r = .ok (.ret (.ref s.heap.objs.size)) ∧ s' = { s with heap := h1 })
    (s := { s with heap := h0 }) _ it _ 0 (.inr rfl) hS (Heap.get?_push_of_some _ ho) hc hd ⟨rfl, rfl⟩) (fun fin s' h => ?_) (fun e s' h => absurd h.1 (by simp))
  cases fin with
  | done f =>
    obtain ⟨e, rfl⟩ := h
    cases e
    exact last
  | again c' => exact ⟨h.1, codeAny_mono h.2 fun r s'' hr => by obtain ⟨rfl, rfl⟩ := hr; exact last⟩
end PySem
namespace PySem.W
open PySem PySem.Calls PyProof.Rows
section
variable {prog : Program} {w : World} {A : Around} {E : Value → Shared → Prop} {s : Shared} {β : Type} {R : Value → β → Prop} {enc : β → PyData} {vs : List Value} {bs : List β}
theorem sorted_tup_data {l : Addr} {o : Obj} {n : Nat} {Q : Value → Shared → Prop} (ho : s.heap.get? l = some o) (hc : o.cls = .type "tuple") (hd : o.data = .seq vs.toArray n) (e : EachIs R vs bs) (er : EachIs (fun v b => ∃ as, Reads s.heap v (enc b) as) vs bs) (hal : AllAlike (bs.map enc)) (hk : Sortable (bs.map enc)) (hL : bs.length ≤ sizeLine)
    (hu : ∀ b, b ∈ bs → A.units + 2 + (enc b).depth < cLine)
    (h : ∀ h' a m out, (∀ b o, s.heap.get? b = some o → h'.get? b = some o) → s.heap.objs.size ≤ a → h'.get? a = some (seqObj "list" (List.toArray out) m) → out.length = bs.length → EachIs R out (bs.mergeSort (dataLe false enc)) → Q (.ref a) { s with heap := h' }) :
    wpAny (model prog w) A (call (.builtin "sorted") [.ref l]) Q E s := by
  have hvL : vs.length ≤ sizeLine := by rw [e.length]; exact hL
  refine call_function_entry_kw kind_sorted plain_sorted entry_sorted (args_sorted1 _) ?_
  unfold Builtin.«sorted»
  refine wpAny_bind (m := checkCount "sorted" 1 1 _) (wpAny_pure ?_)
  refine wpAny_bind (PySem.collect_tup_sz l ho hc hd (fun h1 hz1 hk1 => ?_) (by rw [List.size_toArray]; exact hvL))
  rw [List.toList_toArray]
  refine wpAny_bind (wpAny_newList ?_ hvL)
  have hat : (h1.push (seqObj "list" vs.toArray 0)).get? h1.objs.size = some (seqObj "list" vs.toArray 0) := Heap.get?_push_size _ rfl
  have old : ∀ b o, s.heap.get? b = some o → (h1.push (seqObj "list" vs.toArray 0)).get? b = some o ∧ b ≠ h1.objs.size := fun b o hb => ⟨Heap.get?_push_of_some _ (hk1 b o hb), Nat.ne_of_lt (Heap.lt_size (hk1 b o hb))⟩
  have hsize : s.heap.objs.size ≤ h1.objs.size := by omega
  have er' : EachIs (fun v b => ∃ as, Reads (sortingHeap (h1.push (seqObj "list" vs.toArray 0)) h1.objs.size vs) v (enc b) as) vs bs := er.mono fun _ _ ⟨as, r⟩ => ⟨as, PyProof.Rows.Reads.keeps (fun b o hb => sortingHeap_old (old b o hb).2 (old b o hb).1) r⟩
  have S := SortsAt.data (prog := prog) (w := w) (A := A.in1.in1) (s := { s with heap := sortingHeap (h1.push (seqObj "list" vs.toArray 0)) h1.objs.size vs }) (each_map (R := fun v d => ∃ as, Reads (sortingHeap (h1.push (seqObj "list" vs.toArray 0)) h1.objs.size vs) v d as) enc er') hal hk (bound_map hu)
  refine wpAny_bind (wpAny_holding (wpAny_call_entry_kw slot_list_sort ⟨_, hat, rfl⟩ entry_list_sort ?body (args_list_sort _)))
  case body =>
    show wpAny (model prog w) A.in1.in1 (Builtin.«list.sort» ⟨[.ref h1.objs.size], []⟩) _ _ { s with heap := h1.push (seqObj "list" vs.toArray 0) }
    refine wpAny_mono (list_sort_vals (s := { s with heap := h1.push (seqObj "list" vs.toArray 0) }) (P := fun f s' => f = .done (.ret .none) ∧ Q (.ref h1.objs.size) s') hat S hvL ⟨rfl, ?_⟩) (fun f s' hf => ?_) fun _ _ e => e
    · obtain ⟨c, hc'⟩ := sortedHeap_at (vs := vs) (out := (sortVals (dataKind (sortingHeap (h1.push (seqObj "list" vs.toArray 0)) h1.objs.size vs) (bs.map enc)) false vs vs).toArray) hat
      exact h _ h1.objs.size c _ (fun b o hb => (sortedHeap_old (old b o hb).2 (Heap.lt_size (old b o hb).1)).trans (old b o hb).1) hsize hc' (by rw [sortVals_length false rfl]; exact e.length) (sortVals_data false e er' hal)
    · obtain ⟨rfl, hq⟩ := hf
      exact ⟨_, rfl, wpAny_pure ⟨_, rfl, hq⟩⟩
end
end PySem.W
end
section
set_option maxHeartbeats 4000000
/-! EvS4: arguments as operands; the built-ins called. -/
namespace Ev
open PySem PySem.Spec PyProof.Rows L2
variable {T : LT}

def Gxs : (Addr → Prop) → List V → List Op → Addr → Prop
  | G, v :: vs, o :: os => Gxs (Gx G v o) vs os
  | G, _, _ => G
/-- operands as they come, from the left -/
def Outs (K : PySem.W.Frag) (T : LT) (e : Sl) (σ : L2.St) (H : Hp) (Z : Addr → Prop) : (Addr → Prop) → List V → List Op → Prop
  | G, [], [] => StOk K T e σ H Z G
  | G, v :: vs, o :: os => OpOk K Z H σ v o ∧ (∀ a, OwnA v o a → ¬ G a) ∧ Outs K T e σ H Z (Gx G v o) vs os
  | _, _, _ => False
def RdAO (K : PySem.W.Frag) (T : LT) (mg : Str → Option Value) (ms : List ME) (W : WX) : TA := fun σ H Q => ∃ e Z G, StOk K T e σ H Z G ∧ PostC K T mg W σ Z G H (fun os e' Z' H' => ∀ vs, Outs K T e' σ H' Z' G vs os → Q vs H') (argsO ms e)
section
variable {K : PySem.W.Frag} {mg : Str → Option Value} {W : WX} {m : ME} {ms : List ME} {σ : L2.St} {H : Hp} {e : Sl} {Z : Addr → Prop}
theorem Outs.st : ∀ {G : Addr → Prop} {vs : List V} {os : List Op}, Outs K T e σ H Z G vs os → StOk K T e σ H Z G
  | _, [], [], h => h
  | _, _ :: _, _ :: _, h => (Outs.st h.2.2).less fun _ z => .inl z
  | _, [], _ :: _, h => h.elim
  | _, _ :: _, [], h => h.elim
theorem Outs.views : ∀ {G : Addr → Prop} {vs : List V} {os : List Op} {ds : List D}, Outs K T e σ H Z G vs os → vws os e = some ds → Vws K Z H vs ds
  | _, [], [], ds, h, q => by cases q; exact .nil
  | _, v :: vs, o :: os, ds, h, q => by
    obtain ⟨h1, h2, h3⟩ := h
    simp only [vws] at q
    cases q1 : vw o e with
    | none => rw [q1] at q; cases q
    | some d =>
      cases q2 : vws os e with
      | none => rw [q1, q2] at q; cases q
      | some ds' =>
        rw [q1, q2] at q
        cases q
        exact .cons (h1.vw (Outs.st h3) q1) (Outs.views h3 q2)
  | _, [], _ :: _, _, h, _ => h.elim
  | _, _ :: _, [], _, h, _ => h.elim
theorem rd_onil {Q : List V → Hp → Prop} (h : RdAO K T mg [] W σ H Q) : tNil σ H Q := by
  obtain ⟨e, Z, G, s, h⟩ := h
  exact h.ret [] s
theorem rd_ocons {Q : List V → Hp → Prop} (h : RdAO K T mg (m :: ms) W σ H Q) : tCons (RdE K T mg m W) (RdAO K T mg ms W) σ H Q := by
  obtain ⟨e, Z, G, s, h⟩ := h
  refine ⟨e, Z, G, s, (h.bind fun _ z => z).imp fun o e1 Z1 H1 l k h v x => ?_⟩
  refine ⟨e1, Z1, Gx G v o, x.st, (PostC.bind (fun _ z => .inl z) h).imp fun os e2 Z2 H2 l2 k2 h vs xs => ?_⟩
  exact PostC.ret h (v :: vs) ⟨x.ok.mono l2 fun a z => k2 a (.inr z), x.ne, xs⟩
end

/-! ### calls of built-ins -/
def rB (K : PySem.W.Frag) (F : List D → Option Op) : List V → Hp → VK → Prop := fun vs H Q => ∃ Z ds o, (∀ a, Z a → H a ≠ none) ∧ F ds = some o ∧ Vws K Z H vs ds ∧ ∀ w H', Same H H' → NewOk K Z H H' w o → Q w H'
theorem rd_blt {K : PySem.W.Frag} {mg : Str → Option Value} {W : WX} {ms : List ME} {σ : L2.St} {H : Hp} {Q : VK} {F : List D → Option Op} (h : RdE K T mg (bltE F ms) W σ H Q) : tCB (rB K F) (RdAO K T mg ms W) σ H Q := by
  obtain ⟨e, Z, G, s, h⟩ := h
  refine ⟨e, Z, G, s, (h.bind fun _ z => z).imp fun os e1 Z1 H1 l k h vs xs => ?_⟩
  cases q1 : vws os e1 with
  | none => rw [q1] at h; exact h.elim
  | some ds =>
    rw [q1] at h
    simp only [lift] at h
    cases q2 : F ds with
    | none => rw [q2] at h; exact h.elim
    | some o =>
      rw [q2] at h
      exact ⟨Z1, ds, o, xs.st.zs, q2, xs.views q1, fun w H2 sm nw => PostC.fin h xs.st sm nw⟩
theorem Vws.one {K Z H vs d} (h : Vws K Z H vs [d]) : ∃ v, vs = [v] ∧ Vw K Z H v d := by
  cases h with
  | cons h t => cases t; exact ⟨_, rfl, h⟩
theorem Vws.two {K Z H vs d d'} (h : Vws K Z H vs [d, d']) : ∃ v v', vs = [v, v'] ∧ Vw K Z H v d ∧ Vw K Z H v' d' := by
  cases h with
  | cons h t => cases t with
    | cons h' t => cases t; exact ⟨_, _, rfl, h, h'⟩
theorem Vws.three {K Z H vs d d' d2} (h : Vws K Z H vs [d, d', d2]) : ∃ v v' v2, vs = [v, v', v2] ∧ Vw K Z H v d ∧ Vw K Z H v' d' ∧ Vw K Z H v2 d2 := by
  cases h with
  | cons h t => cases t with
    | cons h' t => cases t with
      | cons h2 t => cases t; exact ⟨_, _, _, rfl, h, h', h2⟩
theorem vals_cons {v : V} {vs : List V} {us : List Value} (r : Vals (v :: vs) us) : ∃ u us', us = u :: us' ∧ RelV v u ∧ Vals vs us' := by
  cases r with
  | cons h t => exact ⟨_, _, rfl, h, t⟩
theorem ints_of {K Z H} : ∀ {vs : List V} {ds : List D} {ns : List Int}, EncDs K Z H vs ds → intsD ds = some ns → vs = ns.map V.int
  | _, _, _, .nil, q => by cases q; rfl
  | v :: vs, d :: ds, ns, .cons h hs, q => by
    cases d with
    | int i =>
      cases h
      simp only [intsD] at q
      cases q2 : intsD ds with
      | none => rw [q2] at q; cases q
      | some ms =>
        rw [q2] at q
        cases q
        rw [ints_of hs q2]
        rfl
    | _ => cases q
theorem bools_of {K Z H} : ∀ {vs : List V} {ds : List D} {ns : List Bool}, EncDs K Z H vs ds → boolsD ds = some ns → vs = ns.map V.bl
  | _, _, _, .nil, q => by cases q; rfl
  | v :: vs, d :: ds, ns, .cons h hs, q => by
    cases d with
    | bool i =>
      cases h
      simp only [boolsD] at q
      cases q2 : boolsD ds with
      | none => rw [q2] at q; cases q
      | some ms =>
        rw [q2] at q
        cases q
        rw [bools_of hs q2]
        rfl
    | _ => cases q
section
variable {X : Cx}
theorem seq_cases {p : D} {xs : List D} (h : seqD p = some xs) : p = .list xs ∨ p = .tuple xs := by
  unfold seqD at h
  split at h
  · cases h; exact .inl rfl
  · cases h; exact .inr rfl
  · cases h
theorem sum_tup {prog : Program} {w : World} {A : Around} {E : Value → Shared → Prop} {s : Shared} {l : Addr} {its : List Value} {ns : List Int} {Q : Value → Shared → Prop} (hh : A.handled = none) (hl : s.heap.IsTuple l its.toArray) (hi : IntsAre its ns)
    (h : ∀ h' tk t', (∀ b o, s.heap.get? b = some o → h'.get? b = some o) → Q (.int ns.sum t') { s with heap := h', toks := tk }) : wpAny (model prog w) A (call (.builtin "sum") [.ref l]) Q E s := by
  obtain ⟨xs, e⟩ := hi.allInts.items
  have hn : numsOf (intItems xs).toList = ns := by rw [← e]; exact hi.numsOf
  rw [nums_intItems] at hn
  rw [e] at hl
  refine PySem.W.ktm_sumG hh hl fun h' tk t' hk => ?_
  have := h h' tk t' hk
  rw [preSum_eq, List.take_of_length_le (by simp), hn]; exact this
theorem alike_all {xs : List D} (h : alikeB xs = true) : PySem.W.AlikeAll xs := by
  unfold alikeB at h
  rw [Bool.and_eq_true, List.all_eq_true, List.all_eq_true] at h
  refine ⟨fun x hx y hy => ?_, fun x hx e => ?_⟩
  · have := h.1 x hx
    rw [List.all_eq_true] at this
    exact this y hy
  · have := h.2 x hx
    subst e
    simp [isNone] at this
theorem shps_ok {d : List D} (h : shps d = true) : PyData.plainAll d = true ∧ PyData.depthAll d ≤ 60 := by
  unfold shps at h
  rw [Bool.and_eq_true] at h
  exact ⟨h.1, of_decide_eq_true h.2⟩
theorem fold_mem {f : D → D → Bool} : ∀ (xs : List D) (x : D), xs.foldl (fun a y => if f y a then y else a) x ∈ x :: xs
  | [], x => by simp
  | y :: xs, x => by
    rw [List.foldl_cons]
    by_cases h : f y x = true
    · rw [if_pos h]
      exact List.mem_cons_of_mem _ (fold_mem xs y)
    · rw [if_neg h]
      have := fold_mem (f := f) xs x
      rcases List.mem_cons.mp this with e | e
      · rw [e]; exact List.mem_cons_self
      · exact List.mem_cons_of_mem _ (List.mem_cons_of_mem _ e)
theorem minD_mem (x : D) (xs : List D) : PySem.W.minD x xs ∈ x :: xs := fold_mem (f := fun y a => PySem.W.dataLt y a) xs x
theorem maxD_mem (x : D) (xs : List D) : PySem.W.maxD x xs ∈ x :: xs := fold_mem (f := fun y a => PySem.W.dataLt a y) xs x
theorem depth_mem : ∀ {xs : List D} {x : D}, x ∈ xs → PyData.depth x ≤ PyData.depthAll xs
  | y :: ys, x, h => by
    rw [PyData.depthAll]
    rcases List.mem_cons.mp h with rfl | h
    · exact Nat.le_max_left _ _
    · exact Nat.le_trans (depth_mem h) (Nat.le_max_right _ _)
/-- the least, the greatest of a list or a tuple -/
theorem best_of {f : String} {best : D → List D → D} (hb : (f = "min" ∧ best = PySem.W.minD) ∨ (f = "max" ∧ best = PySem.W.maxD)) (hc : X.calm = true) (hu : X.A.units + 64 < cLine) {pins : List (Addr × Obj)} {s : Shared} {σ : L2.St} {H : Hp} {v : V} {u : Value} {Q : VK} {Z : Addr → Prop} {p x : D} {xs : List D}
    (I : Inv X pins σ H s) (r : RelV v u) (hv : Vw X.K Z H v p) (hs : seqD p = some (x :: xs)) (ha : alikeB (x :: xs) = true) (hd : shps (x :: xs) = true) (fin : ∀ w, EncD X.K Z H w (best x xs) → Q w H) :
    wpAny (model X.prog X.w) X.A (call (.builtin f) [u]) (EP X pins σ Q) X.xe s := by
  obtain ⟨c1, d1⟩ := shps_ok hd
  have hal := alike_all ha
  have hr : X.A.units + 1 + PyData.depthAll (x :: xs) < cLine := by omega
  have close : ∀ {its : List Value} {vs : List V} {as : List Addr}, Vals vs its → EncDs X.K Z H vs (x :: xs) → ReadsAll s.heap its (x :: xs) as → ∀ (i : Nat) (w : Value) (h' : Heap) (tk : Nat) (bs : List Addr), its.toArray[i]? = some w → Reads h' w (best x xs) bs → (∀ b o, s.heap.get? b = some o → h'.get? b = some o) →
      EP X pins σ Q w { s with heap := h', toks := tk } := by
    intro its vs as rv es hr i w h' tk bs hi hw hk
    have hi : its[i]? = some w := by simpa using hi
    have hlt : i < (x :: xs).length := by
      have := (List.getElem?_eq_some_iff.mp hi).1
      rw [← es.length, rv.length]
      exact this
    obtain ⟨z, hz, ez⟩ := es.get (i := i) (d := (x :: xs)[i]) (by simp [hlt])
    obtain ⟨w', hw', rz⟩ := rv.get hz
    rw [hi] at hw'; cases hw'
    -- the item reads as best: it is that item
    have pl : ∀ y, y ∈ x :: xs → PyData.plain y = true := fun y hy => PySem.W.plain_mem c1 hy
    have mem : best x xs ∈ x :: xs := by
      rcases hb with ⟨_, rfl⟩ | ⟨_, rfl⟩
      · exact minD_mem x xs
      · exact maxD_mem x xs
    have e : (x :: xs)[i] = best x xs := by
      obtain ⟨as2, r2⟩ := (Vw.im ez : Vw X.K Z H z _).reads I rz (pl _ (List.getElem_mem hlt))
      exact PySem.SeqAt.plain_unique _ _ _ _ _ (pl _ (List.getElem_mem hlt)) (PyProof.Rows.Reads.keeps hk r2) hw
    rw [e] at ez
    exact ⟨z, H, I.kept (t' := tk) hk, rz, fin z ez⟩
  rcases seq_cases hs with rfl | rfl
  · obtain ⟨a, vs, rfl, h1, es⟩ := hv.list
    cases (show u = Value.ref a from r)
    obtain ⟨its, rv, pl, _⟩ := I.list (SqL.of h1)
    obtain ⟨as, hr'⟩ := Dp.readsAll I _ vs its (es.dp c1) rv
    rcases hb with ⟨rfl, rfl⟩ | ⟨rfl, rfl⟩
    · exact PySem.W.min_list_data (I.ok.hd hc) pl.isList (by simpa using hr') hal hr fun i w h' tk bs h1 h2 h3 => close rv es hr' i w h' tk bs h1 h2 h3
    · exact PySem.W.max_list_data (I.ok.hd hc) pl.isList (by simpa using hr') hal hr fun i w h' tk bs h1 h2 h3 => close rv es hr' i w h' tk bs h1 h2 h3
  · obtain ⟨a, vs, rfl, h1, es⟩ := hv.tuple
    cases (show u = Value.ref a from r)
    obtain ⟨its, rv, pl, _⟩ := I.tuple h1
    obtain ⟨as, hr'⟩ := Dp.readsAll I _ vs its (es.dp c1) rv
    rcases hb with ⟨rfl, rfl⟩ | ⟨rfl, rfl⟩
    · exact PySem.W.min_tuple_data (I.ok.hd hc) pl (by simpa using hr') hal hr fun i w h' tk bs h1 h2 h3 => close rv es hr' i w h' tk bs h1 h2 h3
    · exact PySem.W.max_tuple_data (I.ok.hd hc) pl (by simpa using hr') hal hr fun i w h' tk bs h1 h2 h3 => close rv es hr' i w h' tk bs h1 h2 h3

/-- sorted of a list of data of one kind -/
theorem sorted_of (hu : X.A.units + 66 < cLine) {pins : List (Addr × Obj)} {s : Shared} {σ : L2.St} {H : Hp} {v : V} {u : Value} {Q : VK} {Z : Addr → Prop} {xs : List D} (zs : ∀ a, Z a → H a ≠ none)
    (I : Inv X pins σ H s) (r : RelV v u) (hv : Vw X.K Z H v (.list xs)) (ha : alikeB xs = true) (hd : shps xs = true) (hs : sortB xs = true) (hl : xs.length ≤ sizeMax) (fin : ∀ w H', Same H H' → NewOk X.K Z H H' w (.tl (xs.mergeSort leB)) → Q w H') :
    wpAny (model X.prog X.w) X.A (call (.builtin "sorted") [u]) (EP X pins σ Q) X.xe s := by
  obtain ⟨c1, d1⟩ := shps_ok hd
  obtain ⟨a, vs, rfl, h1, es⟩ := hv.list
  cases (show u = Value.ref a from r)
  obtain ⟨its, rv, pl, _⟩ := I.list (SqL.of h1)
  have each : ∀ {vs : List V} {ds : List D} {its : List Value}, EncDs X.K Z H vs ds → Vals vs its → PySem.W.EachIs (fun u d => ∃ v, RelV v u ∧ EncD X.K Z H v d) its ds := by
    intro vs ds its h
    induction vs generalizing ds its with
    | nil => intro rv; cases h; cases rv; exact .nil
    | cons v vs ih =>
      intro rv
      cases h with
      | cons h1 h2 =>
        cases rv with
        | cons r1 r2 => exact .cons ⟨v, r1, h1⟩ (ih h2 r2)
  have e := each es rv
  have er : PySem.W.EachIs (fun u d => ∃ as, Reads s.heap u (id d) as) its xs := by
    have := PySem.W.each_mem e
    refine this.mono fun u d ⟨⟨v, r, en⟩, hm⟩ => ?_
    exact (Vw.im en : Vw X.K Z H v d).reads I r (PySem.W.plain_mem c1 hm)
  have hal : PySem.W.AllAlike (xs.map id) := by
    rw [List.map_id]
    exact fun d hd d' hd' => (alike_all ha).1 d hd d' hd'
  have hso : PySem.W.Sortable (xs.map id) := by
    rw [List.map_id]
    unfold sortB at hs
    rw [Bool.or_eq_true, List.all_eq_true, List.all_eq_true] at hs
    rcases hs with hs | hs
    · refine .inl fun d hd => ?_
      have := hs d hd
      split at this
      · exact ⟨_, _, rfl⟩
      · cases this
    · refine .inr fun d hd => ?_
      have := hs d hd
      split at this
      · cases this
      · cases this
      · rename_i n1 n2
        exact ⟨n2, n1⟩
  have depth : ∀ b, b ∈ xs → X.A.units + 2 + PyData.depth (id b) < cLine := fun b hb => by
    have : PyData.depth b ≤ PyData.depthAll xs := depth_mem hb
    show X.A.units + 2 + PyData.depth b < cLine
    omega
  refine PySem.W.sorted_data (R := fun u d => ∃ v, RelV v u ∧ EncD X.K Z H v d) (enc := id) pl.isList e er hal hso (by rw [← sizeMax_eq]; exact hl) depth fun out hlen eo => ?_
  have back : ∀ {out : List Value} {ds : List D}, PySem.W.EachIs (fun u d => ∃ v, RelV v u ∧ EncD X.K Z H v d) out ds → ∃ vs, Vals vs out ∧ EncDs X.K Z H vs ds := by
    intro out ds h
    induction h with
    | nil => exact ⟨[], .nil, .nil⟩
    | cons h _ ih =>
      obtain ⟨v, r, en⟩ := h
      obtain ⟨vs, rv, es⟩ := ih
      exact ⟨v :: vs, .cons r rv, .cons en es⟩
  obtain ⟨ws, rw', ew⟩ := back eo
  have e1 : PySem.W.dataLe false (id : D → D) = leB := by
    funext x y
    rfl
  rw [e1] at ew
  obtain ⟨en, hat⟩ := sortedAll_at s.heap its out.toArray
  have hfr : H (s.heap.objs.size + 1) = none := I.hok.fresh (Nat.le_succ _)
  have sm : Same H (upd H (s.heap.objs.size + 1) (.lst ws)) := same_new hfr
  have I2 := I.kept (t' := s.toks) (h' := sortedAll s.heap its out.toArray) fun b o hb => sortedAll_old hb
  have hz : ws.length ≤ sizeLine := by
    rw [rw'.length, hlen, ← sizeMax_eq]
    exact hl
  have I3 := I.laid (t' := s.toks) (a := s.heap.objs.size + 1) (o := .lst ws) (h' := sortedAll s.heap its out.toArray) (fun b o hb => sortedAll_old hb) (Nat.le_succ _) ⟨hz, out, en, rw', hat⟩
  exact ⟨.ref (s.heap.objs.size + 1), _, I3, rfl, fin _ _ sm ⟨_, ws, rfl, hfr, upd_same, ew.mono (Same.le sm zs)⟩⟩

/-- sorted of a tuple of data of one kind -/
theorem sorted_of_t (hu : X.A.units + 66 < cLine) {pins : List (Addr × Obj)} {s : Shared} {σ : L2.St} {H : Hp} {v : V} {u : Value} {Q : VK} {Z : Addr → Prop} {xs : List D} (zs : ∀ a, Z a → H a ≠ none)
    (I : Inv X pins σ H s) (r : RelV v u) (hv : Vw X.K Z H v (.tuple xs)) (ha : alikeB xs = true) (hd : shps xs = true) (hs : sortB xs = true) (hl : xs.length ≤ sizeMax) (fin : ∀ w H', Same H H' → NewOk X.K Z H H' w (.tl (xs.mergeSort leB)) → Q w H') :
    wpAny (model X.prog X.w) X.A (call (.builtin "sorted") [u]) (EP X pins σ Q) X.xe s := by
  obtain ⟨c1, d1⟩ := shps_ok hd
  obtain ⟨a, vs, rfl, h1, es⟩ := hv.tuple
  cases (show u = Value.ref a from r)
  obtain ⟨its, rv, ⟨ob, ho, hoc, nn, hod⟩, _⟩ := I.tuple h1
  have each : ∀ {vs : List V} {ds : List D} {its : List Value}, EncDs X.K Z H vs ds → Vals vs its → PySem.W.EachIs (fun u d => ∃ v, RelV v u ∧ EncD X.K Z H v d) its ds := by
    intro vs ds its h
    induction vs generalizing ds its with
    | nil => intro rv; cases h; cases rv; exact .nil
    | cons v vs ih =>
      intro rv
      cases h with
      | cons h1 h2 =>
        cases rv with
        | cons r1 r2 => exact .cons ⟨v, r1, h1⟩ (ih h2 r2)
  have e := each es rv
  have er : PySem.W.EachIs (fun u d => ∃ as, Reads s.heap u (id d) as) its xs := by
    have := PySem.W.each_mem e
    refine this.mono fun u d ⟨⟨v, r, en⟩, hm⟩ => ?_
    exact (Vw.im en : Vw X.K Z H v d).reads I r (PySem.W.plain_mem c1 hm)
  have hal : PySem.W.AllAlike (xs.map id) := by
    rw [List.map_id]
    exact fun d hd d' hd' => (alike_all ha).1 d hd d' hd'
  have hso : PySem.W.Sortable (xs.map id) := by
    rw [List.map_id]
    unfold sortB at hs
    rw [Bool.or_eq_true, List.all_eq_true, List.all_eq_true] at hs
    rcases hs with hs | hs
    · refine .inl fun d hd => ?_
      have := hs d hd
      split at this
      · exact ⟨_, _, rfl⟩
      · cases this
    · refine .inr fun d hd => ?_
      have := hs d hd
      split at this
      · cases this
      · cases this
      · rename_i n1 n2
        exact ⟨n2, n1⟩
  have depth : ∀ b, b ∈ xs → X.A.units + 2 + PyData.depth (id b) < cLine := fun b hb => by
    have : PyData.depth b ≤ PyData.depthAll xs := depth_mem hb
    show X.A.units + 2 + PyData.depth b < cLine
    omega
  refine PySem.W.sorted_tup_data (R := fun u d => ∃ v, RelV v u ∧ EncD X.K Z H v d) (enc := id) ho hoc hod e er hal hso (by rw [← sizeMax_eq]; exact hl) depth fun h2 p2 m2 out old hp2 hat hlen eo => ?_
  have back : ∀ {out : List Value} {ds : List D}, PySem.W.EachIs (fun u d => ∃ v, RelV v u ∧ EncD X.K Z H v d) out ds → ∃ vs, Vals vs out ∧ EncDs X.K Z H vs ds := by
    intro out ds h
    induction h with
    | nil => exact ⟨[], .nil, .nil⟩
    | cons h _ ih =>
      obtain ⟨v, r, en⟩ := h
      obtain ⟨vs, rv, es⟩ := ih
      exact ⟨v :: vs, .cons r rv, .cons en es⟩
  obtain ⟨ws, rw', ew⟩ := back eo
  have e1 : PySem.W.dataLe false (id : D → D) = leB := by
    funext x y
    rfl
  rw [e1] at ew
  have hfr : H p2 = none := I.hok.fresh hp2
  have sm : Same H (upd H p2 (.lst ws)) := same_new hfr
  have I2 := I.kept (t' := s.toks) (h' := h2) old
  have hz : ws.length ≤ sizeLine := by
    rw [rw'.length, hlen, ← sizeMax_eq]
    exact hl
  have I3 := I.laid (t' := s.toks) (a := p2) (o := .lst ws) (h' := h2) old hp2 ⟨hz, out, m2, rw', hat⟩
  exact ⟨.ref p2, _, I3, rfl, fin _ _ sm ⟨_, ws, rfl, hfr, upd_same, ew.mono (Same.le sm zs)⟩⟩

def bltVal : Bl → Value
  | .len => .builtin "len" | .sum => .builtin "sum" | .max => .builtin "max" | .min => .builtin "min" | .any => .builtin "any" | .all => .builtin "all" | .sorted => .builtin "sorted" | .abs => .builtin "abs"
  | .tuple => .type "tuple" | .list => .type "list" | .int => .type "int"
theorem callR_blt {b : Bl} (hc : X.calm = true) (hu : X.A.units + 66 < cLine) : CallR X (bltVal b) (rB X.K (bltD b)) := by
  intro pins s σ H vs us Q I r h
  obtain ⟨Z, ds, o, zs, hf, hv, fin⟩ := h
  have int : ∀ {i : Int}, o = .im (.int i) → Q (.int i) H := fun {i} e => fin _ H (Same.refl H) (by subst e; exact EncD.int i)
  have bl : ∀ {i : Bool}, o = .im (.bool i) → Q (.bl i) H := fun {i} e => fin _ H (Same.refl H) (by subst e; exact EncD.bl i)
  unfold bltD at hf
  split at hf
  · obtain ⟨v, rfl, hw⟩ := hv.one
    obtain ⟨a, vs, rfl, h1, es⟩ := hw.tuple
    exact call_len_seq pins s σ H _ us Q I r ⟨a, vs, rfl, .inr h1, int (by rw [es.length]; exact imI_some hf)⟩
  · obtain ⟨v, rfl, hw⟩ := hv.one
    obtain ⟨a, vs, rfl, h1, es⟩ := hw.list
    exact call_len_seq pins s σ H _ us Q I r ⟨a, vs, rfl, .inl (SqL.of h1), int (by rw [es.length]; exact imI_some hf)⟩
  · obtain ⟨v, rfl, hw⟩ := hv.one
    split at hf
    · rename_i xs q1
      split at hf
      · rename_i ns q2
        rcases seq_cases q1 with rfl | rfl
        · obtain ⟨a, vs, rfl, h1, es⟩ := hw.list
          have e := ints_of es q2
          subst e
          exact cr_sum hc pins s σ H _ us Q I r ⟨a, ns, rfl, SqL.of h1, int (imI_some hf)⟩
        · obtain ⟨a, vs, rfl, h1, es⟩ := hw.tuple
          have e := ints_of es q2
          subst e
          obtain ⟨its, rv, pl, _⟩ := I.tuple h1
          rw [Vals.ref1 r]
          exact sum_tup (I.ok.hd hc) pl rv.ints fun h' tk t' hk => ⟨.int _, H, I.kept hk, ⟨_, rfl⟩, int (imI_some hf)⟩
      · cases hf
    · cases hf
  · obtain ⟨v, rfl, hw⟩ := hv.one
    obtain ⟨u, rfl, r1⟩ := Vals.one r
    split at hf
    · rename_i x xs q1
      split at hf
      · rename_i hc2
        rw [Bool.and_eq_true] at hc2
        have e := (Option.some.inj hf).symm
        subst e
        exact best_of (.inr ⟨rfl, rfl⟩) hc (by omega) I r1 hw q1 hc2.1 hc2.2 fun w hw => fin w H (Same.refl H) hw
      · cases hf
    · cases hf
  · obtain ⟨v, rfl, hw⟩ := hv.one
    obtain ⟨u, rfl, r1⟩ := Vals.one r
    split at hf
    · rename_i x xs q1
      split at hf
      · rename_i hc2
        rw [Bool.and_eq_true] at hc2
        have e := (Option.some.inj hf).symm
        subst e
        exact best_of (.inl ⟨rfl, rfl⟩) hc (by omega) I r1 hw q1 hc2.1 hc2.2 fun w hw => fin w H (Same.refl H) hw
      · cases hf
    · cases hf
  · obtain ⟨v, rfl, hw⟩ := hv.one
    obtain ⟨u, rfl, r1⟩ := Vals.one r
    split at hf
    · rename_i xs hc2
      simp only [Bool.and_eq_true, decide_eq_true_eq] at hc2
      have e := (Option.some.inj hf).symm
      subst e
      exact sorted_of hu zs I r1 hw hc2.1.1.1 hc2.1.1.2 hc2.1.2 hc2.2 fin
    · cases hf
  · obtain ⟨v, rfl, hw⟩ := hv.one
    obtain ⟨u, rfl, r1⟩ := Vals.one r
    split at hf
    · rename_i xs hc2
      simp only [Bool.and_eq_true, decide_eq_true_eq] at hc2
      have e := (Option.some.inj hf).symm
      subst e
      exact sorted_of_t hu zs I r1 hw hc2.1.1.1 hc2.1.1.2 hc2.1.2 hc2.2 fin
    · cases hf
  · obtain ⟨v, v', rfl, h1, h2⟩ := hv.two
    exact call_max2 hc pins s σ H _ us Q I r ⟨_, _, by rw [h1.int, h2.int], int (imI_some hf)⟩
  · obtain ⟨v, v', rfl, h1, h2⟩ := hv.two
    exact call_min2 hc pins s σ H _ us Q I r ⟨_, _, by rw [h1.int, h2.int], int (imI_some hf)⟩
  · rename_i i j k
    obtain ⟨v1, v2, v3, rfl, h1, h2, h3⟩ := hv.three
    rw [h1.int, h2.int, h3.int] at r
    obtain ⟨u, us', rfl, r1, r2⟩ := vals_cons r
    obtain ⟨u2, us2, rfl, r3, r4⟩ := vals_cons r2
    obtain ⟨u3, us3, rfl, r5, r6⟩ := vals_cons r4
    cases r6
    obtain ⟨t, rfl⟩ := r1
    obtain ⟨t', rfl⟩ := r3
    obtain ⟨t2, rfl⟩ := r5
    refine max_three_ints (I.ok.hd hc) fun h' tk kk => ⟨_, H, I.kept kk, ?_, int (imI_some hf)⟩
    by_cases a : j > i
    · by_cases b : k > j
      · rw [if_pos a, if_pos b, if_pos a, if_pos b]; exact ⟨_, rfl⟩
      · rw [if_pos a, if_neg b, if_pos a, if_neg b]; exact ⟨_, rfl⟩
    · by_cases b : k > i
      · rw [if_neg a, if_pos b, if_neg a, if_pos b]; exact ⟨_, rfl⟩
      · rw [if_neg a, if_neg b, if_neg a, if_neg b]; exact ⟨_, rfl⟩
  · obtain ⟨v, rfl, hw⟩ := hv.one
    split at hf
    · rename_i bs q2
      obtain ⟨a, vs, rfl, h1, es⟩ := hw.list
      have e := bools_of es q2
      subst e
      exact cr_any hc pins s σ H _ us Q I r ⟨a, bs, rfl, SqL.of h1, bl (imB_some hf)⟩
    · cases hf
  · obtain ⟨v, rfl, hw⟩ := hv.one
    split at hf
    · rename_i bs q2
      obtain ⟨a, vs, rfl, h1, es⟩ := hw.list
      have e := bools_of es q2
      subst e
      exact cr_all hc pins s σ H _ us Q I r ⟨a, bs, rfl, SqL.of h1, bl (imB_some hf)⟩
    · cases hf
  · obtain ⟨v, rfl, hw⟩ := hv.one
    split at hf
    · rename_i xs q1
      have e := (Option.some.inj hf).symm
      subst e
      rcases seq_cases q1 with rfl | rfl
      · obtain ⟨a, vs, rfl, h1, es⟩ := hw.list
        refine call_tuple_of pins s σ H _ us Q I r ⟨a, vs, rfl, .inl ⟨SqL.of h1, fun p np => ?_⟩⟩
        have sm : Same H (upd H p (.tup vs)) := same_new np
        exact fin _ _ sm (EncD.tup (.inl (.inl upd_same)) (es.mono (Same.le sm zs)))
      · obtain ⟨a, vs, rfl, h1, es⟩ := hw.tuple
        exact call_tuple_of pins s σ H _ us Q I r ⟨a, vs, rfl, .inr ⟨h1, fin _ H (Same.refl H) (EncD.tup h1 es)⟩⟩
    · cases hf
  · obtain ⟨v, rfl, hw⟩ := hv.one
    split at hf
    · rename_i xs q1
      have e := (Option.some.inj hf).symm
      subst e
      have go : ∀ {a : Addr} {vs : List V}, v = .ref a → (SqL X.K H a vs ∨ SqT X.K H a vs) → EncDs X.K Z H vs xs → wpAny (model X.prog X.w) X.A (call (bltVal .list) us) (EP X pins σ Q) X.xe s := by
        intro a vs e h1 es
        subst e
        refine call_list_of pins s σ H _ us Q I r ⟨a, vs, rfl, h1, fun p np => ?_⟩
        have sm : Same H (upd H p (.lst vs)) := same_new np
        exact fin _ _ sm ⟨p, vs, rfl, np, upd_same, es.mono (Same.le sm zs)⟩
      rcases seq_cases q1 with rfl | rfl
      · obtain ⟨a, vs, e, h1, es⟩ := hw.list
        exact go e (.inl (SqL.of h1)) es
      · obtain ⟨a, vs, e, h1, es⟩ := hw.tuple
        exact go e (.inr h1) es
    · cases hf
  · obtain ⟨v, rfl, hw⟩ := hv.one
    exact call_abs pins s σ H _ us Q I r ⟨_, by rw [hw.int], int (imI_some hf)⟩
  · obtain ⟨v, rfl, hw⟩ := hv.one
    exact call_int1 pins s σ H _ us Q I r (.inl ⟨_, by rw [hw.int], int (imI_some hf)⟩)
  · cases hf

end
/-! ### isinstance -/
def tyName : Ty → String
  | .int => "int" | .bool => "bool" | .str => "str" | .tuple => "tuple" | .list => "list" | .dict => "dict"
def tyV : D → String
  | .none => "NoneType" | .bool _ => "bool" | .int _ => "int" | .str _ => "str" | .list _ => "list" | .tuple _ => "tuple" | .dict _ => "dict"
theorem kit_tab : ∀ (n : String) (t : Ty), n ∈ ["NoneType", "bool", "int", "str", "list", "tuple", "dict"] → kitB n (tyName t) = some (decide (n = tyName t) || (decide (n = "bool") && decide (t = .int))) := by
  intro n t h
  simp only [List.mem_cons, List.not_mem_nil, or_false] at h
  rcases h with rfl | rfl | rfl | rfl | rfl | rfl | rfl <;> cases t <;> decide +kernel
theorem Vw.tyX {K : PySem.W.Frag} {Z : Addr → Prop} {H : Hp} {v : V} {d : D} {t : Ty} {b : Bool} (h : Vw K Z H v d) (q : tyD d t = some b) : TyX K H v (.type (tyV d)) ∧ kitB (tyV d) (tyName t) = some b := by
  have dct : ∀ {a : Addr} {kvs : List (D × D)}, DctAt K Z H a kvs → TyX K H (.ref a) (.type "dict") := fun {a kvs} h => by
    rcases h with ⟨m, h, _⟩ | ⟨m, h, _⟩
    · exact .base (.dK h)
    · exact .base (.dT h)
  constructor
  · cases h with
    | im h => cases h with
      | non => exact .base .non
      | bl b => exact .base (.bl b)
      | int i => exact .base (.int i)
      | str x => exact .base (.str x)
      | lst z h hs => exact .base (.lst h)
      | tup h hs =>
        rcases h with (h | ⟨o, h⟩) | ⟨o, its, n, h1, h2, _⟩
        · exact .base (.tup h)
        · exact .fTuple h
        · exact .kTuple h1 h2
      | scr _ _ => cases q
      | dK z h hs => exact dct (.inl ⟨_, h, hs⟩)
      | dT z h hs => exact dct (.inr ⟨_, h, hs⟩)
    | lst h hs => exact .base (.lst h)
    | dct h => exact dct h
  · rw [kit_tab _ _ (by cases d <;> simp [tyV])]
    unfold tyD at q
    split at q <;> (try (cases q; done)) <;> (have e := Option.some.inj q; subst e; cases t <;> rfl)
def isT (K : PySem.W.Frag) (t : Ty) (te : TE) : TE := tCB (rIsi K) (tCons te (tCons (tC (.ty (tyName t))) tNil))
theorem rd_isi {K : PySem.W.Frag} {mg : Str → Option Value} {W : WX} {m : ME} {σ : L2.St} {H : Hp} {Q : VK} {t : Ty} (h : RdE K T mg (isiE t m) W σ H Q) : isT K t (RdE K T mg m W) σ H Q := by
  obtain ⟨e, Z, G, s, h⟩ := h
  refine ⟨e, Z, G, s, (h.bind fun _ z => z).imp fun o e1 Z1 H1 l k h v x => ?_⟩
  cases q1 : vw o e1 with
  | none => rw [q1] at h; exact h.elim
  | some p =>
    rw [q1] at h
    dsimp only [lift] at h
    cases q2 : tyD p t with
    | none => rw [q2] at h; exact h.elim
    | some b =>
      rw [q2] at h
      obtain ⟨h1, h2⟩ := (x.ok.vw x.st q1).tyX q2
      exact ⟨v, .ty (tyName t), _, _, b, rfl, .ty _, h1, kit_ty h2, PostC.fin h x.st0 (Same.refl _) (EncD.bl b)⟩
theorem pe_isi {X : Cx} {m : ME} {W : WX} {a : Expr} {t : Ty} {Tn : Str} {p p2 pos : Pos} (ha : PE X a (RdE X.K T X.mg m W)) (hg : Gl X "isinstance") (hm : X.mg "isinstance" = none) (hgT : Gl X Tn) (hmT : X.mg Tn = none) (hT : tyOf Tn = some t) (hst : ∀ e q, a ≠ .Starred e q) :
    PE X (.Call (.Name "isinstance" p) [a, .Name Tn p2] [] pos) (RdE X.K T X.mg (isiE t m) W) := by
  have key : bootBuiltins Tn = some (.type (tyName t)) ∧ Tn ≠ "__name__" ∧ (Tn == ("__debug__" : Str)) = false := by
    unfold tyOf at hT
    repeat' split at hT
    all_goals first
      | (cases hT; done)
      | (rename_i e; subst e; cases hT; exact ⟨by decide +kernel, by decide, by decide⟩)
  have hp : PE X (.Name Tn p2) (tC (.ty (tyName t))) := pe_bltn hgT hmT key.1 rfl key.2.1 key.2.2
  have h1 : starEach [a, .Name Tn p2] X.env = (false, eval a X.env) :: starEach [.Name Tn p2] X.env := by
    cases a <;> first | rfl | exact absurd rfl (hst _ _)
  exact (pe_callB call_isi hg hm (by decide +kernel) (pa_cons ha (pa_cons hp pa_nil) h1) (he := h1)).weaken fun _ _ _ q => rd_isi q
end Ev
end
section
set_option maxHeartbeats 4000000
/-! EvS5: calls of defs of the text. -/
namespace Ev
open PySem PySem.Spec PyProof.Rows L2
variable {T : LT}

theorem gt_append : ∀ {ps e : Sl} {i : Nat}, gt (ps ++ e) i = if i < ps.length then gt ps i else gt e (i - ps.length)
  | [], e, i => by simp
  | x :: ps, e, 0 => by simp [gt]
  | x :: ps, e, i + 1 => by
    show gt (ps ++ e) i = _
    rw [gt_append]
    simp only [List.length_cons, Nat.add_lt_add_iff_right, Nat.add_sub_add_right]
    rfl
section
variable {K : PySem.W.Frag} {e : Sl} {σ : L2.St} {H : Hp} {Z G : Addr → Prop}
/-- an own slot's object is kept from now on, the slot emptied -/
theorem StOk.toFrame (s : StOk K T e σ H Z G) {i : Nat} {sv : Sv} {a : Addr} (h : gt e i = some sv) (o : sv.own = true) (hv : σ[i]? = some (some (V.ref a))) : StOk K T (pt e i none) σ H Z (fun b => G b ∨ b = a) := by
  obtain ⟨u, h1, _, nz, ng⟩ := s.notOwn h o hv
  obtain ⟨u', h1', hm, _, _⟩ := s.notOwn h o hv
  refine ⟨⟨s.tb.1, s.tb.2.1, fun b z => ?_⟩, s.zs, fun b g => ?_, fun j sj q => ?_, fun j k sj sk v q1 q2 o1 o2 => ?_⟩
  · rcases z with z | rfl
    · exact s.tb.2.2 b z
    · exact ⟨_, h1', hm⟩
  · rcases g with g | rfl
    · exact s.gs b g
    · exact ⟨by rw [h1]; simp, nz⟩
  · rcases gt_pt q with ⟨_, z⟩ | ⟨hj, z⟩
    · cases z
    · obtain ⟨v, e1, e2⟩ := s.sl j sj z
      refine ⟨v, e1, e2.mono Le.refl fun oj b eb => ?_⟩
      subst eb
      obtain ⟨_, _, _, n1, n2⟩ := s.notOwn z oj e1
      exact ⟨rfl, n1, fun g => g.elim n2 fun e3 => hj (s.inj j i sj sv (.ref a) z h oj o (e3 ▸ e1) hv)⟩
  · rcases gt_pt q1 with ⟨_, z⟩ | ⟨_, z1⟩
    · cases z
    · rcases gt_pt q2 with ⟨_, z⟩ | ⟨_, z2⟩
      · cases z
      · exact s.inj j k sj sk v z1 z2 o1 o2
theorem Outs.toFrame : ∀ {G : Addr → Prop} {vs : List V} {os : List Op} {i : Nat} {sv : Sv} {a : Addr}, Outs K T e σ H Z G vs os → gt e i = some sv → sv.own = true → σ[i]? = some (some (V.ref a)) → Outs K T (pt e i none) σ H Z (fun b => G b ∨ b = a) vs os
  | _, [], [], _, _, _, h, h1, h2, h3 => StOk.toFrame h h1 h2 h3
  | G, v :: vs, o :: os, i, sv, a, h, h1, h2, h3 => by
    obtain ⟨q1, q2, q3⟩ := h
    have ih := Outs.toFrame (a := a) q3 h1 h2 h3
    obtain ⟨_, _, _, _, ng⟩ := (Outs.st q3).notOwn h1 h2 h3
    refine ⟨q1, fun b hb g => g.elim (q2 b hb) fun e => ng (.inr (e ▸ hb)), ?_⟩
    have e : (fun b => Gx G v o b ∨ b = a) = Gx (fun b => G b ∨ b = a) v o := by
      funext b
      unfold Gx
      apply propext
      constructor
      · rintro ((h | h) | h)
        · exact .inl (.inl h)
        · exact .inr h
        · exact .inl (.inr h)
      · rintro ((h | h) | h)
        · exact .inl (.inl h)
        · exact .inr h
        · exact .inl (.inr h)
    rw [← e]
    exact ih
  | _, [], _ :: _, _, _, _, h, _, _, _ => h.elim
  | _, _ :: _, [], _, _, _, h, _, _, _ => h.elim
/-- a slot that holds an own object, frozen: the same for pending operands -/
theorem Outs.freeze : ∀ {G : Addr → Prop} {vs : List V} {os : List Op} {v : V} {i : Nat} {d : D} {e1 : Sl}, Outs K T e σ H Z G vs os → σ[i]? = some (some v) → fzO (.bor i) e = some (d, e1) →
    ∃ Z1, Le Z H Z1 H ∧ Outs K T e1 σ H Z1 G vs os ∧ EncD K Z1 H v d := by
  intro G vs
  induction vs generalizing G with
  | nil =>
    intro os v i d e1 h hv q
    cases os with
    | nil =>
      obtain ⟨Z1, l, s1, en⟩ := fz_ok (v := v) (o := .bor i) ⟨(show StOk K T e σ H Z G from h).less fun a z => z.elim id False.elim, hv, fun a z => z.elim⟩ q
      exact ⟨Z1, l, s1, en⟩
    | cons o os => exact h.elim
  | cons w vs ih =>
    intro os v i d e1 h hv q
    cases os with
    | nil => exact h.elim
    | cons o os =>
      obtain ⟨q1, q2, q3⟩ := h
      obtain ⟨Z1, l, o1, en⟩ := ih q3 hv q
      exact ⟨Z1, l, ⟨q1.mono l fun _ _ => rfl, q2, o1⟩, en⟩
/-- slots ahead of slots -/
theorem StOk.cons_im {ps : Sl} {τ : L2.St} {v : V} {d : D} (s : StOk K T ps τ H Z G) (h : EncD K Z H v d) : StOk K T (some (.im d) :: ps) (some v :: τ) H Z G := by
  refine ⟨s.tb, s.zs, s.gs, fun i sv q => ?_, fun i j si sj w q1 q2 o1 o2 e1 e2 => ?_⟩
  · cases i with
    | zero => cases q; exact ⟨v, rfl, h⟩
    | succ i => exact s.sl i sv q
  · cases i with
    | zero => cases q1; cases o1
    | succ i =>
      cases j with
      | zero => cases q2; cases o2
      | succ j => rw [s.inj i j si sj w q1 q2 o1 o2 e1 e2]
theorem StOk.cons_own {ps : Sl} {τ : L2.St} {a : Addr} {sv : Sv} (s : StOk K T ps τ H Z (fun b => G b ∨ b = a)) (ng : ¬ G a) (h : SvOk K T (fun _ => False) (fun _ => False) H (.ref a) sv → SvOk K T Z G H (.ref a) sv) (h0 : SvOk K T Z G H (.ref a) sv) (ow : sv.own = true) : StOk K T (some sv :: ps) (some (.ref a) :: τ) H Z G := by
  refine ⟨s.tb.less fun b z => .inl z, s.zs, fun b g => s.gs b (.inl g), fun i si q => ?_, fun i j si sj w q1 q2 o1 o2 e1 e2 => ?_⟩
  · cases i with
    | zero => cases q; exact ⟨_, rfl, h0⟩
    | succ i =>
      obtain ⟨v, h1, h2⟩ := s.sl i si q
      refine ⟨v, h1, h2.mono Le.refl fun o b eb => ?_⟩
      obtain ⟨b', _, eb', _, _, n1, n2⟩ := h2.addr o
      rw [eb] at eb'; cases eb'
      exact ⟨rfl, n1, fun g => n2 (.inl g)⟩
  · have no : ∀ {k : Nat} {sk : Sv}, gt ps k = some sk → sk.own = true → τ[k]? = some (some (V.ref a)) → False := fun {k sk} q o e => by
      obtain ⟨_, _, _, _, n⟩ := s.notOwn q o e
      exact n (.inr rfl)
    cases i with
    | zero =>
      cases j with
      | zero => rfl
      | succ j =>
        have e1 : some (some (V.ref a)) = some (some w) := e1
        cases e1
        exact (no q2 o2 e2).elim
    | succ i =>
      cases j with
      | zero =>
        have e2 : some (some (V.ref a)) = some (some w) := e2
        cases e2
        exact (no q1 o1 e1).elim
      | succ j => rw [s.inj i j si sj w q1 q2 o1 o2 e1 e2]
/-- operands become a def's arguments: arguments and slots stand apart -/
theorem toPar_ok : ∀ {G Z : Addr → Prop} {vs : List V} {os : List Op} {br : List Bool} {e e2 ps : Sl}, Outs K T e σ H Z G vs os → toPar os br e = some (ps, e2) →
    ∃ Z2, Le Z H Z2 H ∧ ps.length = vs.length ∧ StOk K T (ps ++ e2) (vs.map some ++ σ) H Z2 G := by
  intro G Z vs
  induction vs generalizing G Z with
  | nil =>
    intro os br e e2 ps h q
    cases os with
    | nil =>
      cases br with
      | cons b bs => cases q
      | nil =>
        simp only [toPar, Option.some.injEq, Prod.mk.injEq] at q
        obtain ⟨rfl, rfl⟩ := q
        exact ⟨Z, Le.refl, rfl, h⟩
    | cons o os => exact h.elim
  | cons v vs ih =>
    intro os br e e2 ps h q
    cases os with
    | nil => exact h.elim
    | cons o os =>
      obtain ⟨q1, q2, q3⟩ := h
      -- an unchanging one
      have imm : ∀ {Z' : Addr → Prop} {d : D} {e1 : Sl} {bs : List Bool}, Le Z H Z' H → Outs K T e1 σ H Z' G vs os → EncD K Z' H v d → ((toPar os bs e1).map fun r => (some (Sv.im d) :: r.1, r.2)) = some (ps, e2) →
          ∃ Z2, Le Z H Z2 H ∧ ps.length = (v :: vs).length ∧ StOk K T (ps ++ e2) ((v :: vs).map some ++ σ) H Z2 G := by
        intro Z' d e1 bs l o1 en q
        cases q5 : toPar os bs e1 with
        | none => rw [q5] at q; cases q
        | some r =>
          rw [q5] at q
          simp only [Option.map_some, Option.some.injEq, Prod.mk.injEq] at q
          obtain ⟨rfl, rfl⟩ := q
          obtain ⟨Z2, l2, hl, s2⟩ := ih o1 (ps := r.1) (e2 := r.2) q5
          exact ⟨Z2, l.trans l2, by simp [hl], s2.cons_im (en.mono l2)⟩
      -- an own one at a
      have own : ∀ {a : Addr} {sv : Sv} {e1 : Sl} {bs : List Bool}, v = .ref a → ¬ G a → sv.own = true → (∀ Z2, Le Z H Z2 H → ¬ Z2 a → SvOk K T Z2 G H (.ref a) sv) → Outs K T e1 σ H Z (fun b => G b ∨ b = a) vs os →
          ((toPar os bs e1).map fun r => (some sv :: r.1, r.2)) = some (ps, e2) → ∃ Z2, Le Z H Z2 H ∧ ps.length = (v :: vs).length ∧ StOk K T (ps ++ e2) ((v :: vs).map some ++ σ) H Z2 G := by
        intro a sv e1 bs ev ng ow hsv o1 q
        subst ev
        cases q5 : toPar os bs e1 with
        | none => rw [q5] at q; cases q
        | some r =>
          rw [q5] at q
          simp only [Option.map_some, Option.some.injEq, Prod.mk.injEq] at q
          obtain ⟨rfl, rfl⟩ := q
          obtain ⟨Z2, l2, hl, s2⟩ := ih o1 (ps := r.1) (e2 := r.2) q5
          exact ⟨Z2, l2, by simp [hl], s2.cons_own ng (fun _ => hsv Z2 l2 (s2.gs a (.inr rfl)).2) (hsv Z2 l2 (s2.gs a (.inr rfl)).2) ow⟩
      have frame : ∀ {a : Addr}, v = .ref a → (∀ b, OwnA v o b ↔ v = .ref b) → Outs K T e σ H Z (fun b => G b ∨ b = a) vs os := fun {a} ev hw => by
        have e1 : Gx G v o = fun b => G b ∨ b = a := by
          funext b
          unfold Gx
          apply propext
          rw [hw b, ev]
          constructor
          · rintro (h | h)
            · exact .inl h
            · cases h; exact .inr rfl
          · rintro (h | h)
            · exact .inl h
            · exact .inr (by rw [h])
        rw [← e1]
        exact q3
      have bare : (∀ b, ¬ OwnA v o b) → Outs K T e σ H Z G vs os := fun hw => by
        have e1 : Gx G v o = G := by
          funext b
          unfold Gx
          apply propext
          exact ⟨fun h => h.elim id fun z => (hw b z).elim, .inl⟩
        rw [← e1]
        exact q3
      cases o with
      | im d =>
        cases br with
        | nil => simp only [toPar] at q; cases q
        | cons b bs => exact imm Le.refl (bare fun _ z => z) q1 (by simpa only [toPar] using q)
      | tl xs =>
        cases br with
        | nil => simp only [toPar] at q; cases q
        | cons b bs =>
          obtain ⟨a, ws, ev, h1, es⟩ := q1
          exact own (sv := .ol xs) ev (q2 a ev) rfl (fun Z2 l2 nz => ⟨a, ws, rfl, h1, es.mono l2, nz, q2 a ev⟩) (frame ev fun b => Iff.rfl) (by simpa only [toPar] using q)
      | td kvs =>
        cases br with
        | nil => simp only [toPar] at q; cases q
        | cons b bs =>
          obtain ⟨a, ev, h1⟩ := q1
          exact own (sv := .od kvs) ev (q2 a ev) rfl (fun Z2 l2 nz => ⟨a, rfl, h1.mono l2 rfl, nz, q2 a ev⟩) (frame ev fun b => Iff.rfl) (by simpa only [toPar] using q)
      | bor i =>
        have hv : σ[i]? = some (some v) := q1
        have o0 := bare fun _ z => z
        cases br with
        | nil => simp only [toPar] at q; cases q
        | cons b bs =>
          have frz : ∀ {r : Option (Sl × Sl)}, r = some (ps, e2) → r = (match fzO (.bor i) e with | some (d, e1) => (toPar os bs e1).map fun r => (some (Sv.im d) :: r.1, r.2) | none => none) → ∃ Z2, Le Z H Z2 H ∧ ps.length = (v :: vs).length ∧ StOk K T (ps ++ e2) ((v :: vs).map some ++ σ) H Z2 G := by
            intro r q er
            rw [er] at q
            cases q6 : fzO (.bor i) e with
            | none => rw [q6] at q; cases q
            | some p =>
              obtain ⟨d, e1⟩ := p
              rw [q6] at q
              obtain ⟨Z1, l1, o1, en⟩ := o0.freeze hv q6
              exact imm l1 o1 en q
          cases qg : gt e i with
          | none => exact frz q (by cases b <;> simp only [toPar, qg] <;> rfl)
          | some sv =>
            obtain ⟨v', h1, h2⟩ := (Outs.st o0).sl i sv qg
            rw [hv] at h1; cases h1
            have byref : sv.own = true → ((toPar os bs (pt e i none)).map fun r => (some sv :: r.1, r.2)) = some (ps, e2) → ∃ Z2, Le Z H Z2 H ∧ ps.length = (v :: vs).length ∧ StOk K T (ps ++ e2) ((v :: vs).map some ++ σ) H Z2 G := by
              intro ow q
              obtain ⟨a, u, ev, h3, m, nz, ng⟩ := h2.addr ow
              subst ev
              exact own rfl ng ow (fun Z2 l2 nz2 => h2.mono l2 fun _ b eb => by cases eb; exact ⟨rfl, nz2, ng⟩) (o0.toFrame qg ow hv) q
            cases b with
            | false => exact frz q (by cases sv <;> simp only [toPar, qg] <;> rfl)
            | true =>
              cases sv with
              | im d => exact frz q (by simp only [toPar, qg] <;> rfl)
              | ex x => exact frz q (by simp only [toPar, qg] <;> rfl)
              | ol xs => exact byref rfl (by simpa only [toPar, qg] using q)
              | od xs => exact byref rfl (by simpa only [toPar, qg] using q)
/-- what slots own -/
def OwnS (e : Sl) (σ : L2.St) : Addr → Prop := fun a => ∃ i sv, gt e i = some sv ∧ sv.own = true ∧ σ[i]? = some (some (V.ref a))
theorem get_front {τ σ : L2.St} {i : Nat} (h : i < τ.length) : (τ ++ σ)[i]? = τ[i]? := List.getElem?_append_left h
theorem get_back {τ σ : L2.St} {i : Nat} : (τ ++ σ)[τ.length + i]? = σ[i]? := by
  rw [List.getElem?_append_right (Nat.le_add_right _ _), Nat.add_sub_cancel_left]
theorem gt_front {ps e : Sl} {i : Nat} {sv : Sv} (h : gt ps i = some sv) : gt (ps ++ e) i = some sv ∧ i < ps.length := by
  have hl : i < ps.length := by
    induction ps generalizing i with
    | nil => rw [gt_nil] at h; cases h
    | cons x r ih =>
      cases i with
      | zero => exact Nat.succ_pos _
      | succ i => exact Nat.succ_lt_succ (ih h)
  rw [gt_append, if_pos hl]
  exact ⟨h, hl⟩
theorem gt_back {ps e : Sl} {i : Nat} : gt (ps ++ e) (ps.length + i) = gt e i := by
  rw [gt_append, if_neg (by omega), Nat.add_sub_cancel_left]
/-- the arguments alone; what the slots own is kept -/
theorem StOk.args {ps : Sl} {τ : L2.St} (s : StOk K T (ps ++ e) (τ ++ σ) H Z G) (hl : ps.length = τ.length) : StOk K T ps τ H Z (fun a => G a ∨ OwnS e σ a) := by
  have own : ∀ {a : Addr}, OwnS e σ a → (∃ u, H a = some u ∧ Md u) ∧ ¬ Z a ∧ ¬ G a ∧ ∀ (i : Nat) (sv : Sv), gt ps i = some sv → sv.own = true → τ[i]? ≠ some (some (V.ref a)) := by
    rintro a ⟨i, sv, h1, h2, h3⟩
    have g1 : gt (ps ++ e) (ps.length + i) = some sv := by rw [gt_back]; exact h1
    have g2 : (τ ++ σ)[ps.length + i]? = some (some (V.ref a)) := by rw [hl, get_back]; exact h3
    obtain ⟨u, q1, q2, q3, q4⟩ := s.notOwn g1 h2 g2
    refine ⟨⟨u, q1, q2⟩, q3, q4, fun j sj q o eq => ?_⟩
    obtain ⟨f1, f2⟩ := gt_front (e := e) q
    have := s.inj _ _ _ _ (V.ref a) f1 g1 o h2 (by rw [get_front (by omega)]; exact eq) g2
    omega
  refine ⟨⟨s.tb.1, s.tb.2.1, fun a z => ?_⟩, s.zs, fun a g => ?_, fun i sv q => ?_, fun i j si sj v q1 q2 o1 o2 e1 e2 => ?_⟩
  · rcases z with z | z
    · exact s.tb.2.2 a z
    · exact (own z).1
  · rcases g with g | g
    · exact s.gs a g
    · obtain ⟨⟨u, h1, _⟩, h2, _⟩ := own g
      exact ⟨by rw [h1]; simp, h2⟩
  · obtain ⟨f1, f2⟩ := gt_front (e := e) q
    obtain ⟨v, h1, h2⟩ := s.sl i sv f1
    rw [get_front (by omega)] at h1
    refine ⟨v, h1, h2.mono Le.refl fun o a ea => ?_⟩
    obtain ⟨b, _, eb, _, _, n1, n2⟩ := h2.addr o
    rw [ea] at eb; cases eb
    exact ⟨rfl, n1, fun g => g.elim n2 fun g => (own g).2.2.2 i sv q o (by rw [h1, ea])⟩
  · obtain ⟨f1, l1⟩ := gt_front (e := e) q1
    obtain ⟨f2, l2⟩ := gt_front (e := e) q2
    exact s.inj i j si sj v f1 f2 o1 o2 (by rw [get_front (by omega)]; exact e1) (by rw [get_front (by omega)]; exact e2)
/-- behind a call: the arguments as they stand then, and the slots -/
theorem StOk.join {ps fin : Sl} {τ : L2.St} {H' : Hp} {Z' G' : Addr → Prop} (s : StOk K T (ps ++ e) (τ ++ σ) H Z G) (hl : ps.length = τ.length) (l : Le Z H Z' H') (k : KeepG (fun a => G a ∨ OwnS e σ a) H H') (f : StOk K T fin τ H' Z' G')
    (hf : fin.length = τ.length) (hG : ∀ a, G a ∨ OwnS e σ a → G' a) {Gr : Addr → Prop} (hr : ∀ a, Gr a → G' a ∧ ¬ OwnS e σ a) : StOk K T (fin ++ e) (τ ++ σ) H' Z' Gr := by
  have back : ∀ {i : Nat} {sv : Sv}, gt (fin ++ e) i = some sv → (gt fin i = some sv ∧ i < fin.length) ∨ ∃ j, i = fin.length + j ∧ gt e j = some sv := fun {i sv} q => by
    rw [gt_append] at q
    by_cases h : i < fin.length
    · rw [if_pos h] at q; exact .inl ⟨q, h⟩
    · rw [if_neg h] at q; exact .inr ⟨i - fin.length, by omega, q⟩
  refine ⟨f.tb.less fun a g => (hr a g).1, f.zs, fun a g => f.gs a (hr a g).1, fun i sv q => ?_, fun i j si sj v q1 q2 o1 o2 e1 e2 => ?_⟩
  · rcases back q with ⟨q5, h⟩ | ⟨j, rfl, q5⟩
    · obtain ⟨v, h1, h2⟩ := f.sl i sv q5
      refine ⟨v, by rw [get_front (by omega)]; exact h1, h2.mono Le.refl fun o a ea => ?_⟩
      obtain ⟨b, _, eb, _, _, n1, n2⟩ := h2.addr o
      rw [ea] at eb; cases eb
      exact ⟨rfl, n1, fun g => n2 (hr _ g).1⟩
    · have g1 : gt (ps ++ e) (ps.length + j) = some sv := by rw [gt_back]; exact q5
      obtain ⟨v, h1, h2⟩ := s.sl _ sv g1
      rw [hl, get_back] at h1
      refine ⟨v, by rw [hf, get_back]; exact h1, h2.mono l fun o a ea => ?_⟩
      have ow : OwnS e σ a := ⟨j, sv, q5, o, by rw [h1, ea]⟩
      exact ⟨k a (.inr ow), (f.gs a (hG a (.inr ow))).2, fun g => (hr a g).2 ow⟩
  · rcases back q1 with ⟨p1, l1⟩ | ⟨j1, rfl, p1⟩
    · rcases back q2 with ⟨p2, l2⟩ | ⟨j2, rfl, p2⟩
      · exact f.inj i j si sj v p1 p2 o1 o2 (by rw [get_front (by omega)] at e1; exact e1) (by rw [get_front (by omega)] at e2; exact e2)
      · exfalso
        rw [get_front (by omega)] at e1
        rw [hf, get_back] at e2
        obtain ⟨v', h1, h2⟩ := f.sl i si p1
        rw [e1] at h1; cases h1
        obtain ⟨b, _, eb, _, _, n1, n2⟩ := h2.addr o1
        subst eb
        exact n2 (hG b (.inr ⟨j2, sj, p2, o2, e2⟩))
    · rcases back q2 with ⟨p2, l2⟩ | ⟨j2, rfl, p2⟩
      · exfalso
        rw [get_front (by omega)] at e2
        rw [hf, get_back] at e1
        obtain ⟨v', h1, h2⟩ := f.sl j sj p2
        rw [e2] at h1; cases h1
        obtain ⟨b, _, eb, _, _, n1, n2⟩ := h2.addr o2
        subst eb
        exact n2 (hG b (.inr ⟨j1, si, p1, o1, e1⟩))
      · rw [hf, get_back] at e1 e2
        have g1 : gt (ps ++ e) (ps.length + j1) = some si := by rw [gt_back]; exact p1
        have g2 : gt (ps ++ e) (ps.length + j2) = some sj := by rw [gt_back]; exact p2
        have := s.inj _ _ _ _ v g1 g2 o1 o2 (by rw [hl, get_back]; exact e1) (by rw [hl, get_back]; exact e2)
        omega
/-- a slot ahead is forgotten -/
theorem StOk.tail {f : Option Sv} {v : Option V} {E : Sl} {τ : L2.St} (s : StOk K T (f :: E) (v :: τ) H Z G) : StOk K T E τ H Z G :=
  ⟨s.tb, s.zs, s.gs, fun i sv q => s.sl (i + 1) sv q, fun i j si sj w q1 q2 o1 o2 e1 e2 => Nat.succ.inj (s.inj (i + 1) (j + 1) si sj w q1 q2 o1 o2 e1 e2)⟩
/-- a slot ahead is moved to its place -/
theorem StOk.pull {f : Option Sv} {v : V} {E : Sl} {τ : L2.St} {j : Nat} (s : StOk K T (f :: E) (some v :: τ) H Z G) (hv : τ[j]? = some (some v)) : StOk K T (pt E j f) τ H Z G := by
  refine ⟨s.tb, s.zs, s.gs, fun i sv q => ?_, fun i k si sk w q1 q2 o1 o2 e1 e2 => ?_⟩
  · rcases gt_pt q with ⟨rfl, z⟩ | ⟨_, z⟩
    · subst z
      obtain ⟨v', h1, h2⟩ := s.sl 0 sv rfl
      cases h1
      exact ⟨v, hv, h2⟩
    · exact s.sl (i + 1) sv z
  · rcases gt_pt q1 with ⟨rfl, z1⟩ | ⟨n1, z1⟩
    · subst z1
      rw [hv] at e1; cases e1
      rcases gt_pt q2 with ⟨rfl, z2⟩ | ⟨n2, z2⟩
      · rfl
      · exact absurd (s.inj 0 (k + 1) si sk v rfl z2 o1 o2 rfl e2) (by omega)
    · rcases gt_pt q2 with ⟨rfl, z2⟩ | ⟨n2, z2⟩
      · subst z2
        rw [hv] at e2; cases e2
        exact absurd (s.inj (i + 1) 0 si sk v z1 rfl o1 o2 e1 rfl) (by omega)
      · exact Nat.succ.inj (s.inj (i + 1) (k + 1) si sk w z1 z2 o1 o2 e1 e2)
theorem pt_back : ∀ {fs e : Sl} {i : Nat} {v : Option Sv}, pt (fs ++ e) (fs.length + i) v = fs ++ pt e i v
  | [], e, i, v => by simp
  | x :: fs, e, i, v => by
    show pt (x :: (fs ++ e)) (fs.length + 1 + i) v = x :: (fs ++ pt e i v)
    rw [show fs.length + 1 + i = (fs.length + i) + 1 from by omega, ← pt_back]
    rfl
/-- the slots that the operands name -/
def Bors (σ : L2.St) : List V → List Op → Prop
  | v :: vs, .bor i :: os => σ[i]? = some (some v) ∧ Bors σ vs os
  | _ :: vs, _ :: os => Bors σ vs os
  | _, _ => True
theorem Outs.bors : ∀ {G : Addr → Prop} {vs : List V} {os : List Op}, Outs K T e σ H Z G vs os → Bors σ vs os
  | _, [], [], _ => trivial
  | _, v :: vs, o :: os, ⟨h1, _, h3⟩ => by
    cases o with
    | bor i => exact ⟨h1, Outs.bors h3⟩
    | im d => exact (Outs.bors h3 : Bors σ vs os)
    | tl d => exact (Outs.bors h3 : Bors σ vs os)
    | td d => exact (Outs.bors h3 : Bors σ vs os)
  | _, [], _ :: _, h => h.elim
  | _, _ :: _, [], h => h.elim
theorem backs_ok : ∀ {vs : List V} {os : List Op} {fin e : Sl}, StOk K T (fin ++ e) (vs.map some ++ σ) H Z G → fin.length = vs.length → Bors σ vs os → StOk K T (backs os fin e) σ H Z G
  | [], os, [], e, s, _, _ => by
    have : backs os [] e = e := by cases os with | nil => rfl | cons o os => cases o <;> rfl
    rw [this]
    exact s
  | v :: vs, os, f :: fs, e, s, hl, hb => by
    have hl' : fs.length = vs.length := Nat.succ.inj hl
    have s : StOk K T (f :: (fs ++ e)) (some v :: (vs.map some ++ σ)) H Z G := s
    have rest : ∀ {os' : List Op}, Bors σ vs os' → StOk K T (backs os' fs e) σ H Z G := fun h => backs_ok s.tail hl' h
    cases os with
    | nil =>
      have : backs [] (f :: fs) e = backs [] fs e := by cases fs <;> rfl
      rw [this]
      exact rest (by cases vs <;> trivial)
    | cons o os =>
      cases o with
      | im d => exact rest hb
      | tl d => exact rest hb
      | td d => exact rest hb
      | bor i =>
        obtain ⟨h1, h2⟩ := hb
        show StOk K T (match gt e i with | none => backs os fs (pt e i f) | some _ => backs os fs e) σ H Z G
        split
        · have hv : (vs.map some ++ σ)[fs.length + i]? = some (some v) := by
            rw [hl', show vs.length = (vs.map some).length from (List.length_map _).symm, get_back]
            exact h1
          have := s.pull hv
          rw [pt_back] at this
          exact backs_ok this hl' h2
        · exact rest h2
  | [], _, _ :: _, _, _, hl, _ => by cases hl
  | _ :: _, _, [], _, _, hl, _ => by cases hl
end
theorem toPar_len : ∀ {os : List Op} {br : List Bool} {e ps e2 : Sl}, toPar os br e = some (ps, e2) → ps.length = br.length := by
  intro os
  induction os with
  | nil =>
    intro br e ps e2 q
    cases br with
    | cons b bs => cases q
    | nil => cases q; rfl
  | cons o os ih =>
    intro br e ps e2 q
    have go : ∀ {sv : Sv} {bs : List Bool} {e1 : Sl}, ((toPar os bs e1).map fun r => (some sv :: r.1, r.2)) = some (ps, e2) → ps.length = bs.length + 1 := by
      intro sv bs e1 q
      cases q5 : toPar os bs e1 with
      | none => rw [q5] at q; cases q
      | some r => rw [q5] at q; cases q; exact congrArg (· + 1) (ih (ps := r.1) (e2 := r.2) q5)
    cases br with
    | nil => cases o <;> cases q
    | cons b bs =>
      cases o with
      | im d => exact go q
      | tl d => exact go q
      | td d => exact go q
      | bor i =>
        simp only [toPar] at q
        split at q
        · exact go q
        · exact go q
        · split at q
          · exact go q
          · cases q
/-- a def's contract: it does what F says -/
def CPost (K : PySem.W.Frag) (T : LT) (mg : Str → Option Value) (n : Nat) (vs : List V) (Z G : Addr → Prop) (H : Hp) (Q : VK) (E : XK) : CRes → Prop
  | .ok r fin => fin.length = n → ∀ v H' Z', Le Z H Z' H' → KeepG G H H' → StOk K T fin (vs.map some) H' Z' (Gx G v r) → OpOk K Z' H' [] v r → (∀ a, OwnA v r a → ¬ G a) → Q v H'
  | .er x fin => fin.length = n → ∀ cls d H' Z', Le Z H Z' H' → KeepG G H H' → StOk K T fin (vs.map some) H' Z' G → ExOk K mg Z' x cls d H' → E cls d H'
  | .bad => False
def SpD (K : PySem.W.Frag) (T : LT) (mg : Str → Option Value) (n : Nat) (F : Sl → CRes) : Sp := fun vs H Q E => vs.length = n ∧ ∃ ps Z G, ps.length = n ∧ StOk K T ps (vs.map some) H Z G ∧ CPost K T mg n vs Z G H Q E (F ps)
theorem OpOk.nil {K : PySem.W.Frag} {Z : Addr → Prop} {H : Hp} {σ : L2.St} {v : V} {o : Op} (h : OpOk K Z H [] v o) : OpOk K Z H σ v o := by
  cases o with
  | bor i => have : ([] : L2.St)[i]? = some (some v) := h; simp at this
  | im d => exact h
  | tl d => exact h
  | td d => exact h
theorem rd_call {K : PySem.W.Frag} {mg : Str → Option Value} {W : WX} {ms : List ME} {σ : L2.St} {H : Hp} {Q : VK} {F : Sl → CRes} {br : List Bool} {n : Nat} (hn : br.length = n) (h : RdE K T mg (callE br F ms) W σ H Q) : tCallS (SpD K T mg n F) (WE W) (RdAO K T mg ms W) σ H Q := by
  obtain ⟨e, Z, G, s, h⟩ := h
  refine ⟨e, Z, G, s, (h.bind fun _ z => z).imp fun os e1 Z1 H1 l k h vs xs => ?_⟩
  cases q1 : toPar os br e1 with
  | none => rw [q1] at h; exact h.elim
  | some r =>
    obtain ⟨ps, e2⟩ := r
    rw [q1] at h
    obtain ⟨Z2, l2, hl, js⟩ := toPar_ok xs q1
    have hl' : ps.length = (vs.map some).length := by rw [hl, List.length_map]
    have hb : ps.length = n := by rw [← hn]; exact toPar_len q1
    have ownG : ∀ a, OwnS e2 σ a → ¬ G a := by
      rintro a ⟨i, sv, h1, h2, h3⟩
      have := js.notOwn (i := ps.length + i) (a := a) (by rw [gt_back]; exact h1) h2 (by rw [hl', get_back]; exact h3)
      obtain ⟨_, _, _, _, h⟩ := this
      exact h
    refine ⟨by rw [← hl]; exact hb, ps, Z2, _, hb, js.args hl', ?_⟩
    simp only at h
    cases q2 : F ps with
    | bad => rw [q2] at h; exact h.elim
    | er x fin =>
      rw [q2] at h
      intro hf cls d H' Z' l' k' f ex
      have hfl : fin.length = (vs.map some).length := by rw [hf, ← hb, hl']
      have j := js.join (Gr := G) hl' l' k' f hfl (fun a z => z) fun a g => ⟨.inl g, fun z => ownG a z g⟩
      exact h cls d H' Z' (l2.trans l') (k'.less fun a z => .inl z) (backs_ok j (by rw [hf, ← hb, hl]) xs.bors) ex
    | ok r fin =>
      rw [q2] at h
      intro hf v H' Z' l' k' f ok ne
      have hfl : fin.length = (vs.map some).length := by rw [hf, ← hb, hl']
      have j := js.join (Gr := Gx G v r) hl' l' k' f hfl (fun a z => .inl z) fun a g => by
        rcases g with g | g
        · exact ⟨.inl (.inl g), fun z => ownG a z g⟩
        · exact ⟨.inr g, fun z => ne a g (.inr z)⟩
      exact h H' Z' (l2.trans l') (k'.less fun a z => .inl z) v ⟨backs_ok j (by rw [hf, ← hb, hl]) xs.bors, ok.nil, fun a g z => ne a g (.inl z)⟩
end Ev
end
section
set_option maxHeartbeats 4000000
/-! EvS6: what is walked. -/
namespace Ev
open PySem PySem.Spec PyProof.Rows L2
variable {T : LT}

/-- the slots in fx stand -/
def SameF (fx : List Nat) (σ σ' : L2.St) : Prop := σ'.length = σ.length ∧ ∀ i, i ∈ fx → σ'[i]? = σ[i]?
theorem SameF.refl {fx : List Nat} {σ : L2.St} : SameF fx σ σ := ⟨rfl, fun _ _ => rfl⟩
theorem SameF.trans {fx : List Nat} {σ σ1 σ2 : L2.St} (a : SameF fx σ σ1) (b : SameF fx σ1 σ2) : SameF fx σ σ2 := ⟨b.1.trans a.1, fun i h => (b.2 i h).trans (a.2 i h)⟩
/-- the frame and what is hidden -/
def Gh (σ : L2.St) : (Addr → Prop) → List (Nat × Sv) → Addr → Prop
  | G, [] => G
  | G, (i, _) :: r => Gh σ (fun b => G b ∨ σ[i]? = some (some (.ref b))) r
theorem Gh.in {σ : L2.St} : ∀ {hid : List (Nat × Sv)} {G : Addr → Prop} {a : Addr}, G a → Gh σ G hid a
  | [], _, _, h => h
  | (i, _) :: r, G, a, h => Gh.in (hid := r) (.inl h)
def HidOk (K : PySem.W.Frag) (fx : List Nat) (σ : L2.St) (Z : Addr → Prop) (H : Hp) : (Addr → Prop) → List (Nat × Sv) → Prop
  | _, [] => True
  | G, (i, sv) :: r => (∃ a vs xs, i ∈ fx ∧ sv = .ol xs ∧ σ[i]? = some (some (.ref a)) ∧ H a = some (.lst vs) ∧ EncDs K Z H vs xs ∧ ¬ G a) ∧ HidOk K fx σ Z H (fun b => G b ∨ σ[i]? = some (some (.ref b))) r
theorem HidOk.mono {K : PySem.W.Frag} {fx : List Nat} {σ : L2.St} {Z Z' : Addr → Prop} {H H' : Hp} : ∀ {hid : List (Nat × Sv)} {G : Addr → Prop}, HidOk K fx σ Z H G hid → Le Z H Z' H' → KeepG (Gh σ G hid) H H' → HidOk K fx σ Z' H' G hid
  | [], _, _, _, _ => trivial
  | (i, sv) :: r, G, h, l, k => by
    obtain ⟨⟨a, vs, xs, hi, e1, e2, e3, e4, e5⟩, h2⟩ := h
    exact ⟨⟨a, vs, xs, hi, e1, e2, by rw [k a (Gh.in (hid := r) (.inr e2))]; exact e3, e4.mono l, e5⟩, h2.mono l k⟩
theorem Gh.eq {fx : List Nat} {σ σ' : L2.St} {K : PySem.W.Frag} {Z : Addr → Prop} {H : Hp} (sf : SameF fx σ σ') : ∀ {hid : List (Nat × Sv)} {G : Addr → Prop}, HidOk K fx σ Z H G hid → Gh σ' G hid = Gh σ G hid
  | [], _, _ => rfl
  | (i, sv) :: r, G, ⟨⟨a, vs, xs, hi, _⟩, h⟩ => by
    show Gh σ' (fun b => G b ∨ σ'[i]? = some (some (.ref b))) r = Gh σ (fun b => G b ∨ σ[i]? = some (some (.ref b))) r
    rw [sf.2 i hi]
    exact Gh.eq sf h
theorem HidOk.slots {fx : List Nat} {σ σ' : L2.St} {K : PySem.W.Frag} {Z : Addr → Prop} {H : Hp} (sf : SameF fx σ σ') : ∀ {hid : List (Nat × Sv)} {G : Addr → Prop}, HidOk K fx σ Z H G hid → HidOk K fx σ' Z H G hid
  | [], _, _ => trivial
  | (i, sv) :: r, G, ⟨⟨a, vs, xs, hi, e1, e2, e3⟩, h⟩ => by
    refine ⟨⟨a, vs, xs, hi, e1, by rw [sf.2 i hi]; exact e2, e3⟩, ?_⟩
    rw [sf.2 i hi]
    exact h.slots sf
section
variable {K : PySem.W.Frag} {e : Sl} {σ : L2.St} {H : Hp} {Z G : Addr → Prop}
/-- a hidden one comes back -/
theorem StOk.back {i : Nat} {a : Addr} {vs : List V} {xs : List D} (s : StOk K T e σ H Z (fun b => G b ∨ b = a)) (hv : σ[i]? = some (some (.ref a))) (h : H a = some (.lst vs)) (es : EncDs K Z H vs xs) (ng : ¬ G a) : StOk K T (pt e i (some (.ol xs))) σ H Z G := by
  have nz : ¬ Z a := (s.gs a (.inr rfl)).2
  have no : ∀ {j : Nat} {sj : Sv}, gt e j = some sj → sj.own = true → σ[j]? = some (some (V.ref a)) → False := fun {j sj} q o e => by
    obtain ⟨_, _, _, _, n⟩ := s.notOwn q o e
    exact n (.inr rfl)
  refine ⟨s.tb.less fun b z => .inl z, s.zs, fun b g => s.gs b (.inl g), fun j sj q => ?_, fun j k sj sk w q1 q2 o1 o2 e1 e2 => ?_⟩
  · rcases gt_pt q with ⟨rfl, z⟩ | ⟨_, z⟩
    · cases z
      exact ⟨_, hv, a, vs, rfl, h, es, nz, ng⟩
    · obtain ⟨w, h1, h2⟩ := s.sl j sj z
      refine ⟨w, h1, h2.mono Le.refl fun o b eb => ?_⟩
      obtain ⟨b', _, eb', _, _, n1, n2⟩ := h2.addr o
      rw [eb] at eb'; cases eb'
      exact ⟨rfl, n1, fun g => n2 (.inl g)⟩
  · rcases gt_pt q1 with ⟨rfl, z1⟩ | ⟨_, z1⟩
    · rcases gt_pt q2 with ⟨rfl, _⟩ | ⟨_, z2⟩
      · rfl
      · rw [hv] at e1; cases e1
        exact (no z2 o2 e2).elim
    · rcases gt_pt q2 with ⟨rfl, z2⟩ | ⟨_, z2⟩
      · rw [hv] at e2; cases e2
        exact (no z1 o1 e1).elim
      · exact s.inj j k sj sk w z1 z2 o1 o2 e1 e2
theorem unh_ok {fx : List Nat} : ∀ {hid : List (Nat × Sv)} {G : Addr → Prop}, StOk K T e σ H Z (Gh σ G hid) → HidOk K fx σ Z H G hid → StOk K T (unhS hid e) σ H Z G
  | [], _, s, _ => s
  | (i, sv) :: r, G, s, h => by
    obtain ⟨⟨a, vs, xs, hi, rfl, e2, e3, e4, e5⟩, h2⟩ := h
    have s1 : StOk K T (unhS r e) σ H Z (fun b => G b ∨ σ[i]? = some (some (.ref b))) := unh_ok (fx := fx) s h2
    have eg : (fun b => G b ∨ σ[i]? = some (some (.ref b))) = fun b => G b ∨ b = a := by
      funext b
      rw [e2]
      apply propext
      constructor
      · rintro (h | h)
        · exact .inl h
        · cases h; exact .inr rfl
      · rintro (h | h)
        · exact .inl h
        · subst h; exact .inr rfl
    rw [eg] at s1
    show StOk K T (match gt (unhS r e) i with | none => _ | some _ => _) σ H Z G
    split
    · exact s1.back e2 e3 e4 e5
    · exact s1.less fun b g => .inl g
end
/-- an argument that is walked: it stands still, or is hidden -/
def HV (K : PySem.W.Frag) (Z G : Addr → Prop) (H : Hp) (v : V) (d : D) : Prop := EncD K Z H v d ∨ ∃ a vs xs, v = .ref a ∧ d = .list xs ∧ G a ∧ H a = some (.lst vs) ∧ EncDs K Z H vs xs
theorem HV.mono {K : PySem.W.Frag} {Z G Z' G' : Addr → Prop} {H H' : Hp} {v : V} {d : D} (h : HV K Z G H v d) (l : Le Z H Z' H') (k : KeepG G H H') (g : ∀ a, G a → G' a) : HV K Z' G' H' v d := by
  rcases h with h | ⟨a, vs, xs, e1, e2, e3, e4, e5⟩
  · exact .inl (h.mono l)
  · exact .inr ⟨a, vs, xs, e1, e2, g a e3, by rw [k a e3]; exact e4, e5.mono l⟩
inductive HVs (K : PySem.W.Frag) (Z G : Addr → Prop) (H : Hp) : List V → List D → Prop
  | nil : HVs K Z G H [] []
  | cons {v vs d ds} : HV K Z G H v d → HVs K Z G H vs ds → HVs K Z G H (v :: vs) (d :: ds)
def RdAI (K : PySem.W.Frag) (T : LT) (mg : Str → Option Value) (fx : List Nat) (ms : List ME) (W : WX) : TA := fun σ H Q => ∃ e Z G, StOk K T e σ H Z G ∧
  PostC K T mg W σ Z G H (fun p e' Z' H' => ∀ vs, StOk K T e' σ H' Z' (Gh σ G p.2) → HidOk K fx σ Z' H' G p.2 → HVs K Z' (Gh σ G p.2) H' vs p.1 → Q vs H') (argsI fx ms e)
section
variable {K : PySem.W.Frag} {mg : Str → Option Value} {W : WX} {m : ME} {ms : List ME} {σ : L2.St} {H : Hp} {e : Sl} {Z G : Addr → Prop} {fx : List Nat}
theorem hide_ok {v : V} {o : Op} {d : D} {hs : List (Nat × Sv)} {e1 : Sl} (x : Out K T e σ H Z G v o) (q : hideO fx o e = some (d, hs, e1)) :
    ∃ Z1, Le Z H Z1 H ∧ StOk K T e1 σ H Z1 (Gh σ G hs) ∧ HidOk K fx σ Z1 H G hs ∧ HV K Z1 (Gh σ G hs) H v d ∧ (hs = [] ∨ ∃ i sv, hs = [(i, sv)]) := by
  have frz : ∀ {o}, Out K T e σ H Z G v o → (fzO o e).map (fun r => (r.1, ([] : List (Nat × Sv)), r.2)) = some (d, hs, e1) → ∃ Z1, Le Z H Z1 H ∧ StOk K T e1 σ H Z1 (Gh σ G hs) ∧ HidOk K fx σ Z1 H G hs ∧ HV K Z1 (Gh σ G hs) H v d ∧ (hs = [] ∨ ∃ i sv, hs = [(i, sv)]) := by
    intro o x q
    cases q1 : fzO o e with
    | none => rw [q1] at q; cases q
    | some r =>
      obtain ⟨d', e'⟩ := r
      rw [q1] at q
      cases q
      obtain ⟨Z1, l, s1, en⟩ := fz_ok x q1
      exact ⟨Z1, l, s1, trivial, .inl en, .inl rfl⟩
  cases o with
  | im d' => exact frz x q
  | tl d' => exact frz x q
  | td d' => exact frz x q
  | bor i =>
    simp only [hideO] at q
    split at q
    · rename_i hi
      have hi : i ∈ fx := by simpa using hi
      have hv : σ[i]? = some (some v) := x.ok
      split at q
      · rename_i xs qg
        cases q
        obtain ⟨v', h1, a, vs, rfl, h3, es, nz, ng⟩ := x.st0.sl i _ qg
        rw [hv] at h1; cases h1
        have s1 := x.st0.toFrame qg rfl hv
        have eg : (fun b => G b ∨ σ[i]? = some (some (.ref b))) = fun b => G b ∨ b = a := by
          funext b
          rw [hv]
          apply propext
          constructor
          · rintro (h | h)
            · exact .inl h
            · cases h; exact .inr rfl
          · rintro (h | h)
            · exact .inl h
            · subst h; exact .inr rfl
        refine ⟨Z, Le.refl, ?_, ⟨⟨a, vs, xs, hi, rfl, hv, h3, es, ng⟩, trivial⟩, .inr ⟨a, vs, xs, rfl, rfl, .inr hv, h3, es⟩, .inr ⟨_, _, rfl⟩⟩
        show StOk K T _ σ H Z (fun b => G b ∨ σ[i]? = some (some (.ref b)))
        rw [eg]
        exact s1
      · rename_i d' qg
        cases q
        obtain ⟨v', h1, h2⟩ := x.st0.sl i _ qg
        rw [hv] at h1; cases h1
        exact ⟨Z, Le.refl, x.st0, trivial, .inl h2, .inl rfl⟩
      · cases q
    · exact frz x q
theorem Gh_append : ∀ {hs r : List (Nat × Sv)} {G : Addr → Prop}, Gh σ G (hs ++ r) = Gh σ (Gh σ G hs) r
  | [], _, _ => rfl
  | (i, _) :: hs, r, G => Gh_append (hs := hs)
theorem HidOk.append : ∀ {hs r : List (Nat × Sv)} {G : Addr → Prop}, HidOk K fx σ Z H G hs → HidOk K fx σ Z H (Gh σ G hs) r → HidOk K fx σ Z H G (hs ++ r)
  | [], _, _, _, h => h
  | (i, _) :: hs, r, G, ⟨h1, h2⟩, h => ⟨h1, h2.append h⟩
theorem rd_inil {Q : List V → Hp → Prop} (h : RdAI K T mg fx [] W σ H Q) : tNil σ H Q := by
  obtain ⟨e, Z, G, s, h⟩ := h
  exact h.ret [] s trivial .nil
theorem rd_icons {Q : List V → Hp → Prop} (h : RdAI K T mg fx (m :: ms) W σ H Q) : tCons (RdE K T mg m W) (RdAI K T mg fx ms W) σ H Q := by
  obtain ⟨e, Z, G, s, h⟩ := h
  refine ⟨e, Z, G, s, (h.bind fun _ z => z).imp fun o e1 Z1 H1 l k h v x => ?_⟩
  cases q1 : hideO fx o e1 with
  | none => rw [q1] at h; exact h.elim
  | some p =>
    obtain ⟨d, hs, e2⟩ := p
    rw [q1] at h
    obtain ⟨Z2, l2, s2, hk, hv, _⟩ := hide_ok x q1
    have h := PostC.trans l2 KeepG.refl h
    refine ⟨e2, Z2, Gh σ G hs, s2, (h.bind fun _ z => Gh.in z).imp fun p e3 Z3 H3 l3 k3 h vs s3 hk3 hvs => ?_⟩
    have k3' : KeepG (Gh σ G hs) H1 H3 := k3
    refine h.ret (v :: vs) (by rw [Gh_append]; exact s3) ((hk.mono l3 k3).append hk3) ?_
    refine .cons (hv.mono l3 k3 fun a g => ?_) ?_
    · show Gh σ G (hs ++ p.2) a
      rw [Gh_append]
      exact Gh.in g
    · show HVs K Z3 (Gh σ G (hs ++ p.2)) H3 vs p.1
      rw [Gh_append]
      exact hvs
end

/-- an iterator that gives the items -/
structure Feeds (K : PySem.W.Frag) (Z : Addr → Prop) (H : Hp) (G : Addr → Prop) (J : It) (items : List D) : Prop where
  go : ∀ i Z1 H1, i < items.length → Le Z H Z1 H1 → KeepG G H H1 → J.go i H1
  stop : ∀ Z1 H1, Le Z H Z1 H1 → KeepG G H H1 → J.stop items.length H1
  yld : ∀ i Z1 H1 x H2, i < items.length → Le Z H Z1 H1 → KeepG G H H1 → (∀ a, Z1 a → H1 a ≠ none) → J.yld i H1 x H2 → Same H1 H2 ∧ ∃ d, items[i]? = some d ∧ EncD K Z1 H2 x d
def RdI (K : PySem.W.Frag) (T : LT) (mg : Str → Option Value) (fx : List Nat) (mi : MI) (W : WX) : TI := fun σ H R => ∃ e Z G, StOk K T e σ H Z G ∧
  PostC K T mg W σ Z G H (fun m e' Z' H' => ∀ J, StOk K T e' σ H' Z' (Gh σ G m.hid) → HidOk K fx σ Z' H' G m.hid → Feeds K Z' H' (Gh σ G m.hid) J m.items → R J H') (mi e)
section
variable {K : PySem.W.Frag} {Z G : Addr → Prop} {H : Hp}
/-- the items of a list that is walked, at a turn -/
theorem HV.list {v : V} {xs : List D} (h : HV K Z G H v (.list xs)) : ∃ a vs, v = .ref a ∧ H a = some (.lst vs) ∧ EncDs K Z H vs xs ∧ ∀ Z1 H1, Le Z H Z1 H1 → KeepG G H H1 → H1 a = some (.lst vs) ∧ EncDs K Z1 H1 vs xs := by
  rcases h with h | ⟨a, vs, ys, e1, e2, e3, e4, e5⟩
  · cases h with
    | lst z h hs => exact ⟨_, _, rfl, h, hs, fun Z1 H1 l k => ⟨by rw [l.keep _ z]; exact h, hs.mono l⟩⟩
  · cases e2
    exact ⟨a, vs, e1, e4, e5, fun Z1 H1 l k => ⟨by rw [k a e3]; exact e4, e5.mono l⟩⟩
theorem HV.tuple {v : V} {xs : List D} (h : HV K Z G H v (.tuple xs)) : ∃ a vs, v = .ref a ∧ SqT K H a vs ∧ EncDs K Z H vs xs := by
  rcases h with h | ⟨a, vs, ys, e1, e2, e3, e4, e5⟩
  · cases h with
    | tup h hs => exact ⟨_, _, rfl, h, hs⟩
  · cases e2
theorem lt_get {α : Type} {xs : List α} {i : Nat} (h : i < xs.length) : xs[i]? = some xs[i] := by simp [h]
theorem feeds_list {a : Addr} {vs : List V} {xs : List D} (h : ∀ Z1 H1, Le Z H Z1 H1 → KeepG G H H1 → H1 a = some (.lst vs) ∧ EncDs K Z1 H1 vs xs) : Feeds K Z H G (Itl K a) xs := by
  have w := walk_list (K := K) (a := a) (xs := vs)
  have hl : vs.length = xs.length := (h Z H Le.refl KeepG.refl).2.length
  refine ⟨fun i Z1 H1 hi l k => w.goes i H1 (by omega) (SqL.of (h Z1 H1 l k).1), fun Z1 H1 l k => hl ▸ w.stops H1 (SqL.of (h Z1 H1 l k).1), fun i Z1 H1 x H2 hi l k zs y => ?_⟩
  obtain ⟨e, hx⟩ := w.yields i H1 x H2 (by omega) (SqL.of (h Z1 H1 l k).1) y
  subst e
  refine ⟨Same.refl _, _, lt_get hi, ?_⟩
  obtain ⟨u, h1, h2⟩ := (h Z1 H2 l k).2.get (lt_get hi)
  rw [hx] at h1; cases h1
  exact h2
theorem feeds_tup {a : Addr} {vs : List V} {xs : List D} (h : SqT K H a vs) (es : EncDs K Z H vs xs) : Feeds K Z H G (Itt K a) xs := by
  have w := walk_tup (K := K) (a := a) (xs := vs)
  have hl : vs.length = xs.length := es.length
  refine ⟨fun i Z1 H1 hi l k => w.goes i H1 (by omega) (SqT.mono' l h), fun Z1 H1 l k => hl ▸ w.stops H1 (SqT.mono' l h), fun i Z1 H1 x H2 hi l k zs y => ?_⟩
  obtain ⟨e, hx⟩ := w.yields i H1 x H2 (by omega) (SqT.mono' l h) y
  subst e
  refine ⟨Same.refl _, _, lt_get hi, ?_⟩
  obtain ⟨u, h1, h2⟩ := (es.mono l).get (lt_get hi)
  rw [hx] at h1; cases h1
  exact h2
theorem rangeI_get : ∀ {n : Nat} {lo : Int} {i : Nat}, i < n → (rangeI lo n)[i]? = some (.int (lo + i))
  | n + 1, lo, 0, _ => by simp [rangeI]
  | n + 1, lo, i + 1, h => by
    have := rangeI_get (n := n) (lo := lo + 1) (i := i) (by omega)
    simp only [rangeI, List.getElem?_cons_succ, this, Option.some.injEq, PyData.int.injEq]
    omega
theorem rangeI_length : ∀ {n : Nat} {lo : Int}, (rangeI lo n).length = n
  | 0, _ => rfl
  | n + 1, lo => by simp [rangeI, rangeI_length]
theorem feeds_range {lo : Int} {n : Nat} : Feeds K Z H G (Itr lo n) (rangeI lo n) := by
  have w := walk_range (lo := lo) (n := n)
  refine ⟨fun i Z1 H1 hi l k => w.goes i H1 (by rw [rangeI_length] at hi; exact hi) trivial, fun Z1 H1 l k => by rw [rangeI_length]; exact w.stops H1 trivial, fun i Z1 H1 x H2 hi l k zs y => ?_⟩
  rw [rangeI_length] at hi
  obtain ⟨e, hx⟩ := w.yields i H1 x H2 hi trivial y
  subst e hx
  exact ⟨Same.refl _, _, rangeI_get hi, .int _⟩
/-- pairs, made anew -/
theorem feeds_pair {J : It} {Gd : Hp → Prop} {X Y : Nat → Option V} {items : List D} (w : Walk J items.length Gd (YPair X Y)) (hG : ∀ Z1 H1, Le Z H Z1 H1 → KeepG G H H1 → Gd H1)
    (hi : ∀ i Z1 H1 x y, i < items.length → Le Z H Z1 H1 → KeepG G H H1 → X i = some x → Y i = some y → ∃ d d', items[i]? = some (.tuple [d, d']) ∧ EncD K Z1 H1 x d ∧ EncD K Z1 H1 y d') : Feeds K Z H G J items := by
  refine ⟨fun i Z1 H1 hi l k => w.goes i H1 hi (hG Z1 H1 l k), fun Z1 H1 l k => w.stops H1 (hG Z1 H1 l k), fun i Z1 H1 x0 H2 hi' l k zs y0 => ?_⟩
  obtain ⟨T, x, y, rfl, nT, rfl, hx, hy⟩ := w.yields i H1 x0 H2 hi' (hG Z1 H1 l k) y0
  obtain ⟨d, d', e, h1, h2⟩ := hi i Z1 H1 x y hi' l k hx hy
  have sm : Same H1 (upd H1 T (.tup [x, y])) := same_new nT
  exact ⟨sm, _, e, .tup (.inl (.inl upd_same)) (.cons (h1.mono (Same.le sm zs)) (.cons (h2.mono (Same.le sm zs)) .nil))⟩
theorem enumI_length : ∀ {xs : List D} {i : Int}, (enumI i xs).length = xs.length
  | [], _ => rfl
  | _ :: _, i => by simp [enumI, enumI_length]
theorem enumI_get : ∀ {xs : List D} {j : Int} {i : Nat} {d : D}, xs[i]? = some d → (enumI j xs)[i]? = some (.tuple [.int (j + i), d])
  | [], _, _, _, h => by simp at h
  | x :: xs, j, 0, d, h => by simp at h; subst h; simp [enumI]
  | x :: xs, j, i + 1, d, h => by
    have := enumI_get (xs := xs) (j := j + 1) (i := i) (by simpa using h)
    simp only [enumI, List.getElem?_cons_succ, this, Option.some.injEq, PyData.tuple.injEq, List.cons.injEq, PyData.int.injEq, and_true]
    omega
theorem zipI_length : ∀ {xs ys : List D}, (zipI xs ys).length = min xs.length ys.length
  | [], _ => by simp [zipI]
  | _ :: _, [] => by simp [zipI]
  | _ :: xs, _ :: ys => by simp only [zipI, List.length_cons, zipI_length]; omega
theorem zipI_get : ∀ {xs ys : List D} {i : Nat} {d d' : D}, xs[i]? = some d → ys[i]? = some d' → (zipI xs ys)[i]? = some (.tuple [d, d'])
  | [], _, _, _, _, h, _ => by simp at h
  | _ :: _, [], _, _, _, _, h => by simp at h
  | x :: xs, y :: ys, 0, d, d', h, h' => by simp at h h'; subst h h'; simp [zipI]
  | x :: xs, y :: ys, i + 1, d, d', h, h' => by
    have := zipI_get (xs := xs) (ys := ys) (i := i) (by simpa using h) (by simpa using h')
    simpa [zipI] using this
theorem feeds_enum {a : Addr} {vs : List V} {xs : List D} (h : ∀ Z1 H1, Le Z H Z1 H1 → KeepG G H H1 → H1 a = some (.lst vs) ∧ EncDs K Z1 H1 vs xs) : Feeds K Z H G (Ite K a) (enumI 0 xs) := by
  have hl : vs.length = xs.length := (h Z H Le.refl KeepG.refl).2.length
  have w := walk_enum (K := K) (a := a) (xs := vs)
  rw [hl, ← enumI_length (i := 0)] at w
  refine feeds_pair w (fun Z1 H1 l k => SqL.of (h Z1 H1 l k).1) fun i Z1 H1 x y hi l k hx hy => ?_
  rw [enumI_length] at hi
  cases hx
  obtain ⟨u, h1, h2⟩ := (h Z1 H1 l k).2.get (lt_get hi)
  rw [hy] at h1; cases h1
  refine ⟨_, _, ?_, .int _, h2⟩
  have := enumI_get (j := 0) (lt_get hi)
  rw [this]
  congr 4
  omega
theorem feeds_enumT {a : Addr} {vs : List V} {xs : List D} (h : SqT K H a vs) (es : EncDs K Z H vs xs) : Feeds K Z H G (IteT K a) (enumI 0 xs) := by
  have hl : vs.length = xs.length := es.length
  have w := walk_enumT (K := K) (a := a) (xs := vs)
  rw [hl, ← enumI_length (i := 0)] at w
  refine feeds_pair w (fun Z1 H1 l k => SqT.mono' l h) fun i Z1 H1 x y hi l k hx hy => ?_
  rw [enumI_length] at hi
  cases hx
  obtain ⟨u, h1, h2⟩ := (es.mono l).get (lt_get hi)
  rw [hy] at h1; cases h1
  refine ⟨_, _, ?_, .int _, h2⟩
  have := enumI_get (j := 0) (lt_get hi)
  rw [this]
  congr 4
  omega
theorem feeds_zipL {a b : Addr} {vs ws : List V} {xs ys : List D} (h : ∀ Z1 H1, Le Z H Z1 H1 → KeepG G H H1 → H1 a = some (.lst vs) ∧ EncDs K Z1 H1 vs xs) (h' : ∀ Z1 H1, Le Z H Z1 H1 → KeepG G H H1 → H1 b = some (.lst ws) ∧ EncDs K Z1 H1 ws ys) : Feeds K Z H G (Itz K a b) (zipI xs ys) := by
  have hl : vs.length = xs.length := (h Z H Le.refl KeepG.refl).2.length
  have hl' : ws.length = ys.length := (h' Z H Le.refl KeepG.refl).2.length
  have w := walk_zip (K := K) (a := a) (b := b) (xs := vs) (ys := ws) (n := (zipI xs ys).length) (by rw [zipI_length, hl, hl'])
  refine feeds_pair w (fun Z1 H1 l k => ⟨SqL.of (h Z1 H1 l k).1, SqL.of (h' Z1 H1 l k).1⟩) fun i Z1 H1 x y hi l k hx hy => ?_
  rw [zipI_length] at hi
  obtain ⟨u, h1, h2⟩ := (h Z1 H1 l k).2.get (lt_get (show i < xs.length by omega))
  rw [hx] at h1; cases h1
  obtain ⟨u', h1', h2'⟩ := (h' Z1 H1 l k).2.get (lt_get (show i < ys.length by omega))
  rw [hy] at h1'; cases h1'
  exact ⟨_, _, zipI_get (lt_get (by omega)) (lt_get (by omega)), h2, h2'⟩
theorem walk_zipT {a b : Addr} {xs ys : List V} {n : Nat} (hn : n = min xs.length ys.length) : Walk (RZ.ItzT K a b) n (fun H => SqT K H a xs ∧ SqT K H b ys) (YPair (fun i => xs[i]?) (fun i => ys[i]?)) := by
  subst hn
  refine ⟨fun i _ hi q => ?_, fun _ q => ⟨xs, ys, q.1, q.2, by omega⟩, fun i H v H' _ q y => ?_⟩
  · have h1 : i < xs.length := by omega
    have h2 : i < ys.length := by omega
    exact ⟨xs, ys, xs[i], ys[i], q.1, q.2, by simp [h1], by simp [h2]⟩
  · obtain ⟨T, x, z, h1, h2, h3, h4, h5⟩ := y
    exact ⟨T, x, z, h1, h2, h3, h4 xs q.1, h5 ys q.2⟩
theorem feeds_zipT {a b : Addr} {vs ws : List V} {xs ys : List D} (h : SqT K H a vs) (es : EncDs K Z H vs xs) (h' : SqT K H b ws) (es' : EncDs K Z H ws ys) : Feeds K Z H G (RZ.ItzT K a b) (zipI xs ys) := by
  have hl : vs.length = xs.length := es.length
  have hl' : ws.length = ys.length := es'.length
  have w := walk_zipT (K := K) (a := a) (b := b) (xs := vs) (ys := ws) (n := (zipI xs ys).length) (by rw [zipI_length, hl, hl'])
  refine feeds_pair w (fun Z1 H1 l k => ⟨SqT.mono' l h, SqT.mono' l h'⟩) fun i Z1 H1 x y hi l k hx hy => ?_
  rw [zipI_length] at hi
  obtain ⟨u, h1, h2⟩ := (es.mono l).get (lt_get (show i < xs.length by omega))
  rw [hx] at h1; cases h1
  obtain ⟨u', h1', h2'⟩ := (es'.mono l).get (lt_get (show i < ys.length by omega))
  rw [hy] at h1'; cases h1'
  exact ⟨_, _, zipI_get (lt_get (by omega)) (lt_get (by omega)), h2, h2'⟩
end
section
variable {K : PySem.W.Frag} {mg : Str → Option Value} {W : WX} {m : ME} {ms : List ME} {σ : L2.St} {H : Hp} {fx : List Nat}
theorem HVs.one {Z G : Addr → Prop} {vs : List V} {d : D} (h : HVs K Z G H vs [d]) : ∃ v, vs = [v] ∧ HV K Z G H v d := by
  cases h with
  | cons h t => cases t; exact ⟨_, rfl, h⟩
theorem HVs.two {Z G : Addr → Prop} {vs : List V} {d d' : D} (h : HVs K Z G H vs [d, d']) : ∃ v v', vs = [v, v'] ∧ HV K Z G H v d ∧ HV K Z G H v' d' := by
  cases h with
  | cons h t => cases t with
    | cons h' t => cases t; exact ⟨_, _, rfl, h, h'⟩
theorem HV.int {Z G : Addr → Prop} {v : V} {i : Int} (h : HV K Z G H v (.int i)) : v = .int i := by
  rcases h with h | ⟨a, vs, ys, e1, e2, _⟩
  · cases h; rfl
  · cases e2
theorem HVs.inv {Z G : Addr → Prop} {vs : List V} {ds : List D} {n : Nat} (h : HVs K Z G H vs ds) : vs.length = ds.length := by
  induction h with
  | nil => rfl
  | cons _ _ ih => simp [ih]
/-- from the arguments -/
theorem rd_it {f : List D → Option (List D)} {R : It → Hp → Prop} (h : RdI K T mg fx (itE fx f ms) W σ H R) :
    RdAI K T mg fx ms W σ H fun vs H1 => ∃ Z G ds xs, f ds = some xs ∧ HVs K Z G H1 vs ds ∧ ∀ J, Feeds K Z H1 G J xs → R J H1 := by
  obtain ⟨e, Z, G, s, h⟩ := h
  refine ⟨e, Z, G, s, (h.bind fun _ z => z).imp fun p e1 Z1 H1 l k h vs s1 hk hv => ?_⟩
  cases q1 : f p.1 with
  | none => rw [q1] at h; exact h.elim
  | some xs =>
    rw [q1] at h
    exact ⟨Z1, _, p.1, xs, q1, hv, fun J fd => PostC.ret h J s1 hk fd⟩
theorem RdAI.mono {Q Q' : List V → Hp → Prop} (h : RdAI K T mg fx ms W σ H Q) (f : ∀ vs H1, Q vs H1 → Q' vs H1) : RdAI K T mg fx ms W σ H Q' := by
  obtain ⟨e, Z, G, s, h⟩ := h
  exact ⟨e, Z, G, s, h.imp fun p e1 Z1 H1 l k h vs s1 hk hv => f vs H1 (h vs s1 hk hv)⟩
theorem rng_b {i : Int} (h : rngB i = true) : -(2 ^ 62) ≤ i ∧ i < 2 ^ 62 := by
  unfold rngB at h
  rw [Bool.and_eq_true] at h
  exact ⟨of_decide_eq_true h.1, of_decide_eq_true h.2⟩
theorem rd_range1 {R : It → Hp → Prop} (h : RdI K T mg fx (itE fx rangeF1 ms) W σ H R) : iRng1 (RdAI K T mg fx ms W) σ H R := by
  refine (rd_it h).mono fun vs H1 ⟨Z, G, ds, xs, hf, hv, q⟩ => ?_
  unfold rangeF1 at hf
  split at hf
  · rename_i n
    split at hf
    · rename_i hb
      cases hf
      obtain ⟨v, rfl, h1⟩ := hv.one
      exact ⟨n, by rw [h1.int], (rng_b hb).1, (rng_b hb).2, q _ feeds_range⟩
    · cases hf
  · cases hf
theorem rd_range2 {R : It → Hp → Prop} (h : RdI K T mg fx (itE fx rangeF2 ms) W σ H R) : iRng2 (RdAI K T mg fx ms W) σ H R := by
  refine (rd_it h).mono fun vs H1 ⟨Z, G, ds, xs, hf, hv, q⟩ => ?_
  unfold rangeF2 at hf
  split at hf
  · rename_i i j
    split at hf
    · rename_i hb
      rw [Bool.and_eq_true] at hb
      cases hf
      obtain ⟨v, v', rfl, h1, h2⟩ := hv.two
      exact ⟨i, j, by rw [h1.int, h2.int], ⟨(rng_b hb.1).1, (rng_b hb.1).2, (rng_b hb.2).1, (rng_b hb.2).2⟩, q _ feeds_range⟩
    · cases hf
  · cases hf
theorem rd_zip {R : It → Hp → Prop} {ms : List ME} (h : RdI K T mg fx (itE fx zipF ms) W σ H R) : RZ.iZipA K (RdAI K T mg fx ms W) σ H R := by
  refine (rd_it h).mono fun vs H1 ⟨Z, G, ds, xs, hf, hv, q⟩ => ?_
  unfold zipF at hf
  split at hf
  · cases hf
    obtain ⟨v, v', rfl, h1, h2⟩ := hv.two
    obtain ⟨a, ws, rfl, h3, es, k1⟩ := h1.list
    obtain ⟨b, ws', rfl, h4, es', k2⟩ := h2.list
    exact ⟨a, b, ws, ws', rfl, .inl ⟨SqL.of h3, SqL.of h4, q _ (feeds_zipL k1 k2)⟩⟩
  · cases hf
    obtain ⟨v, v', rfl, h1, h2⟩ := hv.two
    obtain ⟨a, ws, rfl, h3, es⟩ := h1.tuple
    obtain ⟨b, ws', rfl, h4, es'⟩ := h2.tuple
    exact ⟨a, b, ws, ws', rfl, .inr ⟨h3, h4, q _ (feeds_zipT h3 es h4 es')⟩⟩
  · cases hf
theorem rd_enum {R : It → Hp → Prop} {ms : List ME} (h : RdI K T mg fx (itE fx enumF ms) W σ H R) : iEnumA K (RdAI K T mg fx ms W) σ H R := by
  refine (rd_it h).mono fun vs H1 ⟨Z, G, ds, xs, hf, hv, q⟩ => ?_
  unfold enumF at hf
  split at hf
  · cases hf
    obtain ⟨v, rfl, h1⟩ := hv.one
    obtain ⟨a, ws, rfl, h3, es, k1⟩ := h1.list
    exact ⟨a, ws, rfl, .inl ⟨SqL.of h3, q _ (feeds_enum k1)⟩⟩
  · cases hf
    obtain ⟨v, rfl, h1⟩ := hv.one
    obtain ⟨a, ws, rfl, h3, es⟩ := h1.tuple
    exact ⟨a, ws, rfl, .inr ⟨h3, q _ (feeds_enumT h3 es)⟩⟩
  · cases hf
/-- a list or a tuple -/
def iSeq (K : PySem.W.Frag) (ta : TA) : TI := fun σ H R => ta σ H fun vs H1 => ∃ a xs, vs = [.ref a] ∧ ((SqL K H1 a xs ∧ R (Itl K a) H1) ∨ (SqT K H1 a xs ∧ R (Itt K a) H1))
theorem rd_seq {R : It → Hp → Prop} {ms : List ME} (h : RdI K T mg fx (itE fx seqF ms) W σ H R) : iSeq K (RdAI K T mg fx ms W) σ H R := by
  refine (rd_it h).mono fun vs H1 ⟨Z, G, ds, xs, hf, hv, q⟩ => ?_
  unfold seqF at hf
  split at hf
  · rename_i p
    obtain ⟨v, rfl, h1⟩ := hv.one
    rcases seq_cases hf with rfl | rfl
    · obtain ⟨a, ws, rfl, h3, es, k1⟩ := h1.list
      exact ⟨a, ws, rfl, .inl ⟨SqL.of h3, q _ (feeds_list k1)⟩⟩
    · obtain ⟨a, ws, rfl, h3, es⟩ := h1.tuple
      exact ⟨a, ws, rfl, .inr ⟨h3, q _ (feeds_tup h3 es)⟩⟩
  · cases hf
end
section
variable {X : Cx} {tg : Expr}
theorem pi_seq {l : Expr} {tl : TE} (hl : PE X l tl) : PI X tg l (iSeq X.K (tCons tl tNil)) := by
  refine ⟨fun pins s σ H R I h => ?_⟩
  refine thn (hl.run pins s σ H _ I h) fun v s1 ⟨x, H1, I1, r1, q1⟩ => ?_
  obtain ⟨a, xs, e, q1⟩ := q1
  cases e
  cases r1
  rcases q1 with ⟨hq, q⟩ | ⟨hq, q⟩
  · obtain ⟨its, rv, p, hz⟩ := I1.list hq
    refine wpAny_pyIter_list p.isList ?_
    refine ⟨s1.heap.objs.size, [s1.heap.objs.size], _, _, H1, rfl, I1.kept (t' := s1.toks) fun b o e => Heap.get?_push_of_some _ e, turn_list a _, ⟨_, Heap.get?_push_size _ rfl, rfl, rfl⟩, fun b hb => ?_, q⟩
    have e : b = s1.heap.objs.size := by simpa using hb
    subst e
    exact I1.fpOk (Nat.le_refl _) (I1.hok.fresh (Nat.le_refl _))
  · obtain ⟨its, rv, p, hz⟩ := I1.tuple hq
    refine wpAny_pyIter_tuple (show s1.heap.IsTuple a its.toArray from p) ?_
    refine ⟨s1.heap.objs.size, [s1.heap.objs.size], _, _, H1, rfl, I1.kept (t' := s1.toks) fun b o e => Heap.get?_push_of_some _ e, turn_tuple a _, ⟨_, Heap.get?_push_size _ rfl, rfl, rfl⟩, fun b hb => ?_, q⟩
    have e : b = s1.heap.objs.size := by simpa using hb
    subst e
    exact I1.fpOk (Nat.le_refl _) (I1.hok.fresh (Nat.le_refl _))
end
end Ev
end
section
set_option maxHeartbeats 4000000
/-! EvS7: targets, comprehensions. -/
namespace Ev
open PySem PySem.Spec PyProof.Rows L2
variable {T : LT}

def OffEq (is : List Nat) (σ σ' : L2.St) : Prop := σ'.length = σ.length ∧ ∀ j, j ∉ is → σ'[j]? = σ[j]?
theorem OffEq.refl {is : List Nat} {σ : L2.St} : OffEq is σ σ := ⟨rfl, fun _ _ => rfl⟩
theorem OffEq.trans {is js : List Nat} {σ σ1 σ2 : L2.St} (a : OffEq is σ σ1) (b : OffEq js σ1 σ2) : OffEq (is ++ js) σ σ2 :=
  ⟨b.1.trans a.1, fun j h => by
    rw [List.mem_append, not_or] at h
    exact (b.2 j h.2).trans (a.2 j h.1)⟩
theorem get_wipe {σ : L2.St} : ∀ {is : List Nat} {j : Nat}, (wipe σ is)[j]? = if j ∈ is ∧ j < σ.length then some none else σ[j]?
  | [], j => by simp [wipe]
  | i :: is, j => by
    unfold wipe
    rw [List.getElem?_set, wipe_length]
    by_cases h : i = j
    · subst h
      by_cases hl : i < σ.length
      · simp [hl]
      · simp [hl]
    · rw [if_neg h, get_wipe]
      have : j ≠ i := Ne.symm h
      simp [this]
theorem OffEq.wipe {is : List Nat} {σ σ' : L2.St} (h : OffEq is σ σ') : wipe σ' is = wipe σ is := by
  apply List.ext_getElem?
  intro j
  rw [get_wipe, get_wipe, h.1]
  by_cases hj : j ∈ is
  · by_cases hl : j < σ.length
    · rw [if_pos ⟨hj, hl⟩, if_pos ⟨hj, hl⟩]
    · rw [if_neg (fun z => hl z.2), if_neg (fun z => hl z.2), List.getElem?_eq_none (by rw [h.1]; omega), List.getElem?_eq_none (by omega)]
  · rw [if_neg (fun z => hj z.1), if_neg (fun z => hj z.1), h.2 j hj]
theorem wipe_wipe {is : List Nat} {σ : L2.St} : wipe (wipe σ is) is = wipe σ is := by
  apply OffEq.wipe
  exact ⟨wipe_length _ _, fun j hj => by rw [get_wipe, if_neg (fun z => hj z.1)]⟩
theorem gt_wipeS {e : Sl} : ∀ {is : List Nat} {j : Nat} {sv : Sv}, gt (wipeS e is) j = some sv → j ∉ is ∧ gt e j = some sv
  | [], j, sv, h => ⟨by simp, h⟩
  | i :: is, j, sv, h => by
    rcases gt_pt h with ⟨_, z⟩ | ⟨hj, z⟩
    · cases z
    · obtain ⟨h1, h2⟩ := gt_wipeS z
      exact ⟨by simp only [List.mem_cons, not_or]; exact ⟨hj, h1⟩, h2⟩
theorem gt_restS {e0 e : Sl} : ∀ {is : List Nat} {j : Nat} {sv : Sv}, gt (restS e0 e is) j = some sv → (j ∈ is ∧ gt e0 j = some sv) ∨ (j ∉ is ∧ gt e j = some sv)
  | [], j, sv, h => .inr ⟨by simp, h⟩
  | i :: is, j, sv, h => by
    rcases gt_pt h with ⟨rfl, z⟩ | ⟨hj, z⟩
    · exact .inl ⟨by simp, z⟩
    · rcases gt_restS z with ⟨h1, h2⟩ | ⟨h1, h2⟩
      · exact .inl ⟨by simp [h1], h2⟩
      · exact .inr ⟨by simp only [List.mem_cons, not_or]; exact ⟨hj, h1⟩, h2⟩
section
variable {K : PySem.W.Frag} {e : Sl} {σ : L2.St} {H : Hp} {Z G : Addr → Prop}
theorem set_ne {i j : Nat} {v : Option V} (h : j ≠ i) : (σ.set i v)[j]? = σ[j]? := List.getElem?_set_ne (Ne.symm h)
/-- an unchanging value is stored -/
theorem StOk.set_im (s : StOk K T e σ H Z G) {i : Nat} {v : V} {d : D} (hi : i < σ.length) (h : EncD K Z H v d) : StOk K T (pt e i (some (.im d))) (σ.set i (some v)) H Z G := by
  refine ⟨s.tb, s.zs, s.gs, fun j sv q => ?_, fun j k sj sk w q1 q2 o1 o2 e1 e2 => ?_⟩
  · rcases gt_pt q with ⟨rfl, z⟩ | ⟨hj, z⟩
    · cases z; exact ⟨v, List.getElem?_set_self hi, h⟩
    · rw [set_ne hj]; exact s.sl j sv z
  · rcases gt_pt q1 with ⟨_, z⟩ | ⟨h1, z1⟩
    · cases z; cases o1
    · rcases gt_pt q2 with ⟨_, z⟩ | ⟨h2, z2⟩
      · cases z; cases o2
      · rw [set_ne h1] at e1
        rw [set_ne h2] at e2
        exact s.inj j k sj sk w z1 z2 o1 o2 e1 e2
/-- a new one is stored -/
theorem StOk.set_own {i : Nat} {a : Addr} {sv : Sv} (s : StOk K T e σ H Z (fun b => G b ∨ b = a)) (hi : i < σ.length) (ng : ¬ G a) (h : SvOk K T Z G H (.ref a) sv) : StOk K T (pt e i (some sv)) (σ.set i (some (.ref a))) H Z G := by
  have no : ∀ {j : Nat} {sj : Sv}, gt e j = some sj → sj.own = true → σ[j]? = some (some (V.ref a)) → False := fun {j sj} q o e => by
    obtain ⟨_, _, _, _, n⟩ := s.notOwn q o e
    exact n (.inr rfl)
  refine ⟨s.tb.less fun b z => .inl z, s.zs, fun b g => s.gs b (.inl g), fun j sj q => ?_, fun j k sj sk w q1 q2 o1 o2 e1 e2 => ?_⟩
  · rcases gt_pt q with ⟨rfl, z⟩ | ⟨hj, z⟩
    · cases z; exact ⟨_, List.getElem?_set_self hi, h⟩
    · rw [set_ne hj]
      obtain ⟨w, h1, h2⟩ := s.sl j sj z
      refine ⟨w, h1, h2.mono Le.refl fun o b eb => ?_⟩
      obtain ⟨b', _, eb', _, _, n1, n2⟩ := h2.addr o
      rw [eb] at eb'; cases eb'
      exact ⟨rfl, n1, fun g => n2 (.inl g)⟩
  · rcases gt_pt q1 with ⟨rfl, z1⟩ | ⟨h1, z1⟩
    · rw [List.getElem?_set_self hi] at e1; cases e1
      rcases gt_pt q2 with ⟨rfl, z2⟩ | ⟨h2, z2⟩
      · rfl
      · rw [set_ne h2] at e2
        exact (no z2 o2 e2).elim
    · rw [set_ne h1] at e1
      rcases gt_pt q2 with ⟨rfl, z2⟩ | ⟨h2, z2⟩
      · rw [List.getElem?_set_self hi] at e2; cases e2
        exact (no z1 o1 e1).elim
      · rw [set_ne h2] at e2
        exact s.inj j k sj sk w z1 z2 o1 o2 e1 e2
theorem StOk.wiped (s : StOk K T e σ H Z G) (is : List Nat) : StOk K T (wipeS e is) (wipe σ is) H Z G := by
  have at' : ∀ {j : Nat}, j ∉ is → (wipe σ is)[j]? = σ[j]? := fun h => by rw [get_wipe, if_neg (fun z => h z.1)]
  refine ⟨s.tb, s.zs, s.gs, fun j sv q => ?_, fun j k sj sk w q1 q2 o1 o2 e1 e2 => ?_⟩
  · obtain ⟨h1, h2⟩ := gt_wipeS q
    rw [at' h1]; exact s.sl j sv h2
  · obtain ⟨h1, z1⟩ := gt_wipeS q1
    obtain ⟨h2, z2⟩ := gt_wipeS q2
    rw [at' h1] at e1
    rw [at' h2] at e2
    exact s.inj j k sj sk w z1 z2 o1 o2 e1 e2
/-- behind the block -/
theorem StOk.rested {e0 : Sl} {Z0 G0 : Addr → Prop} {H0 : Hp} {is : List Nat} (s : StOk K T e (wipe σ is) H Z G) (s0 : StOk K T e0 σ H0 Z0 G0) (l : Le Z0 H0 Z H) (im : imOnly e0 is = true) : StOk K T (restS e0 e is) σ H Z G := by
  have at' : ∀ {j : Nat}, j ∉ is → (wipe σ is)[j]? = σ[j]? := fun h => by rw [get_wipe, if_neg (fun z => h z.1)]
  have imm : ∀ {j : Nat} {sv : Sv}, j ∈ is → gt e0 j = some sv → ∃ d, sv = .im d := fun {j sv} hj q => by
    unfold imOnly at im
    rw [List.all_eq_true] at im
    have := im j hj
    rw [q] at this
    cases sv with
    | im d => exact ⟨d, rfl⟩
    | ol d => cases this
    | od d => cases this
    | ex d => cases this
  refine ⟨s.tb, s.zs, s.gs, fun j sv q => ?_, fun j k sj sk w q1 q2 o1 o2 e1 e2 => ?_⟩
  · rcases gt_restS q with ⟨hj, z⟩ | ⟨hj, z⟩
    · obtain ⟨d, rfl⟩ := imm hj z
      obtain ⟨v, h1, h2⟩ := s0.sl j _ z
      exact ⟨v, h1, EncD.mono l h2⟩
    · rw [← at' hj]; exact s.sl j sv z
  · rcases gt_restS q1 with ⟨hj, z⟩ | ⟨h1, z1⟩
    · obtain ⟨d, rfl⟩ := imm hj z
      cases o1
    · rcases gt_restS q2 with ⟨hj, z⟩ | ⟨h2, z2⟩
      · obtain ⟨d, rfl⟩ := imm hj z
        cases o2
      · rw [← at' h1] at e1
        rw [← at' h2] at e2
        exact s.inj j k sj sk w z1 z2 o1 o2 e1 e2
/-- a kept object is written by the one who keeps it -/
theorem le_write {a : Addr} {u w : HO} (h : H a = some u) (mu : Md u) (nz : ¬ Z a) : Le Z H Z (upd H a w) :=
  ⟨fun _ h => h, fun b z => upd_ne (fun e => nz (e ▸ z)), fun b xs e => by
    rw [upd_ne (fun z => by subst z; rw [h] at e; cases e; exact mu)]; exact e, fun b o x e => by
    rw [upd_ne (fun z => by subst z; rw [h] at e; cases e; exact mu)]; exact e⟩
/-- a table stands where another thing is written -/
theorem TbOk.write {T : LT} {H : Hp} {Z G : Addr → Prop} (t : TbOk T H Z G) {a : Addr} {u : HO} {ws : List V} (h : H a = some u) (mu : Md u) : TbOk T (upd H a (.lst ws)) Z G := by
  have ne : ∀ {c o}, H c = some o → (Md o → False) → upd H a (.lst ws) c = some o := fun {c o} e n => by
    rw [upd_ne (fun z => by subst z; rw [h] at e; cases e; exact n mu)]; exact e
  refine ⟨fun p hp => ?_, fun b z ps e => ?_, fun b g => ?_⟩
  · obtain ⟨ps, h1, h2, h3⟩ := t.1 p hp
    refine ⟨ps, ne h1 fun m => m, h2, fun pos cv hc => ?_⟩
    obtain ⟨c, e1, e2⟩ := h3 pos cv hc
    exact ⟨c, e1, ne e2 fun m => m⟩
  · by_cases hb : b = a
    · subst hb; rw [upd_same] at e; cases e
    · rw [upd_ne hb] at e; exact t.2.1 b z ps e
  · by_cases hb : b = a
    · subst hb; exact ⟨_, upd_same, trivial⟩
    · rw [upd_ne hb]; exact t.2.2 b g
theorem StOk.write (s : StOk K T e σ H Z G) {a : Addr} {u : HO} {ws : List V} (h : H a = some u) (mu : Md u) (g : G a) : StOk K T e σ (upd H a (.lst ws)) Z G := by
  have l := le_write (w := .lst ws) h mu (s.gs a g).2
  have some : ∀ {b}, H b ≠ none → upd H a (.lst ws) b ≠ none := fun {b} hb => by
    by_cases e : b = a
    · subst e; rw [upd_same]; simp
    · rw [upd_ne e]; exact hb
  refine ⟨s.tb.write h mu, fun b z => some (s.zs b z), fun b g => ⟨some (s.gs b g).1, (s.gs b g).2⟩, fun j sv q => ?_, s.inj⟩
  obtain ⟨v, h1, h2⟩ := s.sl j sv q
  refine ⟨v, h1, h2.mono l fun o b eb => ?_⟩
  obtain ⟨b', _, eb', _, _, n1, n2⟩ := h2.addr o
  rw [eb] at eb'; cases eb'
  exact ⟨upd_ne (fun z => n2 (z ▸ g)), n1, n2⟩
end

/-! ### targets -/
def RdG (K : PySem.W.Frag) (T : LT) (fx : List Nat) (t : MT) (is : List Nat) : TG := fun x σ H R => ∃ d e Z G e', StOk K T e σ H Z G ∧ EncD K Z H x d ∧ t d e = some e' ∧ ∀ σ', OffEq is σ σ' → SameF fx σ σ' → StOk K T e' σ' H Z G → R σ' H
def RdGs (K : PySem.W.Frag) (T : LT) (fx : List Nat) (ts : List MT) (is : List Nat) : TGs := fun xs σ H R => ∃ ds e Z G e', StOk K T e σ H Z G ∧ EncDs K Z H xs ds ∧ tupT ts ds e = some e' ∧ ∀ σ', OffEq is σ σ' → SameF fx σ σ' → StOk K T e' σ' H Z G → R σ' H
theorem _root_.L2.PG.weakenL {X : Cx} {tg : Expr} {g g' : TG} (h : PG X tg g) (w : ∀ x σ H R, σ.length = X.N.length → g' x σ H R → g x σ H R) : PG X tg g' := ⟨fun pins s σ H v u Q I r q => h.run pins s σ H v u Q I r (w v σ H Q I.len q)⟩
theorem _root_.L2.PGs.weaken {X : Cx} {ts : List Expr} {g g' : TGs} (h : PGs X ts g) (w : ∀ x σ H R, g' x σ H R → g x σ H R) : PGs X ts g' := ⟨fun pins s σ H v u Q I r q => h.run pins s σ H v u Q I r (w v σ H Q q)⟩
theorem _root_.L2.PS.weakenL {X : Cx} {st : Stmt} {t t' : TS} (h : PS X st t) (w : ∀ D σ H, σ.length = X.N.length → t' D σ H → t D σ H) : PS X st t' := ⟨fun pins s σ H D I q => h.run pins s σ H D I (w D σ H I.len q)⟩
theorem SameF.set {fx : List Nat} {σ : L2.St} {i : Nat} {v : Option V} (h : i ∉ fx) : SameF fx σ (σ.set i v) := ⟨List.length_set, fun j hj => set_ne (fun e => h (e ▸ hj))⟩
theorem stS_some {fx : List Nat} {i : Nat} {v : Sv} {e e' : Sl} (h : stS fx i v e = some e') : i ∉ fx ∧ e' = pt e i (some v) := by
  unfold stS at h
  split at h
  · cases h
  · rename_i hf
    cases h
    exact ⟨by simpa using hf, rfl⟩
section
variable {X : Cx} {K : PySem.W.Frag} {fx : List Nat}
theorem rd_gname {i : Nat} {x : V} {σ : L2.St} {H : Hp} {R : L2.St → Hp → Prop} (hi : i < σ.length) (h : RdG K T fx (nameT fx i) [i] x σ H R) : gName i x σ H R := by
  obtain ⟨d, e, Z, G, e', s, en, q, k⟩ := h
  obtain ⟨hf, rfl⟩ := stS_some q
  exact k _ ⟨List.length_set, fun j hj => set_ne (by simpa using hj)⟩ (SameF.set hf) (s.set_im hi en)
theorem rd_gnil {xs : List V} {σ : L2.St} {H : Hp} {R : L2.St → Hp → Prop} (h : RdGs K T fx [] [] xs σ H R) : gNil xs σ H R := by
  obtain ⟨ds, e, Z, G, e', s, en, q, k⟩ := h
  cases ds with
  | nil =>
    cases en
    cases q
    exact ⟨rfl, k _ OffEq.refl SameF.refl s⟩
  | cons d ds => cases q
theorem rd_gcons {t : MT} {ts : List MT} {is js : List Nat} {xs : List V} {σ : L2.St} {H : Hp} {R : L2.St → Hp → Prop} (h : RdGs K T fx (t :: ts) (is ++ js) xs σ H R) : gCons (RdG K T fx t is) (RdGs K T fx ts js) xs σ H R := by
  obtain ⟨ds, e, Z, G, e', s, en, q, k⟩ := h
  cases ds with
  | nil => cases q
  | cons d ds =>
    cases en with
    | cons en ens =>
      simp only [tupT] at q
      split at q
      · rename_i e1 q1
        exact ⟨_, _, rfl, d, e, Z, G, e1, s, en, q1, fun σ' o1 f1 s1 => ⟨ds, e1, Z, G, e', s1, ens, q, fun σ2 o2 f2 s2 => k σ2 (o1.trans o2) (f1.trans f2) s2⟩⟩
      · cases q
theorem tupT_len : ∀ {ts : List MT} {ds : List D} {e e' : Sl}, tupT ts ds e = some e' → ds.length = ts.length
  | [], [], _, _, _ => rfl
  | t :: ts, d :: ds, e, e', h => by
    simp only [tupT] at h
    split at h
    · exact congrArg (· + 1) (tupT_len h)
    · cases h
  | [], _ :: _, _, _, h => by cases h
  | _ :: _, [], _, _, h => by cases h
theorem rd_gtup {ts : List MT} {is : List Nat} {x : V} {σ : L2.St} {H : Hp} {R : L2.St → Hp → Prop} (h : RdG K T fx (unpT ts) is x σ H R) : gTup K ts.length (RdGs K T fx ts is) x σ H R := by
  obtain ⟨d, e, Z, G, e', s, en, q, k⟩ := h
  unfold unpT at q
  split at q
  · rename_i ds
    cases en with
    | tup h hs => exact ⟨_, _, rfl, h, by rw [hs.length]; exact tupT_len q, ds, e, Z, G, e', s, hs, q, k⟩
  · cases q
end

/-! ### comprehensions -/
def WF : WX := fun _ _ _ _ => False
section
variable {K : PySem.W.Frag} {mg : Str → Option Value} {W : WX} {fx : List Nat}
theorem PostC.noer {α β : Type} {σ σ' : L2.St} {Z G G1 : Addr → Prop} {H : Hp} {C : β → Sl → (Addr → Prop) → Hp → Prop} {r : Res α} {f : α → Sl → Res β} (hG : ∀ a, G a → G1 a) (h : PostC K T mg W σ Z G H C ((Ev.noer r).bind f)) :
    PostC K T mg WF σ' Z G1 H (fun a e1 Z1 H1 => PostC K T mg W σ Z1 G H1 C (f a e1)) r := by
  cases r with
  | ok a e => exact fun H' Z' l' k' => PostC.trans l' (k'.less hG) h
  | er x e => exact h.elim
  | bad => exact h.elim
theorem Gh_or {σ : L2.St} {P : Addr → Prop} : ∀ {hid : List (Nat × Sv)} {G : Addr → Prop}, Gh σ (fun a => G a ∨ P a) hid = fun a => Gh σ G hid a ∨ P a
  | [], _ => rfl
  | (i, _) :: r, G => by
    show Gh σ (fun b => (G b ∨ P b) ∨ σ[i]? = some (some (.ref b))) r = _
    have : (fun b => (G b ∨ P b) ∨ σ[i]? = some (some (.ref b))) = fun b => (G b ∨ σ[i]? = some (some (.ref b))) ∨ P b := by
      funext b
      apply propext
      constructor
      · rintro ((h | h) | h)
        · exact .inl (.inl h)
        · exact .inr h
        · exact .inl (.inr h)
      · rintro ((h | h) | h)
        · exact .inl (.inl h)
        · exact .inr h
        · exact .inl (.inr h)
    rw [this, Gh_or]
    rfl
theorem HidOk.or {σ : L2.St} {Z P : Addr → Prop} {H : Hp} : ∀ {hid : List (Nat × Sv)} {G : Addr → Prop}, HidOk K fx σ Z H G hid → (∀ a, Gh σ G hid a → ¬ P a) → HidOk K fx σ Z H (fun a => G a ∨ P a) hid
  | [], _, _, _ => trivial
  | (i, sv) :: r, G, ⟨⟨a, vs, xs, hi, e1, e2, e3, e4, e5⟩, h⟩, k => by
    refine ⟨⟨a, vs, xs, hi, e1, e2, e3, e4, fun z => z.elim e5 fun z => k a (Gh.in (hid := r) (.inr e2)) z⟩, ?_⟩
    have := HidOk.or h k
    have e : (fun b => (G b ∨ P b) ∨ σ[i]? = some (some (.ref b))) = fun b => (G b ∨ σ[i]? = some (some (.ref b))) ∨ P b := by
      funext b
      apply propext
      constructor
      · rintro ((h | h) | h)
        · exact .inl (.inl h)
        · exact .inr h
        · exact .inl (.inr h)
      · rintro ((h | h) | h)
        · exact .inl (.inl h)
        · exact .inr h
        · exact .inl (.inr h)
    rw [e]
    exact this
theorem rd_comp {is : List Nat} {it : MI} {tg : MT} {cond elt : ME} {σ : L2.St} {H : Hp} {Q : VK} (h : RdE K T mg (compE is it tg cond elt) W σ H Q) :
    tLc (RdI K T mg fx it W) (RdG K T fx tg is) (RdT K T mg cond WF) (RdE K T mg elt WF) is σ H Q := by
  obtain ⟨e, Z, G, s, h⟩ := h
  refine ⟨e, Z, G, s, (h.bind fun _ z => z).imp fun m e1 Z1 H1 l k h J s1 hk fd => ?_⟩
  split at h
  case isFalse => exact h.elim
  rename_i im
  intro Dn hD
  have nG : ∀ a, Gh σ G m.hid a → a ≠ Dn := fun a g z => (s1.gs a g).1 (z ▸ hD)
  have nZ : ¬ Z1 Dn := fun z => s1.zs Dn z hD
  -- at each turn
  let GD : Addr → Prop := fun a => Gh σ G m.hid a ∨ a = Dn
  let Pv : Nat → Hp → Prop := fun i H' => ∃ (e' : Sl) (Z' : Addr → Prop) (acc : List D) (vs : List V), StOk K T e' (wipe σ is) H' Z' GD ∧ Le Z1 H1 Z' H' ∧ KeepG (Gh σ G m.hid) H1 H' ∧ H' Dn = some (.lst vs) ∧ EncDs K Z' H' vs acc ∧
    PostC K T mg W σ Z' G H' (CE' K T σ G Q) ((compL is tg cond elt (m.items.drop i) acc e').bind fun acc e2 => .ok (.tl acc) (unhS m.hid (restS e1 e2 is)))
  have hid0 : Le Z1 H1 Z1 (upd H1 Dn (.lst [])) := Same.le (same_new hD) s1.zs
  have keep0 : KeepG (Gh σ G m.hid) H1 (upd H1 Dn (.lst [])) := fun a g => upd_ne (nG a g)
  have p0 : Pv 0 (upd H1 Dn (.lst [])) := by
    refine ⟨wipeS e1 is, Z1, [], [], ?_, hid0, keep0, upd_same, .nil, ?_⟩
    · have s2 : StOk K T e1 σ (upd H1 Dn (.lst [])) Z1 GD := by
        have s3 := s1.same (same_new (o := .lst []) hD)
        refine ⟨⟨s3.tb.1, s3.tb.2.1, fun a z => ?_⟩, s3.zs, fun a g => ?_, fun j sv q => ?_, s3.inj⟩
        · rcases z with z | rfl
          · exact s3.tb.2.2 a z
          · exact ⟨_, upd_same, trivial⟩
        · rcases g with g | rfl
          · exact s3.gs a g
          · exact ⟨by rw [upd_same]; simp, nZ⟩
        · obtain ⟨v, h1, h2⟩ := s3.sl j sv q
          refine ⟨v, h1, h2.mono Le.refl fun o a ea => ?_⟩
          subst ea
          obtain ⟨u, h3, _, n1, n2⟩ := s1.notOwn q o h1
          exact ⟨rfl, n1, fun z => z.elim n2 fun z => by rw [z, hD] at h3; cases h3⟩
      exact s2.wiped is
    · exact PostC.trans hid0 (keep0.less fun a g => Gh.in g) h
  refine ⟨fun i mm H' => mm = m.items.length - i ∧ i ≤ m.items.length ∧ Pv i H', ⟨_, rfl, Nat.zero_le _, p0⟩, ?_⟩
  rintro i mm H' ⟨rfl, hi, e', Z', acc, vs, st, l', k', hDn, es, h⟩
  by_cases hlt : i < m.items.length
  case neg =>
    have e0 : i = m.items.length := by omega
    subst e0
    refine .inl ⟨fd.stop Z' H' l' k', ?_⟩
    rw [List.drop_length] at h
    refine PostC.ret h (.ref Dn) ⟨?_, ⟨Dn, vs, rfl, hDn, es⟩, fun a ea g => ?_⟩
    · have s2 := st.rested s1 l' im
      have hk2 := (hk.mono l' k').or (P := fun a => a = Dn) nG
      have e2 : GD = Gh σ (fun a => G a ∨ a = Dn) m.hid := Gh_or.symm
      rw [e2] at s2
      have s3 := unh_ok s2 hk2
      have e3 : Gx G (.ref Dn) (.tl acc) = fun a => G a ∨ a = Dn := by
        funext b
        unfold Gx
        apply propext
        constructor
        · rintro (h | h)
          · exact .inl h
          · cases h; exact .inr rfl
        · rintro (h | h)
          · exact .inl h
          · exact .inr (by rw [h]; rfl)
      rw [e3]
      exact s3
    · cases ea
      exact nG _ (Gh.in g) rfl
  case pos =>
    refine .inr ⟨fd.go i Z' H' hlt l' k', Pv (i + 1), fun H2 p => ⟨m.items.length - (i + 1), by omega, rfl, hlt, p⟩, fun x H2 y => ?_⟩
    obtain ⟨sm, d, hd, en⟩ := fd.yld i Z' H' x H2 hlt l' k' st.zs y
    have st2 := st.same sm
    have l2 : Le Z1 H1 Z' H2 := l'.trans (Same.le sm st.zs)
    have kD : KeepG GD H' H2 := KeepG.of_same sm fun a g => (st.gs a g).1
    have es2 := es.mono (Same.le sm st.zs)
    have dr : m.items.drop i = d :: m.items.drop (i + 1) := by
      rw [List.drop_eq_getElem_cons hlt]
      rw [lt_get hlt] at hd
      cases hd
      rfl
    rw [dr] at h
    have h := PostC.trans (Same.le sm st.zs) (kD.less fun a g => .inl (Gh.in g)) h
    simp only [compL] at h
    cases q1 : tg d e' with
    | none => rw [q1] at h; exact h.elim
    | some e2 =>
      rw [q1] at h
      simp only at h
      have ass : ∀ {α β γ : Type} (r : Res α) (f : α → Sl → Res β) (g : β → Sl → Res γ), (r.bind f).bind g = r.bind fun a e => (f a e).bind g := fun r f g => by cases r <;> rfl
      rw [ass] at h
      refine ⟨d, e', Z', GD, e2, st2, en, q1, fun σ2 off sf st3 => ⟨by rw [off.wipe, wipe_wipe], ?_⟩⟩
      refine ⟨e2, Z', GD, st3, (PostC.noer (σ' := σ2) (fun a g => .inl (Gh.in g)) h).imp fun o e3 Z3 H3 l3 k3 h => ?_⟩
      cases qt : tru o with
      | none => rw [qt] at h; exact h.elim
      | some b =>
        rw [qt] at h
        refine ⟨b, qt, fun st4 => ?_⟩
        have l13 := l2.trans l3
        have k13 : KeepG (Gh σ G m.hid) H1 H3 := ((k'.trans (kD.less fun a g => .inl g))).trans (k3.less fun a g => .inl g)
        have hD3 : H3 Dn = some (.lst vs) := by rw [k3 Dn (.inr rfl), kD Dn (.inr rfl)]; exact hDn
        have back : ∀ {e4 : Sl} {H4 : Hp} {Z4 : Addr → Prop}, StOk K T e4 σ2 H4 Z4 GD → StOk K T (wipeS e4 is) (wipe σ is) H4 Z4 GD := fun {e4 H4 Z4} s => by
          have := s.wiped is
          rw [off.wipe, wipe_wipe] at this
          exact this
        cases b with
        | false =>
          refine iteF ?_
          exact ⟨wipeS e3 is, Z3, acc, vs, back st4, l13, k13, hD3, es2.mono l3, h⟩
        | true =>
          refine iteT ?_
          simp only at h
          rw [ass] at h
          refine ⟨e3, Z3, GD, st4, (PostC.noer (σ' := σ2) (fun a g => .inl (Gh.in g)) h).imp fun y e4 Z4 H4 l4 k4 h v x => ?_⟩
          cases q2 : fzO y e4 with
          | none => rw [q2] at h; exact h.elim
          | some p =>
            obtain ⟨z, e5⟩ := p
            rw [q2] at h
            simp only at h
            obtain ⟨Z5, l5, s5, en5⟩ := fz_ok x q2
            split at h
            case isFalse => exact h.elim
            rename_i hsz
            have hD4 : H4 Dn = some (.lst vs) := by rw [k4 Dn (.inr rfl)]; exact hD3
            have es4 : EncDs K Z5 H4 vs acc := (es2.mono l3).mono (l4.trans l5)
            refine ⟨vs, hD4, by rw [es4.length, ← sizeMax_eq]; exact hsz, ?_⟩
            have nz5 : ¬ Z5 Dn := (s5.gs Dn (.inr rfl)).2
            have lw : Le Z5 H4 Z5 (upd H4 Dn (.lst (vs ++ [v]))) := le_write hD4 trivial nz5
            have kw : KeepG (Gh σ G m.hid) H4 (upd H4 Dn (.lst (vs ++ [v]))) := fun a g => upd_ne (nG a g)
            refine ⟨wipeS e5 is, Z5, acc ++ [z], vs ++ [v], (back s5).write hD4 trivial (.inr rfl), (l13.trans (l4.trans l5)).trans lw, (k13.trans (k4.less fun a g => .inl g)).trans kw, upd_same, (es4.append (.cons en5 .nil)).mono lw, ?_⟩
            exact PostC.trans (l5.trans lw) (kw.less fun a g => Gh.in g) h
end
end Ev
end
section
set_option maxHeartbeats 4000000
/-! EvS8: statements. -/
namespace Ev
open PySem PySem.Spec PyProof.Rows L2
variable {T : LT}

def PostS (K : PySem.W.Frag) (T : LT) (mg : Str → Option Value) (W : WX) (fx : List Nat) (σ : L2.St) (Z G : Addr → Prop) (H : Hp) (D : Ends) : SR → Prop
  | .nx e' => ∀ σ' H' Z', Le Z H Z' H' → KeepG G H H' → SameF fx σ σ' → StOk K T e' σ' H' Z' G → D.nx σ' H'
  | .ct e' => ∀ σ' H' Z', Le Z H Z' H' → KeepG G H H' → SameF fx σ σ' → StOk K T e' σ' H' Z' G → D.ct σ' H'
  | .bk e' => ∀ σ' H' Z', Le Z H Z' H' → KeepG G H H' → SameF fx σ σ' → StOk K T e' σ' H' Z' G → D.bk σ' H'
  | .rt o e' => ∀ v σ' H' Z', Le Z H Z' H' → KeepG G H H' → SameF fx σ σ' → Out K T e' σ' H' Z' G v o → D.rt v H'
  | .er x e' => ∀ cls d σ' H' Z', Le Z H Z' H' → KeepG G H H' → SameF fx σ σ' → StOk K T e' σ' H' Z' G → ExOk K mg Z' x cls d H' → W cls d σ' H'
  | .bad => False
def RdS (K : PySem.W.Frag) (T : LT) (mg : Str → Option Value) (fx : List Nat) (m : MS) (W : WX) : TS := fun D σ H => ∃ e Z G, StOk K T e σ H Z G ∧ PostS K T mg W fx σ Z G H D (m e)
section
variable {K : PySem.W.Frag} {mg : Str → Option Value} {W : WX} {fx : List Nat} {σ σ1 : L2.St} {Z G Z1 G1 : Addr → Prop} {H H1 : Hp} {D D' : Ends}
theorem PostS.trans {r : SR} (l : Le Z H Z1 H1) (k : KeepG G H H1) (f : SameF fx σ σ1) (h : PostS K T mg W fx σ Z G H D r) : PostS K T mg W fx σ1 Z1 G H1 D r := by
  cases r with
  | nx e => exact fun σ' H' Z' l' k' f' s => h σ' H' Z' (l.trans l') (k.trans k') (f.trans f') s
  | ct e => exact fun σ' H' Z' l' k' f' s => h σ' H' Z' (l.trans l') (k.trans k') (f.trans f') s
  | bk e => exact fun σ' H' Z' l' k' f' s => h σ' H' Z' (l.trans l') (k.trans k') (f.trans f') s
  | rt o e => exact fun v σ' H' Z' l' k' f' s => h v σ' H' Z' (l.trans l') (k.trans k') (f.trans f') s
  | er x e => exact fun cls d σ' H' Z' l' k' f' s x => h cls d σ' H' Z' (l.trans l') (k.trans k') (f.trans f') s x
  | bad => exact h
theorem PostS.nx {e : Sl} (s : StOk K T e σ H Z G) (h : PostS K T mg W fx σ Z G H D (.nx e)) : D.nx σ H := h σ H Z Le.refl KeepG.refl SameF.refl s
/-- an expression ahead -/
theorem PostS.st {α : Type} {r : Res α} {f : α → Sl → SR} (hG : ∀ a, G a → G1 a) (h : PostS K T mg W fx σ Z G H D (r.st f)) : PostC K T mg W σ Z G1 H (fun a e1 Z1 H1 => PostS K T mg W fx σ Z1 G H1 D (f a e1)) r := by
  cases r with
  | ok a e => exact fun H' Z' l' k' => PostS.trans l' (k'.less hG) SameF.refl h
  | er x e => exact fun cls d H' Z' l' k' s x => h cls d σ H' Z' l' (k'.less hG) SameF.refl (s.less hG) x
  | bad => exact h
/-- a statement ahead -/
theorem rd_seq2 {a b : MS} (h : RdS K T mg fx (fun e => (a e).bind b) W D σ H) : tSeq (RdS K T mg fx a W) (RdS K T mg fx b W) D σ H := by
  obtain ⟨e, Z, G, s, h⟩ := h
  refine ⟨e, Z, G, s, ?_⟩
  have h : PostS K T mg W fx σ Z G H D ((a e).bind b) := h
  cases q : a e with
  | nx e1 => rw [q] at h; exact fun σ' H' Z' l k f s' => ⟨e1, Z', G, s', PostS.trans l k f h⟩
  | ct e1 => rw [q] at h; exact h
  | bk e1 => rw [q] at h; exact h
  | rt o e1 => rw [q] at h; exact h
  | er x e1 => rw [q] at h; exact h
  | bad => rw [q] at h; exact h
theorem rd_next (h : RdS K T mg fx (fun e => .nx e) W D σ H) : tNext D σ H := by
  obtain ⟨e, Z, G, s, h⟩ := h
  exact PostS.nx s h
theorem rd_brk (h : RdS K T mg fx (fun e => .bk e) W D σ H) : tBreak D σ H := by
  obtain ⟨e, Z, G, s, h⟩ := h
  exact h σ H Z Le.refl KeepG.refl SameF.refl s
theorem rd_ct (h : RdS K T mg fx (fun e => .ct e) W D σ H) : tCont D σ H := by
  obtain ⟨e, Z, G, s, h⟩ := h
  exact h σ H Z Le.refl KeepG.refl SameF.refl s
theorem rd_ret {a : ME} (h : RdS K T mg fx (retS a) W D σ H) : tRet (RdE K T mg a W) D σ H := by
  obtain ⟨e, Z, G, s, h⟩ := h
  exact ⟨e, Z, G, s, (PostS.st (fun _ z => z) h).imp fun o e1 Z1 H1 l k h v x => h v σ H1 Z1 Le.refl KeepG.refl SameF.refl x⟩
theorem rd_retN (h : RdS K T mg fx retN W D σ H) : tRetN D σ H := by
  obtain ⟨e, Z, G, s, h⟩ := h
  exact h .non σ H Z Le.refl KeepG.refl SameF.refl (s.im .non)
theorem rd_expr {a : ME} (h : RdS K T mg fx (exprS a) W D σ H) : tDrop (RdE K T mg a W) D σ H := by
  obtain ⟨e, Z, G, s, h⟩ := h
  exact ⟨e, Z, G, s, (PostS.st (fun _ z => z) h).imp fun o e1 Z1 H1 l k h v x => PostS.nx x.st0 h⟩
theorem PostS.tru {o : Op} {f : Bool → SR} (h : PostS K T mg W fx σ Z G H D (match Ev.tru o with | some true => f true | some false => f false | none => .bad)) : ∃ b, Ev.tru o = some b ∧ PostS K T mg W fx σ Z G H D (f b) := by
  cases qt : Ev.tru o with
  | none => rw [qt] at h; exact h.elim
  | some b =>
    rw [qt] at h
    cases b with
    | true => exact ⟨true, rfl, h⟩
    | false => exact ⟨false, rfl, h⟩
theorem rd_ifS {t : ME} {a b : MS} (h : RdS K T mg fx (ifS t a b) W D σ H) : tIfS (RdT K T mg t W) (RdS K T mg fx a W) (RdS K T mg fx b W) D σ H := by
  obtain ⟨e, Z, G, s, h⟩ := h
  refine ⟨e, Z, G, s, (PostS.st (f := fun o e1 => match tru o with | some true => a e1 | some false => b e1 | none => .bad) (fun _ z => z) h).imp fun o e1 Z1 H1 l k h => ?_⟩
  obtain ⟨bb, qt, h⟩ := PostS.tru (f := fun bb => if bb then a e1 else b e1) h
  refine ⟨bb, qt, fun s1 => ?_⟩
  cases bb with
  | true => exact iteT ⟨e1, Z1, G, s1, h⟩
  | false => exact iteF ⟨e1, Z1, G, s1, h⟩
/-- a name is stored -/
theorem nameG_ok {i : Nat} {o : Op} {e e2 : Sl} {v : V} (hi : i < σ.length) (x : Out K T e σ H Z G v o) (q : nameG fx i o e = some e2) : i ∉ fx ∧ ∃ Z1, Le Z H Z1 H ∧ StOk K T e2 (σ.set i (some v)) H Z1 G := by
  have frame : (fun b => G b ∨ v = .ref b) = fun b => Gx G v (.tl []) b := rfl
  cases o with
  | im d =>
    obtain ⟨hf, rfl⟩ := stS_some q
    exact ⟨hf, Z, Le.refl, x.st0.set_im hi x.ok⟩
  | tl xs =>
    obtain ⟨hf, rfl⟩ := stS_some q
    obtain ⟨a, vs, rfl, h1, es⟩ := x.ok
    have ng := x.ne a rfl
    have s := x.st
    have eg : Gx G (.ref a) (.tl xs) = fun b => G b ∨ b = a := by
      funext b
      unfold Gx
      apply propext
      constructor
      · rintro (h | h)
        · exact .inl h
        · cases h; exact .inr rfl
      · rintro (h | h)
        · exact .inl h
        · exact .inr (by rw [h]; rfl)
    rw [eg] at s
    exact ⟨hf, Z, Le.refl, s.set_own hi ng ⟨a, vs, rfl, h1, es, (s.gs a (.inr rfl)).2, ng⟩⟩
  | td xs =>
    obtain ⟨hf, rfl⟩ := stS_some q
    obtain ⟨a, rfl, h1⟩ := x.ok
    have ng := x.ne a rfl
    have s := x.st
    have eg : Gx G (.ref a) (.td xs) = fun b => G b ∨ b = a := by
      funext b
      unfold Gx
      apply propext
      constructor
      · rintro (h | h)
        · exact .inl h
        · cases h; exact .inr rfl
      · rintro (h | h)
        · exact .inl h
        · exact .inr (by rw [h]; rfl)
    rw [eg] at s
    exact ⟨hf, Z, Le.refl, s.set_own hi ng ⟨a, rfl, h1, (s.gs a (.inr rfl)).2, ng⟩⟩
  | bor j =>
    simp only [nameG] at q
    cases q1 : fzO (.bor j) e with
    | none => rw [q1] at q; cases q
    | some p =>
      obtain ⟨d, e1⟩ := p
      rw [q1] at q
      obtain ⟨hf, rfl⟩ := stS_some q
      obtain ⟨Z1, l, s1, en⟩ := fz_ok x q1
      exact ⟨hf, Z1, l, s1.set_im hi en⟩
theorem rd_asg {a : ME} {i : Nat} (hi : i < σ.length) (h : RdS K T mg fx (asgS (nameG fx i) a) W D σ H) : tAsg (RdE K T mg a W) (gName i) D σ H := by
  obtain ⟨e, Z, G, s, h⟩ := h
  refine ⟨e, Z, G, s, (PostS.st (fun _ z => z) h).imp fun o e1 Z1 H1 l k h v x => ?_⟩
  cases q1 : nameG fx i o e1 with
  | none => rw [q1] at h; exact h.elim
  | some e2 =>
    rw [q1] at h
    obtain ⟨hf, Z2, l2, s2⟩ := nameG_ok hi x q1
    exact h _ H1 Z2 l2 KeepG.refl (SameF.set hf) s2
theorem rd_asgT {a : ME} {t : MT} {is : List Nat} (h : RdS K T mg fx (asgT t a) W D σ H) : tAsg (RdE K T mg a W) (RdG K T fx t is) D σ H := by
  obtain ⟨e, Z, G, s, h⟩ := h
  refine ⟨e, Z, G, s, (PostS.st (fun _ z => z) h).imp fun o e1 Z1 H1 l k h v x => ?_⟩
  cases q1 : fzO o e1 with
  | none => rw [q1] at h; exact h.elim
  | some p =>
    obtain ⟨d, e2⟩ := p
    rw [q1] at h
    simp only at h
    cases q2 : t d e2 with
    | none => rw [q2] at h; exact h.elim
    | some e3 =>
      rw [q2] at h
      obtain ⟨Z2, l2, s2, en⟩ := fz_ok x q1
      exact ⟨d, e2, Z2, G, e3, s2, en, q2, fun σ' off sf st => h σ' H1 Z2 l2 KeepG.refl sf st⟩

/-! ### several names at once -/
def setAll : L2.St → List Nat → List V → L2.St
  | σ, i :: is, v :: vs => (setAll σ is vs).set i (some v)
  | σ, _, _ => σ
theorem setAll_len : ∀ {σ : L2.St} {is : List Nat} {vs : List V}, (setAll σ is vs).length = σ.length
  | σ, i :: is, v :: vs => by unfold setAll; rw [List.length_set, setAll_len]
  | σ, [], _ => by unfold setAll; rfl
  | σ, _ :: _, [] => by unfold setAll; rfl
/-- operands that nothing but the statement holds -/
def NoBor : List Op → Prop
  | [] => True
  | .bor _ :: _ => False
  | _ :: os => NoBor os
theorem Outs.slotsN {e : Sl} {i : Nat} : True := trivial
theorem parG_ok : ∀ {is : List Nat} {os : List Op} {vs : List V} {e e2 : Sl} {G : Addr → Prop}, (∀ i, i ∈ is → i < σ.length) → NoBor os → Outs K T e σ H Z G vs os → parG (is.map (nameG fx)) os e = some e2 →
    is.length = vs.length ∧ SameF fx σ (setAll σ is vs) ∧ StOk K T e2 (setAll σ is vs) H Z G
  | [], [], [], e, e2, G, _, _, h, q => by
    cases q
    exact ⟨rfl, SameF.refl, h⟩
  | [], [], _ :: _, _, _, _, _, _, h, _ => h.elim
  | [], _ :: _, _, _, _, _, _, _, _, q => by cases q
  | _ :: _, [], _, _, _, _, _, _, _, q => by cases q
  | _ :: _, _ :: _, [], _, _, _, _, _, h, _ => h.elim
  | i :: is, o :: os, v :: vs, e, e2, G, hi, nb, h, q => by
    obtain ⟨h1, h2, h3⟩ := h
    simp only [List.map_cons, parG] at q
    cases q1 : parG (is.map (nameG fx)) os e with
    | none => rw [q1] at q; cases q
    | some e1 =>
      rw [q1] at q
      have nb' : NoBor os := by cases o <;> first | exact nb | exact nb.elim
      obtain ⟨hl, sf, s1⟩ := parG_ok (fun j hj => hi j (List.mem_cons_of_mem _ hj)) nb' h3 q1
      have ok : OpOk K Z H (setAll σ is vs) v o := by
        cases o with
        | bor j => exact nb.elim
        | im d => exact h1
        | tl d => exact h1
        | td d => exact h1
      have x : Out K T e1 (setAll σ is vs) H Z G v o := ⟨s1, ok, h2⟩
      have hlt : i < (setAll σ is vs).length := by rw [setAll_len]; exact hi i List.mem_cons_self
      obtain ⟨hf, rest⟩ : i ∉ fx ∧ StOk K T e2 ((setAll σ is vs).set i (some v)) H Z G := by
        cases o with
        | bor j => exact nb.elim
        | im d =>
          obtain ⟨hf, rfl⟩ := stS_some q
          exact ⟨hf, x.st0.set_im hlt x.ok⟩
        | tl d =>
          obtain ⟨hf, Z1, l, s⟩ := nameG_ok hlt x q
          obtain ⟨hf, rfl⟩ := stS_some q
          obtain ⟨a, ws, rfl, h4, es⟩ := x.ok
          have ng := x.ne a rfl
          have s := x.st
          have eg : Gx G (.ref a) (.tl d) = fun b => G b ∨ b = a := by
            funext b
            unfold Gx
            apply propext
            constructor
            · rintro (h | h)
              · exact .inl h
              · cases h; exact .inr rfl
            · rintro (h | h)
              · exact .inl h
              · exact .inr (by rw [h]; rfl)
          rw [eg] at s
          exact ⟨hf, s.set_own hlt ng ⟨a, ws, rfl, h4, es, (s.gs a (.inr rfl)).2, ng⟩⟩
        | td d =>
          obtain ⟨hf, rfl⟩ := stS_some q
          obtain ⟨a, rfl, h4⟩ := x.ok
          have ng := x.ne a rfl
          have s := x.st
          have eg : Gx G (.ref a) (.td d) = fun b => G b ∨ b = a := by
            funext b
            unfold Gx
            apply propext
            constructor
            · rintro (h | h)
              · exact .inl h
              · cases h; exact .inr rfl
            · rintro (h | h)
              · exact .inl h
              · exact .inr (by rw [h]; rfl)
          rw [eg] at s
          exact ⟨hf, s.set_own hlt ng ⟨a, rfl, h4, (s.gs a (.inr rfl)).2, ng⟩⟩
      exact ⟨congrArg (· + 1) hl, sf.trans (SameF.set hf), rest⟩
end
/-- what stands in a parallel assignment -/
def RdAP (K : PySem.W.Frag) (T : LT) (mg : Str → Option Value) (ms : List ME) (W : WX) : TA := fun σ H Q => ∃ e Z G, StOk K T e σ H Z G ∧ PostC K T mg W σ Z G H (fun os e' Z' H' => ∀ vs, NoBor os → Outs K T e' σ H' Z' G vs os → Q vs H') (argsP ms e)
section
variable {K : PySem.W.Frag} {mg : Str → Option Value} {W : WX} {fx : List Nat} {σ σ1 : L2.St} {Z G Z1 G1 : Addr → Prop} {H H1 : Hp} {D D' : Ends} {m : ME} {ms : List ME}
theorem rd_pnil {Q : List V → Hp → Prop} (h : RdAP K T mg [] W σ H Q) : tNil σ H Q := by
  obtain ⟨e, Z, G, s, h⟩ := h
  exact h.ret [] trivial s
theorem rd_pcons {Q : List V → Hp → Prop} (h : RdAP K T mg (m :: ms) W σ H Q) : tCons (RdE K T mg m W) (RdAP K T mg ms W) σ H Q := by
  obtain ⟨e, Z, G, s, h⟩ := h
  refine ⟨e, Z, G, s, (h.bind fun _ z => z).imp fun o e1 Z1 H1 l k h v x => ?_⟩
  have keep : ∀ {o}, (∀ j, o ≠ .bor j) → Out K T e1 σ H1 Z1 G v o → PostC K T mg W σ Z1 G H1 (fun os e' Z' H' => ∀ vs, NoBor os → Outs K T e' σ H' Z' G vs os → Q vs H') ((argsP ms e1).bind fun os e3 => .ok (o :: os) e3) → RdAP K T mg ms W σ H1 fun vs H2 => Q (v :: vs) H2 := by
    intro o no x h
    refine ⟨e1, Z1, Gx G v o, x.st, (PostC.bind (fun _ z => .inl z) h).imp fun os e2 Z2 H2 l2 k2 h vs nb xs => ?_⟩
    refine PostC.ret h (v :: vs) ?_ ⟨x.ok.mono l2 fun a z => k2 a (.inr z), x.ne, xs⟩
    cases o with
    | bor j => exact absurd rfl (no j)
    | im d => exact nb
    | tl d => exact nb
    | td d => exact nb
  cases o with
  | im d => exact keep (o := .im d) (fun j e => nomatch e) x h
  | tl d => exact keep (o := .tl d) (fun j e => nomatch e) x h
  | td d => exact keep (o := .td d) (fun j e => nomatch e) x h
  | bor i =>
    simp only at h
    cases q1 : fzO (.bor i) e1 with
    | none => rw [q1] at h; exact h.elim
    | some p =>
      obtain ⟨d, e2⟩ := p
      rw [q1] at h
      obtain ⟨Z2, l2, s2, en⟩ := fz_ok x q1
      have h := PostC.trans l2 KeepG.refl h
      refine ⟨e2, Z2, G, s2, (PostC.bind (fun _ z => z) h).imp fun os e3 Z3 H3 l3 k3 h vs nb xs => ?_⟩
      have bare : Gx G v (.im d) = G := by
        funext b
        unfold Gx
        apply propext
        exact ⟨fun h => h.elim id fun z => z.elim, .inl⟩
      exact PostC.ret h (v :: vs) nb ⟨en.mono l3, fun a z => z.elim, by rw [bare]; exact xs⟩
def tParN (is : List Nat) (ta : TA) : TS := fun D σ H => ta σ H fun vs H1 => is.length = vs.length ∧ D.nx (setAll σ is vs) H1
theorem rd_par {is : List Nat} (hi : ∀ i, i ∈ is → i < σ.length) (h : RdS K T mg fx (parS (is.map (nameG fx)) ms) W D σ H) : tParN is (RdAP K T mg ms W) D σ H := by
  obtain ⟨e, Z, G, s, h⟩ := h
  refine ⟨e, Z, G, s, (PostS.st (fun _ z => z) h).imp fun os e1 Z1 H1 l k h vs nb xs => ?_⟩
  cases q1 : parG (is.map (nameG fx)) os e1 with
  | none => rw [q1] at h; exact h.elim
  | some e2 =>
    rw [q1] at h
    obtain ⟨hl, sf, s2⟩ := parG_ok hi nb xs q1
    exact ⟨hl, h _ H1 Z1 Le.refl KeepG.refl sf s2⟩

/-- names stored from the left -/
def gNm : List Nat → TGs
  | [] => gNil
  | i :: is => gCons (gName i) (gNm is)
theorem setAll_comm : ∀ {is : List Nat} {vs : List V} {σ : L2.St} {i : Nat} {v : V}, i ∉ is → setAll (σ.set i (some v)) is vs = (setAll σ is vs).set i (some v)
  | [], _, _, _, _, _ => by unfold setAll; rfl
  | _ :: _, [], _, _, _, _ => by unfold setAll; rfl
  | j :: is, w :: vs, σ, i, v, h => by
    have hj : i ≠ j := fun e => h (by rw [e]; exact List.mem_cons_self)
    unfold setAll
    rw [setAll_comm (fun z => h (List.mem_cons_of_mem _ z))]
    exact List.set_comm _ _ hj
theorem gNm_ok {R : L2.St → Hp → Prop} {H : Hp} : ∀ {is : List Nat} {vs : List V} {σ : L2.St}, is.Nodup → is.length = vs.length → R (setAll σ is vs) H → gNm is vs σ H R
  | [], [], σ, _, _, h => ⟨rfl, h⟩
  | [], _ :: _, _, _, e, _ => by cases e
  | _ :: _, [], _, _, e, _ => by cases e
  | i :: is, v :: vs, σ, nd, e, h => by
    obtain ⟨n1, n2⟩ := List.nodup_cons.mp nd
    refine ⟨v, vs, rfl, gNm_ok n2 (Nat.succ.inj e) ?_⟩
    rw [setAll_comm n1]
    exact h
/-- the same by a tuple that is made and taken apart -/
theorem rd_parT {is : List Nat} (nd : is.Nodup) (hl : is.length ≤ sizeLine) (hi : ∀ i, i ∈ is → i < σ.length) (h : RdS K T mg fx (parS (is.map (nameG fx)) ms) W D σ H) : tAsg (tTup (RdAP K T mg ms W)) (gTup K is.length (gNm is)) D σ H := by
  obtain ⟨e, Z, G, s, h⟩ := h
  refine ⟨e, Z, G, s, (PostS.st (fun _ z => z) h).imp fun os e1 Z1 H1 l k h vs nb xs => ?_⟩
  cases q1 : parG (is.map (nameG fx)) os e1 with
  | none => rw [q1] at h; exact h.elim
  | some e2 =>
    rw [q1] at h
    obtain ⟨hl', sf, s2⟩ := parG_ok hi nb xs q1
    refine ⟨by rw [← hl']; exact hl, fun p np => ?_⟩
    have sm : Same H1 (upd H1 p (.tup vs)) := same_new np
    exact ⟨p, vs, rfl, .inl (.inl upd_same), hl'.symm, gNm_ok nd hl' (h _ _ Z1 (Same.le sm s2.zs) (KeepG.of_same sm fun a g => (s2.gs a g).1) sf (s2.same sm))⟩

/-! ### loops -/
theorem rd_for {it : MI} {tg : MT} {is : List Nat} {body : MS} (h : RdS K T mg fx (forS it tg body) W D σ H) : tFor (RdI K T mg fx it W) (RdG K T fx tg is) (RdS K T mg fx body W) D σ H := by
  obtain ⟨e, Z, G, s, h⟩ := h
  refine ⟨e, Z, G, s, (PostS.st (fun _ z => z) h).imp fun m e1 Z1 H1 l k h J s1 hk fd => ?_⟩
  -- the ends behind the loop: what is hidden comes back
  let GH : Addr → Prop := Gh σ G m.hid
  have inG : ∀ a, G a → GH a := fun a g => Gh.in g
  let D2 : Ends := ⟨fun σ' H' => ∃ Z' e', Le Z1 H1 Z' H' ∧ KeepG GH H1 H' ∧ SameF fx σ σ' ∧ StOk K T e' σ' H' Z' GH, D.rt, D.nx, D.ct⟩
  -- what a run of the rest gives
  have fin : ∀ {e' : Sl} {σ' : L2.St} {H' : Hp} {Z' : Addr → Prop}, Le Z1 H1 Z' H' → KeepG GH H1 H' → SameF fx σ σ' → StOk K T e' σ' H' Z' GH → StOk K T (unhS m.hid e') σ' H' Z' G := fun {e' σ' H' Z'} l k f s => by
    have hk2 := (hk.mono l k).slots f
    have e := Gh.eq f (hk.mono l k)
    have s : StOk K T e' σ' H' Z' (Gh σ' G m.hid) := by rw [e]; exact s
    exact unh_ok s hk2
  let Pv : Nat → L2.St → Hp → Prop := fun i σ' H' => ∃ (e' : Sl) (Z' : Addr → Prop), StOk K T e' σ' H' Z' GH ∧ Le Z1 H1 Z' H' ∧ KeepG GH H1 H' ∧ SameF fx σ σ' ∧ PostS K T mg W fx σ' Z' G H' D (endL (unhS m.hid) (forL tg body (m.items.drop i) e'))
  refine ⟨fun i mm σ' H' => mm = m.items.length - i ∧ i ≤ m.items.length ∧ Pv i σ' H', ⟨_, rfl, Nat.zero_le _, e1, Z1, s1, Le.refl, KeepG.refl, SameF.refl, h⟩, ?_⟩
  rintro i mm σ' H' ⟨rfl, hi, e', Z', st, l', k', f', h⟩
  by_cases hlt : i < m.items.length
  case neg =>
    have e0 : i = m.items.length := by omega
    subst e0
    rw [List.drop_length] at h
    exact .inl ⟨fd.stop Z' H' l' k', PostS.nx (fin l' k' f' st) h⟩
  case pos =>
    refine .inr ⟨fd.go i Z' H' hlt l' k', Pv (i + 1), fun σ2 H2 p => ⟨m.items.length - (i + 1), by omega, rfl, hlt, p⟩, fun x H2 y => ?_⟩
    obtain ⟨sm, d, hd, en⟩ := fd.yld i Z' H' x H2 hlt l' k' st.zs y
    have st2 := st.same sm
    have l2 : Le Z' H' Z' H2 := Same.le sm st.zs
    have kH : KeepG GH H' H2 := KeepG.of_same sm fun a g => (st.gs a g).1
    have dr : m.items.drop i = d :: m.items.drop (i + 1) := by
      rw [List.drop_eq_getElem_cons hlt]
      rw [lt_get hlt] at hd
      cases hd
      rfl
    rw [dr] at h
    simp only [forL] at h
    cases q1 : tg d e' with
    | none => rw [q1] at h; exact h.elim
    | some e2 =>
      rw [q1] at h
      simp only at h
      refine ⟨d, e', Z', GH, e2, st2, en, q1, fun σ2 off sf st3 => ?_⟩
      refine ⟨e2, Z', GH, st3, ?_⟩
      have h := PostS.trans l2 (kH.less inG) sf h
      have step : ∀ {e3 : Sl} {σ3 : L2.St} {H3 : Hp} {Z3 : Addr → Prop}, Le Z' H2 Z3 H3 → KeepG GH H2 H3 → SameF fx σ2 σ3 → StOk K T e3 σ3 H3 Z3 GH → PostS K T mg W fx σ2 Z' G H2 D (endL (unhS m.hid) (forL tg body (m.items.drop (i + 1)) e3)) → Pv (i + 1) σ3 H3 :=
        fun {e3 σ3 H3 Z3} l3 k3 f3 s3 h => ⟨e3, Z3, s3, (l'.trans l2).trans l3, (k'.trans kH).trans k3, (f'.trans sf).trans f3, PostS.trans l3 (k3.less inG) f3 h⟩
      cases qb : body e2 with
      | nx e3 => rw [qb] at h; exact fun σ3 H3 Z3 l3 k3 f3 s3 => step l3 k3 f3 s3 h
      | ct e3 => rw [qb] at h; exact fun σ3 H3 Z3 l3 k3 f3 s3 => step l3 k3 f3 s3 h
      | bad => rw [qb] at h; exact h
      | bk e3 =>
        rw [qb] at h
        exact fun σ3 H3 Z3 l3 k3 f3 s3 => h σ3 H3 Z3 l3 (k3.less inG) f3 (fin ((l'.trans l2).trans l3) ((k'.trans kH).trans k3) ((f'.trans sf).trans f3) s3)
      | rt o e3 =>
        rw [qb] at h
        intro v σ3 H3 Z3 l3 k3 f3 x
        refine h v σ3 H3 Z3 l3 (k3.less inG) f3 ⟨?_, x.ok, fun a ha g => x.ne a ha (inG a g)⟩
        have lA := (l'.trans l2).trans l3
        have kA := (k'.trans kH).trans k3
        have fA := (f'.trans sf).trans f3
        have hk2 := ((hk.mono lA kA).or (P := OwnA v o) fun a g ha => x.ne a ha g).slots fA
        have e := Gh.eq fA ((hk.mono lA kA).or (P := OwnA v o) fun a g ha => x.ne a ha g)
        have s : StOk K T e3 σ3 H3 Z3 (Gh σ3 (fun a => G a ∨ OwnA v o a) m.hid) := by
          rw [e, Gh_or]
          exact x.st
        exact unh_ok s hk2
      | er x e3 =>
        rw [qb] at h
        exact fun cls d σ3 H3 Z3 l3 k3 f3 s3 x => h cls d σ3 H3 Z3 l3 (k3.less inG) f3 (fin ((l'.trans l2).trans l3) ((k'.trans kH).trans k3) ((f'.trans sf).trans f3) s3) x
theorem rd_while {t : ME} {body : MS} {w : Nat} (h : RdS K T mg fx (whL t body w) W D σ H) : tWhile (RdT K T mg t W) (RdS K T mg fx body W) D σ H := by
  obtain ⟨e, Z, G, s, h⟩ := h
  refine ⟨fun n σ' H' => ∃ e' Z', StOk K T e' σ' H' Z' G ∧ PostS K T mg W fx σ' Z' G H' D (whL t body n e'), ⟨w, e, Z, s, h⟩, ?_⟩
  rintro n σ' H' ⟨e', Z', s', h⟩
  cases n with
  | zero => exact h.elim
  | succ n =>
    refine ⟨e', Z', G, s', (PostS.st (f := fun o e1 => match tru o with | some true => (match body e1 with | .nx e2 => whL t body n e2 | .ct e2 => whL t body n e2 | .bk e2 => .nx e2 | r => r) | some false => .nx e1 | none => .bad) (fun _ z => z) h).imp fun o e1 Z1 H1 l k h => ?_⟩
    obtain ⟨b, qt, h⟩ := PostS.tru (f := fun b => if b then (match body e1 with | .nx e2 => whL t body n e2 | .ct e2 => whL t body n e2 | .bk e2 => .nx e2 | r => r) else .nx e1) h
    refine ⟨b, qt, fun s1 => ?_⟩
    cases b with
    | false => exact iteF (PostS.nx s1 h)
    | true =>
      refine iteT ⟨fun σ2 H2 => ∃ e2 Z2, StOk K T e2 σ2 H2 Z2 G ∧ PostS K T mg W fx σ2 Z2 G H2 D (whL t body n e2), fun σ2 H2 p => ⟨n, Nat.lt_succ_self n, p⟩, e1, Z1, G, s1, ?_⟩
      simp only [if_true] at h
      cases qb : body e1 with
      | nx e3 => rw [qb] at h; exact fun σ3 H3 Z3 l3 k3 f3 s3 => ⟨e3, Z3, s3, PostS.trans l3 k3 f3 h⟩
      | ct e3 => rw [qb] at h; exact fun σ3 H3 Z3 l3 k3 f3 s3 => ⟨e3, Z3, s3, PostS.trans l3 k3 f3 h⟩
      | bk e3 => rw [qb] at h; exact h
      | rt o e3 => rw [qb] at h; exact h
      | er x e3 => rw [qb] at h; exact h
      | bad => rw [qb] at h; exact h
end
end Ev
end
section
set_option maxHeartbeats 4000000
/-! EvS9: an own list is written; several names stored at once; own exceptions made. -/
namespace Ev
open PySem PySem.Spec PyProof.Rows L2
variable {T : LT}

section
variable {K : PySem.W.Frag} {e : Sl} {σ : L2.St} {H : Hp} {Z G : Addr → Prop}
/-- the object of an own slot is written -/
theorem StOk.slotWrite (s : StOk K T e σ H Z G) {i : Nat} {xs ys : List D} {a : Addr} {ws : List V} {u : HO} (h : gt e i = some (.ol xs)) (hv : σ[i]? = some (some (.ref a))) (hu : H a = some u) (mu : Md u) (es : EncDs K Z (upd H a (.lst ws)) ws ys) :
    StOk K T (pt e i (some (.ol ys))) σ (upd H a (.lst ws)) Z G ∧ Le Z H Z (upd H a (.lst ws)) ∧ KeepG G H (upd H a (.lst ws)) := by
  obtain ⟨u', hu', _, nz, ng⟩ := s.notOwn h rfl hv
  have l := le_write (w := .lst ws) hu mu nz
  have k : KeepG G H (upd H a (.lst ws)) := fun b g => upd_ne (fun e => ng (e ▸ g))
  have sm : ∀ {b}, H b ≠ none → upd H a (.lst ws) b ≠ none := fun {b} hb => by
    by_cases e : b = a
    · subst e; rw [upd_same]; simp
    · rw [upd_ne e]; exact hb
  refine ⟨⟨s.tb.write hu mu, fun b z => sm (s.zs b z), fun b g => ⟨sm (s.gs b g).1, (s.gs b g).2⟩, fun j sv q => ?_, fun j k sj sk w q1 q2 o1 o2 e1 e2 => ?_⟩, l, k⟩
  · rcases gt_pt q with ⟨rfl, z⟩ | ⟨hj, z⟩
    · cases z
      exact ⟨_, hv, a, ws, rfl, upd_same, es, nz, ng⟩
    · obtain ⟨v, h1, h2⟩ := s.sl j sv z
      refine ⟨v, h1, h2.mono l fun o b eb => ?_⟩
      obtain ⟨b', _, eb', _, _, n1, n2⟩ := h2.addr o
      rw [eb] at eb'; cases eb'
      refine ⟨upd_ne (fun z2 => hj ?_), n1, n2⟩
      subst z2
      exact s.inj j i sv _ _ z h o rfl (by rw [h1, eb]) hv
  · have own : ∀ {j : Nat} {sj : Sv}, gt (pt e i (some (Sv.ol ys))) j = some sj → sj.own = true → ∃ sj', gt e j = some sj' ∧ sj'.own = true := fun {j sj} q o => by
      rcases gt_pt q with ⟨rfl, z⟩ | ⟨_, z⟩
      · exact ⟨_, h, rfl⟩
      · exact ⟨sj, z, o⟩
    obtain ⟨sj', p1, p2⟩ := own q1 o1
    obtain ⟨sk', p3, p4⟩ := own q2 o2
    exact s.inj j k sj' sk' w p1 p3 p2 p4 e1 e2
end
theorem isOl_some {o : Option Sv} (h : isOl o = true) : ∃ xs, o = some (.ol xs) := by
  unfold isOl at h
  split at h
  · exact ⟨_, rfl⟩
  · cases h
section
variable {K : PySem.W.Frag} {mg : Str → Option Value} {W : WX} {fx : List Nat} {σ : L2.St} {H : Hp} {D : Ends} {m : ME} {ms : List ME}
theorem rd_mut {i : Nat} {f : List Ev.D → List Ev.D → Option (Ev.D × List Ev.D)} {r : V → List V → Hp → VK → Prop} {Q : VK}
    (hr : ∀ {a : Addr} {vs ws : List V} {xs ys : List Ev.D} {ds : List Ev.D} {res : Ev.D} {H1 : Hp} {Z1 : Addr → Prop} {Q : VK}, f xs ds = some (res, ys) → H1 a = some (.lst vs) → EncDs K Z1 H1 vs xs → EncDs K Z1 H1 ws ds →
      (∀ w us, EncD K Z1 H1 w res → EncDs K Z1 H1 us ys → Q w (upd H1 a (.lst us))) → r (.ref a) ws H1 Q)
    (h : RdE K T mg (mutE i f ms) W σ H Q) : tBM K "list" r (tVar i) (RdAD K T mg ms W) σ H Q := by
  obtain ⟨e, Z, G, s, h⟩ := h
  simp only [mutE] at h
  split at h
  case isFalse => exact h.elim
  rename_i ho
  obtain ⟨xs0, ho⟩ := isOl_some ho
  obtain ⟨v, hv, a, vs0, rfl, h1, es0, nz, ng⟩ := s.sl i _ ho
  refine ⟨.ref a, hv, .inl ⟨rfl, vs0, SqL.of h1⟩, e, Z, G, s, (PostC.bind (fun _ z => z) h).imp fun ds e1 Z1 H1 l k h ws s1 es le => ?_⟩
  split at h
  · rename_i xs q1
    cases q2 : f xs ds with
    | none => rw [q2] at h; exact h.elim
    | some p =>
      obtain ⟨res, ys⟩ := p
      rw [q2] at h
      simp only at h
      obtain ⟨v', hv', a', vs, rfl, h3, es1, nz1, ng1⟩ := s1.sl i _ q1
      rw [hv] at hv'; cases hv'
      refine hr q2 h3 es1 es fun w us ew en => ?_
      have lw := le_write (w := .lst us) h3 trivial nz1
      obtain ⟨s2, l2, k2⟩ := s1.slotWrite (ys := ys) (ws := us) q1 hv h3 trivial (en.mono lw)
      exact h _ Z1 l2 k2 w (s2.im (ew.mono l2))
  · exact h.elim
theorem rd_append {i : Nat} {Q : VK} (h : RdE K T mg (mutE i appF ms) W σ H Q) : tBM K "list" rAppend (tVar i) (RdAD K T mg ms W) σ H Q := by
  refine rd_mut (fun {a vs ws xs ys ds res H1 Z1 Q} q h1 es ed k => ?_) h
  unfold appF at q
  split at q
  · split at q
    · rename_i hl
      cases q
      cases ed with
      | cons en t =>
        cases t
        exact ⟨a, vs, _, rfl, rfl, h1, by rw [es.length, ← sizeMax_eq]; exact hl, k _ _ .non (es.append (.cons en .nil))⟩
    · cases q
  · cases q
theorem rd_extend {i : Nat} {Q : VK} (h : RdE K T mg (mutE i extF ms) W σ H Q) : tBM K "list" rExtend (tVar i) (RdAD K T mg ms W) σ H Q := by
  refine rd_mut (fun {a vs ws xs ys ds res H1 Z1 Q} q h1 es ed k => ?_) h
  unfold extF at q
  split at q
  · split at q
    · rename_i hl
      cases q
      cases ed with
      | cons en t =>
        cases t
        cases en with
        | lst z h2 hs =>
          exact ⟨a, _, vs, _, rfl, rfl, h1, h2, by rw [es.length, hs.length, ← sizeMax_eq]; exact hl, k _ _ .non (es.append hs)⟩
    · cases q
  · cases q
theorem EncDs.eraseIdx {K Z H} : ∀ {vs : List V} {ds : List Ev.D} {k : Nat}, EncDs K Z H vs ds → EncDs K Z H (vs.eraseIdx k) (ds.eraseIdx k)
  | _, _, _, .nil => .nil
  | _, _, 0, .cons _ t => t
  | _, _, k + 1, .cons h t => .cons h (EncDs.eraseIdx (k := k) t)
theorem ixD_seq {n : Nat} {i : Int} : ixD n i = seqIndex? i n := by
  unfold ixD seqIndex?
  simp only
  by_cases h : 0 ≤ i
  · have h1 : ¬ i < 0 := by omega
    rw [if_pos h, if_neg h1]
    by_cases h2 : i < n <;> simp [h, h2]
  · have h1 : i < 0 := by omega
    rw [if_neg h, if_pos h1]
    by_cases h2 : -(n : Int) ≤ i
    · have h3 : 0 ≤ i + n := by omega
      have h4 : i + n < n := by omega
      rw [if_pos h2]
      simp [h3, h4]
    · have h3 : ¬ 0 ≤ i + n := by omega
      rw [if_neg h2]
      simp [h3]
theorem rd_pop {i : Nat} {Q : VK} (h : RdE K T mg (mutE i popF ms) W σ H Q) : tBM K "list" rPopAt (tVar i) (RdAD K T mg ms W) σ H Q := by
  refine rd_mut (fun {a vs ws xs ys ds res H1 Z1 Q} q h1 es ed k => ?_) h
  unfold popF at q
  split at q
  · rename_i j
    split at q
    · rename_i hb
      rw [Bool.and_eq_true, decide_eq_true_eq, decide_eq_true_eq] at hb
      split at q
      · rename_i n hn
        cases q1 : xs[n]? with
        | none => rw [q1] at q; cases q
        | some d =>
          rw [q1] at q
          cases q
          obtain ⟨w, hw, ew⟩ := es.get q1
          cases ed with
          | cons en t =>
            cases t
            cases en
            rw [← es.length, ixD_seq] at hn
            exact ⟨a, vs, j, n, w, rfl, rfl, h1, by omega, by omega, hn, hw, k _ _ ew es.eraseIdx⟩
      · cases q
    · cases q
  · cases q
theorem rd_seti {j : Nat} {ix v : ME} (h : RdS K T mg fx (setiS j setF ix v) W D σ H) : tAsg (RdE K T mg v W) (gSub (tVar j) (RdE K T mg ix W) rSetL) D σ H := by
  obtain ⟨e, Z, G, s, h⟩ := h
  refine ⟨e, Z, G, s, (PostS.st (fun _ z => z) h).imp fun o e1 Z1 H1 l k h w x => ?_⟩
  cases q1 : fzO o e1 with
  | none => rw [q1] at h; exact h.elim
  | some p =>
    obtain ⟨d, e2⟩ := p
    rw [q1] at h
    simp only at h
    obtain ⟨Z2, l2, s2, en⟩ := fz_ok x q1
    split at h
    case isFalse => exact h.elim
    rename_i ho
    obtain ⟨xs0, ho⟩ := isOl_some ho
    obtain ⟨v', hv, a, vs0, rfl, h1, es0, nz, ng⟩ := s2.sl j _ ho
    have h := PostS.trans l2 KeepG.refl SameF.refl h
    refine ⟨.ref a, hv, e2, Z2, G, s2, (PostS.st (fun _ z => z) h).imp fun p e3 Z3 H3 l3 k3 h iv xi => ?_⟩
    cases q3 : vw p e3 with
    | none => rw [q3] at h; exact h.elim
    | some kd =>
      rw [q3] at h
      split at h
      · rename_i kd' xs e0 q4
        cases e0
        cases q5 : setF xs kd d with
        | none => rw [q5] at h; exact h.elim
        | some ys =>
          rw [q5] at h
          unfold setF at q5
          split at q5
          · rename_i i
            cases q6 : ixD xs.length i with
            | none => rw [q6] at q5; cases q5
            | some jj =>
              rw [q6] at q5
              cases q5
              obtain ⟨v'', hv', a', vs, rfl, h3, es1, nz1, ng1⟩ := xi.st0.sl j _ q4
              rw [hv] at hv'; cases hv'
              have iv' := (xi.ok.vw xi.st q3).int
              refine ⟨a, vs, i, jj, rfl, iv', h3, by rw [es1.length, ← ixD_eq]; exact q6, ?_⟩
              have lw := le_write (w := .lst (vs.set jj w)) h3 trivial nz1
              obtain ⟨s5, l5, k5⟩ := xi.st0.slotWrite (ys := xs.set jj d) (ws := vs.set jj w) q4 hv h3 trivial ((EncDs.set (en.mono l3) jj es1).mono lw)
              exact h σ _ Z3 l5 k5 SameF.refl s5
          · cases q5
      · exact h.elim
/-- raise C() -/
theorem rd_raise0 {C : Str} {c : Addr} (hm : mg C = some (.ref c)) (h : RdS K T mg fx (raiseS C) W D σ H) : W (.ref c) none σ H := by
  obtain ⟨e, Z, G, s, h⟩ := h
  exact h (.ref c) none σ H Z Le.refl KeepG.refl SameF.refl s ⟨c, hm, rfl, rfl⟩
end
section
variable {X : Cx}
/-- X() of an own class without own __init__ -/
theorem pmk_own0 {C : Addr} {bmB : List Value} {B newId initId : String} {x : Str} {p pos : Pos} (F : ExcBaseFacts B newId initId bmB) (q : PySem.W.excIn X.K C bmB newId = true) (gC : X.mg x = some (.ref C)) (kC : PySem.W.keepIn X.K (.ref C) = true) (r : Raises X (.ref C)) (hg : Gl X x)
    (hdb : (x == ("__debug__" : Str)) = false := by decide) : PMk X (.Call (.Name x p) [] [] pos) (fun _ H Q => Q (.ref C) none H) := by
  intro pins s σ H Q I h
  refine wpAny_Call_Name_kw (ld_glob I hg gC ?_ hdb)
  refine PySem.W.callWith_K0 I.kIn kC ?_
  show wpAny _ _ (call (.ref C) []) _ _ _
  obtain ⟨bm, N, nm, qn, bs, hdct, sn, sub, ab, col, dd, k0, k1, k2, k3, k5, mN, hC, hN, hni, T⟩ := exc_obj I.kIn q
  refine wpAny_call_exc_subT F T hC hN hni (fun h' e hm => ?_) (by show 0 ≤ sizeLine; exact Nat.zero_le _)
  exact mk_of I hm r h (I.hok.gone hm.new)
end
end Ev
end
section
set_option maxHeartbeats 4000000
/-! EvSa: a, b, c = x, y, z. -/
namespace Ev
open PySem PySem.Spec PyProof.Rows L2
variable {T : LT}

/-- names stored one after another -/
def setF' : L2.St → List Nat → List V → L2.St
  | σ, i :: is, v :: vs => setF' (σ.set i (some v)) is vs
  | σ, _, _ => σ
theorem setF'_snoc : ∀ {is : List Nat} {vs : List V} {σ : L2.St} {i : Nat} {v : V}, is.length = vs.length → setF' σ (is ++ [i]) (vs ++ [v]) = (setF' σ is vs).set i (some v)
  | [], [], _, _, _, _ => rfl
  | j :: is, w :: vs, σ, i, v, h => by
    show setF' (σ.set j (some w)) (is ++ [i]) (vs ++ [v]) = (setF' (σ.set j (some w)) is vs).set i (some v)
    exact setF'_snoc (Nat.succ.inj h)
  | [], _ :: _, _, _, _, h => by cases h
  | _ :: _, [], _, _, _, h => by cases h
theorem setF'_rev : ∀ {is : List Nat} {vs : List V} {σ : L2.St}, is.length = vs.length → setF' σ is.reverse vs.reverse = setAll σ is vs
  | [], [], _, _ => rfl
  | i :: is, v :: vs, σ, h => by
    rw [List.reverse_cons, List.reverse_cons, setF'_snoc (by simpa using Nat.succ.inj h), setF'_rev (Nat.succ.inj h)]
    rfl
  | [], _ :: _, _, h => by cases h
  | _ :: _, [], _, h => by cases h
section
variable {X : Cx}
inductive LocN (X : Cx) : List Str → List Nat → Prop
  | nil : LocN X [] []
  | cons {x : Str} {i : Nat} {ns is} : X.N[i]? = some x → X.env.scope.names.lookup x = some .local → LocN X ns is → LocN X (x :: ns) (i :: is)
theorem LocN.append {ns ms : List Str} {is js : List Nat} (h : LocN X ns is) (h' : LocN X ms js) : LocN X (ns ++ ms) (is ++ js) := by
  induction h with
  | nil => exact h'
  | cons a b _ ih => exact .cons a b ih
theorem LocN.rev {ns : List Str} {is : List Nat} (h : LocN X ns is) : LocN X ns.reverse is.reverse := by
  induction h with
  | nil => exact .nil
  | cons a b _ ih =>
    rw [List.reverse_cons, List.reverse_cons]
    exact ih.append (.cons a b .nil)
theorem LocN.len {ns : List Str} {is : List Nat} (h : LocN X ns is) : ns.length = is.length := by
  induction h with
  | nil => rfl
  | cons _ _ _ ih => simp [ih]
theorem names_ok (hN : X.N.Nodup) {ns : List Str} {is : List Nat} (h : LocN X ns is) : ∀ {pins : List (Addr × Obj)} {σ : L2.St} {H : Hp} {s : Shared} {vs : List V} {us : List Value} {Q : Unit → Shared → Prop}, Inv X pins σ H s → Vals vs us → vs.length = is.length →
    (∀ s', Inv X pins (setF' σ is vs) H s' → Q () s') → wpAny (model X.prog X.w) X.A (assignInOrder (ns.map fun n v => bindName X.env n v) us) Q X.xe s := by
  induction h with
  | nil =>
    intro pins σ H s vs us Q I r hl k
    cases vs with
    | nil => cases r; exact assignInOrder_nil (k s I)
    | cons v vs => cases hl
  | cons hx hloc _ ih =>
    intro pins σ H s vs us Q I r hl k
    cases vs with
    | nil => cases hl
    | cons v vs =>
      cases r with
      | cons r rs =>
        refine assignInOrder_cons (wpAny_bindName (store_ok I hN hx (.inl hloc) r (fun s2 I2 => ?_) (.inr hloc)))
        exact ih I2 rs (Nat.succ.inj hl) k
theorem ps_parN {ns : List Str} {is : List Nat} {ts es : List Expr} {ta : TA} {kt k2 : Nat} {pt pt2 pos : Pos} (hc : X.calm = true) (hN : X.N.Nodup) (hn : LocN X ns is) (hz : ns.length ≤ 3) (ha : PA X es ta)
    (hw : swappedStores [.Tuple ts kt pt] (.Tuple es k2 pt2) X.env = pure (some ns)) : PS X (.Assign [.Tuple ts kt pt] (.Tuple es k2 pt2) pos) (tParN is ta) := by
  refine ⟨fun pins s σ H D I h => ?_⟩
  rw [exec_Assign_arm]
  refine wpAny_bind (wpAny_standAt ?_)
  rw [show swapsWithSole [.Tuple ts kt pt] (.Tuple es k2 pt2) pos.line X.env = pure false from rfl]
  refine wpAny_bind (wpAny_pure ?_)
  rw [if_neg (by decide)]
  refine wpAny_bind (Tuple_ (thn (ha.run _ pins s σ H _ I h) fun us s1 ⟨vs, H1, I1, r1, hl, q1⟩ => ?_))
  have hlen : us.length = ns.length := by rw [← r1.length, ← hl, hn.len]
  refine wpAny_newObj_type ?_ (by show us.toArray.size ≤ sizeLine; rw [List.size_toArray, hlen, sizeLine_eq]; omega)
  have I2 : Inv X pins σ H1 { s1 with heap := s1.heap.push { cls := .type "tuple", data := .seq us.toArray } } := I1.kept (t' := s1.toks) fun b o e => Heap.get?_push_of_some _ e
  rw [hw]
  refine wpAny_bind (wpAny_pure ?_)
  show wpAny (model X.prog X.w) X.A (do rule "assign.swapped-stores"; let items ← unpackItems (.ref s1.heap.objs.size) ns.length none; assignInOrder (ns.reverse.map fun n => bindName X.env n) items.reverse; pure Flow.next) _ _ _
  have hn2 : ns.length = us.toArray.size := by simp [hlen]
  rw [hn2]
  refine wpAny_bind (wpAny_rule (wpAny_bind (unpackItems_tuple (items := us.toArray) (I.ok.hd hc) (IsTup.new s1.heap _) fun h' hx' => ?_)))
  have I3 := I2.kept (h' := h') (t' := s1.toks) fun b o e => hx' b o (Nat.ne_of_lt (Heap.lt_size e)) e
  refine wpAny_bind ?_
  refine names_ok hN hn.rev (vs := vs.reverse) I3 ?_ (by simp [hl]) fun s' I' => wpAny_pure ?_
  · show Vals vs.reverse us.toArray.toList.reverse
    exact Vals.reverse r1
  · rw [setF'_rev hl] at I'
    exact ⟨_, H1, I', q1⟩
end
theorem swp_ok {loc : Str → Bool} {ts es : List Expr} {r : Option (List Str)} {env : Env} {k k2 : Nat} {p p2 : Pos} (hb : env.blockKind = .function) (hl : ∀ id, (env.kindOf id == some .local) = loc id) (h : swp loc ts es = some r) :
    swappedStores [.Tuple ts k p] (.Tuple es k2 p2) env = pure r := by
  have el : loc = fun id => env.kindOf id == some .local := funext fun id => (hl id).symm
  subst el
  let N := ts.filterMap (nameOn (fun id => env.kindOf id == some .local) ((ts.head?.map (·.pos.line)).getD 0))
  have e : swappedStores [.Tuple ts k p] (.Tuple es k2 p2) env = (if (!(ts.length == 2 || ts.length == 3) || es.length != ts.length || env.blockKind != .function) = true then pure none else if es.any isStar = true then pure none else
      if (N.length != ts.length || N.eraseDups.length != N.length) = true then pure none else if es.all (foldedForSure 8) = true then pure none else
        if es.all (constantsAlone 8) = true then ((unsupported "assign.tuple-of-constant-expressions:order-of-the-stores" : Sem PUnit) >>= fun _ => pure (some N)) else pure (some N)) := by
    unfold swappedStores
    simp only [pure_bind]
    rfl
  rw [e, hb]
  have h : (if (!(ts.length == 2 || ts.length == 3) || es.length != ts.length) = true then some none else if es.any isStar = true then some none else if (N.length != ts.length || N.eraseDups.length != N.length) = true then some none else
    if es.all (foldedForSure 8) = true then some none else if es.all (constantsAlone 8) = true then none else some (some N)) = some r := h
  rw [show (ScopeKind.function != ScopeKind.function) = false from rfl, Bool.or_false]
  split
  · rename_i c; rw [if_pos c] at h; cases h; rfl
  · rename_i c; rw [if_neg c] at h
    split
    · rename_i c; rw [if_pos c] at h; cases h; rfl
    · rename_i c; rw [if_neg c] at h
      split
      · rename_i c; rw [if_pos c] at h; cases h; rfl
      · rename_i c; rw [if_neg c] at h
        split
        · rename_i c; rw [if_pos c] at h; cases h; rfl
        · rename_i c; rw [if_neg c] at h
          split
          · rename_i c; rw [if_pos c] at h; cases h
          · rename_i c; rw [if_neg c] at h; cases h; rfl
theorem swp_len {loc : Str → Bool} {ts es : List Expr} {ns : List Str} (h : swp loc ts es = some (some ns)) : ns.length ≤ 3 := by
  unfold swp at h
  split at h
  · cases h
  · rename_i c
    split at h
    · cases h
    · split at h
      · cases h
      · rename_i c2
        split at h
        · cases h
        · split at h
          · cases h
          · cases h
            simp only [Bool.or_eq_true, bne_iff_ne, ne_eq, not_or, Decidable.not_not] at c2
            rw [c2.1]
            simp only [Bool.or_eq_true, Bool.not_eq_true', Bool.or_eq_false_iff, beq_eq_false_iff_ne, bne_iff_ne, ne_eq, not_or, not_and, Decidable.not_not] at c
            by_cases h2 : ts.length = 2
            · omega
            · have := c.1 h2
              omega
end Ev
end
section
set_option maxHeartbeats 4000000
/-! EvSb: dict displays, methods that read a list, isinstance of several. -/
namespace Ev
open PySem PySem.Spec PyProof.Rows L2
variable {T : LT}

section
variable {K : PySem.W.Frag} {e : Sl} {σ : L2.St} {H : Hp} {Z G : Addr → Prop}
/-- a new object, kept from now on -/
theorem StOk.fresh (s : StOk K T e σ H Z G) {p : Addr} {o : HO} (hp : H p = none) (mo : Md o) : StOk K T e σ (upd H p o) Z (fun a => G a ∨ a = p) ∧ Le Z H Z (upd H p o) ∧ ¬ G p ∧ ¬ Z p := by
  have nG : ¬ G p := fun g => (s.gs p g).1 hp
  have nZ : ¬ Z p := fun z => s.zs p z hp
  have s3 := s.same (same_new (o := o) hp)
  refine ⟨⟨⟨s3.tb.1, s3.tb.2.1, fun a z => ?_⟩, s3.zs, fun a g => ?_, fun j sv q => ?_, s3.inj⟩, Same.le (same_new hp) s.zs, nG, nZ⟩
  · rcases z with z | rfl
    · exact s3.tb.2.2 a z
    · exact ⟨_, upd_same, mo⟩
  · rcases g with g | rfl
    · exact s3.gs a g
    · exact ⟨by rw [upd_same]; simp, nZ⟩
  · obtain ⟨v, h1, h2⟩ := s3.sl j sv q
    refine ⟨v, h1, h2.mono Le.refl fun o a ea => ?_⟩
    subst ea
    obtain ⟨u, h3, _, n1, n2⟩ := s.notOwn q o h1
    exact ⟨rfl, n1, fun z => z.elim n2 fun z => by rw [z, hp] at h3; cases h3⟩
/-- the same, by any list or dict -/
theorem TbOk.put {a : Addr} {u w : HO} (t : TbOk T H Z G) (h : H a = some u) (mu : Md u) (mw : Md w) : TbOk T (upd H a w) Z G := by
  have ne : ∀ {c o}, H c = some o → (Md o → False) → upd H a w c = some o := fun {c o} e n => by
    rw [upd_ne (fun z => by subst z; rw [h] at e; cases e; exact n mu)]; exact e
  refine ⟨fun p hp => ?_, fun b z ps e => ?_, fun b g => ?_⟩
  · obtain ⟨ps, h1, h2, h3⟩ := t.1 p hp
    refine ⟨ps, ne h1 fun m => m, h2, fun pos cv hc => ?_⟩
    obtain ⟨c, e1, e2⟩ := h3 pos cv hc
    exact ⟨c, e1, ne e2 fun m => m⟩
  · by_cases hb : b = a
    · subst hb; rw [upd_same] at e; cases e; exact mw
    · rw [upd_ne hb] at e; exact t.2.1 b z ps e
  · by_cases hb : b = a
    · subst hb; exact ⟨_, upd_same, mw⟩
    · rw [upd_ne hb]; exact t.2.2 b g
theorem StOk.put (s : StOk K T e σ H Z G) {a : Addr} {u w : HO} (h : H a = some u) (mu : Md u) (mw : Md w) (g : G a) : StOk K T e σ (upd H a w) Z G := by
  have l := le_write (w := w) h mu (s.gs a g).2
  have some : ∀ {b}, H b ≠ none → upd H a w b ≠ none := fun {b} hb => by
    by_cases e : b = a
    · subst e; rw [upd_same]; simp
    · rw [upd_ne e]; exact hb
  refine ⟨s.tb.put h mu mw, fun b z => some (s.zs b z), fun b g => ⟨some (s.gs b g).1, (s.gs b g).2⟩, fun j sv q => ?_, s.inj⟩
  obtain ⟨v, h1, h2⟩ := s.sl j sv q
  refine ⟨v, h1, h2.mono l fun o b eb => ?_⟩
  obtain ⟨b', _, eb', _, _, n1, n2⟩ := h2.addr o
  rw [eb] at eb'; cases eb'
  exact ⟨upd_ne (fun z => n2 (z ▸ g)), n1, n2⟩
end
section
variable {K : PySem.W.Frag} {mg : Str → Option Value} {W : WX} {m ma mb : ME} {σ : L2.St} {H : Hp} {Q : VK}
theorem rd_dnew (h : RdE K T mg (fun e => .ok (.td []) e) W σ H Q) : tDNewK σ H Q := by
  obtain ⟨e, Z, G, s, h⟩ := h
  intro p hp
  exact PostC.fin h s (same_new hp) ⟨p, rfl, hp, .inl ⟨[], upd_same, .nil⟩⟩
theorem key_of {Z : Addr → Prop} {v : V} {d : D} (h : EncD K Z H v d) (k : keyB d = true) : ∃ kk, v = kV kk ∧ d = keyD kk := by
  unfold keyB at k
  split at k
  · cases h; exact ⟨.inl _, rfl, rfl⟩
  · cases h; exact ⟨.inr _, rfl, rfl⟩
  · cases k
theorem rd_disp1 (h : RdE K T mg (dct1E ma mb) W σ H Q) : tDisp [(RdE K T mg ma W, RdE K T mg mb W)] σ H Q := by
  obtain ⟨e, Z, G, s, h⟩ := h
  intro p hp
  obtain ⟨s1, l1, nG, nZ⟩ := s.fresh (o := .dK []) hp trivial
  have kG : KeepG G H (upd H p (.dK [])) := fun a g => upd_ne (fun e => nG (e ▸ g))
  have h := PostC.trans l1 kG h
  refine ⟨e, Z, _, s1, (PostC.bind (fun _ z => .inl z) h).imp fun o e1 Z1 H1 l2 k2 h x ox => ?_⟩
  cases q1 : fzO o e1 with
  | none => rw [q1] at h; exact h.elim
  | some pr =>
    obtain ⟨dk, e2⟩ := pr
    rw [q1] at h
    obtain ⟨Z2, l3, s2, en⟩ := fz_ok ox q1
    have h := PostC.trans l3 KeepG.refl h
    refine ⟨e2, Z2, _, s2, (PostC.bind (fun _ z => .inl z) h).imp fun y e3 Z3 H3 l4 k4 h v oy => ?_⟩
    cases q2 : fzO y e3 with
    | none => rw [q2] at h; exact h.elim
    | some pr =>
      obtain ⟨dv, e4⟩ := pr
      rw [q2] at h
      obtain ⟨Z4, l5, s4, en2⟩ := fz_ok oy q2
      simp only at h
      split at h
      case isFalse => exact h.elim
      rename_i hk
      obtain ⟨kk, rfl, rfl⟩ := key_of en hk
      have hp3 : H3 p = some (.dK []) := by rw [k4 p (.inr rfl), k2 p (.inr rfl)]; exact upd_same
      refine ⟨hp3, [(kk, v)], rfl, Nat.succ_le_of_lt (Nat.succ_pos 14), ?_⟩
      have s5 := s4.put (w := .dK (mergeK [] [(kk, v)])) hp3 trivial trivial (.inr rfl)
      have lw : Le Z4 H3 Z4 (upd H3 p (.dK (mergeK [] [(kk, v)]))) := le_write hp3 trivial (s4.gs p (.inr rfl)).2
      have kw : KeepG G H3 (upd H3 p (.dK (mergeK [] [(kk, v)]))) := fun a g => upd_ne (fun e => nG (e ▸ g))
      refine h _ Z4 (l5.trans lw) kw (.ref p) ⟨?_, ⟨p, rfl, .inl ⟨_, upd_same, .cons (en2.mono lw) .nil⟩⟩, fun a ea g => by cases ea; exact nG g⟩
      have eg : Gx G (.ref p) (.td [(keyD kk, dv)]) = fun b => G b ∨ b = p := by
        funext b
        unfold Gx
        apply propext
        constructor
        · rintro (h | h)
          · exact .inl h
          · cases h; exact .inr rfl
        · rintro (h | h)
          · exact .inl h
          · exact .inr (by rw [h]; rfl)
      rw [eg]
      exact s5
/-- a method that reads a list -/
def rM (K : PySem.W.Frag) (f : List D → D → Option Op) : V → List V → Hp → VK → Prop := fun x vs H Q => ∃ Z xs q o y, (∀ a, Z a → H a ≠ none) ∧ vs = [y] ∧ f xs q = some o ∧ Vw K Z H x (.list xs) ∧ Vw K Z H y q ∧ ∀ w H', Same H H' → NewOk K Z H H' w o → Q w H'
theorem rd_met {f : List D → D → Option Op} (h : RdE K T mg (metE f ma mb) W σ H Q) : tBM K "list" (rM K f) (RdE K T mg ma W) (tCons (RdE K T mg mb W) tNil) σ H Q := by
  obtain ⟨e, Z, G, s, h⟩ := h
  refine ⟨e, Z, G, s, (PostC.bind (fun _ z => z) h).imp fun o1 e1 Z1 H1 l1 k1 h v ox => ?_⟩
  split at h
  · rename_i xs0 q0
    obtain ⟨a, vs0, rfl, h0, _⟩ := (ox.ok.vw ox.st q0).list
    refine ⟨.inl ⟨rfl, vs0, SqL.of h0⟩, e1, Z1, Gx G (.ref a) o1, ox.st, (PostC.bind (fun _ z => .inl z) h).imp fun o2 e2 Z2 H2 l2 k2 h u oy => ?_⟩
    have s2 := oy.st
    split at h
    · rename_i xs q q1 q2
      simp only [lift] at h
      cases q3 : f xs q with
      | none => rw [q3] at h; exact h.elim
      | some o =>
        rw [q3] at h
        have ox2 : OpOk K Z2 H2 σ (.ref a) o1 := ox.ok.mono l2 fun a z => k2 a (.inr z)
        exact ⟨Z2, xs, q, o, u, s2.zs, rfl, q3, ox2.vw s2 q1, oy.ok.vw s2 q2, fun w H3 sm nw => PostC.fin h (s2.less fun a z => .inl (.inl z)) sm nw⟩
    · exact h.elim
  · exact h.elim
end
section
variable {X : Cx}
theorem mt_cnt (hu : X.A.units + 66 < cLine) : MtR X "list.count" (rM X.K cntD) := by
  intro pins s σ H x xs v us Q I rx rxs h
  obtain ⟨Z, ds, q, o, y, zs, rfl, hf, vx, vy, fin⟩ := h
  unfold cntD at hf
  split at hf
  case isFalse => cases hf
  rename_i hc
  rw [Bool.and_eq_true] at hc
  obtain ⟨c1, d1⟩ := shps_ok hc.1
  have hq : PyData.plain q = true ∧ PyData.depth q ≤ 60 := by
    have := hc.2
    unfold shp at this
    rw [Bool.and_eq_true] at this
    exact ⟨this.1, of_decide_eq_true this.2⟩
  obtain ⟨a, vs, rfl, ha, es⟩ := vx.list
  cases rx
  obtain ⟨u, rfl, ru⟩ := rxs.one
  obtain ⟨its, rv, pl, _⟩ := I.list (SqL.of ha)
  obtain ⟨as, h4⟩ := Dp.readsAll I ds vs its (es.dp c1) rv
  obtain ⟨bs, r2⟩ := vy.reads I ru hq.1
  refine PySem.SeqAt.count_list_data pl.isList (by simpa using h4) r2 c1 hq.1 (by omega) ?_
  exact ⟨.int _, H, I.tok _, ⟨_, rfl⟩, fin _ H (Same.refl H) (by have := imI_some hf; subst this; exact EncD.int _)⟩
theorem mt_idx (hu : X.A.units + 66 < cLine) : MtR X "list.index" (rM X.K idxD) := by
  intro pins s σ H x xs v us Q I rx rxs h
  obtain ⟨Z, ds, q, o, y, zs, rfl, hf, vx, vy, fin⟩ := h
  unfold idxD at hf
  split at hf
  case isFalse => cases hf
  rename_i hc
  rw [Bool.and_eq_true, Bool.and_eq_true] at hc
  obtain ⟨⟨hc1, hc2⟩, hc3⟩ := hc
  obtain ⟨c1, d1⟩ := shps_ok hc1
  have hq : PyData.plain q = true ∧ PyData.depth q ≤ 60 := by
    have := hc2
    unfold shp at this
    rw [Bool.and_eq_true] at this
    exact ⟨this.1, of_decide_eq_true this.2⟩
  split at hf
  case h_2 => cases hf
  rename_i j hj
  obtain ⟨a, vs, rfl, ha, es⟩ := vx.list
  cases rx
  obtain ⟨u, rfl, ru⟩ := rxs.one
  obtain ⟨its, rv, pl, hz⟩ := I.list (SqL.of ha)
  obtain ⟨as, h4⟩ := Dp.readsAll I ds vs its (es.dp c1) rv
  obtain ⟨bs, r2⟩ := vy.reads I ru hq.1
  have h4' : PySem.ReadsAll s.heap its.toArray.toList ds as := by simpa using h4
  obtain ⟨hj1, hit, hno⟩ := PySem.SeqAt.hit_at (d := q) h4' c1 hj
  obtain ⟨⟨cls, dd, data, sls⟩, ho, hcl, n, hdt⟩ := pl.isList
  simp only at hcl hdt
  subst hcl hdt
  have hlen := es.length
  have hrl := rv.length
  have hsl := sizeLine_eq
  refine call_meets PySem.F.slot_list_index ⟨_, ho, rfl⟩ PySem.F.entry_list_index (PySem.F.args_list_index_2 _ _)
    (PySem.SeqAt.list_indexAt a its.toArray n dd sls u (fun u => PyData.eqv (PySem.SeqAt.readOf s.heap u) q) j hj1 (by have : its.toArray.size = its.length := by simp
                                                                                                                       omega) hit hno) ⟨ho, PySem.SeqAt.items_plain h4' r2 c1 hq.1 (by omega), ?_⟩
  exact ⟨.int _, H, I.tok _, ⟨_, rfl⟩, fin _ H (Same.refl H) (by have := imI_some hf; subst this; exact EncD.int _)⟩
end
/-! ### isinstance of one of several -/
theorem vw_same {K : PySem.W.Frag} {Z : Addr → Prop} {H H' : Hp} {v : V} {d : D} (h : Vw K Z H v d) (sm : Same H H') (zs : ∀ a, Z a → H a ≠ none) : Vw K Z H' v d := by
  cases h with
  | im h => exact .im (h.mono (Same.le sm zs))
  | lst h hs => exact .lst (sm _ _ h) (hs.mono (Same.le sm zs))
  | dct h =>
    obtain ⟨u, hu, _⟩ := h.some
    exact .dct (h.mono (Same.le sm zs) (by rw [hu]; exact sm _ _ hu))
def tTys : List Ty → TA
  | [] => tNil
  | t :: r => tCons (tC (.ty (tyName t))) (tTys r)
theorem tTys_is : ∀ {ts : List Ty} {σ : L2.St} {H : Hp} {R : List V → Hp → Prop}, R (ts.map fun t => V.ty (tyName t)) H → tTys ts σ H R
  | [], _, _, _, h => h
  | t :: r, σ, H, R, h => tTys_is (ts := r) (R := fun xs H2 => R (V.ty (tyName t) :: xs) H2) h
theorem tys_paired : ∀ (ts : List Ty), Paired ClsV (ts.map fun t => V.ty (tyName t)) (ts.map fun t => Value.type (tyName t))
  | [] => .nil
  | t :: r => .cons (.ty _) (tys_paired r)
theorem kit_several {K : PySem.W.Frag} {Z : Addr → Prop} {H : Hp} {v : V} {d : D} (h : Vw K Z H v d) : ∀ {ts : List Ty} {b : Bool}, tyDs d ts = some b → PySem.W.kitAny K (.type (tyV d)) (ts.map fun t => Value.type (tyName t)) = some b ∧ (ts ≠ [] → TyX K H v (.type (tyV d)))
  | [], b, q => by cases q; exact ⟨kitAny_nil, fun z => absurd rfl z⟩
  | t :: r, b, q => by
    simp only [tyDs] at q
    split at q
    · rename_i e
      cases q
      obtain ⟨h1, h2⟩ := h.tyX e
      exact ⟨kitAny_cons (kit_ty h2) (fun z => Bool.noConfusion z) (fun _ => rfl), fun _ => h1⟩
    · rename_i e
      obtain ⟨h1, h2⟩ := h.tyX e
      obtain ⟨h3, _⟩ := kit_several h q
      exact ⟨kitAny_cons (kit_ty h2) (fun _ => h3) (fun z => Bool.noConfusion z), fun _ => h1⟩
    · cases q
theorem rd_isis {K : PySem.W.Frag} {mg : Str → Option Value} {W : WX} {m : ME} {σ : L2.St} {H : Hp} {Q : VK} {ts : List Ty} (hne : ts ≠ []) (hl : ts.length ≤ sizeLine) (h : RdE K T mg (isisE ts m) W σ H Q) :
    tCB (rIsiT K) (tCons (RdE K T mg m W) (tCons (tTup (tTys ts)) tNil)) σ H Q := by
  obtain ⟨e, Z, G, s, h⟩ := h
  refine ⟨e, Z, G, s, (h.bind fun _ z => z).imp fun o e1 Z1 H1 l k h v x => ?_⟩
  cases q1 : vw o e1 with
  | none => rw [q1] at h; exact h.elim
  | some p =>
    rw [q1] at h
    dsimp only [lift] at h
    cases q2 : tyDs p ts with
    | none => rw [q2] at h; exact h.elim
    | some b =>
      rw [q2] at h
      refine tTys_is ⟨by rw [List.length_map]; exact hl, fun tp np => ?_⟩
      have sm : Same H1 (upd H1 tp (.tup (ts.map fun t => V.ty (tyName t)))) := same_new np
      obtain ⟨h1, h2⟩ := kit_several (vw_same (x.ok.vw x.st q1) sm x.st.zs) q2
      exact ⟨v, tp, _, _, _, b, rfl, upd_same, tys_paired ts, h2 hne, h1, PostC.fin h x.st0 sm (EncD.bl b)⟩
theorem pa_tys {X : Cx} (hb : ∀ t ty, tyOf t = some ty → X.mg t = none) {sc : Scope} (hsc : X.env.scope = sc) : ∀ {es : List Expr} {ts : List Ty}, glBs sc es = true → tysOf es = some ts → PA X es (tTys ts)
  | [], ts, _, h => by cases h; exact pa_nil
  | e :: es, ts, hg, h => by
    cases e <;> first | (cases h; done) | skip
    rename_i t p
    simp only [glBs, Bool.and_eq_true] at hg
    simp only [tysOf] at h
    cases q1 : tyOf t with
    | none => rw [q1] at h; cases h
    | some ty =>
      cases q2 : tysOf es with
      | none => rw [q1, q2] at h; cases h
      | some r =>
        rw [q1, q2] at h
        cases h
        have key : bootBuiltins t = some (.type (tyName ty)) ∧ t ≠ "__name__" ∧ (t == ("__debug__" : Str)) = false := by
          unfold tyOf at q1
          repeat' split at q1
          all_goals first
            | (cases q1; done)
            | (rename_i e; subst e; cases q1; exact ⟨by decide +kernel, by decide, by decide⟩)
        have gl : Gl X t := by
          show X.env.scope.names.lookup t = _
          rw [hsc]
          have := hg.1
          unfold glB at this
          rw [Bool.and_eq_true, Bool.and_eq_true] at this
          have := this.1.1
          split at this
          · assumption
          · cases this
        exact pa_cons (pe_bltn gl (hb t ty q1) key.1 rfl key.2.1 key.2.2) (pa_tys hb hsc hg.2 q2)
theorem pe_isis {X : Cx} {m : ME} {W : WX} {a : Expr} {es : List Expr} {ts : List Ty} {sc : Scope} {k : Nat} {p p2 pos : Pos} (ha : PE X a (RdE X.K T X.mg m W)) (hg : Gl X "isinstance") (hm : X.mg "isinstance" = none) (hb : ∀ t ty, tyOf t = some ty → X.mg t = none) (hsc : X.env.scope = sc) (hgs : glBs sc es = true) (ht : tysOf es = some ts)
    (hne : ts ≠ []) (hl : ts.length ≤ sizeLine) (hst : ∀ e q, a ≠ .Starred e q) : PE X (.Call (.Name "isinstance" p) [a, .Tuple es k p2] [] pos) (RdE X.K T X.mg (isisE ts m) W) := by
  have h1 : starEach [a, .Tuple es k p2] X.env = (false, eval a X.env) :: starEach [.Tuple es k p2] X.env := by
    cases a <;> first | rfl | exact absurd rfl (hst _ _)
  exact (pe_callB call_isiT hg hm (by decide +kernel) (pa_cons ha (pa_cons (pe_tup (pa_tys hb hsc hgs ht)) pa_nil) h1) (he := h1)).weaken fun _ _ _ q => rd_isis hne hl q
end Ev
end
section
set_option maxHeartbeats 4000000
/-! EvL: a lambda handed to a def that calls it: the caller's side. -/
namespace Ev
open PySem PySem.Spec PyProof.Rows L2
variable {T : LT}

section
variable {K : PySem.W.Frag} {e : Sl} {σ : L2.St} {H H' : Hp} {Z Z' G : Addr → Prop}
theorem StOk.bare (s : StOk K T e σ H Z G) : StOk K T [] [] H Z G :=
  ⟨s.tb, s.zs, s.gs, fun i sv q => (by rw [gt_nil] at q; cases q), fun i j si sj v q => (by rw [gt_nil] at q; cases q)⟩
theorem gt_imS : ∀ {e : Sl} {i : Nat} {sv : Sv}, gt (imS e) i = some sv → gt e i = some sv ∧ ∃ d, sv = .im d
  | [], i, sv, h => by rw [show imS [] = [] from rfl, gt_nil] at h; cases h
  | x :: r, 0, sv, h => by
    cases x with
    | none => cases h
    | some y =>
      cases y with
      | im d => cases h; exact ⟨rfl, d, rfl⟩
      | ol d => cases h
      | od d => cases h
      | ex d => cases h
  | x :: r, i + 1, sv, h => by
    have h : gt (imS r) i = some sv := by
      cases x with
      | none => exact h
      | some y => cases y <;> exact h
    exact gt_imS (e := r) h
/-- what does not change; what the slots own is kept -/
theorem StOk.ims (s : StOk K T e σ H Z G) : StOk K T (imS e) σ H Z (fun a => G a ∨ OwnS e σ a) := by
  have own : ∀ {a : Addr}, OwnS e σ a → ∃ u, H a = some u ∧ Md u ∧ ¬ Z a := by
    rintro a ⟨i, sv, h1, h2, h3⟩
    obtain ⟨u, q1, q2, q3, _⟩ := s.notOwn h1 h2 h3
    exact ⟨u, q1, q2, q3⟩
  refine ⟨⟨s.tb.1, s.tb.2.1, fun a g => ?_⟩, s.zs, fun a g => ?_, fun i sv q => ?_, fun i j si sj v q1 q2 o1 => ?_⟩
  · rcases g with g | g
    · exact s.tb.2.2 a g
    · obtain ⟨u, h1, h2, _⟩ := own g; exact ⟨u, h1, h2⟩
  · rcases g with g | g
    · exact s.gs a g
    · obtain ⟨u, h1, _, h3⟩ := own g; exact ⟨by rw [h1]; simp, h3⟩
  · obtain ⟨h1, d, rfl⟩ := gt_imS q
    obtain ⟨v, h2, h3⟩ := s.sl i _ h1
    exact ⟨v, h2, h3⟩
  · obtain ⟨_, d, rfl⟩ := gt_imS q1
    cases o1
/-- later on: what the slots own was kept -/
theorem StOk.later (s : StOk K T e σ H Z G) (l : Le Z H Z' H') (k : KeepG (fun a => G a ∨ OwnS e σ a) H H') (b : StOk K T [] [] H' Z' (fun a => G a ∨ OwnS e σ a)) : StOk K T e σ H' Z' G := by
  refine ⟨b.tb.less fun a g => .inl g, b.zs, fun a g => b.gs a (.inl g), fun i sv q => ?_, s.inj⟩
  obtain ⟨v, h1, h2⟩ := s.sl i sv q
  refine ⟨v, h1, h2.mono l fun o a ea => ?_⟩
  subst ea
  have ow : OwnS e σ a := ⟨i, sv, q, o, h1⟩
  obtain ⟨_, _, _, _, ng⟩ := s.notOwn q o h1
  exact ⟨k a (.inr ow), (b.gs a (.inr ow)).2, ng⟩
theorem StOk.laterIm {Gx : Addr → Prop} (s : StOk K T (imS e) σ H Z Gx) (l : Le Z H Z' H') (b : StOk K T [] [] H' Z' Gx) : StOk K T (imS e) σ H' Z' Gx := by
  refine ⟨b.tb, b.zs, b.gs, fun i sv q => ?_, s.inj⟩
  obtain ⟨v, h1, h2⟩ := s.sl i sv q
  obtain ⟨_, d, rfl⟩ := gt_imS q
  exact ⟨v, h1, EncD.mono l h2⟩
/-- all but the tables stay -/
theorem StOk.extN (s : StOk K T e σ H Z G) (x : LamX.ExtN H H') (t : LamX.Tabs T.tabs H') : StOk K T e σ H' Z G ∧ Le Z H Z H' ∧ KeepG G H H' := by
  have kz : ∀ a, Z a → H' a = H a := fun a z => by
    cases q : H a with
    | none => exact absurd q (s.zs a z)
    | some o => exact x a o q fun ps e => s.tb.2.1 a z ps (by rw [q, e])
  have md : ∀ {a u}, H a = some u → Md u → H' a = some u := fun {a u} h m => x a u h fun ps e => by subst e; exact m
  have kg : KeepG G H H' := fun a g => by
    obtain ⟨u, h, m⟩ := s.tb.2.2 a g
    rw [h]; exact md h m
  have l : Le Z H Z H' := ⟨fun _ z => z, kz, fun a xs h => x a _ h (fun ps e => by cases e), fun a o u h => x a _ h (fun ps e => by cases e)⟩
  refine ⟨⟨⟨t, fun a z ps e => ?_, fun a g => ?_⟩, fun a z => ?_, fun a g => ⟨?_, (s.gs a g).2⟩, fun i sv q => ?_, s.inj⟩, l, kg⟩
  · rw [kz a z] at e; exact s.tb.2.1 a z ps e
  · rw [kg a g]; exact s.tb.2.2 a g
  · rw [kz a z]; exact s.zs a z
  · rw [kg a g]; exact (s.gs a g).1
  · obtain ⟨v, h1, h2⟩ := s.sl i sv q
    refine ⟨v, h1, h2.mono l fun o a ea => ?_⟩
    subst ea
    obtain ⟨u, h3, m, n1, n2⟩ := s.notOwn q o h1
    exact ⟨by rw [h3]; exact md h3 m, n1, n2⟩
theorem frz_ok {fx : List Nat} : ∀ {fv : List Nat} {e : Sl} {Z : Addr → Prop}, StOk K T e σ H Z G → ∃ Z1, Le Z H Z1 H ∧ StOk K T (frzS fx fv e) σ H Z1 G
  | [], e, Z, s => ⟨Z, Le.refl, s⟩
  | i :: r, e, Z, s => by
    unfold frzS
    split
    · exact frz_ok s
    · have go : ∀ {sv : Sv} {d : D} {e1 : Sl}, gt e i = some sv → fzO (.bor i) e = some (d, e1) → ∃ Z1, Le Z H Z1 H ∧ StOk K T (frzS fx r e1) σ H Z1 G := fun {sv d e1} hg q => by
        obtain ⟨v, h1, h2⟩ := s.sl i sv hg
        have x : Out K T e σ H Z G v (.bor i) := ⟨s.less fun a z => z.elim id False.elim, h1, fun a z => z.elim⟩
        obtain ⟨Z1, l1, s1, _⟩ := fz_ok x q
        obtain ⟨Z2, l2, s2⟩ := frz_ok s1 (fx := fx) (fv := r)
        exact ⟨Z2, l1.trans l2, s2⟩
      split
      · rename_i xs hg
        exact go (d := .list xs) hg (by simp only [fzO, hg])
      · rename_i xs hg
        exact go (d := .dict xs) hg (by simp only [fzO, hg])
      · exact frz_ok s
end
/-- what is wanted of what comes of the lambda -/
def LPost (K : PySem.W.Frag) (T : LT) (mg : Str → Option Value) (Z G : Addr → Prop) (H : Hp) (E : XK) (Q : VK) : LRes → Prop
  | .ok d => ∀ v H' Z', Le Z H Z' H' → KeepG G H H' → StOk K T [] [] H' Z' G → EncD K Z' H' v d → Q v H'
  | .er x => ∀ cls dd H' Z', Le Z H Z' H' → KeepG G H H' → StOk K T [] [] H' Z' G → ExOk K mg Z' x cls dd H' → E cls dd H'
def FPost (K : PySem.W.Frag) (T : LT) (Z G : Addr → Prop) (H : Hp) (Q : VK) : CRes → Prop
  | .ok (.im d) _ => ∀ v H' Z', Le Z H Z' H' → KeepG G H H' → StOk K T [] [] H' Z' G → EncD K Z' H' v d → Q v H'
  | _ => False
/-- what the def makes of the lambda -/
def TTd (K : PySem.W.Frag) (T : LT) (mg : Str → Option Value) (L : LRes → CRes) : (XK → Hp → VK → Prop) → Hp → VK → Prop := fun tl H Q => ∃ r Z G, StOk K T [] [] H Z G ∧
  (∀ H' Z', Le Z H Z' H' → KeepG G H H' → StOk K T [] [] H' Z' G → ∀ E Q', LPost K T mg Z' G H' E Q' r → tl E H' Q') ∧ FPost K T Z G H Q (L r)
theorem rd_lam {K : PySem.W.Frag} {mg : Str → Option Value} {W : WX} {m : ME} {σ : L2.St} {H : Hp} {Q : VK} {fx fv : List Nat} {L : LRes → CRes} (h : RdE K T mg (lamE fx fv L m) W σ H Q) :
    LamX.tLam T.tabs (TTd K T mg L) (fun E => RdE K T mg m (fun cls d _ H => E cls d H)) σ H Q := by
  obtain ⟨e, Z, G, s, h⟩ := h
  refine ⟨s.tb.1, fun H1 eN T1 => ?_⟩
  obtain ⟨Z1, l1, s1⟩ := frz_ok (fx := fx) (fv := fv) s
  obtain ⟨s2, l2, k2⟩ := s1.extN eN T1
  have si := s2.ims
  simp only [lamE] at h
  cases qr : lres (m (imS (frzS fx fv e))) with
  | none => rw [qr] at h; exact h.elim
  | some r =>
    rw [qr] at h
    simp only at h
    refine ⟨r, Z1, _, si.bare, fun H' Z' l k st E Q' lp => ⟨imS (frzS fx fv e), Z', _, si.laterIm l st, ?_⟩, ?_⟩
    · cases qm : m (imS (frzS fx fv e)) with
      | bad => rw [qm] at qr; cases qr
      | er x e1 =>
        rw [qm] at qr
        cases qr
        exact fun cls d H'' Z'' l' k' s' ex => lp cls d H'' Z'' l' k' s'.bare ex
      | ok o e1 =>
        rw [qm] at qr
        simp only [lres] at qr
        cases qf : fzO o e1 with
        | none => rw [qf] at qr; cases qr
        | some p =>
          rw [qf] at qr
          cases qr
          intro H'' Z'' l' k' v x
          obtain ⟨Z3, l3, s3, en⟩ := fz_ok x (d := p.1) (e1 := p.2) qf
          exact lp v H'' Z3 (l'.trans l3) k' s3.bare en
    · cases qL : L r with
      | bad => rw [qL] at h; exact h.elim
      | er x fin => rw [qL] at h; exact h.elim
      | ok op fin =>
        rw [qL] at h
        cases op with
        | im d =>
          intro v H' Z' l k st en
          exact h H' Z' ((l1.trans l2).trans l) (k2.trans (k.less fun a g => .inl g)) v ((s2.later l k st).im en)
        | tl d => exact h.elim
        | td d => exact h.elim
        | bor d => exact h.elim
end Ev
end
section
set_option maxHeartbeats 4000000
/-! EvSc: what the evaluator says of an expression is so. -/
namespace Ev
open PySem PySem.Spec PyProof.Rows L2
variable {T : LT}

theorem o1_some {α β : Type} {f : α → β} {o : Option α} {r : β} (h : o1 f o = some r) : ∃ a, o = some a ∧ r = f a := by
  cases o with
  | none => cases h
  | some a => cases h; exact ⟨a, rfl, rfl⟩
theorem o2_some {α β γ : Type} {f : α → β → γ} {o : Option α} {p : Option β} {r : γ} (h : o2 f o p = some r) : ∃ a b, o = some a ∧ p = some b ∧ r = f a b := by
  cases o with
  | none => cases h
  | some a => cases p with
    | none => cases h
    | some b => cases h; exact ⟨a, b, rfl, rfl, rfl⟩
theorem o3_some {α β γ δ : Type} {f : α → β → γ → δ} {o : Option α} {p : Option β} {q : Option γ} {r : δ} (h : o3 f o p q = some r) : ∃ a b c, o = some a ∧ p = some b ∧ q = some c ∧ r = f a b c := by
  cases o with
  | none => cases h
  | some a => cases p with
    | none => cases h
    | some b => cases q with
      | none => cases h
      | some c => cases h; exact ⟨a, b, c, rfl, rfl, rfl, rfl⟩
theorem iff_some {α : Type} {b : Bool} {o : Option α} {r : α} (h : iff b o = some r) : b = true ∧ o = some r := by
  unfold iff at h
  split at h
  · rename_i hb; exact ⟨hb, h⟩
  · cases h
/-- member by member -/
inductive Each {α β : Type} (R : α → β → Prop) : List α → List β → Prop
  | nil : Each R [] []
  | cons {a b as bs} : R a b → Each R as bs → Each R (a :: as) (b :: bs)
theorem allO_each {α β : Type} {f : α → Option β} : ∀ {es : List α} {ms : List β}, allO (es.map f) = some ms → Each (fun e m => f e = some m) es ms
  | [], ms, h => by cases h; exact .nil
  | e :: es, ms, h => by
    obtain ⟨a, b, h1, h2, rfl⟩ := o2_some h
    exact .cons h1 (allO_each h2)
theorem Each.imp {α β : Type} {R R' : α → β → Prop} (f : ∀ a b, R a b → R' a b) : ∀ {as : List α} {bs : List β}, Each R as bs → Each R' as bs
  | _, _, .nil => .nil
  | _, _, .cons h t => .cons (f _ _ h) (Each.imp f t)
theorem Each.len {α β : Type} {R : α → β → Prop} : ∀ {as : List α} {bs : List β}, Each R as bs → as.length = bs.length
  | _, _, .nil => rfl
  | _, _, .cons _ t => congrArg (· + 1) (Each.len t)

theorem visB_ok {sc : Scope} {x : Str} (h : visB sc x = true) : Vis sc x := by
  unfold visB at h
  split at h
  · exact .inl (by assumption)
  · exact .inr (.inl (by assumption))
  · exact .inr (.inr (by assumption))
  · cases h
theorem locB_ok {sc : Scope} {x : Str} (h : locB sc x = true) : Loc sc x := by
  unfold locB at h
  split at h
  · exact .inl (by assumption)
  · exact .inr (by assumption)
  · cases h
theorem glB_ok {sc : Scope} {x : Str} (h : glB sc x = true) : sc.names.lookup x = some .globalImplicit ∧ (x == ("__debug__" : Str)) = false ∧ x ≠ ("__name__" : Str) := by
  unfold glB at h
  rw [Bool.and_eq_true, Bool.and_eq_true] at h
  refine ⟨?_, by simpa using h.1.2, by simpa using h.2⟩
  have := h.1.1
  split at this
  · assumption
  · cases this
theorem ixN_ok : ∀ {N : List Str} {x : Str} {i : Nat}, ixN N x = some i → N[i]? = some x
  | [], _, _, h => by cases h
  | y :: r, x, i, h => by
    unfold ixN at h
    split at h
    · rename_i e
      cases h
      simp [e]
    · cases q : ixN r x with
      | none => rw [q] at h; cases h
      | some j =>
        rw [q] at h
        cases h
        simpa using ixN_ok q
theorem ixN_lt {N : List Str} {x : Str} {i : Nat} (h : ixN N x = some i) : i < N.length := (List.getElem?_eq_some_iff.mp (ixN_ok h)).1
theorem starEach_cons {e : Expr} {es : List Expr} {env : Env} (h : isStar e = false) : starEach (e :: es) env = (false, eval e env) :: starEach es env := by
  cases e <;> first | rfl | cases h
theorem noStar_cons {e : Expr} {es : List Expr} (h : noStar (e :: es) = true) : isStar e = false ∧ noStar es = true := by
  unfold noStar at h
  rw [List.all_cons, Bool.and_eq_true] at h
  exact ⟨by simpa using h.1, h.2⟩
theorem backTo_any {pos : Pos} {env : Env} : ∀ {es : List Expr}, noStar es = true → (backTo pos (starEach es env)).any (·.1) = false
  | [], _ => rfl
  | e :: es, h => by
    obtain ⟨h1, h2⟩ := noStar_cons h
    rw [starEach_cons h1]
    show (false || (backTo pos (starEach es env)).any (·.1)) = false
    rw [backTo_any h2]
    rfl
theorem blkB_eq {N : List Str} {sc scope : Scope} {own : List (Str × Nat)} : blkB N sc scope own = blkC N sc scope own := rfl

def bltNames : List Str := ["len", "sum", "max", "min", "any", "all", "tuple", "list", "abs", "int", "sorted", "range", "enumerate", "zip", "isinstance", "bool", "str", "dict"]
/-- a def that calls the lambda that it gets -/
structure Taker (X : Cx) (k : Nat) (T : LT) (g : Str) (ga : Addr) (fd : FuncData) (a : Str) (L : LRes → CRes) : Prop where
  ex : ∃ (Ng : List Str) (pg : Arguments) (bg : List Stmt) (sg : Scope) (dV kV doc pm cdv ct oc : Value) (an od : Option Addr) (osl : Array (Option Value)), fd = PySem.W.fnOf g g pg bg sg dV kV doc pm an cdv ct ∧
    X.K.lookup ga = some ⟨oc, od, .func fd, osl⟩ ∧ PySem.W.codeIn X.K cdv g = true ∧ FnScope Ng [a] sg ∧ Ng[0]? = some a ∧ Vis sg a ∧
    ∀ X' : Cx, X'.prog = X.prog → X'.w = X.w → X'.K = X.K → X'.mg = X.mg → X'.base = X.base → Room k X'.A → ∀ q, LamX.GivesTo X' Ng g sg ga cdv bg a q (TTd X.K T X.mg L)
  bd : L2.Binds X.K fd [a] []
  nd : (a == ("__debug__" : Str)) = false
  nc : (a == ("__classdict__" : Str)) = false
/-- the class that a name names -/
def ClsIs (mg : Str → Option Value) (y : Str) (cv : Value) : Prop := (∃ C, cv = .ref C ∧ mg y = some (.ref C)) ∨ ∃ t, cv = .type t ∧ mg y = none ∧ bootBuiltins y = some (.type t)
/-- what the evaluator is told of the module is so -/
structure CtxOk (T : LT) (X : Cx) (W : WX) (c : Cfg) (k : Nat) (sc : Scope) : Prop where
  hsc : X.env.scope = sc
  hN : X.N = c.N
  nd : X.N.Nodup
  calm : c.calm = true → X.calm = true
  tk : Takes X W
  room : c.calm = true → Room k X.A
  un : X.A.units + 66 < cLine
  fns : ∀ f br F, c.fns f = some (br, F) → ∃ a fd ps, X.mg f = some (.ref a) ∧ PySem.W.keepIn X.K (.ref a) = true ∧ Binds X.K fd ps [] ∧ FnOk X.prog X.w X.K X.mg X.base (L2.CX X.prog X.w) k a fd ps (SpD X.K T X.mg br.length F)
  blt : ∀ f, f ∈ bltNames → X.mg f = none
  cst : ∀ x d, c.cst x = some d → ∃ u v, X.mg x = some u ∧ RelV v u ∧ ∀ Z H, EncD X.K Z H v d
  fns2 : ∀ f br F, c.fns2 f = some (br, F) → ∃ a fd ps, X.mg f = some (.ref a) ∧ PySem.W.keepIn X.K (.ref a) = true ∧ Binds X.K fd ps [] ∧ FnOk X.prog X.w X.K X.mg X.base (L2.CX X.prog X.w) (k - 2) a fd ps (SpD X.K T X.mg br.length F)
  tab : c.tab = true → 2 ≤ k ∧ ∃ cA P, X.env.code = .ref cA ∧ LamX.TabB X.base X.mg cA P ∧ (P, X.env.qual ++ "<lambda>") ∈ T.tabs ∧ ∀ p ∈ T.tabs, p.1 = P → p.2 = X.env.qual ++ "<lambda>"
  lams : ∀ g L, c.lam g = some L → ∃ ga fd a, X.mg g = some (.ref ga) ∧ PySem.W.keepIn X.K (.ref ga) = true ∧ Taker X k T g ga fd a L
  hot : c.hot = true → ∃ a oe cls d pn X0, T.exc = some (a, cls, d) ∧ T.mg = X.mg ∧ X = L2.Cx.suite X0 a ((a, oe) :: pn) ∧ Zc cls d oe ∧ ∃ vs, oe.data = .fields vs
  sub : ∀ x y b, c.sub x y = some b → ∃ D, X.mg x = some (.ref D) ∧ ExcC X.K D ∧ ∃ cv, ClsIs X.mg y cv ∧ PySem.W.kitOne X.K (.ref D) cv = some b ∧ PySem.W.exmOne X.K (.ref D) cv = some b
/-- which names may be stored; rw: the scope as it is written -/
def StoOk (X : Cx) (rw : Scope) : Prop := ∀ x, locB rw x = true → L2.Loc X.env.scope x ∧ (X.fn x = true ∨ X.env.scope.names.lookup x = some .local)
section
variable {X : Cx} {W : WX} {c : Cfg} {k : Nat} {sc : Scope}
theorem CtxOk.gl (g : CtxOk T X W c k sc) {x : Str} (h : glB sc x = true) : Gl X x := by
  show X.env.scope.names.lookup x = _
  rw [g.hsc]
  exact (glB_ok h).1
theorem CtxOk.vis (g : CtxOk T X W c k sc) {x : Str} (h : visB sc x = true) : Vis X.env.scope x := by
  rw [g.hsc]
  exact visB_ok h
theorem CtxOk.u (g : CtxOk T X W c k sc) : X.A.units + 66 < cLine := by
  have := g.un
  omega
abbrev SE (T : LT) (X : Cx) (W : WX) (e : Expr) (m : ME) : Prop := PE X e (RdE X.K T X.mg m W)
abbrev ST (T : LT) (X : Cx) (W : WX) (e : Expr) (m : ME) : Prop := PT X e (RdT X.K T X.mg m W)

/-! ### lists of expressions -/
theorem pa_D {es : List Expr} {ms : List ME} (h : Each (SE T X W) es ms) : noStar es = true → PA X es (RdAD X.K T X.mg ms W) := by
  induction h with
  | nil => exact fun _ => pa_nil.weaken fun _ _ _ q => rd_nil q
  | cons h _ ih =>
    intro ns
    obtain ⟨h1, h2⟩ := noStar_cons ns
    exact (pa_cons h (ih h2) (starEach_cons h1)).weaken fun _ _ _ q => rd_cons q
theorem pa_O {es : List Expr} {ms : List ME} (h : Each (SE T X W) es ms) : noStar es = true → PA X es (RdAO X.K T X.mg ms W) := by
  induction h with
  | nil => exact fun _ => pa_nil.weaken fun _ _ _ q => rd_onil q
  | cons h _ ih =>
    intro ns
    obtain ⟨h1, h2⟩ := noStar_cons ns
    exact (pa_cons h (ih h2) (starEach_cons h1)).weaken fun _ _ _ q => rd_ocons q
theorem pa_I {fx : List Nat} {es : List Expr} {ms : List ME} (h : Each (SE T X W) es ms) : noStar es = true → PA X es (RdAI X.K T X.mg fx ms W) := by
  induction h with
  | nil => exact fun _ => pa_nil.weaken fun _ _ _ q => rd_inil q
  | cons h _ ih =>
    intro ns
    obtain ⟨h1, h2⟩ := noStar_cons ns
    exact (pa_cons h (ih h2) (starEach_cons h1)).weaken fun _ _ _ q => rd_icons q
theorem pa_P {es : List Expr} {ms : List ME} (h : Each (SE T X W) es ms) : noStar es = true → PA X es (RdAP X.K T X.mg ms W) := by
  induction h with
  | nil => exact fun _ => pa_nil.weaken fun _ _ _ q => rd_pnil q
  | cons h _ ih =>
    intro ns
    obtain ⟨h1, h2⟩ := noStar_cons ns
    exact (pa_cons h (ih h2) (starEach_cons h1)).weaken fun _ _ _ q => rd_pcons q

/-! ### and, or: the value, the test -/
theorem se_and {es : List Expr} {ms : List ME} {pos : Pos} (h : Each (SE T X W) es ms) : SE T X W (.BoolOp .And es pos) (andE ms) := by
  induction h with
  | nil => exact ⟨fun _ _ _ _ _ _ ⟨_, _, _, _, h⟩ => h.elim⟩
  | cons h t ih =>
    cases t with
    | nil => exact pe_one h
    | cons h' t => exact (pe_and h ih).weaken fun _ _ _ q => rd_andV q
theorem se_or {es : List Expr} {ms : List ME} {pos : Pos} (h : Each (SE T X W) es ms) : SE T X W (.BoolOp .Or es pos) (orE ms) := by
  induction h with
  | nil => exact ⟨fun _ _ _ _ _ _ ⟨_, _, _, _, h⟩ => h.elim⟩
  | cons h t ih =>
    cases t with
    | nil => exact pe_one h
    | cons h' t => exact (pe_or h ih).weaken fun _ _ _ q => rd_orV q
theorem sw_and {es : List Expr} {ms : List ME} {pos : Pos} (h : Each (ST T X W) es ms) : PW X (.BoolOp .And es pos) (RdT X.K T X.mg (andE ms) W) := by
  induction h with
  | nil => exact ⟨fun _ _ _ _ _ _ _ ⟨_, _, _, _, h⟩ => h.elim⟩
  | cons h t ih =>
    cases t with
    | nil => exact pw_and1 h
    | cons h' t => exact (pw_and h ih).weaken fun _ _ _ q => rd_andT q
theorem sw_or {es : List Expr} {ms : List ME} {pos : Pos} (h : Each (ST T X W) es ms) : PW X (.BoolOp .Or es pos) (RdT X.K T X.mg (orE ms) W) := by
  induction h with
  | nil => exact ⟨fun _ _ _ _ _ _ _ ⟨_, _, _, _, h⟩ => h.elim⟩
  | cons h t ih =>
    cases t with
    | nil => exact pw_or1 h
    | cons h' t => exact (pw_or h ih).weaken fun _ _ _ q => rd_orT q
/-- a if c else b as a test -/
theorem st_ifE {t a b : Expr} {mt ma mb : ME} {pos : Pos} (ht : ST T X W t mt) (ha : ST T X W a ma) (hb : ST T X W b mb) : ST T X W (.IfExp t a b pos) (ifE mt ma mb) := by
  refine ⟨fun pins s σ H Q I h => ?_⟩
  obtain ⟨e, Z, G, st, h⟩ := h
  refine isTrue_IfExp (thn (ht.run pins s σ H (fun bb H1 => if bb = true then RdT X.K T X.mg ma W σ H1 Q else RdT X.K T X.mg mb W σ H1 Q) I ⟨e, Z, G, st, ?_⟩) fun bb s1 ⟨H1, I1, q⟩ => ?_)
  · refine (PostC.bind (f := fun o e1 => match tru o with | some true => ma e1 | some false => mb e1 | none => .bad) (fun _ z => z) h).imp fun o e1 Z1 H1 l k h => ?_
    obtain ⟨b, qt, h⟩ := PostC.tru (f := fun b => if b then ma e1 else mb e1) h
    refine ⟨b, qt, fun s1 => ?_⟩
    cases b with
    | true => exact iteT ⟨e1, Z1, G, s1, h⟩
    | false => exact iteF ⟨e1, Z1, G, s1, h⟩
  · cases bb with
    | true => exact ha.run pins s1 σ H1 Q I1 q
    | false => exact hb.run pins s1 σ H1 Q I1 q
/-- a def called with nothing -/
theorem pe_callS0 {CX : CXT} {k : Nat} {f : Addr} {fd : FuncData} {ps : List Str} {sp : Sp} {E : L2.St → XK} {x : Str} {p pos : Pos} (F : FnOk X.prog X.w X.K X.mg X.base CX k f fd ps sp) (hr : Room k X.A) (hg : Gl X x) (hm : X.mg x = some (.ref f)) (hk : PySem.W.keepIn X.K (.ref f) = true) (hb : Binds X.K fd ps [])
    (hx : ∀ σ, PassesAt CX X σ (E σ)) (hdb : (x == ("__debug__" : Str)) = false) : PE X (.Call (.Name x p) [] [] pos) (tCallS sp E tNil) := by
  refine ⟨fun pins s σ H Q I h => ?_⟩
  refine wpAny_Call_Name_kw (ld_glob I hg hm ?_ hdb)
  exact PySem.W.callWith_K0 I.kIn hk (run_fnS F hr hb (hx σ) I .nil h)
theorem blt_name {f : Str} {b : Bl} (h : bltOf f = some b) : f ∈ bltNames ∧ bootBuiltins f = some (bltVal b) ∧ f ≠ ("__name__" : Str) ∧ (f == ("__debug__" : Str)) = false := by
  unfold bltOf at h
  repeat' split at h
  all_goals first
    | (cases h; done)
    | (rename_i e; subst e; cases h; exact ⟨by simp [bltNames], by decide +kernel, by decide, by decide⟩)
theorem blt_ty {b : Bl} : (∃ id, bltVal b = .builtin id) ∨ ∃ T, bltVal b = .type T := by cases b <;> first | exact .inl ⟨_, rfl⟩ | exact .inr ⟨_, rfl⟩
theorem ty_name {t : Str} {ty : Ty} (h : tyOf t = some ty) : t ∈ bltNames := by
  unfold tyOf at h
  repeat' split at h
  all_goals first
    | (cases h; done)
    | (rename_i e; subst e; simp [bltNames])
end
end Ev
end
section
set_option maxHeartbeats 4000000
/-! EvSd: targets, what is walked, comprehensions; the induction over expressions. -/
namespace Ev
open PySem PySem.Spec PyProof.Rows L2
variable {T : LT}

theorem ixNs_append {N : List Str} : ∀ {a b : List Str} {is : List Nat}, ixNs N (a ++ b) = some is → ∃ i1 i2, ixNs N a = some i1 ∧ ixNs N b = some i2 ∧ is = i1 ++ i2
  | [], b, is, h => ⟨[], is, rfl, h, rfl⟩
  | x :: a, b, is, h => by
    simp only [List.cons_append, ixNs] at h
    split at h
    · rename_i i is' h1 h2
      cases h
      obtain ⟨i1, i2, e1, e2, rfl⟩ := ixNs_append h2
      exact ⟨i :: i1, i2, by simp only [ixNs, h1, e1], e2, rfl⟩
    · cases h
theorem RdE.mono {K : PySem.W.Frag} {mg : Str → Option Value} {m : ME} {W : WX} {σ : L2.St} {H : Hp} {Q Q' : VK} (h : RdE K T mg m W σ H Q) (f : ∀ v H1, Q v H1 → Q' v H1) : RdE K T mg m W σ H Q' := by
  obtain ⟨e, Z, G, s, h⟩ := h
  exact ⟨e, Z, G, s, h.imp fun o e1 Z1 H1 l k h v x => f v H1 (h v x)⟩
theorem assignEach_cons {e : Expr} {es : List Expr} {env : Env} (h : isStar e = false) : assignEach (e :: es) env = (false, PySem.assign e env) :: assignEach es env := by
  cases e <;> first | rfl | cases h
theorem assignEach_len {env : Env} : ∀ {es : List Expr}, noStar es = true → (assignEach es env).length = es.length ∧ (assignEach es env).findIdx? (·.1) = none
  | [], _ => ⟨rfl, rfl⟩
  | e :: es, h => by
    obtain ⟨h1, h2⟩ := noStar_cons h
    obtain ⟨q1, q2⟩ := assignEach_len (es := es) h2
    rw [assignEach_cons h1]
    exact ⟨congrArg (· + 1) q1, by rw [List.findIdx?_cons]; simp [q2]⟩
section
variable {X : Cx} {W : WX} {c : Cfg} {k : Nat} {sc rw : Scope}
theorem se_tgs {n : Nat} (ih : ∀ tg t is, tgE n rw c tg = some t → ixNs c.N (tgN n tg) = some is → PG X tg (RdG X.K T c.fx t is)) : ∀ {es : List Expr} {ts : List MT} {is : List Nat}, noStar es = true → allO (es.map (tgE n rw c)) = some ts → ixNs c.N (es.map (tgN n)).flatten = some is →
    PGs X es (RdGs X.K T c.fx ts is)
  | [], ts, is, _, h, hi => by
    cases h
    cases hi
    exact pgs_nil.weaken fun _ _ _ _ q => rd_gnil q
  | e :: es, ts, is, ns, h, hi => by
    obtain ⟨h1, h2⟩ := noStar_cons ns
    obtain ⟨t, ts', e1, e2, rfl⟩ := o2_some h
    obtain ⟨i1, i2, e3, e4, rfl⟩ := ixNs_append (by simpa using hi)
    exact (pgs_cons (ih e t i1 e1 e3) (se_tgs ih h2 e2 e4) (by rw [assignEach_cons h1]; rfl)).weaken fun _ _ _ _ q => rd_gcons q
theorem se_tg (g : CtxOk T X W c k sc) (hc : X.calm = true) (st : StoOk X rw) : ∀ {n : Nat} {tg : Expr} {t : MT} {is : List Nat}, tgE n rw c tg = some t → ixNs c.N (tgN n tg) = some is → PG X tg (RdG X.K T c.fx t is)
  | 0, _, _, _, h, _ => by cases h
  | n + 1, tg, t, is, h, hi => by
    unfold tgE at h
    split at h
    · rename_i x pos
      obtain ⟨hl, h⟩ := iff_some h
      obtain ⟨i, hx, rfl⟩ := o1_some h
      simp only [tgN, ixNs, hx, Option.some.injEq] at hi
      subst hi
      have hi : X.N[i]? = some x := by rw [g.hN]; exact ixN_ok hx
      refine (pg_name g.nd hi (st x hl).1 (st x hl).2).weakenL fun x σ H R hlen q => rd_gname ?_ q
      rw [hlen, g.hN]
      exact ixN_lt hx
    · rename_i es ctx pos
      obtain ⟨ns, h2⟩ := iff_some h
      obtain ⟨ts, h3, rfl⟩ := o1_some h2
      have hs := se_tgs (X := X) (fun tg t is => se_tg g hc st (n := n)) ns h3 hi
      obtain ⟨q1, q2⟩ := assignEach_len (env := X.env) ns
      have hl : ts.length = es.length := (allO_each h3).len.symm
      exact (pg_tup hc hs (q1.trans hl.symm) q2).weakenL fun x σ H R _ q => rd_gtup q
    · cases h
/-- what is walked -/
theorem se_iter (g : CtxOk T X W c k sc) {ev : Expr → Option ME} (ih : ∀ e m, ev e = some m → SE T X W e m) {fx : List Nat} {tg it : Expr} {mi : MI} (h : evI sc fx (isTup tg) ev it = some mi) : PI X tg it (RdI X.K T X.mg fx mi W) := by
  have seq : ∀ {e : Expr} {m : ME}, ev e = some m → PI X tg e (RdI X.K T X.mg fx (itE fx seqF [m]) W) := fun {e m} he =>
    (pi_seq (ih e m he)).weaken fun σ H R q => by
      have q := rd_icons (rd_seq q)
      exact q.mono fun v H1 q => rd_inil q
  have tup : isTup tg = true → ∃ elts kk tpos, tg = .Tuple elts kk tpos := fun h => by
    cases tg <;> first | exact ⟨_, _, _, rfl⟩ | cases h
  have one : ∀ {a : Expr} {m : ME}, ev a = some m → noStar [a] = true → PA X [a] (RdAI X.K T X.mg fx [m] W) := fun {a m} he ns => pa_I (.cons (ih a m he) .nil) ns
  have two : ∀ {a b : Expr} {m m' : ME}, ev a = some m → ev b = some m' → noStar [a, b] = true → PA X [a, b] (RdAI X.K T X.mg fx [m, m'] W) := fun {a b m m'} he he' ns => pa_I (.cons (ih a m he) (.cons (ih b m' he') .nil)) ns
  unfold evI at h
  split at h
  · rename_i f p as pos
    split at h
    · rename_i hf
      subst hf
      obtain ⟨hb, h2⟩ := iff_some h
      rw [Bool.and_eq_true] at hb
      obtain ⟨hg, ns⟩ := hb
      have hm := g.blt ("range" : Str) (by simp [bltNames])
      split at h2
      · rename_i a
        obtain ⟨m, he, rfl⟩ := o1_some h2
        obtain ⟨s1, _⟩ := noStar_cons ns
        exact (pi_range1 (g.gl hg) hm (one he ns) (by rw [starEach_cons s1]; rfl)).weaken fun _ _ _ q => rd_range1 q
      · rename_i a b
        obtain ⟨m, m', he, he', rfl⟩ := o2_some h2
        obtain ⟨s1, ns'⟩ := noStar_cons ns
        obtain ⟨s2, _⟩ := noStar_cons ns'
        exact (pi_range2 (g.gl hg) hm (two he he' ns) (by rw [starEach_cons s1, starEach_cons s2]; rfl) (by rw [starEach_cons s2]; rfl)).weaken fun _ _ _ q => rd_range2 q
      · cases h2
    · split at h
      · rename_i hf
        subst hf
        obtain ⟨hb, h2⟩ := iff_some h
        rw [Bool.and_eq_true, Bool.and_eq_true] at hb
        obtain ⟨⟨hg, ns⟩, ht⟩ := hb
        obtain ⟨elts, kk, tpos, rfl⟩ := tup ht
        have hm := g.blt ("enumerate" : Str) (by simp [bltNames])
        split at h2
        · rename_i a
          obtain ⟨m, he, rfl⟩ := o1_some h2
          obtain ⟨s1, _⟩ := noStar_cons ns
          exact (pi_enumA (g.gl hg) hm (one he ns) (by rw [starEach_cons s1]; rfl)).weaken fun _ _ _ q => rd_enum q
        · cases h2
      · split at h
        · rename_i hf
          subst hf
          obtain ⟨hb, h2⟩ := iff_some h
          rw [Bool.and_eq_true, Bool.and_eq_true] at hb
          obtain ⟨⟨hg, ns⟩, ht⟩ := hb
          obtain ⟨elts, kk, tpos, rfl⟩ := tup ht
          have hm := g.blt ("zip" : Str) (by simp [bltNames])
          split at h2
          · rename_i a b
            obtain ⟨m, m', he, he', rfl⟩ := o2_some h2
            obtain ⟨s1, ns'⟩ := noStar_cons ns
            exact (RZ.pi_zipA (g.gl hg) hm (two he he' ns) (starEach_cons s1) (backTo_any ns')).weaken fun _ _ _ q => rd_zip q
          · cases h2
        · obtain ⟨m, he, rfl⟩ := o1_some h
          exact seq he
  · obtain ⟨_, h2⟩ := iff_some h
    obtain ⟨m, he, rfl⟩ := o1_some h2
    exact seq he
/-- a comprehension's block is of the same kind -/
theorem CtxOk.blk (g : CtxOk T X W c k sc) (hc : X.calm = true) {scope : Scope} {s : Shared} {H : Hp} {C : Addr} {cl : List (Str × Addr)} {fp : List Addr} : CtxOk T (X.blk s H scope (compEnvC scope cl C X.env) fp) WF c k (relB scope sc) where
  hsc := by rw [← g.hsc]; rfl
  hN := g.hN
  nd := g.nd
  calm := g.calm
  tk := fun u s' ⟨_, _, _, _, _, _, _, _, _, _, _, _, _, _, _, _, w⟩ => w.elim
  room := g.room
  un := g.un
  fns := g.fns
  blt := g.blt
  cst := g.cst
  fns2 := g.fns2
  tab := g.tab
  lams := fun gg L h => by
    obtain ⟨ga, fd, a, h1, h2, h3⟩ := g.lams gg L h
    exact ⟨ga, fd, a, h1, h2, ⟨h3.ex, h3.bd, h3.nd, h3.nc⟩⟩
  hot := fun h => by
    obtain ⟨a, oe, cls, d, pn, X0, _, _, e, _⟩ := g.hot h
    rw [e] at hc
    cases hc
  sub := g.sub
theorem StoOk.blk (g : CtxOk T X W c k sc) {scope : Scope} {s : Shared} {H : Hp} {C : Addr} {cl : List (Str × Addr)} {fp : List Addr} : StoOk (X.blk s H scope (compEnvC scope cl C X.env) fp) scope := fun x h => by
  have keep : ∀ {kk : NameKind}, kk ≠ .free → scope.names.lookup x = some kk → (X.blk s H scope (compEnvC scope cl C X.env) fp).env.scope.names.lookup x = some kk := fun {kk} hk e => lookup_relS_keep (sc := X.env.scope) hk e
  rcases locB_ok h with h | h
  · exact ⟨.inl (keep (by decide) h), .inr (keep (by decide) h)⟩
  · refine ⟨.inr (keep (by decide) h), .inl ?_⟩
    show (scope.names.lookup x == some .cell) = true
    rw [h]
    rfl
theorem pts_cond {ifs : List Expr} {cs : List ME} (h : Each (ST T X W) ifs cs) (hl : ifs.length ≤ 1) : PTs X ifs (RdT X.K T X.mg (condE cs) W) := by
  cases h with
  | nil => exact ⟨fun pins s σ H Q I h => pts_nil.run pins s σ H Q I (by
      obtain ⟨e, Z, G, st, h⟩ := h
      obtain ⟨b, q, h⟩ := PostC.ret h
      cases q
      exact h st)⟩
  | cons h t =>
    cases t with
    | nil => exact pts_one h
    | cons _ _ => simp at hl
end
end Ev
end
section
set_option maxHeartbeats 4000000
/-! EvRg: list(range(..)), tuple(range(..)). -/
namespace Ev
open PySem PySem.Spec PyProof.Rows L2
variable {T : LT}
theorem rngArg_some {f : Str} {as : List Expr} {t : Bool} {rs : List Expr} (h : rngArg f as = some (t, rs)) : ∃ p pos, as = [.Call (.Name "range" p) rs [] pos] ∧ ((f = "list" ∧ t = false) ∨ (f = "tuple" ∧ t = true)) := by
  unfold rngArg at h
  split at h
  · rename_i r p rs' pos
    split at h
    · rename_i e
      subst e
      split at h
      · rename_i e; cases h; exact ⟨_, _, rfl, .inl ⟨e, rfl⟩⟩
      · split at h
        · rename_i e; cases h; exact ⟨_, _, rfl, .inr ⟨e, rfl⟩⟩
        · cases h
    · cases h
  · cases h
theorem enc_rg {K : PySem.W.Frag} {Z : Addr → Prop} {H : Hp} : ∀ {n : Nat} {a : Int}, EncDs K Z H ((List.range n).map fun i => V.int (a + (i : Nat))) (rangeI a n)
  | 0, _ => .nil
  | n + 1, a => by
    rw [List.range_succ_eq_map, List.map_cons, List.map_map]
    have e : (fun i : Nat => V.int (a + (i : Nat))) ∘ Nat.succ = fun i => V.int (a + 1 + (i : Nat)) := by
      funext i
      show V.int (a + ((i + 1 : Nat) : Int)) = V.int (a + 1 + (i : Nat))
      congr 1
      omega
    rw [e]
    refine .cons ?_ enc_rg
    have : a + ((0 : Nat) : Int) = a := by omega
    rw [this]
    exact .int _
theorem rngOk_ok {a b : Int} (h : rngOk a b = true) : RgOk a b := by
  simp only [rngOk, rngB, Bool.and_eq_true, decide_eq_true_eq] at h
  exact ⟨h.1.1.1, h.1.1.2, h.1.2.1, h.1.2.2, h.2⟩
section
variable {K : PySem.W.Frag} {mg : Str → Option Value} {W : WX} {m m' : ME} {σ : L2.St} {H : Hp} {Q : VK}
theorem rd_rg1 {F : List Ev.D → Option Op} (h : RdE K T mg (bltE F [m]) W σ H Q) : RdE K T mg m W σ H (fun v H1 => rB K F [v] H1 Q) := by
  have h1 : RdAO K T mg [m] W σ H (fun vs H1 => rB K F vs H1 Q) := rd_blt h
  have h2 := rd_ocons h1
  exact h2.mono fun v H1 q => rd_onil q
theorem rd_rg2 {F : List Ev.D → Option Op} (h : RdE K T mg (bltE F [m, m']) W σ H Q) : RdE K T mg m W σ H (fun v H1 => RdE K T mg m' W σ H1 (fun u H2 => rB K F [v, u] H2 Q)) := by
  have h1 : RdAO K T mg [m, m'] W σ H (fun vs H1 => rB K F vs H1 Q) := rd_blt h
  have h2 := rd_ocons h1
  exact h2.mono fun v H1 q => (rd_ocons q).mono fun u H2 q => rd_onil q
theorem rng_new {H1 : Hp} {Z : Addr → Prop} {n : Nat} {a : Int} (t : Bool) (zs : ∀ a, Z a → H1 a ≠ none) (fin : ∀ w H', Same H1 H' → NewOk K Z H1 H' w (rngO t (rangeI a n)) → Q w H') :
    ∀ q, H1 q = none → Q (.ref q) (upd H1 q (if t then .tup ((List.range n).map fun i => V.int (a + (i : Nat))) else .lst ((List.range n).map fun i => V.int (a + (i : Nat))))) := by
  intro q nq
  cases t with
  | false =>
    have sm : Same H1 (upd H1 q (.lst ((List.range n).map fun i => V.int (a + (i : Nat))))) := same_new nq
    exact fin _ _ sm ⟨q, _, rfl, nq, upd_same, enc_rg⟩
  | true =>
    have sm : Same H1 (upd H1 q (.tup ((List.range n).map fun i => V.int (a + (i : Nat))))) := same_new nq
    exact fin _ _ sm (EncD.tup (.inl (.inl upd_same)) enc_rg)
end
section
variable {X : Cx} {W : WX} {c : Cfg} {k : Nat} {sc : Scope}
theorem se_rng (g : CtxOk T X W c k sc) {ev : Expr → Option ME} (ih : ∀ e m, ev e = some m → SE T X W e m) {f : Str} {p pos : Pos} {as rs : List Expr} {t : Bool} {m : ME} (hg : glB sc f = true) (ha : rngArg f as = some (t, rs))
    (h : iff (c.calm && glB sc "range" && noStar rs) (match rs with
        | [a] => o1 (fun m => bltE (rngD t) [m]) (ev a)
        | [a, b] => o2 (fun m m' => bltE (rngD t) [m, m']) (ev a) (ev b)
        | _ => none) = some m) : SE T X W (.Call (.Name f p) as [] pos) m := by
  obtain ⟨pr, rpos, rfl, hf⟩ := rngArg_some ha
  obtain ⟨hb, h2⟩ := iff_some h
  simp only [Bool.and_eq_true] at hb
  obtain ⟨⟨hc, hgr⟩, ns⟩ := hb
  have hcalm := g.calm hc
  have hm := g.blt ("range" : Str) (by simp [bltNames])
  split at h2
  · rename_i a
    obtain ⟨x, he, rfl⟩ := o1_some h2
    obtain ⟨s1, _⟩ := noStar_cons ns
    have pr1 := prg_1 (pos := rpos) (p := pr) (g.gl hgr) hm (ih a x he) (starEach_cons s1)
    have key : ∀ {σ : L2.St} {H : Hp} {Q : VK}, RdE X.K T X.mg (bltE (rngD t) [x]) W σ H Q → RdE X.K T X.mg x W σ H (fun v H1 => ∃ n, v = V.int n ∧ RgOk 0 n ∧ ∀ q, H1 q = none → Q (.ref q) (upd H1 q (if t then .tup (rgV 0 n) else .lst (rgV 0 n)))) := fun {σ H Q} q => (rd_rg1 q).mono fun v H1 ⟨Z, ds, o, zs, hF, vw, fin⟩ => by
      obtain ⟨d, e, vd⟩ : ∃ d, ds = [d] ∧ Vw X.K Z H1 v d := by
        cases vw with
        | cons h t => cases t; exact ⟨_, rfl, h⟩
      subst e
      unfold rngD at hF
      split at hF
      · rename_i n e
        cases e
        split at hF
        · rename_i ok
          cases hF
          exact ⟨n, vd.int, rngOk_ok ok, rng_new t zs fin⟩
        · cases hF
      · rename_i e; cases e
      · cases hF
    rcases hf with ⟨rfl, rfl⟩ | ⟨rfl, rfl⟩
    · exact (pe_listRg (p := p) (pos := pos) hcalm (g.gl hg) (g.blt _ (by simp [bltNames])) pr1).weaken fun σ H Q q => key q
    · exact (pe_tupRg (p := p) (pos := pos) hcalm (g.gl hg) (g.blt _ (by simp [bltNames])) pr1).weaken fun σ H Q q => key q
  · rename_i a b
    obtain ⟨x, y, he, he', rfl⟩ := o2_some h2
    obtain ⟨s1, ns'⟩ := noStar_cons ns
    obtain ⟨s2, _⟩ := noStar_cons ns'
    have pr1 := prg_2 (pos := rpos) (p := pr) (g.gl hgr) hm (ih a x he) (ih b y he') (starEach_cons s1) (starEach_cons s2) (backTo_any ns')
    have key : ∀ {σ : L2.St} {H : Hp} {Q : VK}, RdE X.K T X.mg (bltE (rngD t) [x, y]) W σ H Q → RdE X.K T X.mg x W σ H (fun v H1 => RdE X.K T X.mg y W σ H1 (fun u H2 => ∃ i j, v = V.int i ∧ u = V.int j ∧ RgOk i j ∧ ∀ q, H2 q = none → Q (.ref q) (upd H2 q (if t then .tup (rgV i j) else .lst (rgV i j))))) := fun {σ H Q} q => (rd_rg2 q).mono fun v H1 q => q.mono fun u H2 ⟨Z, ds, o, zs, hF, vw, fin⟩ => by
      obtain ⟨d, d', e, vd, vd'⟩ : ∃ d d', ds = [d, d'] ∧ Vw X.K Z H2 v d ∧ Vw X.K Z H2 u d' := by
        cases vw with
        | cons h t => cases t with
          | cons h' t => cases t; exact ⟨_, _, rfl, h, h'⟩
      subst e
      unfold rngD at hF
      split at hF
      · rename_i e; cases e
      · rename_i i j e
        cases e
        split at hF
        · rename_i ok
          cases hF
          exact ⟨i, j, vd.int, vd'.int, rngOk_ok ok, rng_new t zs fin⟩
        · cases hF
      · cases hF
    rcases hf with ⟨rfl, rfl⟩ | ⟨rfl, rfl⟩
    · exact (pe_listRg (p := p) (pos := pos) hcalm (g.gl hg) (g.blt _ (by simp [bltNames])) pr1).weaken fun σ H Q q => key q
    · exact (pe_tupRg (p := p) (pos := pos) hcalm (g.gl hg) (g.blt _ (by simp [bltNames])) pr1).weaken fun σ H Q q => key q
  · cases h2
end
end Ev
end
section
set_option maxHeartbeats 4000000
/-! EvSe: the induction over expressions. -/
namespace Ev
open PySem PySem.Spec PyProof.Rows L2
variable {T : LT}

section
variable {X : Cx} {W : WX} {c : Cfg} {k : Nat} {sc : Scope}
theorem ixN_none : True := trivial
theorem se_name (g : CtxOk T X W c k sc) {x : Str} {pos : Pos} {m : ME} (h : iff (!(x == ("__debug__" : Str)) && !(x == ("__classdict__" : Str))) (match ixN c.N x with
      | some i => iff (visB sc x) (some (varE i))
      | none => iff (glB sc x) (o1 immE (c.cst x))) = some m) : SE T X W (.Name x pos) m := by
  obtain ⟨hb, h⟩ := iff_some h
  rw [Bool.and_eq_true] at hb
  have d1 : (x == ("__debug__" : Str)) = false := by simpa using hb.1
  have d2 : (x == ("__classdict__" : Str)) = false := by simpa using hb.2
  split at h
  · rename_i i hx
    obtain ⟨hv, h⟩ := iff_some h
    cases h
    exact se_var (by rw [g.hN]; exact ixN_ok hx) (g.vis hv) d1 d2
  · obtain ⟨hg, h⟩ := iff_some h
    obtain ⟨d, hc, rfl⟩ := o1_some h
    obtain ⟨u, v, hm, r, hd⟩ := g.cst x d hc
    exact se_imm (pe_glob (g.gl hg) hm r d1) hd
/-- both readings: the value, the test -/
def Both (T : LT) (X : Cx) (W : WX) (e : Expr) (m : ME) : Prop := SE T X W e m ∧ ST T X W e m
theorem both_of {e : Expr} {m : ME} (h : SE T X W e m) (he : ∀ whole, isTrue e X.env whole = (do let v ← whole; standAt e.pos; holding [v] (truthy v))) : Both T X W e m := ⟨h, pt_of h he⟩
theorem each_se {es : List Expr} {ms : List ME} (h : Each (Both T X W) es ms) : Each (SE T X W) es ms := h.imp fun _ _ h => h.1
theorem each_st {es : List Expr} {ms : List ME} (h : Each (Both T X W) es ms) : Each (ST T X W) es ms := h.imp fun _ _ h => h.2
theorem se_part {o : Option Expr} {mo : Option ME} {ev : Expr → Option ME} (ih : ∀ e m, ev e = some m → SE T X W e m) (h : oo (o.map ev) = some mo) : ∃ t, PO X o t ∧ OptT X.K T X.mg W mo t := by
  cases o with
  | none => cases h; exact ⟨_, po_none, .inl ⟨rfl, rfl⟩⟩
  | some e =>
    simp only [Option.map_some] at h
    cases q : ev e with
    | none => rw [q] at h; cases h
    | some m => rw [q] at h; cases h; exact ⟨_, po_some (ih e m q), .inr ⟨m, rfl, rfl⟩⟩
theorem se_call (g : CtxOk T X W c k sc) {f : Str} {p pos : Pos} {as : List Expr} {r : Option (List ME)} {m : ME} (hg : glB sc f = true) (ns : noStar as = true) (ihr : ∀ ms, r = some ms → Each (SE T X W) as ms)
    (h : (match bltOf f with
      | some b => iff (c.calm && decide (as ≠ [])) (o1 (bltE (bltD b)) r)
      | none => (match c.fns f with
        | some (br, F) => iff (c.calm && decide (as.length = br.length)) (o1 (callE br F) r)
        | none => none)) = some m) : SE T X W (.Call (.Name f p) as [] pos) m := by
  have hdb := (glB_ok hg).2.1
  split at h
  · rename_i b hb
    obtain ⟨hne, h⟩ := iff_some h
    rw [Bool.and_eq_true] at hne
    have hcalm := g.calm hne.1
    have hne := hne.2
    obtain ⟨ms, hr, rfl⟩ := o1_some h
    have ih := ihr ms hr
    obtain ⟨h1, h2, h3, h4⟩ := blt_name hb
    cases as with
    | nil => simp at hne
    | cons a as =>
      obtain ⟨s1, s2⟩ := noStar_cons ns
      rcases blt_ty (b := b) with ⟨id, e⟩ | ⟨T, e⟩
      · exact (pe_callB (id := id) (e ▸ callR_blt hcalm g.u) (g.gl hg) (g.blt f h1) (h2.trans (congrArg some e)) (pa_O ih ns) h3 h4 (starEach_cons s1) (backTo_any s2)).weaken fun _ _ _ q => rd_blt q
      · exact (pe_callTy (T := T) (e ▸ callR_blt hcalm g.u) (g.gl hg) (g.blt f h1) (h2.trans (congrArg some e)) (pa_O ih ns) h3 h4 (starEach_cons s1) (backTo_any s2)).weaken fun _ _ _ q => rd_blt q
  · split at h
    · rename_i br F hf
      obtain ⟨hl, h⟩ := iff_some h
      rw [Bool.and_eq_true] at hl
      have hroom := g.room hl.1
      obtain ⟨ms, hr, rfl⟩ := o1_some h
      have ih := ihr ms hr
      obtain ⟨a, fd, ps, hm, hk, hb, fn⟩ := g.fns f br F hf
      cases as with
      | nil =>
        exact (pe_callS0 fn hroom (g.gl hg) hm hk hb (fun σ => passAt g.tk σ) hdb).weaken fun σ H Q q => by
          cases ih
          have q := rd_call (n := br.length) rfl q
          exact rd_onil q
      | cons a as =>
        obtain ⟨s1, s2⟩ := noStar_cons ns
        exact (pe_callS fn hroom (g.gl hg) hm hk hb (fun σ => passAt g.tk σ) (pa_O ih ns) hdb (starEach_cons s1) (backTo_any s2)).weaken fun _ _ _ q => rd_call rfl q
    · cases h
theorem zip_snd : ∀ {a : List Str} {b : List Nat}, a.length = b.length → (a.zip b).map (·.2) = b
  | [], [], _ => rfl
  | _ :: a, _ :: b, h => by simp [zip_snd (Nat.succ.inj h)]
  | [], _ :: _, h => by cases h
  | _ :: _, [], h => by cases h
theorem ixNs_len {N : List Str} : ∀ {l : List Str} {is : List Nat}, ixNs N l = some is → l.length = is.length
  | [], _, h => by cases h; rfl
  | x :: l, is, h => by
    simp only [ixNs] at h
    split at h
    · rename_i h2; cases h; exact congrArg (· + 1) (ixNs_len h2)
    · cases h
theorem folded_of {it : Expr} {env : Env} (h : isSet it = false) : ∀ x, foldedSetIterable it env x = pure x := by
  intro x
  cases it <;> first | rfl | cases h
/-- the parts of a comprehension -/
structure Parts (T : LT) (X : Cx) (W : WX) (m : ME) (elt tg it : Expr) (ifs : List Expr) (scope : Scope) (own : List (Str × Nat)) (wi : TI) (gt : TG) (tt : TT) (te : TE) : Prop where
  pi : PI X tg it wi
  ok : BlkOk X.N X.env.scope scope own
  pg : ∀ (s : Shared) (H : Hp) (C : Addr) (cl : List (Str × Addr)) (fp : List Addr), PG (X.blk s H scope (compEnvC scope cl C X.env) fp) tg gt
  pt : ∀ (s : Shared) (H : Hp) (C : Addr) (cl : List (Str × Addr)) (fp : List Addr), PTs (X.blk s H scope (compEnvC scope cl C X.env) fp) ifs tt
  pe : ∀ (s : Shared) (H : Hp) (C : Addr) (cl : List (Str × Addr)) (fp : List Addr), PE (X.blk s H scope (compEnvC scope cl C X.env) fp) elt te
  hs : ∀ x, foldedSetIterable it X.env x = pure x
  rd : ∀ σ H Q, RdE X.K T X.mg m W σ H Q → tLc wi gt tt te (own.map (·.2)) σ H Q
theorem parts_of (g : CtxOk T X W c k sc) {n : Nat} (IH : ∀ (X : Cx) (W : WX) (c : Cfg) (k : Nat) (sc : Scope), CtxOk T X W c k sc → ∀ (e : Expr) (m : ME), evE n sc c e = some m → Both T X W e m) {elt tg it : Expr} {ifs : List Expr} {scope : Scope} {m : ME}
    (h : (match ixNs c.N (tgN n tg) with
      | some own => iff (c.calm && blkB c.N sc scope ((tgN n tg).zip own) && !isSet it && decide (ifs.length ≤ 1)) (match evI sc c.fx (isTup tg) (evE n sc c) it, tgE n scope c tg, allO (ifs.map (evE n (relB scope sc) c)), evE n (relB scope sc) c elt with
        | some m, some t, some cs, some x => some (compE own m t (condE cs) x)
        | _, _, _, _ => none)
      | none => none) = some m) : X.calm = true ∧ ∃ own wi gt tt te, Parts T X W m elt tg it ifs scope own wi gt tt te := by
  split at h
  · rename_i own ho
    obtain ⟨hb, h⟩ := iff_some h
    rw [Bool.and_eq_true, Bool.and_eq_true, Bool.and_eq_true] at hb
    obtain ⟨⟨⟨hb0, hb1⟩, hb2⟩, hb3⟩ := hb
    have hcalm := g.calm hb0
    split at h
    · rename_i mi t cs x h1 h2 h3 h4
      cases h
      have blk := blkOk_by (show blkC c.N sc scope ((tgN n tg).zip own) = true from hb1)
      refine ⟨hcalm, (tgN n tg).zip own, RdI X.K T X.mg c.fx mi W, RdG X.K T c.fx t own, RdT X.K T X.mg (condE cs) WF, RdE X.K T X.mg x WF, se_iter g (fun e m h => (IH X W c k sc g e m h).1) h1, by rw [g.hN, g.hsc]; exact blk, fun s H C cl fp => se_tg (g.blk hcalm) hcalm (StoOk.blk g) h2 ho, fun s H C cl fp => ?_, fun s H C cl fp => (IH _ WF c k _ (g.blk hcalm) elt x h4).1, folded_of (by simpa using hb2), fun σ H Q q => ?_⟩
      · exact pts_cond (((allO_each h3).imp fun e m h => IH _ WF c k _ (g.blk hcalm) e m h).imp fun _ _ h => h.2) (of_decide_eq_true hb3)
      · rw [zip_snd (ixNs_len ho)]
        exact rd_comp q
    · cases h
  · cases h
theorem plainIx_of {i : Expr} (h : ∀ lo hi p, i ≠ .Slice lo hi none p) : PlainIx i := by
  intro o v
  cases i with
  | Slice lo hi st p =>
    cases st with
    | none => exact absurd rfl (h lo hi p)
    | some st => rfl
  | _ => rfl
end
section
variable {X : Cx} {W : WX} {c : Cfg} {k : Nat} {sc : Scope}
/-- isinstance(e, C), e what is held -/
theorem se_isx (g : CtxOk T X W c k sc) {x t : Str} {p px pt pos : Pos} {i : Nat} (hg : glB sc "isinstance" = true) (hh : c.hot = true) (hv : visB sc x = true) (ht : glB sc t = true) (d1 : (x == ("__debug__" : Str)) = false) (d2 : (x == ("__classdict__" : Str)) = false) (hx : ixN c.N x = some i) :
    SE T X W (.Call (.Name "isinstance" p) [.Name x px, .Name t pt] [] pos) (isxE c.sub t i) := by
  refine ⟨fun pins s σ H Q I h => ?_⟩
  obtain ⟨e, Z, G, st, h⟩ := h
  obtain ⟨a, oe, cls, d, pn, X0, hT, hmg, hX, hz, hf⟩ := g.hot hh
  simp only [isxE] at h
  split at h
  · rename_i cl qg
    split at h
    · rename_i b hb
      obtain ⟨v, hv', a', cls', d', e1, rfl, C, h1, h2, h3⟩ := st.sl i _ qg
      rw [hT] at e1
      cases e1
      obtain ⟨D, hD, ec, cv, hcv, hk, _⟩ := g.sub cl t b hb
      rw [hmg, hD] at h1
      cases h1
      subst h2
      simp only at h3
      subst h3
      have po : PE X (.Name x px) (tVar i) := pe_var (by rw [g.hN]; exact ixN_ok hx) (g.vis hv) d1 d2
      have fin : Q (.bl b) H := PostC.ret h _ (st.im (.bl b))
      obtain ⟨gl1, gl2, gl3⟩ := glB_ok ht
      have hi := g.blt ("isinstance" : Str) (by simp [bltNames])
      have gi := g.gl hg
      have gt' := g.gl ht
      rcases hcv with ⟨C', rfl, hm⟩ | ⟨ty, rfl, hm, hbt⟩
      · have pc : PE X (.Name t pt) (tC (.ref C')) := pe_glob gt' hm rfl gl2
        subst hX
        exact (pe_callB (call_isE ec hz hf) gi hi (by decide +kernel) (pa_cons po (pa_cons pc pa_nil))).run pins s σ H Q I ⟨_, hv', .ref C', .ref C', b, rfl, fun u r => r, hk, fin⟩
      · have pc : PE X (.Name t pt) (tC (.ty ty)) := pe_bltn gt' hm hbt rfl gl3 gl2
        subst hX
        exact (pe_callB (call_isE ec hz hf) gi hi (by decide +kernel) (pa_cons po (pa_cons pc pa_nil))).run pins s σ H Q I ⟨_, hv', .ty ty, .type ty, b, rfl, fun u r => r, hk, fin⟩
    · exact h.elim
  · exact h.elim
theorem lamB_eq {sc scope : Scope} : lamB sc scope = LamX.lamSB sc scope := rfl
theorem noPar_eq {p : Arguments} (h : noPar p = true) : p = { posonlyargs := [], args := [], vararg := none, kwonlyargs := [], kw_defaults := [], kwarg := none, defaults := [] } := by
  obtain ⟨a, b, c, d, e, f, g⟩ := p
  unfold noPar at h
  simp only [Bool.and_eq_true, List.isEmpty_iff, Option.isNone_iff_eq_none] at h
  obtain ⟨⟨⟨⟨⟨⟨h1, h2⟩, h3⟩, h4⟩, h5⟩, h6⟩, h7⟩ := h
  subst h1 h2 h3 h4 h5 h6 h7
  rfl
/-- g(lambda: body) -/
theorem se_lam (g : CtxOk T X W c k sc) {n : Nat} (IH : ∀ (X : Cx) (W : WX) (c : Cfg) (k : Nat) (sc : Scope), CtxOk T X W c k sc → ∀ (e : Expr) (m : ME), evE n sc c e = some m → Both T X W e m) {gn : Str} {p lpos pos : Pos} {params : Arguments} {body : Expr} {scope : Scope} {m : ME}
    (h : iff (c.calm && glB sc gn && c.tab && noPar params && lamB sc scope) (o2 (lamE c.fx (freesOf c.N scope)) (c.lam gn) (evE n scope { c with fns := c.fns2, fns2 := fun _ => none, lam := fun _ => none, tab := false, calm := true, hot := false } body)) = some m) :
    SE T X W (.Call (.Name gn p) [.Lambda params body scope lpos] [] pos) m := by
  obtain ⟨hb, h'⟩ := iff_some h
  clear h
  simp only [Bool.and_eq_true] at hb
  obtain ⟨⟨⟨⟨hcc, hg⟩, ht⟩, hn⟩, hl⟩ := hb
  have hroom := g.room hcc
  have hp := noPar_eq hn
  subst hp
  obtain ⟨L, mb, hL, hm, rfl⟩ := o2_some h'
  obtain ⟨ga, fd, a, hmg, hk, tk⟩ := g.lams gn L hL
  obtain ⟨Ng, pg, bg, sg, dV, kV, doc, pm, cdv, ct, oc, an, od, osl, rfl, lk, hcd, S, hN0, hva, gives⟩ := tk.ex
  obtain ⟨h2, cA, P, hcode, TB, hT, hu⟩ := g.tab ht
  obtain ⟨k2, rfl⟩ : ∃ k2, k = k2 + 2 := ⟨k - 2, by omega⟩
  have LS : LamX.LamS X.env.scope scope := by rw [g.hsc]; exact LamX.lamS_by (lamB_eq ▸ hl)
  refine (LamX.pe_lamcall (T := T.tabs) (TT := TTd X.K T X.mg L) (t := fun E => RdE X.K T X.mg mb (fun cls d _ H => E cls d H)) (g.gl hg) hmg hk lk hcd tk.bd S hN0 hva (gives X rfl rfl rfl rfl rfl hroom _) TB hcode hT hu hroom LS rfl (fun _ _ _ _ _ => rfl) (fun A outer s H E f c' hr => ?_) (glB_ok hg).2.1 tk.nd tk.nc).weaken fun σ H Q q => rd_lam q
  refine (IH (LamX.lamCx X A outer s H E scope f c') (fun cls d _ H => E cls d H) { c with fns := c.fns2, fns2 := fun _ => none, lam := fun _ => none, tab := false, calm := true, hot := false } k2 scope ?_ body mb hm).1
  exact {
    hsc := rfl
    hN := g.hN
    nd := g.nd
    calm := fun _ => rfl
    tk := takes_of rfl rfl rfl rfl
    room := fun _ => hr
    un := by
      have := hr.un
      show (A.deeper (LamX.lamEnv X scope s.heap.objs.size f c')).units + 66 < cLine
      omega
    fns := fun f br F h => g.fns2 f br F h
    blt := g.blt
    cst := g.cst
    fns2 := fun f br F h => by cases h
    tab := fun h => by cases h
    lams := fun gg L h => by cases h
    hot := fun h => by cases h
    sub := g.sub }
end
theorem sound_E : ∀ (n : Nat) (X : Cx) (W : WX) (c : Cfg) (k : Nat) (sc : Scope), CtxOk T X W c k sc → ∀ (e : Expr) (m : ME), evE n sc c e = some m → Both T X W e m
  | 0, _, _, _, _, _, _, _, _, h => by cases h
  | n + 1, X, W, c, k, sc, g, e, m, h => by
    have ih : ∀ e m, evE n sc c e = some m → Both T X W e m := fun e m h => sound_E n X W c k sc g e m h
    have ihs : ∀ {es : List Expr} {ms : List ME}, allO (es.map (evE n sc c)) = some ms → Each (Both T X W) es ms := fun {es ms} h => (allO_each h).imp fun e m h => ih e m h
    unfold evE at h
    split at h
    · cases h; exact both_of (se_imm pe_int fun _ _ => .int _) fun _ => rfl
    · cases h; exact both_of (se_imm pe_bl fun _ _ => .bl _) fun _ => rfl
    · cases h; exact both_of (se_imm pe_non fun _ _ => .non) fun _ => rfl
    · cases h; exact both_of (se_imm pe_str fun _ _ => .str _) fun _ => rfl
    · exact both_of (se_name g h) fun _ => rfl
    · obtain ⟨x, y, h1, h2, rfl⟩ := o2_some h
      exact both_of ((pe_op opR_bin (ih _ _ h1).1 (ih _ _ h2).1).weaken fun _ _ _ q => rd_op2 q) fun _ => rfl
    · obtain ⟨x, h1, rfl⟩ := o1_some h
      exact ⟨(pe_not (ih _ _ h1).1).weaken fun _ _ _ q => rd_notV q, (pt_not (ih _ _ h1).2).weaken fun _ _ _ q => rd_not q⟩
    · obtain ⟨x, h1, rfl⟩ := o1_some h
      exact both_of ((pe_un unR_neg (ih _ _ h1).1).weaken fun _ _ _ q => rd_un1 q) fun _ => rfl
    · obtain ⟨ms, h1, rfl⟩ := o1_some h
      exact ⟨se_and (each_se (ihs h1)), (sw_and (each_st (ihs h1))).pt⟩
    · obtain ⟨ms, h1, rfl⟩ := o1_some h
      exact ⟨se_or (each_se (ihs h1)), (sw_or (each_st (ihs h1))).pt⟩
    · obtain ⟨x, y, z, h1, h2, h3, rfl⟩ := o3_some h
      exact ⟨(pe_ifExp (ih _ _ h1).2 (ih _ _ h2).1 (ih _ _ h3).1).weaken fun _ _ _ q => rd_if q, st_ifE (ih _ _ h1).2 (ih _ _ h2).2 (ih _ _ h3).2⟩
    · obtain ⟨hb, h⟩ := iff_some h
      obtain ⟨x, y, h1, h2, rfl⟩ := o2_some h
      have hu := g.u
      have hm := by simpa using hb
      exact ⟨(pe_cmpR (opR_cmp (by omega)) (ih _ _ h1).1 (ih _ _ h2).1 hm).weaken fun _ _ _ q => rd_op2 q, (pt_cmpR (opR_cmp (by omega)) (ih _ _ h1).1 (ih _ _ h2).1 hm).weaken fun _ _ _ q => rd_op2 (rd_T q)⟩
    · obtain ⟨hb, h⟩ := iff_some h
      obtain ⟨x, y, z, h1, h2, h3, rfl⟩ := o3_some h
      have hu := g.u
      have hm := by simpa using hb
      exact ⟨(pe_chain (opR_cmp (by omega)) (opR_cmp (by omega)) (ih _ _ h1).1 (ih _ _ h2).1 (ih _ _ h3).1 hm).weaken fun _ _ _ q => rd_chain q, (pt_chain (opR_cmp (by omega)) (opR_cmp (by omega)) (ih _ _ h1).1 (ih _ _ h2).1 (ih _ _ h3).1 hm).weaken fun _ _ _ q => rd_chain (rd_T q)⟩
    · obtain ⟨hb, h⟩ := iff_some h
      rw [Bool.and_eq_true] at hb
      obtain ⟨ms, h1, rfl⟩ := o1_some h
      have hl : ms.length ≤ sizeLine := by rw [← (ihs h1).len, ← sizeMax_eq]; exact of_decide_eq_true hb.2
      exact both_of ((pe_tup (pa_D (each_se (ihs h1)) hb.1)).weaken fun _ _ _ q => rd_tup hl q) fun _ => rfl
    · obtain ⟨hb, h⟩ := iff_some h
      rw [Bool.and_eq_true] at hb
      obtain ⟨ms, h1, rfl⟩ := o1_some h
      have hl : ms.length ≤ sizeLine := by rw [← (ihs h1).len, ← sizeMax_eq]; exact of_decide_eq_true hb.2
      exact both_of ((pe_lst (pa_D (each_se (ihs h1)) hb.1)).weaken fun _ _ _ q => rd_lst hl q) fun _ => rfl
    · obtain ⟨x, lo, hi, h1, h2, h3, rfl⟩ := o3_some h
      obtain ⟨tl, p1, q1⟩ := se_part (fun e m h => (ih e m h).1) h2
      obtain ⟨th, p2, q2⟩ := se_part (fun e m h => (ih e m h).1) h3
      exact both_of ((pe_slice slR_cut (ih _ _ h1).1 p1 p2).weaken fun _ _ _ q => rd_slice q q1 q2) fun _ => rfl
    · rename_i hne
      obtain ⟨x, y, h1, h2, rfl⟩ := o2_some h
      have hu := g.u
      exact both_of ((pe_ix (ixR_sub (by omega)) (ih _ _ h1).1 (ih _ _ h2).1 (plainIx_of hne)).weaken fun _ _ _ q => rd_op2 q) fun _ => rfl
    · rename_i elt tg it ifs scope pos
      obtain ⟨hcalm, own, wi, gt, tt, te, P⟩ := parts_of g (fun X W c k sc g e m h => sound_E n X W c k sc g e m h) h
      exact both_of ((pe_lc hcalm g.nd P.pi P.ok P.pg P.pt P.pe P.hs).weaken fun σ H Q q => P.rd σ H Q q) fun _ => rfl
    · cases h; exact both_of (pe_dnewK.weaken fun _ _ _ q => rd_dnew q) fun _ => rfl
    · obtain ⟨x, y, h1, h2, rfl⟩ := o2_some h
      exact both_of ((pe_disp (pps_cons (ih _ _ h1).1 (ih _ _ h2).1 pps_nil) rfl rfl (by simp) (by simp)).weaken fun _ _ _ q => rd_disp1 q) fun _ => rfl
    · obtain ⟨_, h⟩ := iff_some h
      cases h
      exact both_of se_bad fun _ => rfl
    · exact both_of (se_lam g (fun X W c k sc g e m h => sound_E n X W c k sc g e m h) h) fun _ => rfl
    · rename_i f p as pos _
      obtain ⟨hb, h'⟩ := iff_some h
      rw [Bool.and_eq_true] at hb
      obtain ⟨hg, ns⟩ := hb
      clear h
      split at h'
      · rename_i t rs hr
        exact both_of (se_rng g (fun e m h => (ih e m h).1) hg hr h') fun _ => rfl
      rename_i hrn
      clear hrn
      split at h'
      · rename_i hf
        subst hf
        split at h'
        · rename_i x px t pt _
          split at h'
          · rename_i ty hty
            obtain ⟨hgt, h2⟩ := iff_some h'
            obtain ⟨y, h3, rfl⟩ := o1_some h2
            have h4 : evE n sc c (.Name x px) = some y := by
              cases n with
              | zero => cases h3
              | succ n => exact h3
            refine both_of (pe_isi (ih _ _ h4).1 (g.gl hg) (g.blt _ (by simp [bltNames])) (g.gl hgt) (g.blt t (ty_name hty)) hty fun e q z => by cases z) fun _ => rfl
          · obtain ⟨hb2, h2⟩ := iff_some h'
            simp only [Bool.and_eq_true] at hb2
            obtain ⟨⟨⟨⟨hh, hv⟩, ht⟩, d1⟩, d2⟩ := hb2
            obtain ⟨i, hx, rfl⟩ := o1_some h2
            exact both_of (se_isx g hg hh hv ht (by simpa using d1) (by simpa using d2) hx) fun _ => rfl
        · rename_i a t pt _ _
          obtain ⟨hgt, h2⟩ := iff_some h'
          obtain ⟨ty, x, h1, h3, rfl⟩ := o2_some h2
          refine both_of (pe_isi (ih _ _ h3).1 (g.gl hg) (g.blt _ (by simp [bltNames])) (g.gl hgt) (g.blt t (ty_name h1)) h1 fun e q z => ?_) fun _ => rfl
          subst z
          cases (noStar_cons ns).1
        · rename_i a ts kk pt _
          obtain ⟨hgt, h2⟩ := iff_some h'
          rw [Bool.and_eq_true, Bool.and_eq_true] at hgt
          obtain ⟨tys, x, h1, h3, rfl⟩ := o2_some h2
          have hne : tys ≠ [] := by
            intro z
            subst z
            cases ts with
            | nil => simp at hgt
            | cons t ts =>
              cases t <;> first | (cases h1; done) | (obtain ⟨_, _, _, _, z⟩ := o2_some h1; cases z)
          have hl : tys.length ≤ sizeLine := by
            have : ∀ {ts : List Expr} {tys : List Ty}, tysOf ts = some tys → tys.length = ts.length := by
              intro ts
              induction ts with
              | nil => intro tys h; cases h; rfl
              | cons t ts ih =>
                intro tys h
                cases t <;> first | (cases h; done) | (obtain ⟨_, _, _, h4, rfl⟩ := o2_some h; exact congrArg (· + 1) (ih h4))
            rw [this h1, ← sizeMax_eq]
            exact of_decide_eq_true hgt.2
          refine both_of (pe_isis (ih _ _ h3).1 (g.gl hg) (g.blt _ (by simp [bltNames])) (fun t ty ht => g.blt t (ty_name ht)) g.hsc hgt.1.1 h1 hne hl fun e q z => ?_) fun _ => rfl
          subst z
          cases (noStar_cons ns).1
        · cases h'
      · exact both_of (se_call g hg ns (fun ms h => each_se (ihs h)) h') fun _ => rfl
    · rename_i o m' apos a cpos
      split at h
      · rename_i f hm
        split at h
        · rename_i x p
          obtain ⟨hb, h'⟩ := iff_some h
          simp only [Bool.and_eq_true] at hb
          obtain ⟨⟨⟨⟨hv, ns⟩, hl⟩, d1⟩, d2⟩ := hb
          have d1 : (x == ("__debug__" : Str)) = false := by simpa using d1
          have d2 : (x == ("__classdict__" : Str)) = false := by simpa using d2
          have ns : isStar a = false := by simpa using ns
          obtain ⟨i, y, hx, h1, rfl⟩ := o2_some h'
          have po : PE X (.Name x p) (tVar i) := pe_var (by rw [g.hN]; exact ixN_ok hx) (g.vis hv) d1 d2
          have na : noStar [a] = true := by simp [noStar, ns]
          have pa := pa_D (.cons (ih _ _ h1).1 .nil) na
          have e1 := starEach_cons (env := X.env) (es := []) ns
          have hf : ((backTo cpos (starEach [a] X.env)).all (fun x => !x.1) && (backToKw cpos (keywordEach [] X.env)).all (fun x => x.1.isSome) && decide ([a].length + ([] : List Keyword).length + (if ([] : List Keyword).isEmpty then 0 else 1) < 30)) = true := by
            rw [e1]; rfl
          unfold mtOf at hm
          split at hm
          · rename_i e; subst e; cases hm
            exact both_of ((pe_bm PySem.F.plainAttrs_list PySem.F.slot_list_append PySem.F.type_list_append mt_append po pa rfl hf hl e1 rfl).weaken fun _ _ _ q => rd_append q) fun _ => rfl
          · split at hm
            · rename_i e; subst e; cases hm
              exact both_of ((pe_bm PySem.F.plainAttrs_list PySem.F.slot_list_extend PySem.F.type_list_extend mt_extend po pa rfl hf hl e1 rfl).weaken fun _ _ _ q => rd_extend q) fun _ => rfl
            · split at hm
              · rename_i e; subst e; cases hm
                exact both_of ((pe_bm PySem.F.plainAttrs_list PySem.F.slot_list_pop PySem.F.type_list_pop mt_popAt po pa rfl hf hl e1 rfl).weaken fun _ _ _ q => rd_pop q) fun _ => rfl
              · cases hm
        · cases h
      · split at h
        · rename_i f hm
          obtain ⟨hb, h'⟩ := iff_some h
          simp only [Bool.and_eq_true] at hb
          obtain ⟨⟨hoc, ns⟩, hl⟩ := hb
          have ns : isStar a = false := by simpa using ns
          have hoc : isCall o = false := by simpa using hoc
          obtain ⟨x, y, h1, h2, rfl⟩ := o2_some h'
          have na : noStar [a] = true := by simp [noStar, ns]
          have e1 := starEach_cons (env := X.env) (es := []) ns
          have pa := pa_cons (ih _ _ h2).1 pa_nil e1
          have hf : ((backTo cpos (starEach [a] X.env)).all (fun x => !x.1) && (backToKw cpos (keywordEach [] X.env)).all (fun x => x.1.isSome) && decide ([a].length + ([] : List Keyword).length + (if ([] : List Keyword).isEmpty then 0 else 1) < 30)) = true := by
            rw [e1]; rfl
          have hbase : ∀ nm, attributeBase o nm X.env (eval o X.env) = eval o X.env := fun nm => by
            cases o <;> first | rfl | cases hoc
          have hu := g.u
          unfold vmOf at hm
          split at hm
          · rename_i e; subst e; cases hm
            exact both_of ((pe_bm PySem.F.plainAttrs_list PySem.F.slot_list_count PySem.F.type_list_count (mt_cnt hu) (ih _ _ h1).1 pa (hbase _) hf hl e1 rfl).weaken fun _ _ _ q => rd_met q) fun _ => rfl
          · split at hm
            · rename_i e; subst e; cases hm
              exact both_of ((pe_bm PySem.F.plainAttrs_list PySem.F.slot_list_index PySem.F.type_list_index (mt_idx hu) (ih _ _ h1).1 pa (hbase _) hf hl e1 rfl).weaken fun _ _ _ q => rd_met q) fun _ => rfl
            · cases hm
        · cases h
    · cases h
end Ev
end
section
set_option maxHeartbeats 4000000
/-! EvSf: the induction over statements. -/
namespace Ev
open PySem PySem.Spec PyProof.Rows L2
variable {T : LT}

theorem rd_var {K : PySem.W.Frag} {mg : Str → Option Value} {W : WX} {i : Nat} {σ : L2.St} {H : Hp} {Q : VK} (q : RdE K T mg (varE i) W σ H Q) : tVar i σ H Q := by
  obtain ⟨e, Z, G, s, h⟩ := q
  cases qg : gt e i with
  | none => simp only [varE, qg] at h; exact h.elim
  | some sv =>
    obtain ⟨v, h1, h2⟩ := s.sl i sv qg
    have bor : PostC K T mg W σ Z G H (CE' K T σ G Q) (.ok (.bor i) e) → tVar i σ H Q := fun h => ⟨v, h1, h.ret v ⟨s.less fun a z => z.elim id False.elim, h1, fun a z => z.elim⟩⟩
    cases sv with
    | im d =>
      simp only [varE, qg] at h
      exact ⟨v, h1, h.ret v (s.im h2)⟩
    | ex x => simp only [varE, qg] at h; exact h.elim
    | ol xs => simp only [varE, qg] at h; exact bor h
    | od xs => simp only [varE, qg] at h; exact bor h
section
variable {X : Cx} {W : WX} {c : Cfg} {k : Nat} {sc : Scope}
abbrev SS (T : LT) (X : Cx) (W : WX) (fx : List Nat) (s : Stmt) (m : MS) : Prop := PS X s (RdS X.K T X.mg fx m W)
theorem rd_aug {i : Nat} {f : Ev.D → Ev.D → Option Op} {m : ME} {D : Ends} {σ : L2.St} {H : Hp} {fx : List Nat} (hi : i < σ.length) (h : RdS X.K T X.mg fx (asgS (nameG fx i) (op2 f (varE i) m)) W D σ H) : tAug i (RdE X.K T X.mg m W) (rF X.K f) D σ H := by
  have q := rd_op2 (rd_asg hi h)
  obtain ⟨v, h1, h2⟩ := rd_var q
  exact ⟨v, h1, h2⟩
theorem pip_aug {op : Operator} : PIp X op (rF X.K (augD op)) := by
  intro pins s σ H x y v u Q I rx ry h
  obtain ⟨Z, p, q, o, zs, hf, vx, vy, fin⟩ := h
  have int : ∀ {i : Int}, o = .im (.int i) → Q (.int i) H := fun {i} e => fin _ H (Same.refl H) (by subst e; exact EncD.int i)
  unfold augD at hf
  split at hf
  · exact iop_add pins s σ H x y v u Q I rx ry ⟨_, _, vx.int, vy.int, int (imI_some hf)⟩
  · exact iop_sub pins s σ H x y v u Q I rx ry ⟨_, _, vx.int, vy.int, int (imI_some hf)⟩
  · cases hf
theorem ss_block {fx : List Nat} {b : List Stmt} {ms : List MS} (h : Each (SS T X W fx) b ms) : PSs X b (RdS X.K T X.mg fx (seqS ms) W) := by
  induction h with
  | nil => exact pss_nil.weaken fun _ _ _ q => rd_next q
  | cons h t ih =>
    cases t with
    | nil => exact pss_one h
    | cons h' t => exact (pss_cons h ih).weaken fun _ _ _ q => rd_seq2 q
theorem plainN_star : ∀ {ts : List Expr} {ns : List Str}, plainN ts = some ns → noStar ts = true
  | [], _, _ => rfl
  | t :: r, ns, h => by
    cases t <;> simp only [plainN] at h <;> first | cases h | skip
    cases q : plainN r with
    | none => rw [q] at h; cases h
    | some ns' =>
      have := plainN_star q
      unfold noStar at this ⊢
      rw [List.all_cons, this]
      rfl
theorem plainN_len {N : List Str} : ∀ {ts : List Expr} {ns : List Str} {is : List Nat}, plainN ts = some ns → ixNs N ns = some is → ts.length = is.length
  | [], ns, is, h, h2 => by cases h; cases h2; rfl
  | t :: r, ns, is, h, h2 => by
    cases t <;> simp only [plainN] at h <;> first | cases h | skip
    cases q : plainN r with
    | none => rw [q] at h; cases h
    | some ns' =>
      rw [q] at h
      cases h
      simp only [ixNs] at h2
      split at h2
      · rename_i i is' h3 h4
        cases h2
        exact congrArg (· + 1) (plainN_len q h4)
      · cases h2
theorem se_gnm {T : LT} {X : Cx} {W : WX} {c : Cfg} {k : Nat} {sc : Scope} (g : CtxOk T X W c k sc) (st : StoOk X sc) : ∀ {ts : List Expr} {ns : List Str} {is : List Nat}, plainN ts = some ns → ns.all (locB sc) = true → ixNs c.N ns = some is → PGs X ts (gNm is) ∧ ∀ i, i ∈ is → i < X.N.length
  | [], ns, is, h, _, h2 => by
    cases h
    cases h2
    exact ⟨pgs_nil, fun i hi => by cases hi⟩
  | t :: r, ns, is, h, hl, h2 => by
    cases t <;> simp only [plainN] at h <;> first | cases h | skip
    rename_i x pos
    cases q : plainN r with
    | none => rw [q] at h; cases h
    | some ns' =>
      rw [q] at h
      cases h
      rw [List.all_cons, Bool.and_eq_true] at hl
      simp only [ixNs] at h2
      split at h2
      · rename_i i is' h3 h4
        cases h2
        obtain ⟨hs, hlt⟩ := se_gnm g st q hl.2 h4
        have hi : X.N[i]? = some x := by rw [g.hN]; exact ixN_ok h3
        refine ⟨pgs_cons (pg_name g.nd hi (st x hl.1).1 (st x hl.1).2) hs (by rw [assignEach_cons rfl]; rfl), fun j hj => ?_⟩
        rcases List.mem_cons.mp hj with rfl | hj
        · rw [g.hN]; exact ixN_lt h3
        · exact hlt j hj
      · cases h2
theorem sw_tup {e : Expr} {ts : List Expr} {kk : Nat} {p : Pos} {l : Nat} {env : Env} : swapsWithSole [.Tuple ts kk p] e l env = pure false := by
  show swapsWith e (some (.Tuple ts kk p)) l env = pure false
  cases e <;> rfl
theorem sw_sub {e : Expr} {o i : Expr} {p : Pos} {l : Nat} {env : Env} : swapsWithSole [.Subscript o i p] e l env = pure false := by
  show swapsWith e (some (.Subscript o i p)) l env = pure false
  cases e <;> rfl
theorem locN_of (hX : ∀ x, locOnly sc x = true → X.env.scope.names.lookup x = some .local) (hN : X.N = c.N) : ∀ {ns : List Str} {is : List Nat}, allLoc sc ns = true → ixNs c.N ns = some is → LocN X ns is
  | [], _, _, h => by cases h; exact .nil
  | x :: ns, is, hl, h => by
    unfold allLoc at hl
    rw [List.all_cons, Bool.and_eq_true] at hl
    simp only [ixNs] at h
    split at h
    · rename_i i is' h1 h2
      cases h
      exact .cons (by rw [hN]; exact ixN_ok h1) (hX x hl.1) (locN_of hX hN hl.2 h2)
    · cases h
theorem locN_lt {ns : List Str} {is : List Nat} (h : LocN X ns is) : ∀ i, i ∈ is → i < X.N.length := by
  induction h with
  | nil => intro i hi; cases hi
  | cons h1 _ _ ih =>
    intro i hi
    rcases List.mem_cons.mp hi with rfl | hi
    · exact (List.getElem?_eq_some_iff.mp h1).1
    · exact ih i hi
/-- name = e -/
theorem ss_asg (g : CtxOk T X W c k sc) (st : StoOk X sc) {n : Nat} {x : Str} {px pos : Pos} {e : Expr} {i : Nat} {m : ME} (hl : locB sc x = true) (hx : ixN c.N x = some i) (he : evE n sc c e = some m) : SS T X W c.fx (.Assign [.Name x px] e pos) (asgS (nameG c.fx i) m) := by
  have hi : X.N[i]? = some x := by rw [g.hN]; exact ixN_ok hx
  have hlt : ∀ {σ : L2.St}, σ.length = X.N.length → i < σ.length := fun {σ} q => by rw [q, g.hN]; exact ixN_lt hx
  have hE := (sound_E n X W c k sc g e m he).1
  have plain : swapsWith e (some (.Name x px)) pos.line X.env = pure false → SS T X W c.fx (.Assign [.Name x px] e pos) (asgS (nameG c.fx i) m) := fun hs =>
    (ps_set g.nd hi (st x hl).1 hE hs (st x hl).2).weakenL fun D σ H q h => rd_asg (hlt q) h
  cases n with
  | zero => cases he
  | succ n =>
    cases e with
    | SetComp _ _ _ _ => cases he
    | DictComp _ _ _ _ _ => cases he
    | ListComp elt gens scope cpos =>
      by_cases hb : (X.env.blockKind == .function && X.env.kindOf x == some .local && px.line == (Expr.ListComp elt gens scope cpos).pos.line && !(scope.names.any fun (n, k) => n == x && (k == .local || k == .cell))) = true
      · have hs : swapsWith (.ListComp elt gens scope cpos) (some (.Name x px)) pos.line X.env = pure true := by
          show (pure _ : Sem Bool) = pure true
          rw [← hb]
        unfold evE at he
        split at he
        case h_18 =>
          rename_i elt' tg it ifs scope' pos' heq
          cases heq
          obtain ⟨hcalm, own, wi, gt, tt, te, P⟩ := parts_of g (sound_E n) he
          have hyl : X.env.scope.names.lookup x = some .local := by
            simp only [Bool.and_eq_true] at hb
            have := hb.1.1.2
            exact eq_of_beq this
          exact (ps_setLc hcalm g.nd hi hyl hs P.pi P.ok P.pg P.pt P.pe P.hs).weakenL fun D σ H q h => P.rd σ H _ (rd_asg (hlt q) h)
        all_goals first
          | (rename_i heq; cases heq; done)
          | (cases he; done)
          | skip
      · refine plain ?_
        show (pure _ : Sem Bool) = pure false
        have hb2 : (X.env.blockKind == .function && X.env.kindOf x == some .local && px.line == (Expr.ListComp elt gens scope cpos).pos.line && !(scope.names.any fun (n, k) => n == x && (k == .local || k == .cell))) = false := Bool.eq_false_iff.mpr hb
        rw [← hb2]
    | _ => exact plain rfl
/-- what a def's body stands in -/
structure BodyOk (T : LT) (X : Cx) (W : WX) (c : Cfg) (k : Nat) (sc : Scope) : Prop where
  cx : CtxOk T X W c k sc
  st : StoOk X sc
  bk : X.env.blockKind = .function
  po : c.calm = true → PassesOwn (model X.prog X.w) X.A X.env X.xe
  clo : c.clo = none
  exs : ∀ C, c.exs C = true → ∃ a, X.mg C = some (.ref a) ∧ ∀ p pos, Gl X C → PMk X (.Call (.Name C p) [] [] pos) (fun _ H Q => Q (.ref a) none H)
theorem sound_S : ∀ (n : Nat), BodyOk T X W c k sc → ∀ (s : Stmt) (m : MS), evS n sc c s = some m → SS T X W c.fx s m
  | 0, _, _, _, h => by cases h
  | n + 1, b, s, m, h => by
    have g := b.cx
    have ihE : ∀ {e : Expr} {m : ME}, evE n sc c e = some m → Both T X W e m := fun {e m} h => sound_E n X W c k sc g e m h
    have ihB : ∀ {b' : List Stmt} {m : MS}, o1 seqS (allO (b'.map (evS n sc c))) = some m → PSs X b' (RdS X.K T X.mg c.fx m W) := fun {b' m} h => by
      obtain ⟨ms, h1, rfl⟩ := o1_some h
      exact ss_block ((allO_each h1).imp fun s m h => sound_S n b s m h)
    unfold evS at h
    split at h
    · obtain ⟨x, h1, rfl⟩ := o1_some h
      exact (ps_ret (ihE h1).1).weaken fun _ _ _ q => rd_ret q
    · cases h
      exact ps_retN.weaken fun _ _ _ q => rd_retN q
    · rename_i e pos
      obtain ⟨hc, h'⟩ := iff_some h
      obtain ⟨x, h1, rfl⟩ := o1_some h'
      refine (ps_expr (ihE h1).1 ?_).weaken fun _ _ _ q => rd_expr q
      cases e <;> first | rfl | cases hc
    · obtain ⟨x, y, z, h1, h2, h3, rfl⟩ := o3_some h
      exact (ps_if (ihE h1).2 (ihB h2) (ihB h3)).weaken fun _ _ _ q => rd_ifS q
    · split at h
      · rename_i own ho
        obtain ⟨hs, h'⟩ := iff_some h
        rw [Bool.and_eq_true] at hs
        have hcalm := g.calm hs.1
        have hs2 := hs.2
        obtain ⟨x, y, z, h1, h2, h3, rfl⟩ := o3_some h'
        exact (ps_for (b.po hs.1) hcalm (se_iter g (fun e m h => (ihE h).1) h1) (se_tg g hcalm b.st h2 ho) (ihB h3) (folded_of (by simpa using hs2))).weaken fun _ _ _ q => rd_for q
      · cases h
    · obtain ⟨hcc, h'⟩ := iff_some h
      obtain ⟨x, y, h1, h2, rfl⟩ := o2_some h'
      exact (ps_while (b.po hcc) (ihE h1).2 (ihB h2)).weaken fun _ _ _ q => rd_while q
    · obtain ⟨hl, h'⟩ := iff_some h
      obtain ⟨i, x, h1, h2, rfl⟩ := o2_some h'
      exact ss_asg g b.st hl h1 h2
    · rename_i ts kk p e pos
      have tgt : ∀ {e : Expr} {x : ME} {own : List Nat} {t : MT}, ixNs c.N (tgN n (.Tuple ts kk p)) = some own → tgE n sc c (.Tuple ts kk p) = some t → X.calm = true → evE n sc c e = some x → swappedStores [.Tuple ts kk p] e X.env = pure none → SS T X W c.fx (.Assign [.Tuple ts kk p] e pos) (asgT t x) := fun {e x own t} h1 h2 hc h3 hw =>
        (ps_asg (ihE h3).1 (se_tg g hc b.st h2 h1) sw_tup hw rfl).weaken fun _ _ _ q => rd_asgT q
      split at h
      · rename_i es k2 p2
        have hloc : ∀ id, (X.env.kindOf id == some .local) = locOnly sc id := fun id => by
          show (X.env.scope.names.lookup id == some .local) = _
          rw [g.hsc]
          rfl
        split at h
        · rename_i ns hw
          obtain ⟨hb0, h'⟩ := iff_some h
          rw [Bool.and_eq_true, Bool.and_eq_true] at hb0
          have hcalm := g.calm hb0.1.1
          have hb : noStar es = true ∧ allLoc sc ns = true := ⟨hb0.1.2, hb0.2⟩
          obtain ⟨is, ms, h1, h2, rfl⟩ := o2_some h'
          have ln : LocN X ns is := locN_of (sc := sc) (fun x hx => by
            have := (hloc x).trans hx
            exact eq_of_beq this) g.hN hb.2 h1
          refine (ps_parN hcalm g.nd ln (swp_len hw) (pa_P ((allO_each h2).imp fun e m h => (ihE h).1) hb.1) (swp_ok b.bk hloc hw)).weakenL fun D σ H q h => rd_par (fun i hi => ?_) h
          rw [q]
          exact locN_lt ln i hi
        · rename_i hw
          split at h
          · rename_i ns hp
            split at h
            · rename_i is h1
              obtain ⟨hb, h'⟩ := iff_some h
              simp only [Bool.and_eq_true, decide_eq_true_eq] at hb
              obtain ⟨⟨⟨⟨hc0, hst⟩, hlc⟩, hnd⟩, hle⟩ := hb
              have hcalm := g.calm hc0
              obtain ⟨ms, h2, rfl⟩ := o1_some h'
              obtain ⟨hs, hlt⟩ := se_gnm g b.st hp hlc h1
              obtain ⟨q1, q2⟩ := assignEach_len (env := X.env) (plainN_star hp)
              have hlen : ts.length = is.length := plainN_len hp h1
              refine (ps_asg (pe_tup (pa_P ((allO_each h2).imp fun e m h => (ihE h).1) hst)) (pg_tup hcalm hs (q1.trans hlen) q2) sw_tup (swp_ok b.bk hloc hw) rfl).weakenL fun D σ H q h => rd_parT hnd hle (fun i hi => ?_) h
              rw [q]
              exact hlt i hi
            · cases h
          · split at h
            · rename_i own ho
              obtain ⟨hcc, h'⟩ := iff_some h
              obtain ⟨t, x, h1, h2, rfl⟩ := o2_some h'
              exact tgt ho h1 (g.calm hcc) h2 (swp_ok b.bk hloc hw)
            · cases h
        · cases h
      · rename_i e' hne
        split at h
        · rename_i own ho
          obtain ⟨hcc, h'⟩ := iff_some h
          obtain ⟨t, x, h1, h2, rfl⟩ := o2_some h'
          refine tgt ho h1 (g.calm hcc) h2 ?_
          cases e <;> first | rfl | exact absurd rfl (hne _ _ _)
        · cases h
    · rename_i x p i p2 e pos
      obtain ⟨hb, h'⟩ := iff_some h
      simp only [Bool.and_eq_true] at hb
      obtain ⟨⟨hv, d1⟩, d2⟩ := hb
      have d1 : (x == ("__debug__" : Str)) = false := by simpa using d1
      have d2 : (x == ("__classdict__" : Str)) = false := by simpa using d2
      obtain ⟨j, mi, me, h1, h2, h3, rfl⟩ := o3_some h'
      have po : PE X (.Name x p) (tVar j) := pe_var (by rw [g.hN]; exact ixN_ok h1) (g.vis hv) d1 d2
      refine (ps_asg (ihE h3).1 (pg_sub po (ihE h2).1 set_list (fun v => ?_)) sw_sub rfl rfl).weaken fun _ _ _ q => rd_seti q
      cases i with
      | Slice lo hi st p =>
        exfalso
        cases n with
        | zero => cases h2
        | succ n => cases h2
      | _ => rfl
    · obtain ⟨hl, h'⟩ := iff_some h
      obtain ⟨i, x, h1, h2, rfl⟩ := o2_some h'
      rename_i y p op e pos
      have hi : X.N[i]? = some y := by rw [g.hN]; exact ixN_ok h1
      refine (ps_aug g.nd hi (b.st y hl).1 (ihE h2).1 pip_aug (b.st y hl).2).weakenL fun D σ H q h => rd_aug ?_ h
      rw [q, g.hN]
      exact ixN_lt h1
    · rename_i C p pos pos2
      obtain ⟨hb, h'⟩ := iff_some h
      rw [Bool.and_eq_true, Bool.and_eq_true] at hb
      cases h'
      obtain ⟨a, hm, hp⟩ := b.exs C hb.2
      exact (ps_raise (g.calm hb.1.1) g.tk (hp _ _ (g.gl hb.1.2))).weaken fun _ _ _ q => rd_raise0 hm q
    · obtain ⟨_, h'⟩ := iff_some h
      rw [b.clo] at h'
      cases h'
    · cases h
      exact ps_pass.weaken fun _ _ _ q => rd_next q
    · cases h
      exact ps_break.weaken fun _ _ _ q => rd_brk q
    · cases h
      exact ps_continue.weaken fun _ _ _ q => rd_ct q
    · cases h
end
end Ev
end
section
set_option maxHeartbeats 4000000
/-! EvT1: try with several clauses, each of which names what it has caught. -/
namespace Ev
open PySem PySem.Spec PyProof.Rows L2

/-- what the clauses wish of an exception of the body -/
def wManyA (K : PySem.W.Frag) (Wout : WX) (D : Ends) : List (Value × Nat × (Addr → Value → Option Addr → TS)) → WX
  | [] => Wout
  | (c, i, ts) :: r => fun cls d σ H => ∃ b, PySem.W.exmOne K cls c = some b ∧ (b = true → ∀ a, H a = none → ts a cls d { nx := fun σ' H' => D.nx (σ'.set i none) H', rt := D.rt, bk := fun σ' H' => D.bk (σ'.set i none) H', ct := fun σ' H' => D.ct (σ'.set i none) H' } (σ.set i (some (.ref a))) H) ∧
    (b = false → wManyA K Wout D r cls d σ H)
inductive HdsA (X : Cx) : List ExceptHandler → List (Value × Nat × (Addr → Value → Option Addr → TS)) → Prop
  | nil : HdsA X [] []
  | cons {x n : Str} {i : Nat} {c : Value} {ts : Addr → Value → Option Addr → TS} {b₀ : Stmt} {suite : List Stmt} {np pos' : Pos} {hds : List ExceptHandler} {l : List (Value × Nat × (Addr → Value → Option Addr → TS))} (hc : Names X x c) (hi : X.N[i]? = some n) (hln : X.env.kindOf n = some .local)
      (hsu : ∀ (a : Addr) (oe : Obj) (cls : Value) (d : Option Addr) (pn : List (Addr × Obj)), Zc cls d oe → (∃ vs, oe.data = .fields vs) → PSs (X.suite a ((a, oe) :: pn)) (b₀ :: suite) (ts a cls d)) (r : HdsA X hds l) :
      HdsA X (.ExceptHandler (some (.Name x np)) (some n) (b₀ :: suite) pos' :: hds) ((c, i, ts) :: l)
section
variable {X : Cx} {body : List Stmt} {h₀ : ExceptHandler} {hds : List ExceptHandler} {l : List (Value × Nat × (Addr → Value → Option Addr → TS))} {pos : Pos} {tb : WX → TS} {Wout : WX}
theorem ps_try_mas (hs : X.stack = X.env :: X.outer) (hf : X.env.frame = some X.env.locals) (hN : X.N.Nodup) (tk : Takes X Wout)
    (hb : ∀ (W : WX) (pn : List (Addr × Obj)) (xe : Value → Shared → Prop), Takes (X.tr pn xe) W → PassesOwn (model X.prog X.w) X.A X.env xe → PSs (X.tr pn xe) body (tb W))
    (hh : HdsA X (h₀ :: hds) l) : PS X (.Try body (h₀ :: hds) [] [] pos) (fun D σ H => tb (wManyA X.K Wout D l) D σ H) := by
  refine ⟨fun pins s σ H D I h => ?_⟩
  have ok := I.ok
  have hfr : X.A.frames = some (X.env :: X.outer) := by rw [ok.frames, hs]
  refine wpAny_Try_except ?_
  refine wpAny_mono ((hb (wManyA X.K Wout D l) (X.pn ++ pins) (fun e s₁ => wpAny (model X.prog X.w) X.A (noteFrame e X.env) (fun _ s₂ => wpAny (model X.prog X.w) X.A (setFlight e none) (fun _ s₃ =>
    wpAny (model X.prog X.w) X.A (handleBy e X.env (h₀ :: hds)) (SP X pins D) X.xe s₃) X.xe s₂) X.xe s₁) (fun u s' xx => ?_) PassesOwn.looking).run [] s σ H D (I.toTry _) h) (fun f s1 hsp => ?_) (fun e s1 he => he)
  · obtain ⟨a, B, sI, pins', σ', H', cls, d, rfl, J', nb, up, sky, na, os, ag, w⟩ := xx
    have J : Inv X pins σ' H' sI := J'.ofTry ok
    have sky' : Sky B (X.env :: X.outer) a (Zc cls d) X.env.locals s'.heap := by rw [← hs]; exact sky
    show wpAny (model X.prog X.w) X.A (noteFrame (.ref a) X.env) _ _ _
    refine Sky.land Zc.steady hfr hf sky' fun h3 fl3 up3 => ?_
    have J3 : Inv X pins σ' H' { s' with heap := h3 } := J.landed nb fl3.1 (up.trans up3) os ag
    obtain ⟨oe3, vs3, he3, hz3, hd3⟩ := fl3.there
    have notFr : ∀ {h : Heap} {o : Obj} {vs : Array Value}, h.FunFrames B (X.env :: X.outer) → h.get? a = some o → o.data = .fields vs → a ∉ frs (X.env :: X.outer) := fun {h o vs} ff e dd hm => by
      obtain ⟨_, o', e', hnf⟩ := ff.mem hm
      rw [e] at e'; cases e'
      exact hnf _ dd
    have nfr := notFr fl3.2.2.1 he3 hd3
    have nL : a ≠ X.env.locals := fun z => nfr (List.mem_filterMap.mpr ⟨X.env, List.mem_cons_self, by rw [hf, z]⟩)
    have nF : a ∉ X.fs := fun hm => by
      obtain ⟨e, he, q⟩ := List.mem_filterMap.mp hm
      exact nfr (List.mem_filterMap.mpr ⟨e, List.mem_cons_of_mem _ he, q⟩)
    have S3 := J3.suite he3 hd3 na nL nF
    have go : ∀ {hds' : List ExceptHandler} {l' : List (Value × Nat × (Addr → Value → Option Addr → TS))}, HdsA X hds' l' → wManyA X.K Wout D l' cls d σ' H' →
        wpAny (model X.prog X.w) X.A (handleBy (.ref a) X.env hds') (SP X pins D) X.xe { s' with heap := h3 } := by
      intro hds' l' hk
      induction hk with
      | nil =>
        intro w
        refine wpAny_handleBy_nil ?_
        obtain ⟨k1, k2, k3, oe, vs, T, oT, ts', he, hz, hd, h1, hr⟩ := id fl3
        unfold PySem.passOn
        refine wpAny_bind (wpAny_field he hd h1 ?_)
        rw [if_neg (show ¬ ((Value.ref T == Value.none) = true) from by simp)]
        have fin : wpAny (model X.prog X.w) X.A (setFlight (.ref a) X.env.frame) (fun _ s4 => wpAny (model X.prog X.w) X.A (throw (.ref a) : Sem Flow) (SP X pins D) X.xe s4) X.xe { s' with heap := h3 } := by
          rw [hf]
          refine HandSPX.setFlight_upZ fl3 fun h4 hh4 up4 => wpAny_throw (tk _ _ ?_)
          exact ⟨a, B, sI, pins, σ', H', cls, d, rfl, J, nb, (up.trans up3).trans up4, .inr (.inr (by rw [hs]; exact hh4)), na, os, ag, w⟩
        first
          | exact wpAny_bind (wpAny_pure (wpAny_bind fin))
          | exact wpAny_bind fin
      | @cons x n i c ts b₀ suite np pos' hds2 l2 hc hi hln hsu r ih =>
        intro w
        obtain ⟨b, hb1, hyes, hno⟩ := w
        refine wpAny_handleBy_cons (codeAny_handlers_test ?_) (by intro q; cases q)
        have LT : PySem.W.Looks (model X.prog X.w) h3 (typeOf (.ref a)) cls := fun A Q E s k q => wpAny_typeOf_ref (k _ _ he3) (by rw [hz3.1]; exact q)
        have LM := PySem.W.exm_one (M := model X.prog X.w) (J3.kIn) LT hb1
        have test : ∀ {Q : Value → Shared → Prop} {E : Value → Shared → Prop}, Q c { s' with heap := h3 } → wpAny (model X.prog X.w) (X.A.mark (some (.ref a))) (eval (.Name x np) X.env) Q E { s' with heap := h3 } := fun {Q E} q => by
          obtain ⟨hg, hdbg, hm | ⟨hm, hv, hnn⟩⟩ := hc
          · exact ld_glob (X := X.suite a ((a, oe3) :: (X.pn ++ pins))) S3 hg hm q hdbg
          · exact ld_blt (X := X.suite a ((a, oe3) :: (X.pn ++ pins))) S3 hg hm hv q hnn hdbg
        refine test (LM.here ?_)
        cases b with
        | true =>
          refine codeAny_handlers_suite_as ?_
          refine HandSPX.lands_againZ fl3 fun h4 fl4 up4 => ?_
          have J4 : Inv X pins σ' H' { s' with heap := h4 } := J.landed nb fl4.1 ((up.trans up3).trans up4) os ag
          obtain ⟨oe4, vs4, he4, hz4, hd4⟩ := fl4.there
          have S4 := J4.suite he4 hd4 na nL nF
          refine store_ok (X := X.suite a ((a, oe4) :: (X.pn ++ pins))) (v := .ref a) S4 hN hi (.inl hln) rfl (fun s5 S5 => ?_) (.inr hln)
          refine wpAny_mono ((hsu a oe4 cls d (X.pn ++ pins) hz4 ⟨_, hd4⟩).run [] s5 _ H' _ S5 (hyes rfl a na)) (fun f s6 hsp => ?_) (fun _ _ z => False.elim z)
          have end_ : ∀ {σ6 : L2.St} {H6 : Hp} {Q : Shared → Prop}, Inv (X.suite a ((a, oe4) :: (X.pn ++ pins))) [] σ6 H6 s6 → (∀ s7, Inv X pins (σ6.set i none) H6 s7 → Q s7) →
              wpAny (model X.prog X.w) X.A (do bindName X.env n .none; unbindBehindTheSuite X.env n pos') (fun _ s7 => Q s7) X.xe s6 := fun {σ6 H6 Q} S6 hq => gone_ok (S6.unsuite ok) hN hi hln hq
          cases f with
          | next =>
            obtain ⟨σ6, H6, S6, q6⟩ := hsp
            exact end_ S6 fun s7 J7 => ⟨_, _, J7, q6⟩
          | brk =>
            obtain ⟨σ6, H6, S6, q6⟩ := hsp
            exact end_ S6 fun s7 J7 => ⟨_, _, J7, q6⟩
          | cont =>
            obtain ⟨σ6, H6, S6, q6⟩ := hsp
            exact end_ S6 fun s7 J7 => ⟨_, _, J7, q6⟩
          | ret u =>
            obtain ⟨v6, σ6, H6, S6, r6, q6⟩ := hsp
            exact end_ S6 fun s7 J7 => ⟨_, _, _, J7, r6, q6⟩
        | false =>
          show wpAny _ X.A (handleBy (.ref a) X.env hds2) _ _ _
          exact ih (hno rfl)
    exact go hh w
  · cases f with
    | next =>
      obtain ⟨σ', H', J', q⟩ := hsp
      exact wpAny_execs_nil ⟨σ', H', J'.ofTry ok, q⟩
    | brk =>
      obtain ⟨σ', H', J', q⟩ := hsp
      exact ⟨σ', H', J'.ofTry ok, q⟩
    | cont =>
      obtain ⟨σ', H', J', q⟩ := hsp
      exact ⟨σ', H', J'.ofTry ok, q⟩
    | ret u =>
      obtain ⟨v, σ', H', J', r, q⟩ := hsp
      exact ⟨v, σ', H', J'.ofTry ok, r, q⟩
end
end Ev
end
section
set_option maxHeartbeats 4000000
/-! EvT2: a def that calls the lambda that it gets, within a try. -/
namespace Ev
open PySem PySem.Spec PyProof.Rows L2
variable {T : LT}

/-- the same, an exception held -/
def LT.hold (T : LT) (a : Addr) (cls : Value) (d : Option Addr) : LT := { T with exc := some (a, cls, d) }
section
variable {K : PySem.W.Frag} {mg : Str → Option Value} {W : WX} {e : Sl} {σ σ1 : L2.St} {H H1 : Hp} {Z Z1 G : Addr → Prop} {D : Ends} {fx : List Nat}
theorem gt_noEx : ∀ {e : Sl} {i : Nat} {sv : Sv}, gt (noEx e) i = some sv → gt e i = some sv ∧ ∀ x, sv ≠ .ex x
  | [], i, sv, h => by rw [show noEx [] = [] from rfl, gt_nil] at h; cases h
  | x :: r, 0, sv, h => by
    cases x with
    | none => cases h
    | some y =>
      cases y with
      | im d => cases h; exact ⟨rfl, fun x z => by cases z⟩
      | ol d => cases h; exact ⟨rfl, fun x z => by cases z⟩
      | od d => cases h; exact ⟨rfl, fun x z => by cases z⟩
      | ex d => cases h
  | x :: r, i + 1, sv, h => by
    have h : gt (noEx r) i = some sv := by
      cases x with
      | none => exact h
      | some y => cases y <;> exact h
    exact gt_noEx (e := r) h
/-- what is held is let go -/
theorem StOk.unhold {a : Addr} {cls : Value} {d : Option Addr} (s : StOk K (T.hold a cls d) e σ H Z G) (j : Nat) : StOk K T (pt (noEx e) j none) σ H Z G ∧ StOk K T (pt (noEx e) j none) (σ.set j none) H Z G := by
  have back : ∀ {i : Nat} {sv : Sv}, gt (pt (noEx e) j none) i = some sv → i ≠ j ∧ gt e i = some sv ∧ ∀ x, sv ≠ .ex x := fun {i sv} q => by
    rcases gt_pt q with ⟨_, z⟩ | ⟨hi, z⟩
    · cases z
    · obtain ⟨h1, h2⟩ := gt_noEx z; exact ⟨hi, h1, h2⟩
  have sv' : ∀ {v : V} {sv : Sv}, (∀ x, sv ≠ .ex x) → SvOk K (T.hold a cls d) Z G H v sv → SvOk K T Z G H v sv := fun {v sv} n h => by
    cases sv with
    | im d => exact h
    | ol d => exact h
    | od d => exact h
    | ex x => exact absurd rfl (n x)
  constructor
  · refine ⟨s.tb, s.zs, s.gs, fun i sv q => ?_, fun i k si sk w q1 q2 o1 o2 e1 e2 => ?_⟩
    · obtain ⟨_, h1, h2⟩ := back q
      obtain ⟨v, h3, h4⟩ := s.sl i sv h1
      exact ⟨v, h3, sv' h2 h4⟩
    · exact s.inj i k si sk w (back q1).2.1 (back q2).2.1 o1 o2 e1 e2
  · refine ⟨s.tb, s.zs, s.gs, fun i sv q => ?_, fun i k si sk w q1 q2 o1 o2 e1 e2 => ?_⟩
    · obtain ⟨hi, h1, h2⟩ := back q
      obtain ⟨v, h3, h4⟩ := s.sl i sv h1
      exact ⟨v, by rw [set_ne hi]; exact h3, sv' h2 h4⟩
    · obtain ⟨h1, p1, _⟩ := back q1
      obtain ⟨h2, p2, _⟩ := back q2
      rw [set_ne h1] at e1
      rw [set_ne h2] at e2
      exact s.inj i k si sk w p1 p2 o1 o2 e1 e2
theorem bare_nothing {n : Nat} (b : StOk K T [] [] H Z G) : StOk K T (List.replicate n none) σ H Z G :=
  ⟨b.tb, b.zs, b.gs, fun i sv q => (by rw [gt_repl'] at q; cases q), fun i j si sj v q => (by rw [gt_repl'] at q; cases q)⟩
where gt_repl' : ∀ {m i : Nat}, gt (List.replicate m (none : Option Sv)) i = none
  | 0, i => gt_nil
  | m + 1, 0 => rfl
  | m + 1, i + 1 => by rw [List.replicate_succ]; exact gt_repl' (m := m) (i := i)
/-- a statement ahead, in which the first slot stands -/
theorem PostS.bindF {r : SR} {k : Sl → SR} (h : PostS K T mg W [] σ Z G H D (r.bind k)) :
    PostS K T mg W [0] σ Z G H { D with nx := fun σ' H' => ∃ e' Z', Le Z H Z' H' ∧ KeepG G H H' ∧ SameF [0] σ σ' ∧ StOk K T e' σ' H' Z' G ∧ PostS K T mg W [] σ' Z' G H' D (k e') } r := by
  have w : ∀ {σ' : L2.St}, SameF [0] σ σ' → SameF [] σ σ' := fun f => ⟨f.1, fun i z => by cases z⟩
  cases r with
  | nx e => exact fun σ' H' Z' l kk f s => ⟨e, Z', l, kk, f, s, PostS.trans l kk (w f) h⟩
  | ct e => exact fun σ' H' Z' l kk f s => h σ' H' Z' l kk (w f) s
  | bk e => exact fun σ' H' Z' l kk f s => h σ' H' Z' l kk (w f) s
  | rt o e => exact fun v σ' H' Z' l kk f s => h v σ' H' Z' l kk (w f) s
  | er x e => exact fun cls d σ' H' Z' l kk f s x => h cls d σ' H' Z' l kk (w f) s x
  | bad => exact h
theorem PostS.bind0 {r : SR} {k : Sl → SR} (h : PostS K T mg W [] σ Z G H D (r.bind k)) :
    PostS K T mg W [] σ Z G H { D with nx := fun σ' H' => ∃ e' Z', StOk K T e' σ' H' Z' G ∧ PostS K T mg W [] σ' Z' G H' D (k e') } r := by
  cases r with
  | nx e => exact fun σ' H' Z' l kk f s => ⟨e, Z', s, PostS.trans l kk f h⟩
  | ct e => exact h
  | bk e => exact h
  | rt o e => exact h
  | er x e => exact h
  | bad => exact h
/-- statements ahead of the try -/
def tPre (K : PySem.W.Frag) (T : LT) (mg : Str → Option Value) : List MS → TS → TS
  | [], u => u
  | m :: ms, u => tSeq (RdS K T mg [0] m WF) (tPre K T mg ms u)
theorem seqS_cons {m : MS} {ms : List MS} {e : Sl} {k : Sl → SR} : (seqS (m :: ms) e).bind k = (m e).bind fun e1 => (seqS ms e1).bind k := by
  cases ms with
  | nil =>
    show (m e).bind k = _
    cases m e <;> rfl
  | cons m' ms =>
    show ((m e).bind (seqS (m' :: ms))).bind k = _
    cases m e <;> rfl
theorem pre_ok {Z0 : Addr → Prop} {H0 : Hp} {σ0 : L2.St} {u : TS} {k : Sl → SR}
    (hu : ∀ e' σ' H' Z', Le Z0 H0 Z' H' → KeepG G H0 H' → SameF [0] σ0 σ' → StOk K T e' σ' H' Z' G → PostS K T mg WF [] σ' Z' G H' D (k e') → u D σ' H') :
    ∀ {ms : List MS} {e : Sl} {σ : L2.St} {H : Hp} {Z : Addr → Prop}, Le Z0 H0 Z H → KeepG G H0 H → SameF [0] σ0 σ → StOk K T e σ H Z G → PostS K T mg WF [] σ Z G H D ((seqS ms e).bind k) → tPre K T mg ms u D σ H
  | [], e, σ, H, Z, l, kk, f, s, h => hu e σ H Z l kk f s h
  | m :: ms, e, σ, H, Z, l, kk, f, s, h => by
    rw [seqS_cons] at h
    refine ⟨e, Z, G, s, ?_⟩
    have h2 := PostS.bindF h
    cases q : m e with
    | nx e1 =>
      rw [q] at h2
      intro σ' H' Z' l' k' f' s'
      obtain ⟨e2, Z2, l2, k2, f2, s2, h3⟩ := h2 σ' H' Z' l' k' f' s'
      exact pre_ok hu (l.trans l2) (kk.trans k2) (f.trans f2) s2 h3
    | ct e1 => rw [q] at h2; exact h2
    | bk e1 => rw [q] at h2; exact h2
    | rt o e1 => rw [q] at h2; exact h2
    | er x e1 => rw [q] at h2; exact h2
    | bad => rw [q] at h2; exact h2
theorem pss_pre {X : Cx} {pre : List Stmt} {ms : List MS} {rest : List Stmt} {u : TS} (h : Each (SS T X WF [0]) pre ms) (hr : PSs X rest u) : PSs X (pre ++ rest) (tPre X.K T X.mg ms u) := by
  induction h with
  | nil => exact hr
  | cons h _ ih => exact pss_cons h ih
end
end Ev
end
section
set_option maxHeartbeats 4000000
/-! EvT3: the try of a def that calls a lambda; the def gives what the evaluator says. -/
namespace Ev
open PySem PySem.Spec PyProof.Rows L2
variable {T : LT}

/-- a clause's suite, by the evaluator -/
def tSuite (K : PySem.W.Frag) (T : LT) (mg : Str → Option Value) (n : Nat) (m : MS) : Addr → Value → Option Addr → TS := fun a cls d D σ H => σ.length = n → RdS K (T.hold a cls d) mg [] m WF D σ H
/-- what is known of classes -/
def SubOk (K : PySem.W.Frag) (mg : Str → Option Value) (sub : Str → Str → Option Bool) : Prop :=
  ∀ x y b, sub x y = some b → ∃ D, mg x = some (.ref D) ∧ ExcC K D ∧ ∃ cv, ClsIs mg y cv ∧ PySem.W.kitOne K (.ref D) cv = some b ∧ PySem.W.exmOne K (.ref D) cv = some b
/-- clauses as the evaluator has them, and as the rule wants them -/
inductive Clauses (K : PySem.W.Frag) (T : LT) (mg : Str → Option Value) (n : Nat) : List (Str × Nat × MS) → List (Value × Nat × (Addr → Value → Option Addr → TS)) → Prop
  | nil : Clauses K T mg n [] []
  | cons {C : Str} {j : Nat} {m : MS} {cv : Value} {hs l} : ClsIs mg C cv → j < n → Clauses K T mg n hs l → Clauses K T mg n ((C, j, m) :: hs) ((cv, j, tSuite K T mg n m) :: l)
theorem clsIs_inj {mg : Str → Option Value} {y : Str} {a b : Value} (h : ClsIs mg y a) (h' : ClsIs mg y b) : a = b := by
  rcases h with ⟨C, rfl, h⟩ | ⟨t, rfl, h, q⟩
  · rcases h' with ⟨C', rfl, h'⟩ | ⟨t', rfl, h', q'⟩
    · rw [h] at h'; cases h'; rfl
    · rw [h] at h'; cases h'
  · rcases h' with ⟨C', rfl, h'⟩ | ⟨t', rfl, h', q'⟩
    · rw [h] at h'; cases h'
    · rw [q] at q'; cases q'; rfl
section
variable {K : PySem.W.Frag} {mg : Str → Option Value} {sub : Str → Str → Option Bool} {n : Nat} {σ : L2.St} {H : Hp} {Z G : Addr → Prop} {D : Ends} {x : Exc}
theorem bare_hold {a : Addr} {cls : Value} {d : Option Addr} (b : StOk K T [] [] H Z G) : StOk K (T.hold a cls d) [] [] H Z G :=
  ⟨b.tb, b.zs, b.gs, fun i sv q => (by rw [gt_nil] at q; cases q), fun i j si sj v q => (by rw [gt_nil] at q; cases q)⟩
/-- the clauses take what is raised -/
theorem clauses_ok (hmg : T.mg = mg) (hsub : SubOk K mg sub) (hl : σ.length = n) {hs : List (Str × Nat × MS)} {l : List (Value × Nat × (Addr → Value → Option Addr → TS))} (hc : Clauses K T mg n hs l) :
    PostS K T mg WF [] σ Z G H D (tryH sub x n hs) → ∀ (cls : Value) (dd : Option Addr) (σ2 : L2.St) (H2 : Hp) (Z2 : Addr → Prop), Le Z H Z2 H2 → KeepG G H H2 → StOk K T [] [] H2 Z2 G → ExOk K mg Z2 x cls dd H2 → wManyA K WF D l cls dd σ2 H2 := by
  induction hc with
  | nil => exact fun h => h.elim
  | @cons C j m cv hs l hcv hj _ ih =>
    intro h cls dd σ2 H2 Z2 l2 k2 b ex
    simp only [tryH] at h
    obtain ⟨D', hD, ecls, _⟩ := id ex
    cases hsb : sub x.cls C with
    | none => rw [hsb] at h; exact h.elim
    | some bb =>
      obtain ⟨D2, hD2, _, cv2, hcv2, _, hex⟩ := hsub _ _ _ hsb
      rw [hD] at hD2; cases hD2
      have := clsIs_inj hcv hcv2
      subst this
      subst ecls
      refine ⟨bb, hex, fun hbb a na => ?_, fun hbb => ?_⟩
      · subst hbb
        rw [hsb] at h
        simp only at h
        intro hlen
        have hlen2 : σ2.length = n := by simpa using hlen
        have sj : StOk K (T.hold a (.ref D') dd) (pt (List.replicate n none) j (some (.ex x))) (σ2.set j (some (.ref a))) H2 Z2 G := by
          have b2 := bare_nothing (n := n) (σ := σ2) (bare_hold (a := a) (cls := .ref D') (d := dd) b)
          refine ⟨b2.tb, b2.zs, b2.gs, fun i sv q => ?_, fun i k si sk w q1 q2 o1 => ?_⟩
          · rcases gt_pt q with ⟨rfl, z⟩ | ⟨_, z⟩
            · cases z
              refine ⟨.ref a, List.getElem?_set_self (by omega), a, .ref D', dd, rfl, rfl, ?_⟩
              show ExOk K T.mg Z2 x (.ref D') dd H2
              rw [hmg]
              exact ex
            · rw [bare_nothing.gt_repl'] at z; cases z
          · rcases gt_pt q1 with ⟨rfl, z⟩ | ⟨_, z⟩
            · cases z; cases o1
            · rw [bare_nothing.gt_repl'] at z; cases z
        refine ⟨_, Z2, G, sj, ?_⟩
        have f0 : ∀ {σ4 : L2.St}, SameF [] (σ2.set j (some (V.ref a))) σ4 → SameF [] σ σ4 := fun {σ4} f => ⟨by rw [f.1, List.length_set, hlen2, hl], fun i z => by cases z⟩
        have f1 : ∀ {σ4 : L2.St}, SameF [] (σ2.set j (some (V.ref a))) σ4 → SameF [] σ (σ4.set j none) := fun {σ4} f => ⟨by rw [List.length_set, f.1, List.length_set, hlen2, hl], fun i z => by cases z⟩
        cases qm : m (pt (List.replicate n none) j (some (.ex x))) with
        | nx e4 =>
          rw [qm] at h
          exact fun σ4 H4 Z4 l4 k4 f4 s4 => h _ H4 Z4 (l2.trans l4) (k2.trans k4) (f1 f4) (s4.unhold j).2
        | ct e4 =>
          rw [qm] at h
          exact fun σ4 H4 Z4 l4 k4 f4 s4 => h _ H4 Z4 (l2.trans l4) (k2.trans k4) (f1 f4) (s4.unhold j).2
        | bk e4 =>
          rw [qm] at h
          exact fun σ4 H4 Z4 l4 k4 f4 s4 => h _ H4 Z4 (l2.trans l4) (k2.trans k4) (f1 f4) (s4.unhold j).2
        | bad => rw [qm] at h; exact h.elim
        | er y e4 =>
          rw [qm] at h
          exact fun cls d σ4 H4 Z4 l4 k4 f4 s4 ex4 => h cls d σ4 H4 Z4 (l2.trans l4) (k2.trans k4) (f0 f4) (s4.unhold j).1 ex4
        | rt o e4 =>
          rw [qm] at h
          exact fun v σ4 H4 Z4 l4 k4 f4 x4 => h v σ4 H4 Z4 (l2.trans l4) (k2.trans k4) (f0 f4) ⟨(x4.st.unhold j).1, by
            have := x4.ok
            cases o with
            | im d => exact this
            | tl d => exact this
            | td d => exact this
            | bor i => exact this, x4.ne⟩
      · subst hbb
        rw [hsb] at h
        exact ih h (.ref D') dd σ2 H2 Z2 l2 k2 b ex
end
section
/-- the try, with its call: what is wanted of it -/
def tTryB (K : PySem.W.Frag) (ret : Bool) (f c' : Addr) (q : Str) (tl : XK → Hp → VK → Prop) : WX → TS := fun W D σ H => ∃ Ech : XK, (∀ cls d σ' H', Ech cls d H' → W cls d σ' H') ∧ σ[0]? = some (some (.ref f)) ∧ H c' = some (LamX.CodeO c' q) ∧ tl Ech H (if ret then D.rt else fun _ H1 => D.nx σ H1)
theorem pss_tryB {X : Cx} {b : Stmt} {ret : Bool} {f c' : Addr} {q a : Str} {tl : XK → Hp → VK → Prop} {W : WX} {c : Cfg} (hb : tryB c b = some ret) (hN : c.N.head? = some a)
    (act : ∀ (E : XK) (p1 p2 : Pos), (∀ cls d σ' H', E cls d H' → W cls d σ' H') → PE X (.Call (.Name a p1) [] [] p2) (fun σZ HZ Q => σZ[0]? = some (some (.ref f)) ∧ HZ c' = some (LamX.CodeO c' q) ∧ tl E HZ Q)) : PSs X [b] (tTryB X.K ret f c' q tl W) := by
  unfold tryB at hb
  split at hb
  · rename_i a' p1 p2 p3
    obtain ⟨h1, h2⟩ := iff_some hb
    cases h2
    have : a' = a := by
      have h1 := eq_of_beq h1
      rw [hN] at h1
      exact (Option.some.inj h1).symm
    subst this
    refine ⟨fun pins s σ H D I h => ?_⟩
    obtain ⟨Ech, hW, h3, h4, h5⟩ := h
    exact (pss_one (ps_expr (act Ech p1 p2 hW) rfl)).run pins s σ H D I ⟨h3, h4, h5⟩
  · rename_i a' p1 p2 p3
    obtain ⟨h1, h2⟩ := iff_some hb
    cases h2
    have : a' = a := by
      have h1 := eq_of_beq h1
      rw [hN] at h1
      exact (Option.some.inj h1).symm
    subst this
    refine ⟨fun pins s σ H D I h => ?_⟩
    obtain ⟨Ech, hW, h3, h4, h5⟩ := h
    exact (pss_one (ps_ret (act Ech p1 p2 hW))).run pins s σ H D I ⟨h3, h4, h5⟩
  · cases hb
/-- what is known where a def that calls a lambda runs -/
structure LmOk (K : PySem.W.Frag) (mg : Str → Option Value) (c : Cfg) : Prop where
  blt : ∀ f, f ∈ bltNames → mg f = none
  cst : ∀ x d, c.cst x = some d → ∃ u v, mg x = some u ∧ RelV v u ∧ ∀ Z H, EncD K Z H v d
  sub : SubOk K mg c.sub
theorem ctx_lm {X : Cx} {c : Cfg} {d : Df} {k : Nat} {fx : List Nat} {W : WX} (M : LmOk X.K X.mg c) (hs : X.env.scope = d.sc) (hN : X.N = d.N) (nd : X.N.Nodup) (hc : X.calm = true) (tk : Takes X W) (hr : Room k X.A) : CtxOk T X W { lmCfg c d with fx := fx } k d.sc where
  hsc := hs
  hN := hN
  nd := nd
  calm := fun _ => hc
  tk := tk
  room := fun _ => hr
  un := by have := hr.un; omega
  fns := fun f br F h => by cases h
  blt := M.blt
  cst := M.cst
  fns2 := fun f br F h => by cases h
  tab := fun h => by cases h
  lams := fun g L h => by cases h
  hot := fun h => by cases h
  sub := M.sub
theorem ctx_suite {X : Cx} {c : Cfg} {d : Df} {k : Nat} {a : Addr} {oe : Obj} {cls : Value} {dd : Option Addr} {pn : List (Addr × Obj)} (hT : T.mg = X.mg) (M : LmOk X.K X.mg c) (hs : X.env.scope = d.sc) (hN : X.N = d.N) (nd : X.N.Nodup) (hr : Room k X.A) (hz : Zc cls dd oe) (hf : ∃ vs, oe.data = .fields vs) :
    CtxOk (T.hold a cls dd) (X.suite a ((a, oe) :: pn)) WF { lmCfg c d with clo := none, calm := false, hot := true } k d.sc where
  hsc := hs
  hN := hN
  nd := nd
  calm := fun h => by cases h
  tk := fun u s' ⟨_, _, _, _, _, _, _, _, _, _, _, _, _, _, _, _, w⟩ => w.elim
  room := fun h => by cases h
  un := by have := hr.un; show X.A.units + 66 < cLine; omega
  fns := fun f br F h => by cases h
  blt := M.blt
  cst := M.cst
  fns2 := fun f br F h => by cases h
  tab := fun h => by cases h
  lams := fun g L h => by cases h
  hot := fun _ => ⟨a, oe, cls, dd, pn, X, rfl, hT, rfl, hz, hf⟩
  sub := M.sub
end
end Ev
end
section
set_option maxHeartbeats 4000000
/-! EvT4: a def that calls the lambda that it gets does what the evaluator says. -/
namespace Ev
open PySem PySem.Spec PyProof.Rows L2
variable {T : LT}

theorem _root_.L2.PSs.weakenL {X : Cx} {st : List Stmt} {t t' : TS} (h : PSs X st t) (w : ∀ D σ H, σ.length = X.N.length → t' D σ H → t D σ H) : PSs X st t' := ⟨fun pins s σ H D I q => h.run pins s σ H D I (w D σ H I.len q)⟩
section
variable {X : Cx} {c : Cfg} {d : Df} {k n : Nat}
/-- one clause -/
def hdlr (n : Nat) (sc : Scope) (c : Cfg) : ExceptHandler → Option (Str × Nat × MS) := fun h => match h with
  | .ExceptHandler (some (.Name C _)) (some y) (s₀ :: ss) _ => iff (glB sc C && locOnly sc y && (c.sub C C).isSome) (o2 (fun j ms => (C, j, seqS ms)) (ixN c.N y) (allO ((s₀ :: ss).map (evS n sc { c with fx := [], calm := false, hot := true, clo := none }))))
  | _ => none
theorem try_is {r : LRes} {b : Stmt} {h₀ : ExceptHandler} {hs : List ExceptHandler} {pos : Pos} {m : MS} (hr : c.clo = some r) (hc : c.calm = true) {sc : Scope} (h : evS (n + 1) sc c (.Try [b] (h₀ :: hs) [] [] pos) = some m) :
    ∃ ret hs', tryB c b = some ret ∧ Each (fun h x => hdlr n sc c h = some x) (h₀ :: hs) hs' ∧ m = tryS c.N.length ret r c.sub hs' := by
  unfold evS at h
  simp only [hr, hc] at h
  obtain ⟨ret, hs', h1, h2, rfl⟩ := o2_some (show o2 (fun ret hs => tryS c.N.length ret r c.sub hs) (tryB c b) (allO ((h₀ :: hs).map (hdlr n sc c))) = some m from h)
  exact ⟨ret, hs', h1, allO_each h2, rfl⟩
theorem hdsA_of (hT : T.mg = X.mg) (M : LmOk X.K X.mg c) (hs : X.env.scope = d.sc) (hN : X.N = d.N) (nd : X.N.Nodup) (hr : Room k X.A) (hfn : ∀ x, X.fn x = true) (hbk : X.env.blockKind = .function) {cc : Cfg} (hcc : cc = { lmCfg c d with clo := cc.clo }) :
    ∀ {es : List ExceptHandler} {hs' : List (Str × Nat × MS)}, Each (fun h x => hdlr n d.sc cc h = some x) es hs' → ∃ l, HdsA X es l ∧ Clauses X.K T X.mg d.N.length hs' l := by
  intro es hs' h
  induction h with
  | nil => exact ⟨[], .nil, .nil⟩
  | @cons e y es ys h _ ih =>
    obtain ⟨l, ih1, ih2⟩ := ih
    unfold hdlr at h
    split at h
    · rename_i C np y' s₀ ss pos'
      obtain ⟨hb, h'⟩ := iff_some h
      rw [Bool.and_eq_true, Bool.and_eq_true] at hb
      obtain ⟨⟨hg, hl⟩, hsub⟩ := hb
      obtain ⟨j, ms, hj, hms, rfl⟩ := o2_some h'
      rw [hcc] at hj hms hsub
      obtain ⟨bb, hbb⟩ := Option.isSome_iff_exists.mp hsub
      obtain ⟨D, hD, _, cv, hcv, _⟩ := M.sub C C bb hbb
      obtain ⟨gl1, gl2, gl3⟩ := glB_ok hg
      have nm : Names X C cv := by
        refine ⟨?_, gl2, ?_⟩
        · show X.env.scope.names.lookup C = _
          rw [hs]; exact gl1
        · rcases hcv with ⟨C', rfl, hm⟩ | ⟨t, rfl, hm, hbt⟩
          · exact .inl hm
          · exact .inr ⟨hm, hbt, gl3⟩
      have hj' : d.N[j]? = some y' := ixN_ok hj
      refine ⟨_, .cons nm (by rw [hN]; exact hj') ?_ (fun a oe cls dd pn hz hf => ?_) ih1, .cons hcv (ixN_lt hj) ih2⟩
      · show X.env.scope.names.lookup y' = _
        rw [hs]
        exact eq_of_beq hl
      · have cx := ctx_suite (T := T) (k := k) (a := a) (oe := oe) (cls := cls) (dd := dd) (pn := pn) hT M hs hN nd hr hz hf
        have b : BodyOk (T.hold a cls dd) (X.suite a ((a, oe) :: pn)) WF { lmCfg c d with clo := none, calm := false, hot := true } k d.sc :=
          { cx := cx
            st := fun x h => ⟨by show L2.Loc X.env.scope x; rw [hs]; exact locB_ok h, .inl (hfn x)⟩
            bk := hbk
            po := fun h => by cases h
            clo := rfl
            exs := fun C h => by cases h }
        have blk := ss_block (X := X.suite a ((a, oe) :: pn)) (fx := []) (T := T.hold a cls dd) (W := WF) ((allO_each hms).imp fun s m h => sound_S n b s m h)
        exact blk.weakenL fun D σ H hlen q => q (hlen.trans (congrArg List.length hN))
    · cases h
theorem splitT_app : ∀ (l : List Stmt), l = (splitT l).1 ++ (splitT l).2 ∧ ∀ t r, (splitT l).2 = t :: r → isTry t = true
  | [] => ⟨rfl, fun t r h => by cases h⟩
  | s :: l => by
    obtain ⟨h1, h2⟩ := splitT_app l
    unfold splitT
    split
    · rename_i hs
      exact ⟨rfl, fun t r h => by cases h; exact hs⟩
    · exact ⟨congrArg (s :: ·) h1, h2⟩
theorem try_shape {sc : Scope} {t : Stmt} {m : MS} (ht : isTry t = true) (h : evS (n + 1) sc c t = some m) : ∃ b h₀ hs pos, t = .Try [b] (h₀ :: hs) [] [] pos := by
  cases t <;> first | (cases ht; done) | skip
  rename_i body hs o f pos
  unfold evS at h
  split at h
  all_goals first
    | (rename_i heq; cases heq; done)
    | (cases h; done)
    | skip
  all_goals first
    | (rename_i heq; injection heq with e1 e2 e3 e4 e5; subst e1 e2 e3 e4; exact ⟨_, _, _, _, rfl⟩)
    | skip
theorem fpost_ok {K : PySem.W.Frag} {mg : Str → Option Value} {Z Z1 G : Addr → Prop} {H : Hp} {Q : VK} {σ : L2.St} {R : SR} (hz : ∀ a, Z a → Z1 a) (h : FPost K T Z G H Q (endF [] R)) : PostS K T mg WF [] σ Z1 G H { nx := fun _ H' => Q .non H', rt := Q } R := by
  have le : ∀ {Z' H'}, Le Z1 H Z' H' → Le Z H Z' H' := fun l => ⟨fun a z => l.z a (hz a z), fun a z => l.keep a (hz a z), l.tup, l.frz⟩
  cases R with
  | nx e' => exact fun σ' H' Z' l k f st => h .non H' Z' (le l) k st.bare .non
  | bk e' => exact h.elim
  | ct e' => exact h.elim
  | bad => exact h.elim
  | er x e' => exact h.elim
  | rt o e' =>
    intro v σ' H' Z' l k f x
    simp only [endF] at h
    have hfx : fxOf 0 [] = [] := rfl
    rw [hfx] at h
    cases o with
    | im d => exact h v H' Z' (le l) k x.st0.bare x.ok
    | tl d => exact h.elim
    | td d => exact h.elim
    | bor i =>
      have hv : σ'[i]? = some (some v) := x.ok
      simp only [outO, List.contains_nil, Bool.false_eq_true, if_false] at h
      split at h
      · rename_i op e1 q
        split at q
        · cases q; exact h.elim
        · cases q; exact h.elim
        · rename_i dd qg
          cases q
          obtain ⟨v', h1, h2⟩ := x.st0.sl i _ qg
          rw [hv] at h1; cases h1
          exact h v H' Z' (le l) k x.st0.bare h2
        · cases q
      · exact h.elim
theorem PostS.bindR {K : PySem.W.Frag} {mg : Str → Option Value} {Z G : Addr → Prop} {H : Hp} {σ : L2.St} {D : Ends} {r : SR} {k : MS} (h : PostS K T mg WF [] σ Z G H D (r.bind k)) : PostS K T mg WF [] σ Z G H { D with nx := RdS K T mg [] k WF D } r := by
  cases r with
  | nx e => exact fun σ' H' Z' l kk f s => ⟨e, Z', G, s, PostS.trans l kk f h⟩
  | ct e => exact h
  | bk e => exact h
  | rt o e => exact h
  | er x e => exact h
  | bad => exact h
/-- a def that calls the lambda it gets gives what the evaluator says -/
theorem gives_of {g : Str} {ga : Addr} {cdv : Value} {a q : Str} (hT : T.mg = X.mg) (M : LmOk X.K X.mg c) (S : FnScope d.N [a] d.sc) (hr : Room (k + 1) X.A) :
    LamX.GivesTo X d.N g d.sc ga cdv d.body a q (TTd X.K T X.mg (callLm fuel c d)) := by
  intro f c' s H Q tl act hc hTT
  obtain ⟨r, Z, G, st0, htl, hf⟩ := hTT
  let X' := (cxOf C8.CX0 X.prog X.w X.K X.mg X.base d.N g d.sc ga cdv X.A X.stack s H C8.E0).nox
  have hr' : Room k X'.A := hr.deeper _
  obtain ⟨hbody, htry⟩ := splitT_app d.body
  unfold callLm at hf
  cases hsp : splitT d.body with
  | mk pre rest =>
  rw [hsp] at hf hbody htry
  cases rest with
  | nil => exact hf.elim
  | cons t post =>
    have htt := htry t post rfl
    simp only at hf hbody
    cases qa : allO (pre.map (evS fuel d.sc { lmCfg c d with fx := [0] })) with
    | none => rw [qa] at hf; exact hf.elim
    | some ma =>
      cases qm : evS fuel d.sc { lmCfg c d with clo := some r } t with
      | none => rw [qa, qm] at hf; exact hf.elim
      | some m =>
        cases qb : allO (post.map (evS fuel d.sc (lmCfg c d))) with
        | none => rw [qa, qm, qb] at hf; exact hf.elim
        | some mb =>
          rw [qa, qm, qb] at hf
          simp only at hf
          obtain ⟨b, h₀, hs, pos, rfl⟩ := try_shape (n := 39) htt qm
          obtain ⟨ret, hs', hb, hcl, rfl⟩ := try_is (n := 39) (c := { lmCfg c d with clo := some r }) rfl rfl qm
          obtain ⟨l, hA, hC⟩ := hdsA_of (X := X') (T := T) (d := d) (k := k) hT M rfl rfl S.nd hr' (fun _ => rfl) (by show (if d.sc.kind.isAnnotationScope then ScopeKind.function else d.sc.kind) = .function; rw [S.kind]; rfl) (cc := { lmCfg c d with clo := some r }) rfl hcl
          have body : ∀ {fx : List Nat}, BodyOk T X' WF { lmCfg c d with fx := fx } k d.sc := fun {fx} =>
            { cx := ctx_lm M rfl rfl S.nd rfl takes_none5 hr'
              st := fun x h => ⟨locB_ok h, .inl rfl⟩
              bk := by show (if d.sc.kind.isAnnotationScope then ScopeKind.function else d.sc.kind) = .function; rw [S.kind]; rfl
              po := fun _ => PassesOwn.never
              clo := rfl
              exs := fun C h => by cases h }
          have hpre : Each (SS T X' WF [0]) pre ma := (allO_each qa).imp fun s m h => sound_S fuel (body (fx := [0])) s m h
          have hpost : PSs X' post (RdS X'.K T X'.mg [] (seqS mb) WF) := ss_block ((allO_each qb).imp fun s m h => sound_S fuel (body (fx := [])) s m h)
          have hN0 : d.N.head? = some a := by
            have := S.pre
            cases hN : d.N with
            | nil => rw [hN] at this; cases this
            | cons y ys => rw [hN] at this; cases this; rfl
          have psT : PS X' (.Try [b] (h₀ :: hs) [] [] pos) (fun D σ H => σ.length = d.N.length → tTryB X.K ret f c' q tl (wManyA X.K WF D l) D σ H) :=
            (ps_try_mas (X := X') (Wout := WF) (tb := tTryB X.K ret f c' q tl) rfl rfl S.nd takes_none5 (fun W pn xe tk _ => pss_tryB hb hN0 (fun E p1 p2 hW => act W pn xe E p1 p2 tk hW)) hA).weakenL fun D σ H hlen q => q hlen
          have st1 : StOk X.K T (List.replicate d.N.length none) (L2.start d.N [.ref f]) H (fun x => Z x ∨ x = c') G := by
            refine ⟨⟨st0.tb.1, fun x z ps e => ?_, st0.tb.2.2⟩, fun x z => ?_, fun x gx => ⟨(st0.gs x gx).1, fun z => ?_⟩, fun i sv q => ?_, fun i j si sj v q => ?_⟩
            · rcases z with z | rfl
              · exact st0.tb.2.1 x z ps e
              · rw [hc] at e; exact LamX.codeO_ne ps (Option.some.inj e)
            · rcases z with z | rfl
              · exact st0.zs x z
              · rw [hc]; simp
            · rcases z with z | rfl
              · exact (st0.gs x gx).2 z
              · obtain ⟨u, h1, h2⟩ := st0.tb.2.2 _ gx
                rw [hc] at h1; cases h1; exact h2
            · rw [bare_nothing.gt_repl'] at q; cases q
            · rw [bare_nothing.gt_repl'] at q; cases q
          have h0 := fpost_ok (mg := X.mg) (σ := L2.start d.N [.ref f]) (Z1 := fun x => Z x ∨ x = c') (fun a z => .inl z) hf
          rw [hbody]
          refine ⟨_, pss_pre hpre (pss_cons psT hpost), pre_ok (k := fun e => (tryS d.N.length ret r c.sub hs' e).bind (seqS mb)) (fun e' σ' H' Z' le ke fe se he => ?_) Le.refl KeepG.refl SameF.refl st1 h0⟩
          have le0 : Le Z H Z' H' := ⟨fun a z => le.z a (.inl z), fun a z => le.keep a (.inl z), le.tup, le.frz⟩
          have h2 := PostS.bindR he
          intro hlen
          have s0 : σ'[0]? = some (some (.ref f)) := (fe.2 0 (by simp)).trans rfl
          have cc : H' c' = some (LamX.CodeO c' q) := by rw [le.keep c' (.inr rfl)]; exact hc
          have si : StOk X.K T (imS e') σ' H' Z' G := se.ims.less fun a z => .inl z
          cases r with
          | ok dd =>
            refine ⟨fun _ _ _ => False, fun _ _ _ _ z => z.elim, s0, cc, htl H' Z' le0 ke se.bare _ _ fun v H'' Z'' l'' k'' b'' en => ?_⟩
            cases ret with
            | true => exact h2 v σ' H'' Z'' l'' k'' SameF.refl ((si.laterIm l'' b'').im en)
            | false => exact h2 σ' H'' Z'' l'' k'' SameF.refl (si.laterIm l'' b'')
          | er x =>
            refine ⟨fun cls dd H'' => ∃ Z'', Le Z' H' Z'' H'' ∧ KeepG G H' H'' ∧ StOk X.K T [] [] H'' Z'' G ∧ ExOk X.K X.mg Z'' x cls dd H'', fun cls dd σ'' H'' ⟨Z'', l'', k'', b'', ex⟩ => ?_, s0, cc, htl H' Z' le0 ke se.bare _ _ fun cls dd H'' Z'' l'' k'' b'' ex => ⟨Z'', l'', k'', b'', ex⟩⟩
            exact clauses_ok hT M.sub hlen hC h2 cls dd σ'' H'' Z'' l'' k'' b'' ex
end
end Ev
end
section
set_option maxHeartbeats 1000000
/-! EvSg: defs keep what the evaluator says of them. -/
namespace Ev
open PySem PySem.Spec PyProof.Rows L2
variable {T : LT}

theorem gt_repl : ∀ {m i : Nat}, gt (List.replicate m (none : Option Sv)) i = none
  | 0, i => gt_nil
  | m + 1, 0 => rfl
  | m + 1, i + 1 => by rw [List.replicate_succ]; exact gt_repl (m := m) (i := i)
theorem finsOf_len : ∀ {br : List Bool} {e : Sl}, (finsOf br e).length = br.length
  | [], e => by cases e <;> rfl
  | b :: bs, [] => by simp [finsOf, finsOf_len]
  | b :: bs, x :: r => by simp [finsOf, finsOf_len]
theorem gt_fins : ∀ {br : List Bool} {e : Sl} {i : Nat} {sv : Sv}, gt (finsOf br e) i = some sv → br[i]? = some true ∧ gt e i = some sv
  | [], e, i, sv, h => by
    have : finsOf [] e = [] := by cases e <;> rfl
    rw [this, gt_nil] at h; cases h
  | b :: bs, [], 0, sv, h => by cases h
  | b :: bs, [], i + 1, sv, h => by
    have := gt_fins (br := bs) (e := []) (i := i) h
    rw [gt_nil] at this
    cases this.2
  | b :: bs, x :: r, 0, sv, h => by
    have h : (if b = true then x else none) = some sv := h
    split at h
    · rename_i hb; subst hb; exact ⟨rfl, h⟩
    · cases h
  | b :: bs, x :: r, i + 1, sv, h => gt_fins (br := bs) (e := r) (i := i) h
theorem mem_fx : ∀ {br : List Bool} {i j : Nat}, br[i]? = some true → j + i ∈ fxOf j br
  | [], i, j, h => by simp at h
  | b :: bs, 0, j, h => by
    simp at h; subst h
    simp [fxOf]
  | b :: bs, i + 1, j, h => by
    have := mem_fx (br := bs) (i := i) (j := j + 1) (by simpa using h)
    rw [show j + 1 + i = j + (i + 1) from by omega] at this
    unfold fxOf
    split
    · exact List.mem_cons_of_mem _ this
    · exact this
section
variable {K : PySem.W.Frag} {e : Sl} {σ : L2.St} {H : Hp} {Z G : Addr → Prop}
theorem StOk.pad {ps : Sl} {τ ρ : L2.St} {m : Nat} (s : StOk K T ps τ H Z G) (hl : ps.length ≤ τ.length) : StOk K T (ps ++ List.replicate m none) (τ ++ ρ) H Z G := by
  have back : ∀ {i : Nat} {sv : Sv}, gt (ps ++ List.replicate m none) i = some sv → gt ps i = some sv ∧ (τ ++ ρ)[i]? = τ[i]? := fun {i sv} q => by
    rw [gt_append] at q
    split at q
    · exact ⟨q, get_front (by omega)⟩
    · rw [gt_repl] at q; cases q
  refine ⟨s.tb, s.zs, s.gs, fun i sv q => ?_, fun i j si sj v q1 q2 o1 o2 e1 e2 => ?_⟩
  · obtain ⟨h1, h2⟩ := back q
    rw [h2]
    exact s.sl i sv h1
  · obtain ⟨h1, h2⟩ := back q1
    obtain ⟨h3, h4⟩ := back q2
    rw [h2] at e1
    rw [h4] at e2
    exact s.inj i j si sj v h1 h3 o1 o2 e1 e2
theorem fins_ok {br : List Bool} {N : List Str} {vs : List V} (hl : vs.length = br.length) (s : StOk K T e σ H Z G) (f : SameF (fxOf 0 br) (start N vs) σ) : StOk K T (finsOf br e) (vs.map some) H Z G := by
  have back : ∀ {i : Nat} {sv : Sv}, gt (finsOf br e) i = some sv → gt e i = some sv ∧ (vs.map some)[i]? = σ[i]? := fun {i sv} q => by
    obtain ⟨h1, h2⟩ := gt_fins q
    have hi : i < br.length := (List.getElem?_eq_some_iff.mp h1).1
    refine ⟨h2, ?_⟩
    have := f.2 i (by have := mem_fx (j := 0) h1; rwa [Nat.zero_add] at this)
    rw [this]
    show _ = (vs.map some ++ List.replicate (N.length - vs.length) none)[i]?
    exact (get_front (by rw [List.length_map]; omega)).symm
  refine ⟨s.tb, s.zs, s.gs, fun i sv q => ?_, fun i j si sj v q1 q2 o1 o2 e1 e2 => ?_⟩
  · obtain ⟨h1, h2⟩ := back q
    rw [h2]
    exact s.sl i sv h1
  · obtain ⟨h1, h2⟩ := back q1
    obtain ⟨h3, h4⟩ := back q2
    rw [h2] at e1
    rw [h4] at e2
    exact s.inj i j si sj v h1 h3 o1 o2 e1 e2
theorem outO_ok {fx : List Nat} {v : V} {o r : Op} {e1 : Sl} (x : Out K T e σ H Z G v o) (q : outO fx o e = some (r, e1)) :
    ∃ Z1, Le Z H Z1 H ∧ StOk K T e1 σ H Z1 (Gx G v r) ∧ OpOk K Z1 H [] v r ∧ ∀ a, OwnA v r a → ¬ G a := by
  have bare : ∀ {d}, Gx G v (.im d) = G := fun {d} => by
    funext b
    unfold Gx
    apply propext
    exact ⟨fun h => h.elim id fun z => z.elim, .inl⟩
  cases o with
  | im d => cases q; exact ⟨Z, Le.refl, x.st, x.ok, x.ne⟩
  | tl d => cases q; exact ⟨Z, Le.refl, x.st, x.ok, x.ne⟩
  | td d => cases q; exact ⟨Z, Le.refl, x.st, x.ok, x.ne⟩
  | bor i =>
    have hv : σ[i]? = some (some v) := x.ok
    simp only [outO] at q
    split at q
    · cases q1 : fzO (.bor i) e with
      | none => rw [q1] at q; cases q
      | some p =>
        rw [q1] at q
        cases q
        obtain ⟨Z1, l, s1, en⟩ := fz_ok x (d := p.1) (e1 := p.2) q1
        exact ⟨Z1, l, by rw [bare]; exact s1, en, fun a z => z.elim⟩
    · split at q
      · rename_i xs qg
        cases q
        obtain ⟨v', h1, a, vs, rfl, h3, es, nz, ng⟩ := x.st0.sl i _ qg
        rw [hv] at h1; cases h1
        have s1 := x.st0.toFrame qg rfl hv
        have eg : Gx G (.ref a) (.tl xs) = fun b => G b ∨ b = a := by
          funext b
          unfold Gx
          apply propext
          constructor
          · rintro (h | h)
            · exact .inl h
            · cases h; exact .inr rfl
          · rintro (h | h)
            · exact .inl h
            · exact .inr (by rw [h]; rfl)
        exact ⟨Z, Le.refl, by rw [eg]; exact s1, ⟨a, vs, rfl, h3, es⟩, fun b hb g => by cases hb; exact ng g⟩
      · rename_i xs qg
        cases q
        obtain ⟨v', h1, a, rfl, h3, nz, ng⟩ := x.st0.sl i _ qg
        rw [hv] at h1; cases h1
        have s1 := x.st0.toFrame qg rfl hv
        have eg : Gx G (.ref a) (.td xs) = fun b => G b ∨ b = a := by
          funext b
          unfold Gx
          apply propext
          constructor
          · rintro (h | h)
            · exact .inl h
            · cases h; exact .inr rfl
          · rintro (h | h)
            · exact .inl h
            · exact .inr (by rw [h]; rfl)
        exact ⟨Z, Le.refl, by rw [eg]; exact s1, ⟨a, rfl, h3⟩, fun b hb g => by cases hb; exact ng g⟩
      · rename_i d qg
        cases q
        obtain ⟨v', h1, h2⟩ := x.st0.sl i _ qg
        rw [hv] at h1; cases h1
        exact ⟨Z, Le.refl, by rw [bare]; exact x.st0, h2, fun a z => z.elim⟩
      · cases q
/-- a body that ends as the contract wants -/
theorem body_ok {mg : Str → Option Value} {br : List Bool} {N : List Str} {ms : MS} {vs : List V} {ps : Sl} {Q : VK} {E : XK} (hv : vs.length = br.length) (hp : ps.length = br.length) (s : StOk K T ps (vs.map some) H Z G)
    (h : CPost K T mg br.length vs Z G H Q E (endF br (ms (ps ++ List.replicate (N.length - br.length) none)))) :
    RdS K T mg (fxOf 0 br) ms (fun cls d _ H => E cls d H) { nx := fun _ H' => Q .non H', rt := Q } (start N vs) H := by
  refine ⟨_, Z, G, s.pad (m := N.length - br.length) (ρ := List.replicate (N.length - vs.length) none) (by rw [List.length_map]; omega), ?_⟩
  have bare : ∀ {d v}, Gx G v (.im d) = G := fun {d v} => by
    funext b
    unfold Gx
    apply propext
    exact ⟨fun h => h.elim id fun z => z.elim, .inl⟩
  cases q : ms (ps ++ List.replicate (N.length - br.length) none) with
  | nx e' =>
    rw [q] at h
    intro σ' H' Z' l k f st
    exact h finsOf_len .non H' Z' l k (by rw [bare]; exact fins_ok hv st f) .non fun a z => z.elim
  | bk e' => rw [q] at h; exact h.elim
  | ct e' => rw [q] at h; exact h.elim
  | bad => rw [q] at h; exact h.elim
  | er x e' =>
    rw [q] at h
    intro cls d σ' H' Z' l k f st ex
    exact h finsOf_len cls d H' Z' l k (fins_ok hv st f) ex
  | rt o e' =>
    rw [q] at h
    intro v σ' H' Z' l k f x
    simp only [endF] at h
    cases q1 : outO (fxOf 0 br) o e' with
    | none => rw [q1] at h; exact h.elim
    | some p =>
      obtain ⟨r, e1⟩ := p
      rw [q1] at h
      obtain ⟨Z1, l1, s1, ok, ne⟩ := outO_ok x q1
      exact h finsOf_len v H' Z1 (l.trans l1) k (fins_ok hv s1 f) ok ne
end

/-! ### the module -/
/-- a def stands in the module; cs: the code objects with their tables -/
structure DefOk (K : PySem.W.Frag) (T : LT) (cs : List (Addr × Addr)) (a : Addr) (d : Df) (fd : FuncData) (ps : List Str) : Prop where
  fn : ∃ (oc : Value) (od : Option Addr) (osl : Array (Option Value)) (name qual : Str) (params : Arguments) (dV kV doc pm cdv ct : Value) (an : Option Addr),
    fd = PySem.W.fnOf name qual params d.body d.sc dV kV doc pm an cdv ct ∧ K.lookup a = some ⟨oc, od, .func fd, osl⟩ ∧ PySem.W.codeIn K cdv qual = true ∧
    (d.tab = true → ∃ cA P, cdv = .ref cA ∧ (cA, P) ∈ cs ∧ (P, (qual ++ ".<locals>.") ++ "<lambda>") ∈ T.tabs ∧ ∀ p ∈ T.tabs, p.1 = P → p.2 = (qual ++ ".<locals>.") ++ "<lambda>")
  sc : FnScope d.N ps d.sc
  len : ps.length = d.br.length
  bd : Binds K fd ps []
/-- a def that calls a lambda stands in the module -/
structure LamOk (K : PySem.W.Frag) (g : Str) (ga : Addr) (d : Df) (fd : FuncData) (a : Str) : Prop where
  fn : ∃ (oc : Value) (od : Option Addr) (osl : Array (Option Value)) (params : Arguments) (dV kV doc pm cdv ct : Value) (an : Option Addr),
    fd = PySem.W.fnOf g g params d.body d.sc dV kV doc pm an cdv ct ∧ K.lookup ga = some ⟨oc, od, .func fd, osl⟩ ∧ PySem.W.codeIn K cdv g = true
  sc : FnScope d.N [a] d.sc
  bd : Binds K fd [a] []
  nd : (a == ("__debug__" : Str)) = false
  nc : (a == ("__classdict__" : Str)) = false
structure ExcOk (K : PySem.W.Frag) (a : Addr) : Prop where
  ex : ∃ (bmB : List Value) (B newId initId : String), ExcBaseFacts B newId initId bmB ∧ PySem.W.excIn K a bmB newId = true
  keep : PySem.W.keepIn K (.ref a) = true
  sub : PySem.W.subIn K (.ref a) (.type "BaseException") = some true
  ty : PySem.W.typeIn K (.ref a) = some (.type "type")
structure ModOk (K : PySem.W.Frag) (T : LT) (cs : List (Addr × Addr)) (mg : Str → Option Value) (Pr : Prg) : Prop where
  blt : ∀ f, f ∈ bltNames → mg f = none
  cst : ∀ x d, Pr.cst.lookup x = some d → ∃ u v, mg x = some u ∧ RelV v u ∧ ∀ Z H, EncD K Z H v d
  exs : ∀ C, Pr.exs.contains C = true → ∃ a, mg C = some (.ref a) ∧ (C == ("__debug__" : Str)) = false ∧ ExcOk K a
  defs : ∀ f d, Pr.defs.lookup f = some d → ∃ a fd ps, mg f = some (.ref a) ∧ PySem.W.keepIn K (.ref a) = true ∧ DefOk K T cs a d fd ps
  lams : ∀ g d, Pr.lams.lookup g = some d → ∃ ga fd a, mg g = some (.ref ga) ∧ PySem.W.keepIn K (.ref ga) = true ∧ LamOk K g ga d fd a
  sub : SubOk K mg fun x y => (Pr.sub.lookup x).bind fun r => r.lookup y
  mgT : T.mg = mg
theorem sound_D {P : Program} {w : World} {K : PySem.W.Frag} {mg : Str → Option Value} {base : Heap} {cs : List (Addr × Addr)} {Pr : Prg} (M : ModOk K T cs mg Pr) (TB : ∀ p ∈ cs, LamX.TabB base mg p.1 p.2) : ∀ (k : Nat) (a : Addr) (d : Df) (fd : FuncData) (ps : List Str), DefOk K T cs a d fd ps →
    FnOk P w K mg base (L2.CX P w) k a fd ps (SpD K T mg d.br.length (Pr.run k d))
  | 0, a, d, fd, ps, D => ⟨fun vs H Q E h => by rw [h.1, D.len], fun _ _ _ _ _ _ _ _ _ _ _ _ _ ⟨_, _, _, _, _, _, h⟩ => h.elim⟩
  | 1, a, d, fd, ps, D => ⟨fun vs H Q E h => by rw [h.1, D.len], fun _ _ _ _ _ _ _ _ _ _ _ _ _ ⟨_, _, _, _, _, _, h⟩ => h.elim⟩
  | 2, a, d, fd, ps, D => ⟨fun vs H Q E h => by rw [h.1, D.len], fun _ _ _ _ _ _ _ _ _ _ _ _ _ ⟨_, _, _, _, _, _, h⟩ => h.elim⟩
  | k + 3, a, d, fd, ps, D => by
    obtain ⟨oc, od, osl, name, qual, params, dV, kV, doc, pm, cdv, ct, an, rfl, lk, hcd, htab⟩ := D.fn
    refine fn_of lk hcd D.sc (fun vs H Q E h => by rw [h.1, D.len]) fun A outer s H vs Q E hr hsp => ?_
    obtain ⟨hv, sl, Z, G, hl, st, h⟩ := hsp
    let c : Cfg := { Pr.cfg d.tab (Pr.run (k + 2)) (Pr.run k) (callLm fuel (Pr.cfg false (Pr.run k) (fun _ _ => .bad) fun _ _ => .bad)) with N := d.N, fx := fxOf 0 d.br }
    have h : CPost K T mg d.br.length vs Z G H Q E (callDf fuel (Pr.cfg d.tab (Pr.run (k + 2)) (Pr.run k) (callLm fuel (Pr.cfg false (Pr.run k) (fun _ _ => .bad) fun _ _ => .bad))) d sl) := h
    unfold callDf at h
    cases q : allO (d.body.map (evS fuel d.sc c)) with
    | none =>
      have q' := q
      simp only [c] at q'
      rw [q'] at h; exact h.elim
    | some ms =>
      have q' := q
      simp only [c] at q'
      rw [q'] at h
      refine ⟨RdS K T mg (fxOf 0 d.br) (seqS ms) (fun cls d _ H => E cls d H), ?_, body_ok hv hl st h⟩
      let X := cxOf (L2.CX P w) P w K mg base d.N qual d.sc a cdv A outer s H E
      have defs : ∀ {j : Nat} {f : Str} {br : List Bool} {F : Sl → CRes}, (∀ a' d' fd' ps', DefOk K T cs a' d' fd' ps' → FnOk P w K mg base (L2.CX P w) j a' fd' ps' (SpD K T mg d'.br.length (Pr.run j d'))) → ((Pr.defs.lookup f).map fun d => (d.br, Pr.run j d)) = some (br, F) →
          ∃ a fd ps, mg f = some (.ref a) ∧ PySem.W.keepIn K (.ref a) = true ∧ Binds K fd ps [] ∧ FnOk P w K mg base (L2.CX P w) j a fd ps (SpD K T mg br.length F) := fun {j f br F} ih hf => by
        cases q1 : Pr.defs.lookup f with
        | none => rw [q1] at hf; cases hf
        | some d' =>
          rw [q1] at hf
          cases hf
          obtain ⟨a', fd', ps', h1, h2, h3⟩ := M.defs f d' q1
          exact ⟨a', fd', ps', h1, h2, h3.bd, ih a' d' fd' ps' h3⟩
      have ec : c.tab = d.tab := rfl
      have ecode : X.env.code = cdv := rfl
      have equal : X.env.qual = qual ++ ".<locals>." := rfl
      have tabOk : c.tab = true → 2 ≤ k + 2 ∧ ∃ cA P, X.env.code = .ref cA ∧ LamX.TabB X.base X.mg cA P ∧ (P, X.env.qual ++ "<lambda>") ∈ T.tabs ∧ ∀ p ∈ T.tabs, p.1 = P → p.2 = X.env.qual ++ "<lambda>" := by
        intro ht
        rw [ec] at ht
        obtain ⟨cA, P', e1, e2, e3, e4⟩ := htab ht
        rw [ecode, equal]
        exact ⟨Nat.le_add_left 2 k, cA, P', e1, TB _ e2, e3, e4⟩
      have g : CtxOk T X (fun cls d _ H => E cls d H) c (k + 2) d.sc :=
        { hsc := rfl
          hN := rfl
          nd := D.sc.nd
          calm := fun _ => rfl
          tk := takes_of rfl rfl rfl rfl
          room := fun _ => hr
          un := by
            have := hr.un
            show (A.deeper (envOfC qual d.sc s.heap.objs.size a cdv)).units + 66 < cLine
            omega
          fns := fun f br F hf => defs (fun a' d' fd' ps' h3 => sound_D M TB (k + 2) a' d' fd' ps' h3) hf
          blt := M.blt
          cst := M.cst
          fns2 := fun f br F hf => defs (fun a' d' fd' ps' h3 => sound_D M TB k a' d' fd' ps' h3) hf
          tab := tabOk
          lams := fun gg L hL => by
            have hL : ((Pr.lams.lookup gg).map fun d => callLm fuel (Pr.cfg false (Pr.run k) (fun _ _ => .bad) fun _ _ => .bad) d) = some L := hL
            cases q1 : Pr.lams.lookup gg with
            | none => rw [q1] at hL; cases hL
            | some d' =>
              rw [q1] at hL
              cases hL
              obtain ⟨ga, fd', a', h1, h2, h3⟩ := M.lams gg d' q1
              obtain ⟨oc, od, osl, params, dV, kV, doc, pm, cdv', ct, an, rfl, lk', hcd'⟩ := h3.fn
              have hN0 : d'.N[0]? = some a' := by
                have := h3.sc.pre
                cases hN : d'.N with
                | nil => rw [hN] at this; cases this
                | cons y ys => rw [hN] at this; cases this; rfl
              have hvis : Vis d'.sc a' := (h3.sc.par a' (by simp)).elim .inl fun z => .inr (.inl z)
              refine ⟨ga, _, a', h1, h2, ⟨⟨d'.N, params, d'.body, d'.sc, dV, kV, doc, pm, cdv', ct, oc, an, od, osl, rfl, lk', hcd', h3.sc, hN0, hvis, fun X' e1 e2 e3 e4 e5 hr2 q => ?_⟩, h3.bd, h3.nd, h3.nc⟩⟩
              have hT : T.mg = X'.mg := by rw [e4]; exact M.mgT
              have lm : LmOk X'.K X'.mg (Pr.cfg false (Pr.run k) (fun _ _ => .bad) fun _ _ => .bad) := by
                rw [e3, e4]
                exact ⟨M.blt, M.cst, M.sub⟩
              have := gives_of (X := X') (T := T) (d := d') (k := k + 1) (g := gg) (ga := ga) (cdv := cdv') (a := a') (q := q) hT lm h3.sc hr2
              rw [e3, e4] at this
              exact this
          hot := fun h => by cases h
          sub := M.sub }
      have b : BodyOk T X (fun cls d _ H => E cls d H) c (k + 2) d.sc :=
        { cx := g
          st := fun x h => ⟨locB_ok h, .inl rfl⟩
          bk := by
            show (if d.sc.kind.isAnnotationScope then ScopeKind.function else d.sc.kind) = .function
            rw [D.sc.kind]
            rfl
          po := fun _ => passes_of rfl
          clo := rfl
          exs := fun C hC => by
            obtain ⟨a', hm, hdb, ex⟩ := M.exs C hC
            obtain ⟨bmB, B, newId, initId, F, q⟩ := ex.ex
            exact ⟨a', hm, fun p pos hg => pmk_own0 F q hm ex.keep (raises_own ex.sub ex.ty) hg hdb⟩ }
      exact ss_block ((allO_each q).imp fun s m h => sound_S fuel b s m h)
end Ev
end
section
set_option maxHeartbeats 4000000
/-! EvSh: from the evaluator's word to the row. -/
namespace Ev
open PySem PySem.Spec PyProof.Rows L2
variable {T : LT}

/-- the script as a value -/
def scr (ns : List Int) : D := .dict [(.none, .list (ns.map .int))]
/-- what the law's def is called with -/
def arg (ns : List Int) : Sl := [some (.im (scr ns))]
def Pays (Pr : Prg) (k : Nat) (d : Df) (n : Nat) : Prop := ∀ ns : List Int, ns.length ≤ n → ∃ fin, Pr.run k d (arg ns) = .ok (.im (.bool true)) fin
def spLaw (T : LT) (n : Nat) (K : PySem.W.Frag) : Sp := fun vs H Q _ => ∃ (a : Addr) (ns : List Int), vs = [.ref a] ∧ ns.length ≤ n ∧ LamX.Tabs T.tabs H ∧ SqL K H a (ns.map V.int) ∧ ∀ H', Q (.bl true) H'
theorem enc_ints {K : PySem.W.Frag} {Z : Addr → Prop} {H : Hp} : ∀ {ns : List Int}, EncDs K Z H (ns.map V.int) (ns.map PyData.int)
  | [] => .nil
  | n :: ns => .cons (.int n) enc_ints
theorem law_ok {P : Program} {w : World} {K : PySem.W.Frag} {mg : Str → Option Value} {base : Heap} {cs : List (Addr × Addr)} {Pr : Prg} {k n : Nat} {a : Addr} {d : Df} {fd : FuncData} {x : Str} (M : ModOk K T cs mg Pr) (TB : ∀ p ∈ cs, LamX.TabB base mg p.1 p.2) (D : DefOk K T cs a d fd [x]) (h : Pays Pr k d n) :
    FnOk P w K mg base (L2.CX P w) k a fd [x] (spLaw T n K) :=
  (sound_D (T := T) M TB k a d fd [x] D).imp fun vs H Q E ⟨b, ns, ev, hl, hT, hs, q⟩ => by
    subst ev
    have hb : d.br.length = 1 := D.len.symm
    obtain ⟨fin, hr⟩ := h ns hl
    refine ⟨by rw [hb]; rfl, arg ns, fun c => c = b ∧ H b = some (.lst (ns.map V.int)), fun _ => False, by rw [hb]; rfl, ⟨⟨hT, fun c z ps e => ?_, fun _ z => z.elim⟩, fun c z e => ?_, fun _ z => z.elim, fun i sv g => ?_, fun i j si sj v q1 q2 o1 => ?_⟩, ?_⟩
    · obtain ⟨rfl, z⟩ := z; rw [z] at e; cases e
    · obtain ⟨rfl, z⟩ := z; rw [z] at e; cases e
    · cases i with
      | zero =>
        cases g
        refine ⟨_, rfl, .scr ?_ enc_ints⟩
        rcases hs with (h | ⟨o, h⟩) | h
        · exact .inl ⟨⟨rfl, h⟩, h⟩
        · exact .inr (.inl ⟨o, h⟩)
        · exact .inr (.inr h)
      | succ i =>
        rw [show gt (arg ns) (i + 1) = gt [] i from rfl, gt_nil] at g
        cases g
    · cases i with
      | zero => cases q1; cases o1
      | succ i =>
        rw [show gt (arg ns) (i + 1) = gt [] i from rfl, gt_nil] at q1
        cases q1
    · rw [hr]
      intro _ v H' Z' _ _ _ ok _
      cases (show EncD K Z' H' v (.bool true) from ok)
      exact q H'
open PySem PySem.W in
/-- the end without tables -/
theorem walk_ev {l : PySem.W.OpenLaw} {n k : Nat} {q : Program} {loose : List Str} {XP : (Str → Option Value) → Heap → Prop} {YP : World → Heap → Prop} {d : DefRec} {K : Params → PySem.W.Frag} {x : Str} (hn : l.most = some n) (hn2 : n ≤ sizeLine) (hdf : d.params.defaults = []) (hr : Room k callerA)
    (hY : ∀ (w : World) (h : Heap), YP w h → (K w.params).In h)
    (F : ∀ (w : World) (mg : Str → Option Value) (fa : Addr) (h : Heap), (K w.params).In h → h.Ns mainGlobals mg → mg d.name = some (.ref fa) →
      ∃ fd : FuncData, (∀ (s : Shared) (u : Value), BindsTo s fd ⟨[u], []⟩ [(x, u)]) ∧ ∀ base : Heap, (K w.params).In base → base.Ns mainGlobals mg → FnOk l.prog w (K w.params) mg base (L2.CX l.prog w) k fa fd [x] (spLaw ⟨[], fun _ => none, none⟩ n (K w.params))) :
    PySem.W.WalkO q loose XP YP l.row.toRowW d [] (fun f vs => PySem.call f vs) :=
  L2.walk_of (n := n) (k := k) (x := x) (CX := fun w => L2.CX l.prog w) (sp := fun w => spLaw ⟨[], fun _ => none, none⟩ n (K w.params)) hn hn2 hdf hr hY F
    (fun w H a ns hl hO hS => ⟨a, ns, rfl, hl, (fun p hp => absurd (show p ∈ ([] : List (Addr × Str)) from hp) (by simp)), hS, fun _ => rfl⟩) fun w H s e s' ⟨_, _, _, _, _, _, _, _, _, _, _, _, z⟩ => z
/-! ### the facts that the top gives, def by def -/
inductive DefsOk (K : PySem.W.Frag) (T : LT) (cs : List (Addr × Addr)) (mg : Str → Option Value) : List (Str × Df) → Prop
  | nil : DefsOk K T cs mg []
  | cons {x : Str} {d : Df} {r : List (Str × Df)} {a : Addr} {fd : FuncData} {ps : List Str} : mg x = some (.ref a) → PySem.W.keepIn K (.ref a) = true → DefOk K T cs a d fd ps → DefsOk K T cs mg r → DefsOk K T cs mg ((x, d) :: r)
theorem DefsOk.get {K : PySem.W.Frag} {cs : List (Addr × Addr)} {mg : Str → Option Value} : ∀ {l : List (Str × Df)} {f : Str} {d : Df}, DefsOk K T cs mg l → l.lookup f = some d → ∃ a fd ps, mg f = some (.ref a) ∧ PySem.W.keepIn K (.ref a) = true ∧ DefOk K T cs a d fd ps
  | _, f, d, .nil, h => by cases h
  | _, f, d, .cons (x := x) h1 h2 h3 t, h => by
    rw [List.lookup_cons] at h
    split at h
    · rename_i e
      cases h
      have e := eq_of_beq e
      subst e
      exact ⟨_, _, _, h1, h2, h3⟩
    · exact DefsOk.get t h
/-- one def more that makes no lambda: what k_is shows of it -/
theorem DefsOk.add {K : PySem.W.Frag} {cs : List (Addr × Addr)} {mg : Str → Option Value} {h : Heap} {r : List (Str × Df)} (r0 : DefsOk K T cs mg r) (X : K.In h) (G : h.Ns mainGlobals mg) {x : Str} {st : Stmt} {f : Addr} {od an : Option Addr} {sl : Array (Option Value)} {oc kV dc pm cd ct : Value} {N ps : List Str} {br : List Bool}
    (a : PySem.W.nsIn K mainGlobals x = some (some (.ref f))) (l : K.lookup f = some ⟨oc, od, .func (PySem.W.fnOf x x (defArgs st) (defBody st) (defScope st) .none kV dc pm an cd ct), sl⟩) (c : PySem.W.codeIn K cd x = true) (k : PySem.W.keepIn K (.ref f) = true)
    (S : FnScope N ps (defScope st)) (hl : ps.length = br.length) (b : ∀ (kV doc pm : Value) (an : Option Addr) (cdv ct : Value) (us : List Value), us.length = ps.length → bindArgs (PySem.W.fnOf x x (defArgs st) (defBody st) (defScope st) .none kV doc pm an cdv ct) ⟨us, []⟩ = pure (ps.zip us)) :
    DefsOk K T cs mg ((x, ⟨N, defScope st, br, false, defBody st⟩) :: r) :=
  .cons (PySem.W.mg_of X G a) k ⟨⟨oc, od, sl, x, x, defArgs st, .none, kV, dc, pm, cd, ct, an, rfl, l, c, fun z => by cases z⟩, S, hl, .all (b kV dc pm an cd ct)⟩ r0
/-- one that makes lambdas -/
theorem DefsOk.addT {K : PySem.W.Frag} {cs : List (Addr × Addr)} {mg : Str → Option Value} {h : Heap} {r : List (Str × Df)} (r0 : DefsOk K T cs mg r) (X : K.In h) (G : h.Ns mainGlobals mg) {x : Str} {st : Stmt} {f cA P : Addr} {od an : Option Addr} {sl : Array (Option Value)} {oc kV dc pm ct : Value} {N ps : List Str} {br : List Bool}
    (a : PySem.W.nsIn K mainGlobals x = some (some (.ref f))) (l : K.lookup f = some ⟨oc, od, .func (PySem.W.fnOf x x (defArgs st) (defBody st) (defScope st) .none kV dc pm an (.ref cA) ct), sl⟩) (c : PySem.W.codeIn K (.ref cA) x = true) (k : PySem.W.keepIn K (.ref f) = true)
    (hc : (cA, P) ∈ cs) (hT : (P, (x ++ ".<locals>.") ++ "<lambda>") ∈ T.tabs) (hu : ∀ p ∈ T.tabs, p.1 = P → p.2 = (x ++ ".<locals>.") ++ "<lambda>")
    (S : FnScope N ps (defScope st)) (hl : ps.length = br.length) (b : ∀ (kV doc pm : Value) (an : Option Addr) (cdv ct : Value) (us : List Value), us.length = ps.length → bindArgs (PySem.W.fnOf x x (defArgs st) (defBody st) (defScope st) .none kV doc pm an cdv ct) ⟨us, []⟩ = pure (ps.zip us)) :
    DefsOk K T cs mg ((x, ⟨N, defScope st, br, true, defBody st⟩) :: r) :=
  .cons (PySem.W.mg_of X G a) k ⟨⟨oc, od, sl, x, x, defArgs st, .none, kV, dc, pm, .ref cA, ct, an, rfl, l, c, fun _ => ⟨cA, P, rfl, hc, hT, hu⟩⟩, S, hl, .all (b kV dc pm an (.ref cA) ct)⟩ r0
end Ev
end
section
set_option maxHeartbeats 4000000
/-! EvSi: what the top of a row gives, read by facts; the row's end. -/
namespace Ev
open PySem PySem.Spec PyProof.Rows L2

/-- a class that is an exception -/
def exCB (K : PySem.W.Frag) (D : Addr) : Bool :=
  He.eqO (PySem.W.findIn K (.ref D) "__getattribute__") (some (some (.builtin "BaseException.__getattribute__"))) && (He.eqO (PySem.W.findIn K (.ref D) "__getattr__") (some none) &&
  (decide (PySem.W.subIn K (.ref D) (.type "BaseException") = some true) && (PySem.W.hasDictIn K D && (He.eqO (PySem.W.findIn K (.ref D) "__class__") (some (some (.builtin "object.__class__"))) &&
  (He.eqO (PySem.W.specialIn K (.builtin "object.__class__") "__get__") (some (some (.builtin "getset_descriptor.__get__"))) && (decide (PySem.W.takesIn K (.builtin "object.__class__") = some true) && decide (PySem.W.mroIn K D (.type "object") = some true)))))))
theorem exCB_ok {K : PySem.W.Frag} {D : Addr} (h : exCB K D = true) : ExcC K D := by
  obtain ⟨h1, h⟩ := He.ba h
  obtain ⟨h2, h⟩ := He.ba h
  obtain ⟨h3, h⟩ := He.ba h
  obtain ⟨h4, h⟩ := He.ba h
  obtain ⟨h5, h⟩ := He.ba h
  obtain ⟨h6, h⟩ := He.ba h
  obtain ⟨h7, h8⟩ := He.ba h
  exact ⟨He.eqO_ok h1, He.eqO_ok h2, of_decide_eq_true h3, h4, He.eqO_ok h5, He.eqO_ok h6, of_decide_eq_true h7, of_decide_eq_true h8⟩
abbrev SubL : Type := List (Str × List (Str × Bool))
def subF (l : SubL) (x y : Str) : Option Bool := (l.lookup x).bind fun r => r.lookup y
/-- one class against another: of the module, or ValueError -/
def subOneB (K : PySem.W.Frag) (x : Str) (q : Str × Bool) : Bool :=
  ((He.Fa.glo q.1).ok K && (decide (PySem.W.kitOne K (.ref (He.ga K x)) (.ref (He.ga K q.1)) = some q.2) && decide (PySem.W.exmOne K (.ref (He.ga K x)) (.ref (He.ga K q.1)) = some q.2))) ||
  (decide (q.1 = ("ValueError" : Str)) && ((He.Fa.free "ValueError").ok K && (decide (PySem.W.kitOne K (.ref (He.ga K x)) (.type "ValueError") = some q.2) && decide (PySem.W.exmOne K (.ref (He.ga K x)) (.type "ValueError") = some q.2))))
def subKB (K : PySem.W.Frag) (l : SubL) : Bool := l.all fun p => (He.Fa.glo p.1).ok K && (exCB K (He.ga K p.1) && p.2.all (subOneB K p.1))
theorem boot_value : bootBuiltins ("ValueError" : Str) = some (.type "ValueError") := by decide +kernel
theorem lookup_mem {α : Type} {x : Str} {v : α} : ∀ {l : List (Str × α)}, l.lookup x = some v → (x, v) ∈ l
  | [], h => by cases h
  | (y, u) :: r, h => by
    rw [List.lookup_cons] at h
    split at h
    · rename_i e
      cases h
      rw [eq_of_beq e]
      exact List.mem_cons_self
    · exact List.mem_cons_of_mem _ (lookup_mem h)
theorem subK_ok {K : PySem.W.Frag} {mg : Str → Option Value} {h : Heap} {l : SubL} (X : K.In h) (G : h.Ns mainGlobals mg) (c : subKB K l = true) : SubOk K mg (subF l) := fun x y b hb => by
  unfold subF at hb
  cases e : l.lookup x with
  | none => rw [e] at hb; cases hb
  | some r =>
    rw [e] at hb
    obtain ⟨h1, h2⟩ := He.ba (List.all_eq_true.mp c _ (lookup_mem e))
    obtain ⟨h3, h4⟩ := He.ba h2
    rcases (Bool.or_eq_true _ _).mp (List.all_eq_true.mp h4 _ (lookup_mem (show r.lookup y = some b from hb))) with hq | hq
    · obtain ⟨h5, h6⟩ := He.ba hq
      obtain ⟨h7, h8⟩ := He.ba h6
      exact ⟨_, He.glo_ok X G h1, exCB_ok h3, _, .inl ⟨_, rfl, He.glo_ok X G h5⟩, of_decide_eq_true h7, of_decide_eq_true h8⟩
    · obtain ⟨h5, h6⟩ := He.ba hq
      obtain ⟨h7, h8⟩ := He.ba h6
      obtain ⟨h9, h10⟩ := He.ba h8
      have e : y = ("ValueError" : Str) := of_decide_eq_true h5
      subst e
      exact ⟨_, He.glo_ok X G h1, exCB_ok h3, _, .inr ⟨_, rfl, He.free_ok X G h7, boot_value⟩, of_decide_eq_true h9, of_decide_eq_true h10⟩
/-- a constant of the top -/
def cstKB (K : PySem.W.Frag) (x : Str) : D → Bool
  | .int i => (He.Fa.int x i).ok K
  | .str z => (He.Fa.str x z).ok K
  | _ => false
theorem cstK_ok {K : PySem.W.Frag} {mg : Str → Option Value} {h : Heap} (X : K.In h) (G : h.Ns mainGlobals mg) {x : Str} {d : D} (c : cstKB K x d = true) : ∃ u v, mg x = some u ∧ RelV v u ∧ ∀ Z H, EncD K Z H v d := by
  cases d with
  | int i =>
    obtain ⟨t, e⟩ := He.int_ok X G (show (He.Fa.int x i).ok K = true from c)
    exact ⟨_, .int i, e, ⟨t, rfl⟩, fun _ _ => .int i⟩
  | str z =>
    obtain ⟨t, e⟩ := He.str_ok X G (show (He.Fa.str x z).ok K = true from c)
    exact ⟨_, .str z, e, ⟨t, rfl⟩, fun _ _ => .str z⟩
  | _ => cases c
def excKB (K : PySem.W.Frag) (x : Str) : Bool := (He.Fa.glo x).ok K && (!(x == ("__debug__" : Str)) && (He.Fa.exc x).ok K)
def ltOf (K : PySem.W.Frag) (mg : Str → Option Value) (tf : List He.Defn) : LT := ⟨tf.map fun p => ((He.cT K p).2, (p.1 ++ ".<locals>.") ++ "<lambda>"), mg, none⟩
def csOf (K : PySem.W.Frag) (tf : List He.Defn) : List (Addr × Addr) := tf.map (He.cT K)
def uniqB (K : PySem.W.Frag) (tf : List He.Defn) : Bool := tf.all fun p => tf.all fun q => !decide ((He.cT K p).2 = (He.cT K q).2) || decide (p.1 = q.1)
/-- all that the row's end leans on beyond the defs -/
def modB (Pr : Prg) (tf : List He.Defn) (K : PySem.W.Frag) : Bool :=
  (bltNames.all fun x => (He.Fa.free x).ok K) && ((Pr.cst.all fun p => cstKB K p.1 p.2) && ((Pr.exs.all (excKB K)) && (subKB K Pr.sub && (uniqB K tf && ((Pr.defs.all fun p => (He.Fa.glo p.1).ok K) && Pr.lams.all fun p => (He.Fa.glo p.1).ok K)))))
section
variable {K : PySem.W.Frag} {mg : Str → Option Value} {h : Heap} {Pr : Prg} {tf : List He.Defn}
theorem defF {x : Str} {st : Stmt} {fd : FuncData} {N ps : List Str} {br : List Bool} {tab : Bool} (hu : uniqB K tf = true)
    (F : FunD K x x (defArgs st) (defBody st) (defScope st) [] [] (He.fAd K (x, none)) fd) (ht : tab = true → (x, none) ∈ tf)
    (S : FnScope N ps (defScope st)) (hl : ps.length = br.length) (b : ∀ (kV doc pm : Value) (an : Option Addr) (cdv ct : Value) (us : List Value), us.length = ps.length → bindArgs (PySem.W.fnOf x x (defArgs st) (defBody st) (defScope st) .none kV doc pm an cdv ct) ⟨us, []⟩ = pure (ps.zip us)) :
    DefOk K (ltOf K mg tf) (csOf K tf) (He.ga K x) ⟨N, defScope st, br, tab, defBody st⟩ fd ps := by
  have bd := F.bindsN b
  obtain ⟨oc, od, dV, kV, doc, pm, an, cdv, ct, osl, rfl, lk, hcd, hD, hK⟩ := F.ex
  refine ⟨⟨oc, od, osl, x, x, defArgs st, dV, kV, doc, pm, cdv, ct, an, rfl, lk, hcd, fun z => ?_⟩, S, hl, bd⟩
  obtain ⟨c, rfl⟩ := He.codeIn_ref hcd
  have e : He.codeOf K (x, none) = c := He.codeOf_eq lk rfl
  have hm := ht z
  have ec : He.cT K (x, none) = (c, (He.cT K (x, none)).2) := by rw [← e] <;> rfl
  refine ⟨c, (He.cT K (x, none)).2, rfl, List.mem_map.mpr ⟨_, hm, ec⟩, List.mem_map.mpr ⟨_, hm, rfl⟩, fun p hp hp1 => ?_⟩
  obtain ⟨q, hq, rfl⟩ := List.mem_map.mp hp
  have h2 := List.all_eq_true.mp (List.all_eq_true.mp hu _ hq) _ hm
  have h3 : (!decide ((He.cT K q).2 = (He.cT K (x, none)).2) || decide (q.1 = x)) = true := h2
  rw [show decide ((He.cT K q).2 = (He.cT K (x, none)).2) = true from decide_eq_true hp1] at h3
  have h4 : q.1 = x := of_decide_eq_true h3
  show (q.1 ++ ".<locals>.") ++ "<lambda>" = _
  rw [h4]
theorem DefsOk.addF {r : List (Str × Df)} (r0 : DefsOk K (ltOf K mg tf) (csOf K tf) mg r) {x : Str} {st : Stmt} {fd : FuncData} {N ps : List Str} {br : List Bool} {tab : Bool} (hu : uniqB K tf = true)
    (g : mg x = some (.ref (He.ga K x))) (F : FunD K x x (defArgs st) (defBody st) (defScope st) [] [] (He.fAd K (x, none)) fd) (ht : tab = true → (x, none) ∈ tf)
    (S : FnScope N ps (defScope st)) (hl : ps.length = br.length) (b : ∀ (kV doc pm : Value) (an : Option Addr) (cdv ct : Value) (us : List Value), us.length = ps.length → bindArgs (PySem.W.fnOf x x (defArgs st) (defBody st) (defScope st) .none kV doc pm an cdv ct) ⟨us, []⟩ = pure (ps.zip us)) :
    DefsOk K (ltOf K mg tf) (csOf K tf) mg ((x, ⟨N, defScope st, br, tab, defBody st⟩) :: r) :=
  .cons g F.kp (defF hu F ht S hl b) r0
inductive LamsOk (K : PySem.W.Frag) (mg : Str → Option Value) : List (Str × Df) → Prop
  | nil : LamsOk K mg []
  | cons {x : Str} {d : Df} {r : List (Str × Df)} {ga : Addr} {fd : FuncData} {a : Str} : mg x = some (.ref ga) → PySem.W.keepIn K (.ref ga) = true → LamOk K x ga d fd a → LamsOk K mg r → LamsOk K mg ((x, d) :: r)
theorem LamsOk.get : ∀ {l : List (Str × Df)} {g : Str} {d : Df}, LamsOk K mg l → l.lookup g = some d → ∃ ga fd a, mg g = some (.ref ga) ∧ PySem.W.keepIn K (.ref ga) = true ∧ LamOk K g ga d fd a
  | _, f, d, .nil, h => by cases h
  | _, f, d, .cons (x := x) h1 h2 h3 t, h => by
    rw [List.lookup_cons] at h
    split at h
    · rename_i e
      cases h
      have e := eq_of_beq e
      subst e
      exact ⟨_, _, _, h1, h2, h3⟩
    · exact LamsOk.get t h
theorem LamsOk.addF {r : List (Str × Df)} (r0 : LamsOk K mg r) {x a : Str} {st : Stmt} {fd : FuncData} {N : List Str} {br : List Bool} {tab : Bool}
    (g : mg x = some (.ref (He.ga K x))) (F : FunD K x x (defArgs st) (defBody st) (defScope st) [] [] (He.fAd K (x, none)) fd)
    (S : FnScope N [a] (defScope st)) (nd : (a == ("__debug__" : Str)) = false) (nc : (a == ("__classdict__" : Str)) = false)
    (b : ∀ (kV doc pm : Value) (an : Option Addr) (cdv ct : Value) (us : List Value), us.length = [a].length → bindArgs (PySem.W.fnOf x x (defArgs st) (defBody st) (defScope st) .none kV doc pm an cdv ct) ⟨us, []⟩ = pure ([a].zip us)) :
    LamsOk K mg ((x, ⟨N, defScope st, br, tab, defBody st⟩) :: r) := by
  have kp := F.kp
  have bd := F.bindsN b
  obtain ⟨oc, od, dV, kV, doc, pm, an, cdv, ct, osl, rfl, lk, hcd, hD, hK⟩ := F.ex
  exact .cons g kp ⟨⟨oc, od, osl, defArgs st, dV, kV, doc, pm, cdv, ct, an, rfl, lk, hcd⟩, S, bd, nd, nc⟩ r0
theorem glos_ok (X : K.In h) (G : h.Ns mainGlobals mg) {l : List (Str × Df)} (c : (l.all fun p => (He.Fa.glo p.1).ok K) = true) {x : Str} {d : Df} (hx : (x, d) ∈ l) : mg x = some (.ref (He.ga K x)) := He.glo_ok X G (List.all_eq_true.mp c _ hx)
theorem mod_ok (X : K.In h) (G : h.Ns mainGlobals mg) (c : modB Pr tf K = true) (D : DefsOk K (ltOf K mg tf) (csOf K tf) mg Pr.defs) (L : LamsOk K mg Pr.lams) : ModOk K (ltOf K mg tf) (csOf K tf) mg Pr := by
  obtain ⟨c1, c⟩ := He.ba c
  obtain ⟨c2, c⟩ := He.ba c
  obtain ⟨c3, c⟩ := He.ba c
  obtain ⟨c4, c⟩ := He.ba c
  refine ⟨fun f hf => He.free_ok X G (List.all_eq_true.mp c1 f hf), fun x d hx => cstK_ok X G (List.all_eq_true.mp c2 _ (lookup_mem hx)), fun C hC => ?_, fun f d hf => D.get hf, fun g d hg => L.get hg, subK_ok X G c4, rfl⟩
  have hm : C ∈ Pr.exs := by
    rw [List.contains_iff_exists_mem_beq] at hC
    obtain ⟨a, ha, e⟩ := hC
    rw [eq_of_beq e]
    exact ha
  obtain ⟨e1, e2⟩ := He.ba (List.all_eq_true.mp c3 C hm)
  obtain ⟨e3, e4⟩ := He.ba e2
  obtain ⟨f1, f2, f3, f4⟩ := He.exc_ok e4
  refine ⟨_, He.glo_ok X G e1, by simpa using e3, ⟨⟨_, _, _, _, PySem.F.excBase_ValueError, f1⟩, f2, f3, f4⟩⟩
theorem uniq_of (c : modB Pr tf K = true) : uniqB K tf = true := (He.ba (He.ba (He.ba (He.ba (He.ba c).2).2).2).2).1
theorem gloD_of (c : modB Pr tf K = true) : (Pr.defs.all fun p => (He.Fa.glo p.1).ok K) = true := (He.ba (He.ba (He.ba (He.ba (He.ba (He.ba c).2).2).2).2).2).1
theorem gloL_of (c : modB Pr tf K = true) : (Pr.lams.all fun p => (He.Fa.glo p.1).ok K) = true := (He.ba (He.ba (He.ba (He.ba (He.ba (He.ba c).2).2).2).2).2).2
theorem law_at {l : PySem.W.OpenLaw} {w : World} {fa : List He.Fa} {fn : List He.DefD} {ts : List He.Tab} {n k : Nat} {x : Str} {N : List Str} {tab : Bool} {st : Stmt} {fd : FuncData} {f : Addr} (X : K.In h) (G : h.Ns mainGlobals mg) (S : He.SaysX fa fn ts tf (modB Pr tf) w h K)
    (D : DefsOk K (ltOf K mg tf) (csOf K tf) mg Pr.defs) (L : LamsOk K mg Pr.lams) (hf : mg ("law" : Str) = some (.ref f)) (hg : mg ("law" : Str) = some (.ref (He.ga K "law")))
    (F : FunD K "law" "law" (defArgs st) (defBody st) (defScope st) [] [] (He.fAd K ("law", none)) fd) (ht : tab = true → (("law" : Str), none) ∈ tf)
    (Sc : FnScope N [x] (defScope st)) (b : ∀ (kV doc pm : Value) (an : Option Addr) (cdv ct : Value) (us : List Value), us.length = [x].length → bindArgs (PySem.W.fnOf "law" "law" (defArgs st) (defBody st) (defScope st) .none kV doc pm an cdv ct) ⟨us, []⟩ = pure ([x].zip us))
    (hp : Pays Pr k ⟨N, defScope st, [false], tab, defBody st⟩ n) : LamX.LawAtS l w K (L2.CX l.prog w) k n x mg f h := by
  rw [hf] at hg
  cases hg
  have M := mod_ok X G S.more D L
  refine ⟨fd, csOf K tf, spLaw (ltOf K mg tf) n K, fun p hp => ?_, fun p hp => ?_, fun p hp => ?_, fun s u => F.bindsA b s [u] rfl, fun H a ns hl _ hT hS => ⟨a, ns, rfl, hl, fun p hp => ?_, hS, fun _ => rfl⟩, fun base _ _ TB => law_ok M TB (defF (uniq_of S.more) F ht Sc rfl b) hp⟩
  · obtain ⟨q, hq, rfl⟩ := List.mem_map.mp hp
    exact S.empty q hq
  · obtain ⟨q, hq, rfl⟩ := List.mem_map.mp hp
    exact S.out q hq
  · obtain ⟨q, hq, rfl⟩ := List.mem_map.mp hp
    exact PySem.W.codeHd_of_K X (S.hd q hq)
  · obtain ⟨q, hq, rfl⟩ := List.mem_map.mp hp
    exact LamX.TabS.nil (hT (He.cT K q) (List.mem_map.mpr ⟨q, hq, rfl⟩))
end
end Ev
end
section
set_option maxHeartbeats 1000000
/-! EvM: plain lemmas on the evaluator's combinators, for the laws' mathematics. -/
namespace Ev
open PySem
abbrev cmpF (op : CmpOp) (p q : D) : Option Op := (cmpD op p q).bind imB

/-! ### shapes -/
def iL (ns : List Int) : List D := ns.map PyData.int
theorem iL_len {ns : List Int} : (iL ns).length = ns.length := List.length_map ..
theorem iL_nil : iL [] = [] := rfl
theorem iL_cons {n : Int} {ns : List Int} : iL (n :: ns) = .int n :: iL ns := rfl
theorem iL_app {a b : List Int} : iL (a ++ b) = iL a ++ iL b := List.map_append ..
theorem iL_get {ns : List Int} {i : Nat} : (iL ns)[i]? = (ns[i]?).map .int := List.getElem?_map ..
theorem iL_drop {ns : List Int} {i : Nat} : (iL ns).drop i = iL (ns.drop i) := List.map_drop.symm
theorem iL_take {ns : List Int} {i : Nat} : (iL ns).take i = iL (ns.take i) := List.map_take.symm
theorem plain_int {i : Int} : PyData.plain (.int i) = true := rfl
theorem plainAll_cons {x : D} {xs : List D} : PyData.plainAll (x :: xs) = (PyData.plain x && PyData.plainAll xs) := by simp [PyData.plainAll]
theorem plain_iL : ∀ {ns : List Int}, PyData.plainAll (iL ns) = true
  | [] => by simp [iL, PyData.plainAll]
  | n :: ns => by rw [iL_cons, plainAll_cons, plain_iL (ns := ns)]; rfl
theorem depth_iL : ∀ {ns : List Int}, PyData.depthAll (iL ns) = 0
  | [] => by simp [iL, PyData.depthAll]
  | n :: ns => by rw [iL_cons, PyData.depthAll, depth_iL (ns := ns)]; simp [PyData.depth]
theorem intsD_iL : ∀ {ns : List Int}, intsD (iL ns) = some ns
  | [] => rfl
  | n :: ns => by rw [iL_cons, intsD, intsD_iL]; rfl
theorem eqD_self {d : D} (h : shp d = true) : eqD d d = some true := by
  unfold eqD
  rw [h]
  have := PySem.SeqAt.eqv_refl_plain d (by unfold shp at h; exact (Bool.and_eq_true_iff.mp h).1)
  rw [this]; rfl
theorem shp_int {i : Int} : shp (.int i) = true := by simp [shp, PyData.plain, PyData.depth]
theorem shp_bool {i : Bool} : shp (.bool i) = true := by simp [shp, PyData.plain, PyData.depth]
theorem shp_none : shp .none = true := by simp [shp, PyData.plain, PyData.depth]
theorem shp_str {s : Str} : shp (.str s) = true := by simp [shp, PyData.plain, PyData.depth]
/-- how deep, at most -/
def shpN (n : Nat) (d : D) : Bool := PyData.plain d && decide (PyData.depth d ≤ n)
def shpNs (n : Nat) (ds : List D) : Bool := PyData.plainAll ds && decide (PyData.depthAll ds ≤ n)
theorem shp_N {d : D} : shp d = shpN 60 d := rfl
theorem shpN_int {i : Int} {n : Nat} : shpN n (.int i) = true := by simp [shpN, PyData.plain, PyData.depth]
theorem shpN_bool {i : Bool} {n : Nat} : shpN n (.bool i) = true := by simp [shpN, PyData.plain, PyData.depth]
theorem shpN_none {n : Nat} : shpN n .none = true := by simp [shpN, PyData.plain, PyData.depth]
theorem shpN_str {s : Str} {n : Nat} : shpN n (.str s) = true := by simp [shpN, PyData.plain, PyData.depth]
theorem shpN_tuple {ds : List D} {n : Nat} : shpN (n + 1) (.tuple ds) = shpNs n ds := by simp [shpN, shpNs, PyData.plain, PyData.depth]
theorem shpN_list {ds : List D} {n : Nat} : shpN (n + 1) (.list ds) = shpNs n ds := by simp [shpN, shpNs, PyData.plain, PyData.depth]
theorem shpNs_nil {n : Nat} : shpNs n [] = true := by simp [shpNs, PyData.plainAll, PyData.depthAll]
theorem shpNs_cons {d : D} {ds : List D} {n : Nat} : shpNs n (d :: ds) = (shpN n d && shpNs n ds) := by
  simp only [shpN, shpNs, PyData.plainAll, PyData.depthAll, Nat.max_le]
  cases PyData.plain d <;> cases PyData.plainAll ds <;> simp
theorem shpNs_app {a b : List D} {n : Nat} : shpNs n (a ++ b) = (shpNs n a && shpNs n b) := by
  induction a with
  | nil => simp [shpNs_nil]
  | cons x a ih => rw [List.cons_append, shpNs_cons, shpNs_cons, ih, Bool.and_assoc]
theorem shpNs_iL {ns : List Int} {n : Nat} : shpNs n (iL ns) = true := by
  induction ns with
  | nil => exact shpNs_nil
  | cons x a ih => rw [iL_cons, shpNs_cons, ih, shpN_int]; rfl
theorem shps_N {ds : List D} : shps ds = shpNs 60 ds := rfl
theorem alike_int {i j : Int} : PySem.W.alike (.int i) (.int j) = true := by simp [PySem.W.alike]
theorem alikeB_iL {ns : List Int} : alikeB (iL ns) = true := by
  unfold alikeB
  rw [Bool.and_eq_true_iff]
  refine ⟨List.all_eq_true.mpr fun x hx => List.all_eq_true.mpr fun y hy => ?_, List.all_eq_true.mpr fun x hx => ?_⟩
  · obtain ⟨i, _, rfl⟩ := List.mem_map.mp hx
    obtain ⟨j, _, rfl⟩ := List.mem_map.mp hy
    exact alike_int
  · obtain ⟨i, _, rfl⟩ := List.mem_map.mp hx
    rfl
theorem ltD_int {i j : Int} : ltD (.int i) (.int j) = some (decide (i < j)) := by
  simp [ltD, alike_int, isNone, shp_int, PySem.W.dataLt_int]
theorem leD_int {i j : Int} : leD (.int i) (.int j) = some (decide (i ≤ j)) := by
  simp only [leD, alike_int, isNone, shp_int, PySem.W.dataLt_int]
  by_cases h : i ≤ j
  · simp [h, Int.not_lt.mpr h]
  · simp [h, Int.not_le.mp h]
theorem eqD_int {i j : Int} : eqD (.int i) (.int j) = some (decide (i = j)) := by
  simp [eqD, shp_int, PyData.eqv]
  by_cases h : i = j <;> simp [h]
theorem eqD_str {i j : Str} : eqD (.str i) (.str j) = some (decide (i = j)) := by
  simp [eqD, shp_str, PyData.eqv]
  by_cases h : i = j <;> simp [h]
theorem bltD_sum_tup {ns : List Int} : bltD .sum [.tuple (iL ns)] = imI ns.sum := by simp [bltD, seqD, intsD_iL]
theorem bltD_sum_lst {ns : List Int} : bltD .sum [.list (iL ns)] = imI ns.sum := by simp [bltD, seqD, intsD_iL]
theorem bltD_max_tup {n : Int} {ns : List Int} : bltD .max [.tuple (iL (n :: ns))] = imI (ns.foldl max n) := by
  have h := alikeB_iL (ns := n :: ns)
  have h2 : shps (iL (n :: ns)) = true := shpNs_iL
  rw [iL_cons] at h h2 ⊢
  simp only [bltD, seqD, h, h2, Bool.and_self, if_true, imI]
  rw [iL, PySem.W.maxD_ints]
theorem bltD_max_lst {n : Int} {ns : List Int} : bltD .max [.list (iL (n :: ns))] = imI (ns.foldl max n) := by
  have h := alikeB_iL (ns := n :: ns)
  have h2 : shps (iL (n :: ns)) = true := shpNs_iL
  rw [iL_cons] at h h2 ⊢
  simp only [bltD, seqD, h, h2, Bool.and_self, if_true, imI]
  rw [iL, PySem.W.maxD_ints]
theorem bltD_min_tup {n : Int} {ns : List Int} : bltD .min [.tuple (iL (n :: ns))] = imI (ns.foldl min n) := by
  have h := alikeB_iL (ns := n :: ns)
  have h2 : shps (iL (n :: ns)) = true := shpNs_iL
  rw [iL_cons] at h h2 ⊢
  simp only [bltD, seqD, h, h2, Bool.and_self, if_true, imI]
  rw [iL, PySem.W.minD_ints]
theorem bltD_min_lst {n : Int} {ns : List Int} : bltD .min [.list (iL (n :: ns))] = imI (ns.foldl min n) := by
  have h := alikeB_iL (ns := n :: ns)
  have h2 : shps (iL (n :: ns)) = true := shpNs_iL
  rw [iL_cons] at h h2 ⊢
  simp only [bltD, seqD, h, h2, Bool.and_self, if_true, imI]
  rw [iL, PySem.W.minD_ints]
def bL (bs : List Bool) : List D := bs.map PyData.bool
theorem boolsD_bL : ∀ {bs : List Bool}, boolsD (bL bs) = some bs
  | [] => rfl
  | n :: ns => by rw [show bL (n :: ns) = .bool n :: bL ns from rfl, boolsD, boolsD_bL]; rfl
theorem bltD_all {bs : List Bool} : bltD .all [.list (bL bs)] = imB (bs.all id) := by simp [bltD, boolsD_bL]
theorem bltD_any {bs : List Bool} : bltD .any [.list (bL bs)] = imB (bs.any id) := by simp [bltD, boolsD_bL]
/-! ### statements, step by step -/
theorem stS_n {i : Nat} {v : Sv} {e : Sl} : stS [] i v e = some (pt e i (some v)) := rfl
theorem stS_1 {v : Sv} {e : Sl} : stS [0] 1 v e = some (pt e 1 (some v)) := rfl
theorem stS_2 {v : Sv} {e : Sl} : stS [0] 2 v e = some (pt e 2 (some v)) := rfl
theorem stS_3 {v : Sv} {e : Sl} : stS [0] 3 v e = some (pt e 3 (some v)) := rfl
theorem stS_4 {v : Sv} {e : Sl} : stS [0] 4 v e = some (pt e 4 (some v)) := rfl
theorem stS_5 {v : Sv} {e : Sl} : stS [0] 5 v e = some (pt e 5 (some v)) := rfl
theorem stS_6 {v : Sv} {e : Sl} : stS [0] 6 v e = some (pt e 6 (some v)) := rfl
theorem stS_7 {v : Sv} {e : Sl} : stS [0] 7 v e = some (pt e 7 (some v)) := rfl
theorem stS_8 {v : Sv} {e : Sl} : stS [0] 8 v e = some (pt e 8 (some v)) := rfl
theorem stS_9 {v : Sv} {e : Sl} : stS [0] 9 v e = some (pt e 9 (some v)) := rfl
theorem stS_10 {v : Sv} {e : Sl} : stS [0] 10 v e = some (pt e 10 (some v)) := rfl
theorem stS_11 {v : Sv} {e : Sl} : stS [0] 11 v e = some (pt e 11 (some v)) := rfl
theorem stS_12 {v : Sv} {e : Sl} : stS [0] 12 v e = some (pt e 12 (some v)) := rfl
theorem stS_13 {v : Sv} {e : Sl} : stS [0] 13 v e = some (pt e 13 (some v)) := rfl
theorem stS_14 {v : Sv} {e : Sl} : stS [0] 14 v e = some (pt e 14 (some v)) := rfl
theorem stS_15 {v : Sv} {e : Sl} : stS [0] 15 v e = some (pt e 15 (some v)) := rfl
theorem hid_im {fx : List Nat} {d : D} {e : Sl} : hideO fx (.im d) e = some (d, [], e) := rfl
theorem hid_tl {fx : List Nat} {xs : List D} {e : Sl} : hideO fx (.tl xs) e = some (.list xs, [], e) := rfl
theorem hid_n {i : Nat} {e : Sl} : hideO [] (.bor i) e = (fzO (.bor i) e).map fun r => (r.1, [], r.2) := rfl

@[simp] theorem finsOf_f {bs : List Bool} {x : Option Sv} {r : Sl} : finsOf (false :: bs) (x :: r) = none :: finsOf bs r := rfl
@[simp] theorem finsOf_t {bs : List Bool} {x : Option Sv} {r : Sl} : finsOf (true :: bs) (x :: r) = x :: finsOf bs r := rfl
@[simp] theorem finsOf_n {e : Sl} : finsOf [] e = [] := by cases e <;> rfl
section
variable {t : ME} {a b : MS} {r : List MS} {e e1 : Sl} {o : Op}
theorem ifS_true (h : t e = .ok (.im (.bool true)) e1) : ifS t a b e = a e1 := by unfold ifS; rw [h]; rfl
theorem ifS_false (h : t e = .ok (.im (.bool false)) e1) : ifS t a b e = b e1 := by unfold ifS; rw [h]; rfl
theorem seqS_nx (h : a e = .nx e1) : seqS (a :: b :: r) e = seqS (b :: r) e1 := by
  show (a e).bind (seqS (b :: r)) = _
  rw [h]; rfl
theorem seqS_rt (h : a e = .rt o e1) : seqS (a :: r) e = .rt o e1 := by
  cases r with
  | nil => exact h
  | cons b r =>
    show (a e).bind (seqS (b :: r)) = _
    rw [h]; rfl
theorem seqS_er {x : Exc} (h : a e = .er x e1) : seqS (a :: r) e = .er x e1 := by
  cases r with
  | nil => exact h
  | cons b r =>
    show (a e).bind (seqS (b :: r)) = _
    rw [h]; rfl
theorem seqS_one : seqS [a] = a := rfl
theorem seqS_end : seqS [] e = .nx e := rfl
theorem retS_ok (h : t e = .ok o e1) : retS t e = .rt o e1 := by unfold retS; rw [h]; rfl
theorem exprS_ok (h : t e = .ok o e1) : exprS t e = .nx e1 := by unfold exprS; rw [h]; rfl
theorem exprS_er {x : Exc} (h : t e = .er x e1) : exprS t e = .er x e1 := by unfold exprS; rw [h]; rfl
theorem asgS_im {i : Nat} {d : D} {fx : List Nat} (h : t e = .ok (.im d) e1) (hf : fx.contains i = false) : asgS (nameG fx i) t e = .nx (pt e1 i (some (.im d))) := by
  unfold asgS
  rw [h]
  simp only [Res.st, nameG, stS, hf]
  rfl
theorem asgS_tl {i : Nat} {ds : List D} {fx : List Nat} (h : t e = .ok (.tl ds) e1) (hf : fx.contains i = false) : asgS (nameG fx i) t e = .nx (pt e1 i (some (.ol ds))) := by
  unfold asgS
  rw [h]
  simp only [Res.st, nameG, stS, hf]
  rfl
theorem forS_nx {it : MI} {tg : MT} {ds : List D} {e2 : Sl} (h : it e = .ok ⟨ds, []⟩ e1) (h2 : forL tg a ds e1 = .nx e2) : forS it tg a e = .nx e2 := by
  unfold forS
  rw [h]
  simp only [Res.st, h2, endL, unhS]
theorem notE_ok {b : Bool} (h : t e = .ok (.im (.bool b)) e1) : notE t e = .ok (.im (.bool (!b))) e1 := by unfold notE; rw [h]; rfl
end
theorem binD_add {i j : Int} : binD .Add (.int i) (.int j) = some (.im (.int (i + j))) := rfl
theorem binD_sub {i j : Int} : binD .Sub (.int i) (.int j) = some (.im (.int (i - j))) := rfl
theorem binD_addT {xs ys : List D} (h : xs.length + ys.length ≤ sizeMax) : binD .Add (.tuple xs) (.tuple ys) = some (.im (.tuple (xs ++ ys))) := if_pos h
theorem binD_addL {xs ys : List D} (h : xs.length + ys.length ≤ sizeMax) : binD .Add (.list xs) (.list ys) = some (.tl (xs ++ ys)) := if_pos h
theorem bltD_allT {α : Type} {xs : List α} : bltD .all [.list (bL (xs.map fun _ => true))] = some (.im (.bool true)) := by
  rw [bltD_all]
  have : (xs.map fun _ => true).all id = true := by simp
  rw [this]; rfl
theorem all_true {α : Type} {xs : List α} : (bL (xs.map fun _ => true)) = xs.map fun _ => PyData.bool true := by simp [bL]
theorem ne_self {d : D} (h : shp d = true) : cmpF .NotEq d d = some (.im (.bool false)) := by
  simp only [cmpF, cmpD, eqD_self h, Option.map, Bool.not_true, Option.bind, imB]
theorem cutL_tail {xs : List D} (h : 1 ≤ xs.length) : cutL xs (some 1) none = xs.drop 1 := by
  simp only [cutL, cutI]
  have e : min (1 : Int).toNat xs.length = 1 := by simp; omega
  rw [if_neg (by decide), e, List.take_of_length_le (by simp)]
theorem zipI_map (f : Int → Int → Int) (g : D → D) (hg : ∀ i j, g (.tuple [.int i, .int j]) = .int (f i j)) : ∀ {as bs : List Int}, (zipI (iL as) (iL bs)).map g = iL (List.zipWith f as bs)
  | [], _ => by simp [iL, zipI]
  | _ :: _, [] => by simp [iL, zipI]
  | a :: as, b :: bs => by
    rw [iL_cons, iL_cons, zipI, List.map_cons, hg, zipI_map f g hg, List.zipWith_cons_cons, iL_cons]
theorem zipI_mem {d : D} : ∀ {as bs : List Int}, d ∈ zipI (iL as) (iL bs) → ∃ i j, d = .tuple [.int i, .int j]
  | [], _, h => by simp [iL, zipI] at h
  | _ :: _, [], h => by simp [iL, zipI] at h
  | a :: as, b :: bs, h => by
    rw [iL_cons, iL_cons, zipI] at h
    rcases List.mem_cons.mp h with rfl | h
    · exact ⟨a, b, rfl⟩
    · exact zipI_mem h
theorem zipI_len : ∀ {as bs : List D}, (zipI as bs).length = min as.length bs.length
  | [], _ => by simp [zipI]
  | _ :: _, [] => by simp [zipI]
  | a :: as, b :: bs => by rw [zipI, List.length_cons, zipI_len]; simp <;> omega
theorem gtI : ∀ {e : Sl} {i : Nat}, gt (imS e) i = match gt e i with | some (.im d) => some (.im d) | _ => none
  | [], i => by simp [imS, gt]
  | none :: r, 0 => rfl
  | none :: r, i + 1 => gtI (e := r)
  | some (.im d) :: r, 0 => rfl
  | some (.im d) :: r, i + 1 => gtI (e := r)
  | some (.ol d) :: r, 0 => rfl
  | some (.ol d) :: r, i + 1 => gtI (e := r)
  | some (.od d) :: r, 0 => rfl
  | some (.od d) :: r, i + 1 => gtI (e := r)
  | some (.ex d) :: r, 0 => rfl
  | some (.ex d) :: r, i + 1 => gtI (e := r)
theorem lamE_ok {fx fv : List Nat} {G : LRes → CRes} {m : ME} {e : Sl} {r : LRes} {d : D} {f : Sl} (hf : frzS fx fv e = e) (hm : lres (m (imS e)) = some r) (hG : G r = .ok (.im d) f) : lamE fx fv G m e = .ok (.im d) e := by
  unfold lamE
  rw [hf, hm]
  simp only [hG]
/-- a call with the hand and a new list -/
theorem callE_any1 {F : Sl → CRes} {m : ME} {a a1 fin xs : List D} {r r1 : Sl} {x : D} {s s1 : Option Sv} (hm : m (s :: some (.ol a) :: r) = .ok (.tl xs) (s1 :: some (.ol a1) :: r1)) (hF : F [some (.ol a1), some (.ol xs)] = .ok (.im x) [some (.ol fin), none]) :
    callE [true, false] F [varE 1, m] (s :: some (.ol a) :: r) = .ok (.im x) (s1 :: some (.ol fin) :: r1) := by
  unfold callE
  simp only [argsO, varE, gt, Res.bind, hm, toPar, pt, Option.map, hF, backs]
theorem callE_any {F : Sl → CRes} {m : ME} {a a1 fin xs : List D} {r r1 : Sl} {x : D} (hm : m (some (.ol a) :: r) = .ok (.tl xs) (some (.ol a1) :: r1)) (hF : F [some (.ol a1), some (.ol xs)] = .ok (.im x) [some (.ol fin), none]) :
    callE [true, false] F [varE 0, m] (some (.ol a) :: r) = .ok (.im x) (some (.ol fin) :: r1) := by
  unfold callE
  simp only [argsO, varE, gt, Res.bind, hm, toPar, pt, Option.map, hF, backs]
theorem finsOf_all {e : Sl} : finsOf [false, false] e = [none, none] := by
  cases e with
  | nil => rfl
  | cons a e => cases e <;> simp [finsOf]
theorem finsOf_all3 {e : Sl} : finsOf [false, false, false] e = [none, none, none] := by
  cases e with
  | nil => rfl
  | cons a e => cases e with
    | nil => rfl
    | cons b e => cases e <;> simp [finsOf]
/-! ### loops -/
/-- an invariant of a for loop -/
theorem forL_inv {tg : MT} {body : MS} (I : Sl → Prop) : ∀ (ds : List D) (e : Sl), I e → (∀ d, d ∈ ds → ∀ e, I e → ∃ e1, tg d e = some e1 ∧ ∃ e2, body e1 = .nx e2 ∧ I e2) → ∃ e', forL tg body ds e = .nx e' ∧ I e'
  | [], e, hI, _ => ⟨e, rfl, hI⟩
  | d :: ds, e, hI, h => by
    obtain ⟨e1, h1, e2, h2, h3⟩ := h d List.mem_cons_self e hI
    obtain ⟨e', h4, h5⟩ := forL_inv I ds e2 h3 fun d hd => h d (List.mem_cons_of_mem _ hd)
    refine ⟨e', ?_, h5⟩
    unfold forL
    rw [h1]
    simp only [h2]
    exact h4
/-- a for loop that may return -/
theorem forL_rt {tg : MT} {body : MS} (I : Sl → Prop) : ∀ (ds : List D) (e : Sl), I e → (∀ d, d ∈ ds → ∀ e, I e → ∃ e1, tg d e = some e1 ∧ ((∃ e2, body e1 = .nx e2 ∧ I e2) ∨ ∃ w e2, body e1 = .rt (.im w) e2)) → (∃ e', forL tg body ds e = .nx e' ∧ I e') ∨ ∃ w e', forL tg body ds e = .rt (.im w) e'
  | [], e, hI, _ => .inl ⟨e, rfl, hI⟩
  | d :: ds, e, hI, h => by
    obtain ⟨e1, h1, h2⟩ := h d List.mem_cons_self e hI
    unfold forL
    rw [h1]
    rcases h2 with ⟨e2, h2, h3⟩ | ⟨w, e2, h2⟩
    · simp only [h2]
      exact forL_rt I ds e2 h3 fun d hd => h d (List.mem_cons_of_mem _ hd)
    · exact .inr ⟨w, e2, by simp only [h2]⟩
/-- a for loop whose turns are a function of a state -/
theorem forL_fold {α : Type} {tg : MT} {body : MS} (S : α → Sl) (f : α → D → α) : ∀ (ds : List D) (a : α), (∀ d, d ∈ ds → ∀ a, ∃ e1, tg d (S a) = some e1 ∧ body e1 = .nx (S (f a d))) → forL tg body ds (S a) = .nx (S (ds.foldl f a))
  | [], a, _ => rfl
  | d :: ds, a, h => by
    obtain ⟨e1, h1, h2⟩ := h d List.mem_cons_self a
    unfold forL
    rw [h1]
    simp only [h2]
    exact forL_fold S f ds (f a d) fun d hd => h d (List.mem_cons_of_mem _ hd)
/-- a comprehension whose element is a function of the item -/
theorem compL_map {own : List Nat} {tg : MT} {cond elt : ME} {e : Sl} (f : D → D) : ∀ (ds acc : List D), (∀ d, d ∈ ds → ∃ e1, tg d e = some e1 ∧ cond e1 = .ok (.im (.bool true)) e1 ∧ elt e1 = .ok (.im (f d)) e1 ∧ wipeS e1 own = e) → acc.length + ds.length ≤ sizeMax →
    compL own tg cond elt ds acc e = .ok (acc ++ ds.map f) e
  | [], acc, _, _ => by simp [compL]
  | d :: ds, acc, h, hl => by
    obtain ⟨e1, h1, h2, h3, h4⟩ := h d List.mem_cons_self
    have l1 : acc.length < sizeMax := by simp only [List.length_cons] at hl; omega
    unfold compL
    simp only [h1, h2, noer, Res.bind, tru, h3, fzO, if_pos l1, h4]
    rw [compL_map f ds (acc ++ [f d]) (fun d hd => h d (List.mem_cons_of_mem _ hd)) (by simp only [List.length_append, List.length_cons, List.length_nil] at hl ⊢; omega)]
    simp
/-- a comprehension that changes a state: each item's element comes of the state -/
theorem compL_inv {own : List Nat} {tg : MT} {cond elt : ME} (I : Sl → Prop) (Q : D → Prop) : ∀ (ds acc : List D) (e : Sl), I e → (∀ d, d ∈ ds → ∀ e, I e → ∃ e1, tg d e = some e1 ∧ cond e1 = .ok (.im (.bool true)) e1 ∧ ∃ r e2, elt e1 = .ok (.im r) e2 ∧ Q r ∧ I (wipeS e2 own)) → acc.length + ds.length ≤ sizeMax →
    ∃ rs e', compL own tg cond elt ds acc e = .ok (acc ++ rs) e' ∧ rs.length = ds.length ∧ (∀ r ∈ rs, Q r) ∧ I e'
  | [], acc, e, hI, _, _ => ⟨[], e, by simp [compL], rfl, by simp, hI⟩
  | d :: ds, acc, e, hI, h, hl => by
    obtain ⟨e1, h1, h2, r, e2, h3, hq, h4⟩ := h d List.mem_cons_self e hI
    have l1 : acc.length < sizeMax := by simp only [List.length_cons] at hl; omega
    obtain ⟨rs, e', h5, h6, h7, h8⟩ := compL_inv I Q ds (acc ++ [r]) (wipeS e2 own) h4 (fun d hd => h d (List.mem_cons_of_mem _ hd)) (by simp only [List.length_append, List.length_cons, List.length_nil] at hl ⊢; omega)
    refine ⟨r :: rs, e', ?_, by simp [h6], fun q hq' => ?_, h8⟩
    · unfold compL
      simp only [h1, h2, noer, Res.bind, tru, h3, fzO, if_pos l1]
      rw [h5]
      simp
    · rcases List.mem_cons.mp hq' with rfl | z
      · exact hq
      · exact h7 q z
theorem compE_map {own : List Nat} {it : MI} {tg : MT} {cond elt : ME} {e e1 : Sl} {ds : List D} (f : D → D) (hit : it e = .ok ⟨ds, []⟩ e1) (hi : imOnly e1 own = true) (hl : ds.length ≤ sizeMax)
    (h : ∀ d, d ∈ ds → ∃ e2, tg d (wipeS e1 own) = some e2 ∧ cond e2 = .ok (.im (.bool true)) e2 ∧ elt e2 = .ok (.im (f d)) e2 ∧ wipeS e2 own = wipeS e1 own) :
    compE own it tg cond elt e = .ok (.tl (ds.map f)) (restS e1 (wipeS e1 own) own) := by
  unfold compE
  rw [hit]
  simp only [Res.bind, hi, if_true]
  rw [compL_map f ds [] h (by simpa using hl)]
  rfl
/-- a comprehension with a condition -/
theorem compL_filter {own : List Nat} {tg : MT} {cond elt : ME} {e : Sl} (p : D → Bool) (f : D → D) : ∀ (ds acc : List D), (∀ d, d ∈ ds → ∃ e1, tg d e = some e1 ∧ cond e1 = .ok (.im (.bool (p d))) e1 ∧ elt e1 = .ok (.im (f d)) e1 ∧ wipeS e1 own = e) → acc.length + ds.length ≤ sizeMax →
    compL own tg cond elt ds acc e = .ok (acc ++ (ds.filter p).map f) e
  | [], acc, _, _ => by simp [compL]
  | d :: ds, acc, h, hl => by
    obtain ⟨e1, h1, h2, h3, h4⟩ := h d List.mem_cons_self
    have l1 : acc.length < sizeMax := by simp only [List.length_cons] at hl; omega
    have rest := fun acc' (hl' : acc'.length + ds.length ≤ sizeMax) => compL_filter p f ds acc' (fun d hd => h d (List.mem_cons_of_mem _ hd)) hl'
    unfold compL
    cases q : p d with
    | true =>
      rw [q] at h2
      simp only [h1, h2, noer, Res.bind, tru, h3, fzO, if_pos l1, h4]
      rw [rest (acc ++ [f d]) (by simp only [List.length_append, List.length_cons, List.length_nil] at hl ⊢; omega)]
      simp [List.filter_cons, q]
    | false =>
      rw [q] at h2
      simp only [h1, h2, noer, Res.bind, tru, h4]
      rw [rest acc (by simp only [List.length_cons] at hl; omega)]
      simp [List.filter_cons, q]
theorem compE_filter {own : List Nat} {it : MI} {tg : MT} {cond elt : ME} {e e1 : Sl} {ds : List D} (p : D → Bool) (f : D → D) (hit : it e = .ok ⟨ds, []⟩ e1) (hi : imOnly e1 own = true) (hl : ds.length ≤ sizeMax)
    (h : ∀ d, d ∈ ds → ∃ e2, tg d (wipeS e1 own) = some e2 ∧ cond e2 = .ok (.im (.bool (p d))) e2 ∧ elt e2 = .ok (.im (f d)) e2 ∧ wipeS e2 own = wipeS e1 own) :
    compE own it tg cond elt e = .ok (.tl ((ds.filter p).map f)) (restS e1 (wipeS e1 own) own) := by
  unfold compE
  rw [hit]
  simp only [Res.bind, hi, if_true]
  rw [compL_filter p f ds [] h (by simpa using hl)]
  rfl
theorem compE_inv {own : List Nat} {it : MI} {tg : MT} {cond elt : ME} {e e1 : Sl} {ds : List D} (I : Sl → Prop) (Q : D → Prop) (hit : it e = .ok ⟨ds, []⟩ e1) (hi : imOnly e1 own = true) (hl : ds.length ≤ sizeMax) (h0 : I (wipeS e1 own))
    (h : ∀ d, d ∈ ds → ∀ e, I e → ∃ e1, tg d e = some e1 ∧ cond e1 = .ok (.im (.bool true)) e1 ∧ ∃ r e2, elt e1 = .ok (.im r) e2 ∧ Q r ∧ I (wipeS e2 own)) :
    ∃ rs e', compE own it tg cond elt e = .ok (.tl rs) (restS e1 e' own) ∧ rs.length = ds.length ∧ (∀ r ∈ rs, Q r) ∧ I e' := by
  obtain ⟨rs, e', h1, h2, h3, h4⟩ := compL_inv I Q ds [] (wipeS e1 own) h0 h (by simpa using hl)
  refine ⟨rs, e', ?_, h2, h3, h4⟩
  unfold compE
  rw [hit]
  simp only [Res.bind, hi, if_true, h1]
  rfl
theorem foldl_max_ge : ∀ (ns : List Int) (n : Int), n ≤ ns.foldl max n ∧ ∀ x ∈ ns, x ≤ ns.foldl max n
  | [], n => ⟨Int.le_refl _, by simp⟩
  | m :: ns, n => by
    obtain ⟨h1, h2⟩ := foldl_max_ge ns (max n m)
    refine ⟨?_, fun x hx => ?_⟩
    · rw [List.foldl_cons]; omega
    · rw [List.foldl_cons]
      rcases List.mem_cons.mp hx with rfl | hx
      · omega
      · exact h2 x hx
theorem foldl_max_mem : ∀ (ns : List Int) (n : Int), ns.foldl max n = n ∨ ns.foldl max n ∈ ns
  | [], n => .inl rfl
  | m :: ns, n => by
    rw [List.foldl_cons]
    rcases foldl_max_mem ns (max n m) with h | h
    · rw [h]
      rcases Int.le_total n m with h' | h'
      · exact .inr (by rw [Int.max_eq_right h']; exact List.mem_cons_self)
      · exact .inl (Int.max_eq_left h')
    · exact .inr (List.mem_cons_of_mem _ h)
/-- two lists, each of whose numbers is at most one of the other: one greatest -/
theorem max_eq {a b : Int} {as bs : List Int} (h : ∀ x ∈ a :: as, ∃ y ∈ b :: bs, x ≤ y) (h' : ∀ x ∈ b :: bs, ∃ y ∈ a :: as, x ≤ y) : as.foldl max a = bs.foldl max b := by
  have ge : ∀ {a : Int} {as : List Int}, ∀ x ∈ a :: as, x ≤ as.foldl max a := fun {a as} x hx => by
    rcases List.mem_cons.mp hx with rfl | hx
    · exact (foldl_max_ge as x).1
    · exact (foldl_max_ge as a).2 x hx
  have mem : ∀ {a : Int} {as : List Int}, as.foldl max a ∈ a :: as := fun {a as} => by
    rcases foldl_max_mem as a with h | h
    · rw [h]; exact List.mem_cons_self
    · exact List.mem_cons_of_mem _ h
  obtain ⟨y, hy, h1⟩ := h _ mem
  obtain ⟨z, hz, h2⟩ := h' _ mem
  have := ge y hy
  have := ge z hz
  omega
theorem rep_one {n : Nat} {x : D} : (List.replicate n [x]).flatten = List.replicate n x := by
  induction n with
  | zero => rfl
  | succ n ih => rw [List.replicate_succ, List.flatten_cons, ih]; rfl
theorem iL_rep {n : Nat} {i : Int} : iL (List.replicate n i) = List.replicate n (.int i) := List.map_replicate
/-- (0,) * n -/
theorem mul_tup {k : Int} {x : D} (h : 0 ≤ k) (h2 : k ≤ 1000) : binD .Mult (.tuple [x]) (.int k) = some (.im (.tuple (List.replicate k.toNat x))) := by
  simp [binD, h, h2, rep_one]
theorem rangeI_len {lo : Int} {n : Nat} : (rangeI lo n).length = n := by
  induction n generalizing lo with
  | zero => rfl
  | succ n ih => simp [rangeI, ih]
theorem imOnly_nil {e : Sl} : imOnly e [] = true := rfl
theorem iL_of : ∀ {rs : List D}, (∀ r ∈ rs, ∃ i : Int, r = .int i) → ∃ ns : List Int, rs = iL ns
  | [], _ => ⟨[], rfl⟩
  | r :: rs, h => by
    obtain ⟨i, rfl⟩ := h r List.mem_cons_self
    obtain ⟨ns, rfl⟩ := iL_of fun r hr => h r (List.mem_cons_of_mem _ hr)
    exact ⟨i :: ns, rfl⟩
end Ev
end
section
set_option maxHeartbeats 4000000
/-! EvH: the laws' hand, a draw. -/
namespace Ev
open PySem
structure Hand where
  cells : List Int
  pos : Int
  big : Int
  seed : Int
  cnt : Int
def Hand.ds (h : Hand) : List D := [.list (iL h.cells), .int h.pos, .int h.big, .int h.seed, .int h.cnt]
def Hand.ok (h : Hand) : Prop := 0 ≤ h.pos ∧ 0 ≤ h.big
def draw0 (B C : Int) : MS := (ifS (andE [(op2 (cmpF .Eq) (op2 subD (varE 0) (immE (.int 2))) (immE (.int 0))), (op2 (cmpF .Lt) (op2 subD (varE 0) (immE (.int 1))) (bltE (bltD .len) [(op2 subD (varE 0) (immE (.int 0)))]))]) (seqS [(asgS (nameG [0] 3) (op2 subD (op2 subD (varE 0) (immE (.int 0))) (op2 subD (varE 0) (immE (.int 1))))), (setiS 0 setF (immE (.int 1)) (op2 (binD .Add) (op2 subD (varE 0) (immE (.int 1))) (immE (.int 1)))), (setiS 0 setF (immE (.int 3)) (op2 (binD .Mod) (bltE (bltD .int) [(op2 (binD .Add) (op2 (binD .Add) (op2 (binD .Mult) (op2 subD (varE 0) (immE (.int 3))) (immE (.int 69621))) (op2 (binD .Mult) (varE 3) (immE (.int B)))) (immE (.int C)))]) (immE (.int 2147483629)))), (ifS (op2 (cmpF .GtE) (varE 3) (op2 (binD .Pow) (immE (.int 10)) (immE (.int 18)))) (seqS [(setiS 0 setF (immE (.int 2)) (varE 3))]) (seqS []))]) (seqS []))
def draw1 : MS := (ifS (op2 (cmpF .Gt) (op2 subD (varE 0) (immE (.int 2))) (immE (.int 0))) (seqS [(asgS (nameG [0] 4) (op2 (binD .Mod) (bltE (bltD .int) [(op2 subD (varE 0) (immE (.int 2)))]) (varE 1))), (setiS 0 setF (immE (.int 2)) (op2 (binD .FloorDiv) (op2 subD (varE 0) (immE (.int 2))) (varE 1))), (retS (varE 4))]) (seqS []))
def draw2 : MS := (setiS 0 setF (immE (.int 4)) (op2 (binD .Add) (op2 subD (varE 0) (immE (.int 4))) (immE (.int 1))))
def draw3 (F : Int) : MS := (asgS (nameG [0] 2) (op2 (binD .Mod) (bltE (bltD .int) [(op2 (binD .Mult) (bltE (bltD .int) [(op2 (binD .Add) (op2 subD (varE 0) (immE (.int 3))) (op2 (binD .Mult) (immE (.int 7919)) (op2 subD (varE 0) (immE (.int 4)))))]) (immE (.int F)))]) (immE (.int 2147483647))))
def draw4 : MS := (asgS (nameG [0] 2) (op2 (binD .Mod) (bltE (bltD .int) [(op2 (binD .Mult) (varE 2) (op2 (binD .Add) (op2 (binD .FloorDiv) (varE 2) (immE (.int 1009))) (immE (.int 69621))))]) (immE (.int 2147483647))))
def draw5 : MS := (asgS (nameG [0] 2) (op2 (binD .Mod) (bltE (bltD .int) [(op2 (binD .Mult) (varE 2) (op2 (binD .Add) (op2 (binD .FloorDiv) (varE 2) (immE (.int 2003))) (immE (.int 40014))))]) (immE (.int 2147483563))))
def draw6 : MS := (retS (op2 (binD .Mod) (bltE (bltD .int) [(op2 (binD .FloorDiv) (varE 2) (immE (.int 16)))]) (varE 1)))
theorem small_mod {a m : Int} (hm : 0 < m) (h : m < 2 ^ 64) : small64 (a.fmod m) = true := by
  have h1 := Int.fmod_nonneg_of_pos a hm
  have h2 := Int.fmod_lt_of_pos a hm
  simp only [small64, Bool.and_eq_true, decide_eq_true_eq]
  omega
theorem ixD_0 {n : Nat} (h : 0 < n) : ixD n 0 = some 0 := by simp [ixD]; omega
theorem ixD_at {n : Nat} {i : Int} (h0 : 0 ≤ i) (h : i < n) : ixD n i = some i.toNat := by simp [ixD, h0, h]
def dw (a b c d f : D) (m : Int) (x y z : Option Sv) : Sl := [some (.ol [a, b, c, d, f]), some (.im (.int m)), x, y, z]
section
variable {a b c d f v : D} {m : Int} {x y z : Option Sv}
theorem dw_m : varE 1 (dw a b c d f m x y z) = .ok (.im (.int m)) (dw a b c d f m x y z) := rfl
theorem dw_0 : op2 subD (varE 0) (immE (.int 0)) (dw a b c d f m x y z) = .ok (.im a) (dw a b c d f m x y z) := rfl
theorem dw_1 : op2 subD (varE 0) (immE (.int 1)) (dw a b c d f m x y z) = .ok (.im b) (dw a b c d f m x y z) := rfl
theorem dw_2 : op2 subD (varE 0) (immE (.int 2)) (dw a b c d f m x y z) = .ok (.im c) (dw a b c d f m x y z) := rfl
theorem dw_3 : op2 subD (varE 0) (immE (.int 3)) (dw a b c d f m x y z) = .ok (.im d) (dw a b c d f m x y z) := rfl
theorem dw_4 : op2 subD (varE 0) (immE (.int 4)) (dw a b c d f m x y z) = .ok (.im f) (dw a b c d f m x y z) := rfl
theorem dw_n {n : D} : varE 2 (dw a b c d f m (some (.im n)) y z) = .ok (.im n) (dw a b c d f m (some (.im n)) y z) := rfl
theorem dw_c {n : D} : varE 3 (dw a b c d f m x (some (.im n)) z) = .ok (.im n) (dw a b c d f m x (some (.im n)) z) := rfl
theorem dw_d {n : D} : varE 4 (dw a b c d f m x y (some (.im n))) = .ok (.im n) (dw a b c d f m x y (some (.im n))) := rfl
theorem op2_ok {g : D → D → Option Op} {p q : ME} {e e1 e2 : Sl} {u w : D} (h1 : p e = .ok (.im u) e1) (h2 : q e1 = .ok (.im w) e2) : op2 g p q e = lift (g u w) e2 := by
  unfold op2
  rw [h1]
  simp only [Res.bind, h2, vw]
theorem op2_to {g : D → D → Option Op} {p q : ME} {e e1 e2 : Sl} {u w : D} {o : Op} (h1 : p e = .ok (.im u) e1) (h2 : q e1 = .ok (.im w) e2) (h3 : g u w = some o) : op2 g p q e = .ok o e2 := by
  rw [op2_ok h1 h2, h3] <;> rfl
theorem blt1_ok {g : List D → Option Op} {p : ME} {e e1 : Sl} {u : D} (h1 : p e = .ok (.im u) e1) : bltE g [p] e = lift (g [u]) e1 := by
  unfold bltE
  simp only [argsO, Res.bind, h1, vws, vw]
end
theorem blt1_to {g : List D → Option Op} {p : ME} {e e1 : Sl} {u : D} {o : Op} (h1 : p e = .ok (.im u) e1) (h3 : g [u] = some o) : bltE g [p] e = .ok o e1 := by
  rw [blt1_ok h1, h3] <;> rfl
theorem imm_ok {d : D} {e : Sl} : immE d e = .ok (.im d) e := rfl
theorem draw_tail {F : Int} (hF : small64 F = true) {a b d f : D} {m s n : Int} {x y z : Option Sv} (hm : 0 < m) (hm2 : m < 1073741824) :
    ∃ i t, (seqS [draw2, draw3 F, draw4, draw5, draw6]) (dw a b (.int 0) (.int s) (.int n) m x y z) = .rt (.im (.int i)) (dw a b (.int 0) (.int s) (.int (n + 1)) m t y z) ∧ 0 ≤ i ∧ i < m := by
  let n1 : Int := ((s + 7919 * (n + 1)) * F).fmod 2147483647
  let n2 : Int := (n1 * (n1.fdiv 1009 + 69621)).fmod 2147483647
  let n3 : Int := (n2 * (n2.fdiv 2003 + 40014)).fmod 2147483563
  have s1 : small64 n1 = true := small_mod (by decide) (by decide)
  have s2 : small64 n2 = true := small_mod (by decide) (by decide)
  refine ⟨(n3.fdiv 16).fmod m, some (.im (.int n3)), ?_, Int.fmod_nonneg_of_pos _ hm, Int.fmod_lt_of_pos _ hm⟩
  have e2 : draw2 (dw a b (.int 0) (.int s) (.int n) m x y z) = .nx (dw a b (.int 0) (.int s) (.int (n + 1)) m x y z) := rfl
  have e3 : draw3 F (dw a b (.int 0) (.int s) (.int (n + 1)) m x y z) = .nx (dw a b (.int 0) (.int s) (.int (n + 1)) m (some (.im (.int n1))) y z) := by
    have h1 : op2 (binD .Mult) (immE (.int 7919)) (op2 subD (varE 0) (immE (.int 4))) (dw a b (.int 0) (.int s) (.int (n + 1)) m x y z) = .ok (.im (.int (7919 * (n + 1)))) (dw a b (.int 0) (.int s) (.int (n + 1)) m x y z) := by
      rw [op2_ok imm_ok dw_4]
      simp [binD, small64, imI, lift]
    have h2 : op2 (binD .Mult) (bltE (bltD .int) [(op2 (binD .Add) (op2 subD (varE 0) (immE (.int 3))) (op2 (binD .Mult) (immE (.int 7919)) (op2 subD (varE 0) (immE (.int 4)))))]) (immE (.int F)) (dw a b (.int 0) (.int s) (.int (n + 1)) m x y z) = .ok (.im (.int ((s + 7919 * (n + 1)) * F))) (dw a b (.int 0) (.int s) (.int (n + 1)) m x y z) := by
      rw [op2_ok (blt1_to (op2_to dw_3 h1 rfl) rfl) imm_ok]
      simp [binD, hF, imI, lift]
    unfold draw3 asgS
    rw [op2_ok (blt1_to h2 rfl) imm_ok]
    rfl
  have e4 : draw4 (dw a b (.int 0) (.int s) (.int (n + 1)) m (some (.im (.int n1))) y z) = .nx (dw a b (.int 0) (.int s) (.int (n + 1)) m (some (.im (.int n2))) y z) := by
    have h1 : op2 (binD .FloorDiv) (varE 2) (immE (.int 1009)) (dw a b (.int 0) (.int s) (.int (n + 1)) m (some (.im (.int n1))) y z) = .ok (.im (.int (n1.fdiv 1009))) (dw a b (.int 0) (.int s) (.int (n + 1)) m (some (.im (.int n1))) y z) := rfl
    have h2 : op2 (binD .Mult) (varE 2) (op2 (binD .Add) (op2 (binD .FloorDiv) (varE 2) (immE (.int 1009))) (immE (.int 69621))) (dw a b (.int 0) (.int s) (.int (n + 1)) m (some (.im (.int n1))) y z) = .ok (.im (.int (n1 * (n1.fdiv 1009 + 69621)))) (dw a b (.int 0) (.int s) (.int (n + 1)) m (some (.im (.int n1))) y z) := by
      rw [op2_ok dw_n (op2_to h1 imm_ok rfl)]
      simp only [binD, s1, Bool.true_or, if_true, imI, lift]
    unfold draw4 asgS
    rw [op2_ok (blt1_to h2 rfl) imm_ok]
    rfl
  have e5 : draw5 (dw a b (.int 0) (.int s) (.int (n + 1)) m (some (.im (.int n2))) y z) = .nx (dw a b (.int 0) (.int s) (.int (n + 1)) m (some (.im (.int n3))) y z) := by
    have h1 : op2 (binD .FloorDiv) (varE 2) (immE (.int 2003)) (dw a b (.int 0) (.int s) (.int (n + 1)) m (some (.im (.int n2))) y z) = .ok (.im (.int (n2.fdiv 2003))) (dw a b (.int 0) (.int s) (.int (n + 1)) m (some (.im (.int n2))) y z) := rfl
    have h2 : op2 (binD .Mult) (varE 2) (op2 (binD .Add) (op2 (binD .FloorDiv) (varE 2) (immE (.int 2003))) (immE (.int 40014))) (dw a b (.int 0) (.int s) (.int (n + 1)) m (some (.im (.int n2))) y z) = .ok (.im (.int (n2 * (n2.fdiv 2003 + 40014)))) (dw a b (.int 0) (.int s) (.int (n + 1)) m (some (.im (.int n2))) y z) := by
      rw [op2_ok dw_n (op2_to h1 imm_ok rfl)]
      simp only [binD, s2, Bool.true_or, if_true, imI, lift]
    unfold draw5 asgS
    rw [op2_ok (blt1_to h2 rfl) imm_ok]
    rfl
  have e6 : draw6 (dw a b (.int 0) (.int s) (.int (n + 1)) m (some (.im (.int n3))) y z) = .rt (.im (.int ((n3.fdiv 16).fmod m))) (dw a b (.int 0) (.int s) (.int (n + 1)) m (some (.im (.int n3))) y z) := by
    have h1 : op2 (binD .FloorDiv) (varE 2) (immE (.int 16)) (dw a b (.int 0) (.int s) (.int (n + 1)) m (some (.im (.int n3))) y z) = .ok (.im (.int (n3.fdiv 16))) (dw a b (.int 0) (.int s) (.int (n + 1)) m (some (.im (.int n3))) y z) := rfl
    unfold draw6 retS
    rw [op2_ok (blt1_to h1 rfl) dw_m]
    have : m ≠ 0 := by omega
    simp [bltD, binD, imI, lift, this, Res.st]
  simp only [seqS, SR.bind, e2, e3, e4, e5, e6]
theorem draw1_big {a b d f : D} {m g : Int} {x y z : Option Sv} (hm : 0 < m) (hm2 : m < 1073741824) (hg : 0 < g) :
    draw1 (dw a b (.int g) d f m x y z) = .rt (.im (.int (g.fmod m))) (dw a b (.int (g.fdiv m)) d f m x y (some (.im (.int (g.fmod m))))) := by
  have m0 : m ≠ 0 := by omega
  have mn : m.natAbs < 1073741824 := by omega
  have ht : op2 (cmpF .Gt) (op2 subD (varE 0) (immE (.int 2))) (immE (.int 0)) (dw a b (.int g) d f m x y z) = .ok (.im (.bool true)) (dw a b (.int g) d f m x y z) := by
    rw [op2_ok dw_2 imm_ok]
    simp only [cmpF, cmpD, ltD_int, Option.bind, imB, lift, decide_eq_true hg]
  have h1 : op2 (binD .Mod) (bltE (bltD .int) [(op2 subD (varE 0) (immE (.int 2)))]) (varE 1) (dw a b (.int g) d f m x y z) = .ok (.im (.int (g.fmod m))) (dw a b (.int g) d f m x y z) := by
    rw [op2_ok (blt1_to dw_2 rfl) dw_m]
    simp [binD, imI, lift, m0]
  have a1 : asgS (nameG [0] 4) (op2 (binD .Mod) (bltE (bltD .int) [(op2 subD (varE 0) (immE (.int 2)))]) (varE 1)) (dw a b (.int g) d f m x y z) = .nx (dw a b (.int g) d f m x y (some (.im (.int (g.fmod m))))) := by
    unfold asgS
    rw [h1]
    rfl
  have h2 : op2 (binD .FloorDiv) (op2 subD (varE 0) (immE (.int 2))) (varE 1) (dw a b (.int g) d f m x y (some (.im (.int (g.fmod m))))) = .ok (.im (.int (g.fdiv m))) (dw a b (.int g) d f m x y (some (.im (.int (g.fmod m))))) := by
    rw [op2_ok dw_2 dw_m]
    simp [binD, imI, lift, m0, mn]
  have a2 : setiS 0 setF (immE (.int 2)) (op2 (binD .FloorDiv) (op2 subD (varE 0) (immE (.int 2))) (varE 1)) (dw a b (.int g) d f m x y (some (.im (.int (g.fmod m))))) = .nx (dw a b (.int (g.fdiv m)) d f m x y (some (.im (.int (g.fmod m))))) := by
    unfold setiS
    rw [h2]
    rfl
  unfold draw1 ifS
  rw [ht]
  simp only [Res.st, tru, seqS, SR.bind, a1, a2]
  rfl
theorem draw1_none {a b d f : D} {m : Int} {x y z : Option Sv} : draw1 (dw a b (.int 0) d f m x y z) = .nx (dw a b (.int 0) d f m x y z) := by
  have ht : op2 (cmpF .Gt) (op2 subD (varE 0) (immE (.int 2))) (immE (.int 0)) (dw a b (.int 0) d f m x y z) = .ok (.im (.bool false)) (dw a b (.int 0) d f m x y z) := by
    rw [op2_ok dw_2 imm_ok]
    simp [cmpF, cmpD, ltD_int, imB, lift]
  unfold draw1 ifS
  rw [ht]
  rfl
theorem draw0_ok {B C : Int} (hB : small64 B = true) {h : Hand} {m : Int} {x y z : Option Sv} (ok : h.ok) : ∃ (h' : Hand) (t : Option Sv), draw0 B C [some (.ol h.ds), some (.im (.int m)), x, y, z] = .nx [some (.ol h'.ds), some (.im (.int m)), x, t, z] ∧ h'.ok ∧ h'.cells = h.cells := by
  obtain ⟨cells, pos, big, seed, cnt⟩ := h
  obtain ⟨p0, b0⟩ := ok
  have p0 : 0 ≤ pos := p0
  have b0 : 0 ≤ big := b0
  show ∃ (h' : Hand) (t : Option Sv), draw0 B C (dw (.list (iL cells)) (.int pos) (.int big) (.int seed) (.int cnt) m x y z) = _ ∧ _
  have t1 : op2 (cmpF .Eq) (op2 subD (varE 0) (immE (.int 2))) (immE (.int 0)) (dw (.list (iL cells)) (.int pos) (.int big) (.int seed) (.int cnt) m x y z) = .ok (.im (.bool (decide (big = 0)))) (dw (.list (iL cells)) (.int pos) (.int big) (.int seed) (.int cnt) m x y z) := by
    rw [op2_ok dw_2 imm_ok]
    simp only [cmpF, cmpD, eqD_int, Option.bind, imB, lift]
  have t2 : op2 (cmpF .Lt) (op2 subD (varE 0) (immE (.int 1))) (bltE (bltD .len) [(op2 subD (varE 0) (immE (.int 0)))]) (dw (.list (iL cells)) (.int pos) (.int big) (.int seed) (.int cnt) m x y z) = .ok (.im (.bool (decide (pos < cells.length)))) (dw (.list (iL cells)) (.int pos) (.int big) (.int seed) (.int cnt) m x y z) := by
    have h1 : bltE (bltD .len) [(op2 subD (varE 0) (immE (.int 0)))] (dw (.list (iL cells)) (.int pos) (.int big) (.int seed) (.int cnt) m x y z) = .ok (.im (.int cells.length)) (dw (.list (iL cells)) (.int pos) (.int big) (.int seed) (.int cnt) m x y z) := by
      rw [blt1_ok dw_0]
      simp only [bltD, imI, lift, iL_len]
    rw [op2_ok dw_1 h1]
    simp only [cmpF, cmpD, ltD_int, Option.bind, imB, lift]
  by_cases hb : big = 0
  · by_cases hp : pos < cells.length
    · subst hb
      have hi : pos.toNat < cells.length := by omega
      let cell := cells[pos.toNat]
      have hc : cells[pos.toNat]? = some cell := List.getElem?_eq_getElem hi
      have g3 : op2 subD (op2 subD (varE 0) (immE (.int 0))) (op2 subD (varE 0) (immE (.int 1))) (dw (.list (iL cells)) (.int pos) (.int 0) (.int seed) (.int cnt) m x y z) = .ok (.im (.int cell)) (dw (.list (iL cells)) (.int pos) (.int 0) (.int seed) (.int cnt) m x y z) := by
        rw [op2_ok dw_0 dw_1]
        simp only [subD, ixD_at p0 (show pos < ((iL cells).length : Int) by rw [iL_len]; exact hp), iL_get, hc, Option.map, lift]
      have a1 : asgS (nameG [0] 3) (op2 subD (op2 subD (varE 0) (immE (.int 0))) (op2 subD (varE 0) (immE (.int 1)))) (dw (.list (iL cells)) (.int pos) (.int 0) (.int seed) (.int cnt) m x y z) = .nx (dw (.list (iL cells)) (.int pos) (.int 0) (.int seed) (.int cnt) m x (some (.im (.int cell))) z) := by
        unfold asgS
        rw [g3]
        rfl
      have a2 : setiS 0 setF (immE (.int 1)) (op2 (binD .Add) (op2 subD (varE 0) (immE (.int 1))) (immE (.int 1))) (dw (.list (iL cells)) (.int pos) (.int 0) (.int seed) (.int cnt) m x (some (.im (.int cell))) z) = .nx (dw (.list (iL cells)) (.int (pos + 1)) (.int 0) (.int seed) (.int cnt) m x (some (.im (.int cell))) z) := rfl
      let s2 : Int := (seed * 69621 + cell * B + C).fmod 2147483629
      have g4 : op2 (binD .Mod) (bltE (bltD .int) [(op2 (binD .Add) (op2 (binD .Add) (op2 (binD .Mult) (op2 subD (varE 0) (immE (.int 3))) (immE (.int 69621))) (op2 (binD .Mult) (varE 3) (immE (.int B)))) (immE (.int C)))]) (immE (.int 2147483629)) (dw (.list (iL cells)) (.int (pos + 1)) (.int 0) (.int seed) (.int cnt) m x (some (.im (.int cell))) z) = .ok (.im (.int s2)) (dw (.list (iL cells)) (.int (pos + 1)) (.int 0) (.int seed) (.int cnt) m x (some (.im (.int cell))) z) := by
        have m1 : op2 (binD .Mult) (op2 subD (varE 0) (immE (.int 3))) (immE (.int 69621)) (dw (.list (iL cells)) (.int (pos + 1)) (.int 0) (.int seed) (.int cnt) m x (some (.im (.int cell))) z) = .ok (.im (.int (seed * 69621))) (dw (.list (iL cells)) (.int (pos + 1)) (.int 0) (.int seed) (.int cnt) m x (some (.im (.int cell))) z) := by
          rw [op2_ok dw_3 imm_ok]
          simp [binD, small64, imI, lift]
        have m2 : op2 (binD .Mult) (varE 3) (immE (.int B)) (dw (.list (iL cells)) (.int (pos + 1)) (.int 0) (.int seed) (.int cnt) m x (some (.im (.int cell))) z) = .ok (.im (.int (cell * B))) (dw (.list (iL cells)) (.int (pos + 1)) (.int 0) (.int seed) (.int cnt) m x (some (.im (.int cell))) z) := by
          rw [op2_ok dw_c imm_ok]
          simp [binD, hB, imI, lift]
        rw [op2_ok (blt1_to (op2_to (op2_to m1 m2 rfl) imm_ok rfl) rfl) imm_ok]
        rfl
      have a3 : setiS 0 setF (immE (.int 3)) (op2 (binD .Mod) (bltE (bltD .int) [(op2 (binD .Add) (op2 (binD .Add) (op2 (binD .Mult) (op2 subD (varE 0) (immE (.int 3))) (immE (.int 69621))) (op2 (binD .Mult) (varE 3) (immE (.int B)))) (immE (.int C)))]) (immE (.int 2147483629))) (dw (.list (iL cells)) (.int (pos + 1)) (.int 0) (.int seed) (.int cnt) m x (some (.im (.int cell))) z) = .nx (dw (.list (iL cells)) (.int (pos + 1)) (.int 0) (.int s2) (.int cnt) m x (some (.im (.int cell))) z) := by
        unfold setiS
        rw [g4]
        rfl
      have g5 : op2 (cmpF .GtE) (varE 3) (op2 (binD .Pow) (immE (.int 10)) (immE (.int 18))) (dw (.list (iL cells)) (.int (pos + 1)) (.int 0) (.int s2) (.int cnt) m x (some (.im (.int cell))) z) = .ok (.im (.bool (decide (10 ^ 18 ≤ cell)))) (dw (.list (iL cells)) (.int (pos + 1)) (.int 0) (.int s2) (.int cnt) m x (some (.im (.int cell))) z) := by
        have p1 : op2 (binD .Pow) (immE (.int 10)) (immE (.int 18)) (dw (.list (iL cells)) (.int (pos + 1)) (.int 0) (.int s2) (.int cnt) m x (some (.im (.int cell))) z) = .ok (.im (.int (10 ^ 18))) (dw (.list (iL cells)) (.int (pos + 1)) (.int 0) (.int s2) (.int cnt) m x (some (.im (.int cell))) z) := by
          rw [op2_ok imm_ok imm_ok]
          simp [binD, imI, lift]
        rw [op2_ok dw_c p1]
        simp only [cmpF, cmpD, leD_int, Option.bind, imB, lift]
      have front : draw0 B C (dw (.list (iL cells)) (.int pos) (.int 0) (.int seed) (.int cnt) m x y z) = ifS (op2 (cmpF .GtE) (varE 3) (op2 (binD .Pow) (immE (.int 10)) (immE (.int 18)))) (seqS [(setiS 0 setF (immE (.int 2)) (varE 3))]) (seqS []) (dw (.list (iL cells)) (.int (pos + 1)) (.int 0) (.int s2) (.int cnt) m x (some (.im (.int cell))) z) := by
        have tt : andE [(op2 (cmpF .Eq) (op2 subD (varE 0) (immE (.int 2))) (immE (.int 0))), (op2 (cmpF .Lt) (op2 subD (varE 0) (immE (.int 1))) (bltE (bltD .len) [(op2 subD (varE 0) (immE (.int 0)))]))] (dw (.list (iL cells)) (.int pos) (.int 0) (.int seed) (.int cnt) m x y z) = .ok (.im (.bool true)) (dw (.list (iL cells)) (.int pos) (.int 0) (.int seed) (.int cnt) m x y z) := by
          simp only [andE, t1, t2, Res.bind, tru, decide_true, decide_eq_true hp]
        unfold draw0
        rw [ifS_true tt, seqS_nx a1, seqS_nx a2, seqS_nx a3, seqS_one]
      by_cases hbig : (10 : Int) ^ 18 ≤ cell
      · refine ⟨⟨cells, pos + 1, cell, s2, cnt⟩, some (.im (.int cell)), ?_, ⟨by show 0 ≤ pos + 1; omega, by show 0 ≤ cell; omega⟩, rfl⟩
        rw [front]
        unfold ifS
        rw [g5, decide_eq_true hbig]
        rfl
      · refine ⟨⟨cells, pos + 1, 0, s2, cnt⟩, some (.im (.int cell)), ?_, ⟨by show 0 ≤ pos + 1; omega, by show (0 : Int) ≤ 0; omega⟩, rfl⟩
        rw [front]
        unfold ifS
        rw [g5, decide_eq_false hbig]
        rfl
    · refine ⟨⟨cells, pos, big, seed, cnt⟩, y, ?_, ⟨p0, b0⟩, rfl⟩
      unfold draw0 ifS
      simp only [andE, t1, t2, Res.bind, tru, decide_eq_true hb, decide_eq_false hp, Res.st]
      rfl
  · refine ⟨⟨cells, pos, big, seed, cnt⟩, y, ?_, ⟨p0, b0⟩, rfl⟩
    unfold draw0 ifS
    simp only [andE, t1, Res.bind, tru, decide_eq_false hb, Res.st]
    rfl
/-- a draw: a number below m -/
theorem draw_ok {B C F : Int} (hB : small64 B = true) (hF : small64 F = true) {h : Hand} {m : Int} (ok : h.ok) (hm : 0 < m) (hm2 : m < 1073741824) :
    ∃ (h' : Hand) (i : Int), endF [true, false] (seqS [draw0 B C, draw1, draw2, draw3 F, draw4, draw5, draw6] [some (.ol h.ds), some (.im (.int m)), none, none, none]) = .ok (.im (.int i)) [some (.ol h'.ds), none] ∧ 0 ≤ i ∧ i < m ∧ h'.ok := by
  obtain ⟨h1, t, e0, ok1, _⟩ := draw0_ok (C := C) hB (m := m) (x := none) (y := none) (z := none) ok
  obtain ⟨cells, pos, big, seed, cnt⟩ := h1
  obtain ⟨p1, b1⟩ := ok1
  have b1 : 0 ≤ big := b1
  have e0' : draw0 B C [some (.ol h.ds), some (.im (.int m)), none, none, none] = .nx (dw (.list (iL cells)) (.int pos) (.int big) (.int seed) (.int cnt) m none t none) := e0
  by_cases hb : big = 0
  · subst hb
    obtain ⟨i, u, e2, i0, i1⟩ := draw_tail hF (a := .list (iL cells)) (b := .int pos) (d := .none) (f := .none) (s := seed) (n := cnt) (x := none) (y := t) (z := none) hm hm2
    refine ⟨⟨cells, pos, 0, seed, cnt + 1⟩, i, ?_, i0, i1, p1, b1⟩
    have e1 : (draw1 (dw (.list (iL cells)) (.int pos) (.int 0) (.int seed) (.int cnt) m none t none)).bind (seqS [draw2, draw3 F, draw4, draw5, draw6]) = .rt (.im (.int i)) (dw (.list (iL cells)) (.int pos) (.int 0) (.int seed) (.int (cnt + 1)) m u t none) := by
      rw [draw1_none]
      exact e2
    have e3 : seqS [draw0 B C, draw1, draw2, draw3 F, draw4, draw5, draw6] [some (.ol h.ds), some (.im (.int m)), none, none, none] = .rt (.im (.int i)) (dw (.list (iL cells)) (.int pos) (.int 0) (.int seed) (.int (cnt + 1)) m u t none) := by
      show (draw0 B C _).bind (fun e => (draw1 e).bind (seqS [draw2, draw3 F, draw4, draw5, draw6])) = _
      rw [e0']
      exact e1
    rw [e3]
    rfl
  · have hg : 0 < big := by omega
    refine ⟨⟨cells, pos, big.fdiv m, seed, cnt⟩, big.fmod m, ?_, Int.fmod_nonneg_of_pos _ hm, Int.fmod_lt_of_pos _ hm, p1, Int.fdiv_nonneg b1 (by omega)⟩
    have e3 : seqS [draw0 B C, draw1, draw2, draw3 F, draw4, draw5, draw6] [some (.ol h.ds), some (.im (.int m)), none, none, none] = .rt (.im (.int (big.fmod m))) (dw (.list (iL cells)) (.int pos) (.int (big.fdiv m)) (.int seed) (.int cnt) m none t (some (.im (.int (big.fmod m))))) := by
      show (draw0 B C _).bind (fun e => (draw1 e).bind (seqS [draw2, draw3 F, draw4, draw5, draw6])) = _
      rw [e0']
      show (draw1 _).bind _ = _
      rw [draw1_big hm hm2 hg]
      rfl
    rw [e3]
    rfl
end Ev
end
section
set_option maxHeartbeats 4000000
/-! EvH2: a draw of other laws' hands. -/
namespace Ev
open PySem
def drew0 : MS := (ifS (andE [(op2 (cmpF .Eq) (op2 subD (varE 0) (immE (.int 2))) (immE (.int 0))), (op2 (cmpF .Lt) (op2 subD (varE 0) (immE (.int 1))) (bltE (bltD .len) [(op2 subD (varE 0) (immE (.int 0)))]))]) (seqS [(asgS (nameG [0] 3) (op2 subD (op2 subD (varE 0) (immE (.int 0))) (op2 subD (varE 0) (immE (.int 1))))), (setiS 0 setF (immE (.int 1)) (op2 (binD .Add) (op2 subD (varE 0) (immE (.int 1))) (immE (.int 1)))), (setiS 0 setF (immE (.int 3)) (op2 (binD .Mod) (bltE (bltD .int) [(op2 (binD .Add) (op2 (binD .Add) (op2 (binD .Mult) (op2 subD (varE 0) (immE (.int 3))) (immE (.int 48271))) (varE 3)) (immE (.int 31)))]) (immE (.int 2147483647)))), (ifS (op2 (cmpF .GtE) (varE 3) (op2 (binD .Pow) (immE (.int 10)) (immE (.int 18)))) (seqS [(setiS 0 setF (immE (.int 2)) (varE 3))]) (seqS []))]) (seqS []))
def drew1 : MS := (ifS (op2 (cmpF .Gt) (op2 subD (varE 0) (immE (.int 2))) (immE (.int 0))) (seqS [(asgS (nameG [0] 4) (op2 (binD .Mod) (bltE (bltD .int) [(op2 subD (varE 0) (immE (.int 2)))]) (varE 1))), (setiS 0 setF (immE (.int 2)) (op2 (binD .FloorDiv) (op2 subD (varE 0) (immE (.int 2))) (varE 1))), (retS (varE 4))]) (seqS []))
def drew2 : MS := (setiS 0 setF (immE (.int 4)) (op2 (binD .Add) (op2 subD (varE 0) (immE (.int 4))) (immE (.int 1))))
def drew3 : MS := (asgS (nameG [0] 2) (op2 (binD .Mod) (bltE (bltD .int) [(op2 (binD .Mult) (bltE (bltD .int) [(op2 (binD .Add) (op2 subD (varE 0) (immE (.int 3))) (op2 (binD .Mult) (immE (.int 6151)) (op2 subD (varE 0) (immE (.int 4)))))]) (immE (.int 40692)))]) (immE (.int 2147483399))))
def drew4 : MS := (asgS (nameG [0] 2) (op2 (binD .Mod) (bltE (bltD .int) [(op2 (binD .Mult) (varE 2) (op2 (binD .Add) (op2 (binD .FloorDiv) (varE 2) (immE (.int 1223))) (immE (.int 52027))))]) (immE (.int 2147483629))))
def drew5 : MS := (asgS (nameG [0] 2) (op2 (binD .Mod) (bltE (bltD .int) [(op2 (binD .Mult) (varE 2) (op2 (binD .Add) (op2 (binD .FloorDiv) (varE 2) (immE (.int 2671))) (immE (.int 69621))))]) (immE (.int 2147483647))))
def drew6 : MS := (retS (op2 (binD .Mod) (bltE (bltD .int) [(op2 (binD .FloorDiv) (varE 2) (immE (.int 32)))]) (varE 1)))
theorem drew_tail {a b d f : D} {m s n : Int} {x y z : Option Sv} (hm : 0 < m) (hm2 : m < 1073741824) :
    ∃ i t, (seqS [drew2, drew3, drew4, drew5, drew6]) (dw a b (.int 0) (.int s) (.int n) m x y z) = .rt (.im (.int i)) (dw a b (.int 0) (.int s) (.int (n + 1)) m t y z) ∧ 0 ≤ i ∧ i < m := by
  let n1 : Int := ((s + 6151 * (n + 1)) * 40692).fmod 2147483399
  let n2 : Int := (n1 * (n1.fdiv 1223 + 52027)).fmod 2147483629
  let n3 : Int := (n2 * (n2.fdiv 2671 + 69621)).fmod 2147483647
  have s1 : small64 n1 = true := small_mod (by decide) (by decide)
  have s2 : small64 n2 = true := small_mod (by decide) (by decide)
  refine ⟨(n3.fdiv 32).fmod m, some (.im (.int n3)), ?_, Int.fmod_nonneg_of_pos _ hm, Int.fmod_lt_of_pos _ hm⟩
  have e2 : drew2 (dw a b (.int 0) (.int s) (.int n) m x y z) = .nx (dw a b (.int 0) (.int s) (.int (n + 1)) m x y z) := rfl
  have e3 : drew3 (dw a b (.int 0) (.int s) (.int (n + 1)) m x y z) = .nx (dw a b (.int 0) (.int s) (.int (n + 1)) m (some (.im (.int n1))) y z) := by
    have h1 : op2 (binD .Mult) (immE (.int 6151)) (op2 subD (varE 0) (immE (.int 4))) (dw a b (.int 0) (.int s) (.int (n + 1)) m x y z) = .ok (.im (.int (6151 * (n + 1)))) (dw a b (.int 0) (.int s) (.int (n + 1)) m x y z) := by
      rw [op2_ok imm_ok dw_4]
      simp [binD, small64, imI, lift]
    have h2 : op2 (binD .Mult) (bltE (bltD .int) [(op2 (binD .Add) (op2 subD (varE 0) (immE (.int 3))) (op2 (binD .Mult) (immE (.int 6151)) (op2 subD (varE 0) (immE (.int 4)))))]) (immE (.int 40692)) (dw a b (.int 0) (.int s) (.int (n + 1)) m x y z) = .ok (.im (.int ((s + 6151 * (n + 1)) * 40692))) (dw a b (.int 0) (.int s) (.int (n + 1)) m x y z) := by
      rw [op2_ok (blt1_to (op2_to dw_3 h1 rfl) rfl) imm_ok]
      simp [binD, small64, imI, lift]
    unfold drew3 asgS
    rw [op2_ok (blt1_to h2 rfl) imm_ok]
    rfl
  have e4 : drew4 (dw a b (.int 0) (.int s) (.int (n + 1)) m (some (.im (.int n1))) y z) = .nx (dw a b (.int 0) (.int s) (.int (n + 1)) m (some (.im (.int n2))) y z) := by
    have h1 : op2 (binD .FloorDiv) (varE 2) (immE (.int 1223)) (dw a b (.int 0) (.int s) (.int (n + 1)) m (some (.im (.int n1))) y z) = .ok (.im (.int (n1.fdiv 1223))) (dw a b (.int 0) (.int s) (.int (n + 1)) m (some (.im (.int n1))) y z) := rfl
    have h2 : op2 (binD .Mult) (varE 2) (op2 (binD .Add) (op2 (binD .FloorDiv) (varE 2) (immE (.int 1223))) (immE (.int 52027))) (dw a b (.int 0) (.int s) (.int (n + 1)) m (some (.im (.int n1))) y z) = .ok (.im (.int (n1 * (n1.fdiv 1223 + 52027)))) (dw a b (.int 0) (.int s) (.int (n + 1)) m (some (.im (.int n1))) y z) := by
      rw [op2_ok dw_n (op2_to h1 imm_ok rfl)]
      simp only [binD, s1, Bool.true_or, if_true, imI, lift]
    unfold drew4 asgS
    rw [op2_ok (blt1_to h2 rfl) imm_ok]
    rfl
  have e5 : drew5 (dw a b (.int 0) (.int s) (.int (n + 1)) m (some (.im (.int n2))) y z) = .nx (dw a b (.int 0) (.int s) (.int (n + 1)) m (some (.im (.int n3))) y z) := by
    have h1 : op2 (binD .FloorDiv) (varE 2) (immE (.int 2671)) (dw a b (.int 0) (.int s) (.int (n + 1)) m (some (.im (.int n2))) y z) = .ok (.im (.int (n2.fdiv 2671))) (dw a b (.int 0) (.int s) (.int (n + 1)) m (some (.im (.int n2))) y z) := rfl
    have h2 : op2 (binD .Mult) (varE 2) (op2 (binD .Add) (op2 (binD .FloorDiv) (varE 2) (immE (.int 2671))) (immE (.int 69621))) (dw a b (.int 0) (.int s) (.int (n + 1)) m (some (.im (.int n2))) y z) = .ok (.im (.int (n2 * (n2.fdiv 2671 + 69621)))) (dw a b (.int 0) (.int s) (.int (n + 1)) m (some (.im (.int n2))) y z) := by
      rw [op2_ok dw_n (op2_to h1 imm_ok rfl)]
      simp only [binD, s2, Bool.true_or, if_true, imI, lift]
    unfold drew5 asgS
    rw [op2_ok (blt1_to h2 rfl) imm_ok]
    rfl
  have e6 : drew6 (dw a b (.int 0) (.int s) (.int (n + 1)) m (some (.im (.int n3))) y z) = .rt (.im (.int ((n3.fdiv 32).fmod m))) (dw a b (.int 0) (.int s) (.int (n + 1)) m (some (.im (.int n3))) y z) := by
    have h1 : op2 (binD .FloorDiv) (varE 2) (immE (.int 32)) (dw a b (.int 0) (.int s) (.int (n + 1)) m (some (.im (.int n3))) y z) = .ok (.im (.int (n3.fdiv 32))) (dw a b (.int 0) (.int s) (.int (n + 1)) m (some (.im (.int n3))) y z) := rfl
    unfold drew6 retS
    rw [op2_ok (blt1_to h1 rfl) dw_m]
    have : m ≠ 0 := by omega
    simp [bltD, binD, imI, lift, this, Res.st]
  simp only [seqS, SR.bind, e2, e3, e4, e5, e6]
theorem drew1_big {a b d f : D} {m g : Int} {x y z : Option Sv} (hm : 0 < m) (hm2 : m < 1073741824) (hg : 0 < g) :
    drew1 (dw a b (.int g) d f m x y z) = .rt (.im (.int (g.fmod m))) (dw a b (.int (g.fdiv m)) d f m x y (some (.im (.int (g.fmod m))))) := by
  have m0 : m ≠ 0 := by omega
  have mn : m.natAbs < 1073741824 := by omega
  have ht : op2 (cmpF .Gt) (op2 subD (varE 0) (immE (.int 2))) (immE (.int 0)) (dw a b (.int g) d f m x y z) = .ok (.im (.bool true)) (dw a b (.int g) d f m x y z) := by
    rw [op2_ok dw_2 imm_ok]
    simp only [cmpF, cmpD, ltD_int, Option.bind, imB, lift, decide_eq_true hg]
  have h1 : op2 (binD .Mod) (bltE (bltD .int) [(op2 subD (varE 0) (immE (.int 2)))]) (varE 1) (dw a b (.int g) d f m x y z) = .ok (.im (.int (g.fmod m))) (dw a b (.int g) d f m x y z) := by
    rw [op2_ok (blt1_to dw_2 rfl) dw_m]
    simp [binD, imI, lift, m0]
  have a1 : asgS (nameG [0] 4) (op2 (binD .Mod) (bltE (bltD .int) [(op2 subD (varE 0) (immE (.int 2)))]) (varE 1)) (dw a b (.int g) d f m x y z) = .nx (dw a b (.int g) d f m x y (some (.im (.int (g.fmod m))))) := by
    unfold asgS
    rw [h1]
    rfl
  have h2 : op2 (binD .FloorDiv) (op2 subD (varE 0) (immE (.int 2))) (varE 1) (dw a b (.int g) d f m x y (some (.im (.int (g.fmod m))))) = .ok (.im (.int (g.fdiv m))) (dw a b (.int g) d f m x y (some (.im (.int (g.fmod m))))) := by
    rw [op2_ok dw_2 dw_m]
    simp [binD, imI, lift, m0, mn]
  have a2 : setiS 0 setF (immE (.int 2)) (op2 (binD .FloorDiv) (op2 subD (varE 0) (immE (.int 2))) (varE 1)) (dw a b (.int g) d f m x y (some (.im (.int (g.fmod m))))) = .nx (dw a b (.int (g.fdiv m)) d f m x y (some (.im (.int (g.fmod m))))) := by
    unfold setiS
    rw [h2]
    rfl
  unfold drew1 ifS
  rw [ht]
  simp only [Res.st, tru, seqS, SR.bind, a1, a2]
  rfl
theorem drew1_none {a b d f : D} {m : Int} {x y z : Option Sv} : drew1 (dw a b (.int 0) d f m x y z) = .nx (dw a b (.int 0) d f m x y z) := by
  have ht : op2 (cmpF .Gt) (op2 subD (varE 0) (immE (.int 2))) (immE (.int 0)) (dw a b (.int 0) d f m x y z) = .ok (.im (.bool false)) (dw a b (.int 0) d f m x y z) := by
    rw [op2_ok dw_2 imm_ok]
    simp [cmpF, cmpD, ltD_int, imB, lift]
  unfold drew1 ifS
  rw [ht]
  rfl
theorem drew0_ok {h : Hand} {m : Int} {x y z : Option Sv} (ok : h.ok) : ∃ (h' : Hand) (t : Option Sv), drew0 [some (.ol h.ds), some (.im (.int m)), x, y, z] = .nx [some (.ol h'.ds), some (.im (.int m)), x, t, z] ∧ h'.ok ∧ h'.cells = h.cells := by
  obtain ⟨cells, pos, big, seed, cnt⟩ := h
  obtain ⟨p0, b0⟩ := ok
  have p0 : 0 ≤ pos := p0
  have b0 : 0 ≤ big := b0
  show ∃ (h' : Hand) (t : Option Sv), drew0 (dw (.list (iL cells)) (.int pos) (.int big) (.int seed) (.int cnt) m x y z) = _ ∧ _
  have t1 : op2 (cmpF .Eq) (op2 subD (varE 0) (immE (.int 2))) (immE (.int 0)) (dw (.list (iL cells)) (.int pos) (.int big) (.int seed) (.int cnt) m x y z) = .ok (.im (.bool (decide (big = 0)))) (dw (.list (iL cells)) (.int pos) (.int big) (.int seed) (.int cnt) m x y z) := by
    rw [op2_ok dw_2 imm_ok]
    simp only [cmpF, cmpD, eqD_int, Option.bind, imB, lift]
  have t2 : op2 (cmpF .Lt) (op2 subD (varE 0) (immE (.int 1))) (bltE (bltD .len) [(op2 subD (varE 0) (immE (.int 0)))]) (dw (.list (iL cells)) (.int pos) (.int big) (.int seed) (.int cnt) m x y z) = .ok (.im (.bool (decide (pos < cells.length)))) (dw (.list (iL cells)) (.int pos) (.int big) (.int seed) (.int cnt) m x y z) := by
    have h1 : bltE (bltD .len) [(op2 subD (varE 0) (immE (.int 0)))] (dw (.list (iL cells)) (.int pos) (.int big) (.int seed) (.int cnt) m x y z) = .ok (.im (.int cells.length)) (dw (.list (iL cells)) (.int pos) (.int big) (.int seed) (.int cnt) m x y z) := by
      rw [blt1_ok dw_0]
      simp only [bltD, imI, lift, iL_len]
    rw [op2_ok dw_1 h1]
    simp only [cmpF, cmpD, ltD_int, Option.bind, imB, lift]
  by_cases hb : big = 0
  · by_cases hp : pos < cells.length
    · subst hb
      have hi : pos.toNat < cells.length := by omega
      let cell := cells[pos.toNat]
      have hc : cells[pos.toNat]? = some cell := List.getElem?_eq_getElem hi
      have g3 : op2 subD (op2 subD (varE 0) (immE (.int 0))) (op2 subD (varE 0) (immE (.int 1))) (dw (.list (iL cells)) (.int pos) (.int 0) (.int seed) (.int cnt) m x y z) = .ok (.im (.int cell)) (dw (.list (iL cells)) (.int pos) (.int 0) (.int seed) (.int cnt) m x y z) := by
        rw [op2_ok dw_0 dw_1]
        simp only [subD, ixD_at p0 (show pos < ((iL cells).length : Int) by rw [iL_len]; exact hp), iL_get, hc, Option.map, lift]
      have a1 : asgS (nameG [0] 3) (op2 subD (op2 subD (varE 0) (immE (.int 0))) (op2 subD (varE 0) (immE (.int 1)))) (dw (.list (iL cells)) (.int pos) (.int 0) (.int seed) (.int cnt) m x y z) = .nx (dw (.list (iL cells)) (.int pos) (.int 0) (.int seed) (.int cnt) m x (some (.im (.int cell))) z) := by
        unfold asgS
        rw [g3]
        rfl
      have a2 : setiS 0 setF (immE (.int 1)) (op2 (binD .Add) (op2 subD (varE 0) (immE (.int 1))) (immE (.int 1))) (dw (.list (iL cells)) (.int pos) (.int 0) (.int seed) (.int cnt) m x (some (.im (.int cell))) z) = .nx (dw (.list (iL cells)) (.int (pos + 1)) (.int 0) (.int seed) (.int cnt) m x (some (.im (.int cell))) z) := rfl
      let s2 : Int := (seed * 48271 + cell + 31).fmod 2147483647
      have g4 : op2 (binD .Mod) (bltE (bltD .int) [(op2 (binD .Add) (op2 (binD .Add) (op2 (binD .Mult) (op2 subD (varE 0) (immE (.int 3))) (immE (.int 48271))) (varE 3)) (immE (.int 31)))]) (immE (.int 2147483647)) (dw (.list (iL cells)) (.int (pos + 1)) (.int 0) (.int seed) (.int cnt) m x (some (.im (.int cell))) z) = .ok (.im (.int s2)) (dw (.list (iL cells)) (.int (pos + 1)) (.int 0) (.int seed) (.int cnt) m x (some (.im (.int cell))) z) := by
        have m1 : op2 (binD .Mult) (op2 subD (varE 0) (immE (.int 3))) (immE (.int 48271)) (dw (.list (iL cells)) (.int (pos + 1)) (.int 0) (.int seed) (.int cnt) m x (some (.im (.int cell))) z) = .ok (.im (.int (seed * 48271))) (dw (.list (iL cells)) (.int (pos + 1)) (.int 0) (.int seed) (.int cnt) m x (some (.im (.int cell))) z) := by
          rw [op2_ok dw_3 imm_ok]
          simp [binD, small64, imI, lift]
        rw [op2_ok (blt1_to (op2_to (op2_to m1 dw_c rfl) imm_ok rfl) rfl) imm_ok]
        rfl
      have a3 : setiS 0 setF (immE (.int 3)) (op2 (binD .Mod) (bltE (bltD .int) [(op2 (binD .Add) (op2 (binD .Add) (op2 (binD .Mult) (op2 subD (varE 0) (immE (.int 3))) (immE (.int 48271))) (varE 3)) (immE (.int 31)))]) (immE (.int 2147483647))) (dw (.list (iL cells)) (.int (pos + 1)) (.int 0) (.int seed) (.int cnt) m x (some (.im (.int cell))) z) = .nx (dw (.list (iL cells)) (.int (pos + 1)) (.int 0) (.int s2) (.int cnt) m x (some (.im (.int cell))) z) := by
        unfold setiS
        rw [g4]
        rfl
      have g5 : op2 (cmpF .GtE) (varE 3) (op2 (binD .Pow) (immE (.int 10)) (immE (.int 18))) (dw (.list (iL cells)) (.int (pos + 1)) (.int 0) (.int s2) (.int cnt) m x (some (.im (.int cell))) z) = .ok (.im (.bool (decide (10 ^ 18 ≤ cell)))) (dw (.list (iL cells)) (.int (pos + 1)) (.int 0) (.int s2) (.int cnt) m x (some (.im (.int cell))) z) := by
        have p1 : op2 (binD .Pow) (immE (.int 10)) (immE (.int 18)) (dw (.list (iL cells)) (.int (pos + 1)) (.int 0) (.int s2) (.int cnt) m x (some (.im (.int cell))) z) = .ok (.im (.int (10 ^ 18))) (dw (.list (iL cells)) (.int (pos + 1)) (.int 0) (.int s2) (.int cnt) m x (some (.im (.int cell))) z) := by
          rw [op2_ok imm_ok imm_ok]
          simp [binD, imI, lift]
        rw [op2_ok dw_c p1]
        simp only [cmpF, cmpD, leD_int, Option.bind, imB, lift]
      have front : drew0 (dw (.list (iL cells)) (.int pos) (.int 0) (.int seed) (.int cnt) m x y z) = ifS (op2 (cmpF .GtE) (varE 3) (op2 (binD .Pow) (immE (.int 10)) (immE (.int 18)))) (seqS [(setiS 0 setF (immE (.int 2)) (varE 3))]) (seqS []) (dw (.list (iL cells)) (.int (pos + 1)) (.int 0) (.int s2) (.int cnt) m x (some (.im (.int cell))) z) := by
        have tt : andE [(op2 (cmpF .Eq) (op2 subD (varE 0) (immE (.int 2))) (immE (.int 0))), (op2 (cmpF .Lt) (op2 subD (varE 0) (immE (.int 1))) (bltE (bltD .len) [(op2 subD (varE 0) (immE (.int 0)))]))] (dw (.list (iL cells)) (.int pos) (.int 0) (.int seed) (.int cnt) m x y z) = .ok (.im (.bool true)) (dw (.list (iL cells)) (.int pos) (.int 0) (.int seed) (.int cnt) m x y z) := by
          simp only [andE, t1, t2, Res.bind, tru, decide_true, decide_eq_true hp]
        unfold drew0
        rw [ifS_true tt, seqS_nx a1, seqS_nx a2, seqS_nx a3, seqS_one]
      by_cases hbig : (10 : Int) ^ 18 ≤ cell
      · refine ⟨⟨cells, pos + 1, cell, s2, cnt⟩, some (.im (.int cell)), ?_, ⟨by show 0 ≤ pos + 1; omega, by show 0 ≤ cell; omega⟩, rfl⟩
        rw [front]
        unfold ifS
        rw [g5, decide_eq_true hbig]
        rfl
      · refine ⟨⟨cells, pos + 1, 0, s2, cnt⟩, some (.im (.int cell)), ?_, ⟨by show 0 ≤ pos + 1; omega, by show (0 : Int) ≤ 0; omega⟩, rfl⟩
        rw [front]
        unfold ifS
        rw [g5, decide_eq_false hbig]
        rfl
    · refine ⟨⟨cells, pos, big, seed, cnt⟩, y, ?_, ⟨p0, b0⟩, rfl⟩
      unfold drew0 ifS
      simp only [andE, t1, t2, Res.bind, tru, decide_eq_true hb, decide_eq_false hp, Res.st]
      rfl
  · refine ⟨⟨cells, pos, big, seed, cnt⟩, y, ?_, ⟨p0, b0⟩, rfl⟩
    unfold drew0 ifS
    simp only [andE, t1, Res.bind, tru, decide_eq_false hb, Res.st]
    rfl
/-- a drew: a number below m -/
theorem drew_ok {h : Hand} {m : Int} (ok : h.ok) (hm : 0 < m) (hm2 : m < 1073741824) :
    ∃ (h' : Hand) (i : Int), endF [true, false] (seqS [drew0, drew1, drew2, drew3, drew4, drew5, drew6] [some (.ol h.ds), some (.im (.int m)), none, none, none]) = .ok (.im (.int i)) [some (.ol h'.ds), none] ∧ 0 ≤ i ∧ i < m ∧ h'.ok := by
  obtain ⟨h1, t, e0, ok1, _⟩ := drew0_ok (m := m) (x := none) (y := none) (z := none) ok
  obtain ⟨cells, pos, big, seed, cnt⟩ := h1
  obtain ⟨p1, b1⟩ := ok1
  have b1 : 0 ≤ big := b1
  have e0' : drew0 [some (.ol h.ds), some (.im (.int m)), none, none, none] = .nx (dw (.list (iL cells)) (.int pos) (.int big) (.int seed) (.int cnt) m none t none) := e0
  by_cases hb : big = 0
  · subst hb
    obtain ⟨i, u, e2, i0, i1⟩ := drew_tail (a := .list (iL cells)) (b := .int pos) (d := .none) (f := .none) (s := seed) (n := cnt) (x := none) (y := t) (z := none) hm hm2
    refine ⟨⟨cells, pos, 0, seed, cnt + 1⟩, i, ?_, i0, i1, p1, b1⟩
    have e1 : (drew1 (dw (.list (iL cells)) (.int pos) (.int 0) (.int seed) (.int cnt) m none t none)).bind (seqS [drew2, drew3, drew4, drew5, drew6]) = .rt (.im (.int i)) (dw (.list (iL cells)) (.int pos) (.int 0) (.int seed) (.int (cnt + 1)) m u t none) := by
      rw [drew1_none]
      exact e2
    have e3 : seqS [drew0, drew1, drew2, drew3, drew4, drew5, drew6] [some (.ol h.ds), some (.im (.int m)), none, none, none] = .rt (.im (.int i)) (dw (.list (iL cells)) (.int pos) (.int 0) (.int seed) (.int (cnt + 1)) m u t none) := by
      show (drew0 _).bind (fun e => (drew1 e).bind (seqS [drew2, drew3, drew4, drew5, drew6])) = _
      rw [e0']
      exact e1
    rw [e3]
    rfl
  · have hg : 0 < big := by omega
    refine ⟨⟨cells, pos, big.fdiv m, seed, cnt⟩, big.fmod m, ?_, Int.fmod_nonneg_of_pos _ hm, Int.fmod_lt_of_pos _ hm, p1, Int.fdiv_nonneg b1 (by omega)⟩
    have e3 : seqS [drew0, drew1, drew2, drew3, drew4, drew5, drew6] [some (.ol h.ds), some (.im (.int m)), none, none, none] = .rt (.im (.int (big.fmod m))) (dw (.list (iL cells)) (.int pos) (.int (big.fdiv m)) (.int seed) (.int cnt) m none t (some (.im (.int (big.fmod m))))) := by
      show (drew0 _).bind (fun e => (drew1 e).bind (seqS [drew2, drew3, drew4, drew5, drew6])) = _
      rw [e0']
      show (drew1 _).bind _ = _
      rw [drew1_big hm hm2 hg]
      rfl
    rw [e3]
    rfl
end Ev
end
section
set_option maxHeartbeats 0
namespace Lw
open PySem PySem.Spec PyProof.Rows L2 Ev
def top (i : Nat) : Stmt := PySem.Challenge.pw_washhouse_k14_whole_rows_of_three_machin.main.body.getD i (.Pass ⟨0, 0, 0, 0⟩)
abbrev s_is_integer : Stmt := top 1
abbrev d_is_integer : Df := ⟨["thing"], defScope s_is_integer, [false], false, defBody s_is_integer⟩
abbrev s_is_within : Stmt := top 2
abbrev d_is_within : Df := ⟨["thing", "low", "high"], defScope s_is_within, [false, false, false], false, defBody s_is_within⟩
abbrev s_is_sized : Stmt := top 3
abbrev d_is_sized : Df := ⟨["thing", "low", "high"], defScope s_is_sized, [false, false, false], false, defBody s_is_sized⟩
abbrev s_are_all : Stmt := top 4
abbrev d_are_all : Df := ⟨["thing", "many", "one"], defScope s_are_all, [false, false], false, defBody s_are_all⟩
abbrev s_all_rows : Stmt := top 5
abbrev d_all_rows : Df := ⟨["some", "found", "turn", "longer", "row", "one"], defScope s_all_rows, [false], false, defBody s_all_rows⟩
abbrev s_are_times : Stmt := top 18
abbrev d_are_times : Df := ⟨["thing", "many", "one"], defScope s_are_times, [false, false], false, defBody s_are_times⟩
abbrev s_raw_johnson : Stmt := top 19
abbrev d_raw_johnson : Df := ⟨["heap", "first", "last", "load", "minutes", "wash", "dry"], defScope s_raw_johnson, [false], false, defBody s_raw_johnson⟩
abbrev s_orders_of : Stmt := top 20
abbrev d_orders_of : Df := ⟨["heap"], defScope s_orders_of, [false], false, defBody s_orders_of⟩
abbrev s_check_three : Stmt := top 21
abbrev d_check_three : Df := ⟨["thing", "load"], defScope s_check_three, [false], false, defBody s_check_three⟩
abbrev s_raw_three : Stmt := top 22
abbrev d_raw_three : Df := ⟨["three", "order", "ends", "load", "ahead", "machine"], defScope s_raw_three, [false, false], false, defBody s_raw_three⟩
abbrev s_three_end : Stmt := top 23
abbrev d_three_end : Df := ⟨["three", "order"], defScope s_three_end, [false, false], false, defBody s_three_end⟩
abbrev s_three_told : Stmt := top 24
abbrev d_three_told : Df := ⟨["three", "order"], defScope s_three_told, [false], false, defBody s_three_told⟩
abbrev s_three_bound : Stmt := top 25
abbrev d_three_bound : Df := ⟨["three", "found", "machine", "ahead", "behind", "load"], defScope s_three_bound, [false], false, defBody s_three_bound⟩
abbrev s_raw_pairs : Stmt := top 26
abbrev d_raw_pairs : Df := ⟨["three", "wash", "spin", "dry"], defScope s_raw_pairs, [false], false, defBody s_raw_pairs⟩
abbrev s_by_pairs : Stmt := top 27
abbrev d_by_pairs : Df := ⟨["three"], defScope s_by_pairs, [false], false, defBody s_by_pairs⟩
abbrev s_is_easy : Stmt := top 28
abbrev d_is_easy : Df := ⟨["three", "most", "wash", "spin", "dry"], defScope s_is_easy, [false], false, defBody s_is_easy⟩
abbrev s__law_hand : Stmt := top 30
abbrev d__law_hand : Df := ⟨["script", "cells", "cell"], defScope s__law_hand, [false], false, defBody s__law_hand⟩
abbrev s__law_draw : Stmt := top 31
abbrev d__law_draw : Df := ⟨["hand", "many", "number", "cell", "digit"], defScope s__law_draw, [true, false], false, defBody s__law_draw⟩
abbrev s__law_any : Stmt := top 32
abbrev d__law_any : Df := ⟨["hand", "some"], defScope s__law_any, [true, false], false, defBody s__law_any⟩
abbrev s__law_rows : Stmt := top 33
abbrev d__law_rows : Df := ⟨["n", "found", "step", "longer", "row", "one"], defScope s__law_rows, [false], false, defBody s__law_rows⟩
abbrev s__law_johnson : Stmt := top 34
abbrev d__law_johnson : Df := ⟨["heap", "first", "last", "load", "many", "wash", "dry"], defScope s__law_johnson, [false], false, defBody s__law_johnson⟩
abbrev s__law_no_order : Stmt := top 35
abbrev d__law_no_order : Df := ⟨["hand", "n"], defScope s__law_no_order, [true, false], false, defBody s__law_no_order⟩
abbrev s__law_word : Stmt := top 36
abbrev d__law_word : Df := ⟨["call", "word", "e", "flags", "names"], defScope s__law_word, [false], false, defBody s__law_word⟩
abbrev s__law_three_end : Stmt := top 37
abbrev d__law_three_end : Df := ⟨["three", "order", "load", "washed", "spun", "dried"], defScope s__law_three_end, [false, false], false, defBody s__law_three_end⟩
abbrev s_law : Stmt := top 38
abbrev d_law : Df := ⟨["script", "hand", "turn", "top", "three", "load", "rows", "order", "best", "wash", "spin", "dry", "pairs", "most", "easy", "bad", "off", "words", "row", "one"], defScope s_law, [false], true, defBody s_law⟩
def P : Prg where
  defs := [(("is_integer" : Str), d_is_integer), (("is_within" : Str), d_is_within), (("is_sized" : Str), d_is_sized), (("are_all" : Str), d_are_all), (("all_rows" : Str), d_all_rows), (("are_times" : Str), d_are_times), (("raw_johnson" : Str), d_raw_johnson), (("orders_of" : Str), d_orders_of), (("check_three" : Str), d_check_three), (("raw_three" : Str), d_raw_three), (("three_end" : Str), d_three_end), (("three_told" : Str), d_three_told), (("three_bound" : Str), d_three_bound), (("raw_pairs" : Str), d_raw_pairs), (("by_pairs" : Str), d_by_pairs), (("is_easy" : Str), d_is_easy), (("_law_hand" : Str), d__law_hand), (("_law_draw" : Str), d__law_draw), (("_law_any" : Str), d__law_any), (("_law_rows" : Str), d__law_rows), (("_law_johnson" : Str), d__law_johnson), (("_law_no_order" : Str), d__law_no_order), (("_law_three_end" : Str), d__law_three_end), (("law" : Str), d_law)]
  lams := [(("_law_word" : Str), d__law_word)]
  tabs := []
  cst := [(("MOST_MINUTES" : Str), .int 99), (("MOST_THREE" : Str), .int 5)]
  exs := ["NoThree", "NoOrder"]
  sub := [(("NoThree" : Str), [(("TooMany" : Str), false), (("WashError" : Str), true), (("NoEnd" : Str), false), (("NoHeap" : Str), false), (("NoLoad" : Str), false), (("NoOrder" : Str), false), (("NoThree" : Str), true), (("TooFew" : Str), false)]), (("NoOrder" : Str), [(("TooMany" : Str), false), (("WashError" : Str), true), (("NoEnd" : Str), false), (("NoHeap" : Str), false), (("NoLoad" : Str), false), (("NoOrder" : Str), true), (("NoThree" : Str), false), (("TooFew" : Str), false)]), (("TooMany" : Str), [(("TooMany" : Str), true), (("WashError" : Str), true), (("NoEnd" : Str), false), (("NoHeap" : Str), false), (("NoLoad" : Str), false), (("NoOrder" : Str), false), (("NoThree" : Str), false), (("TooFew" : Str), false)]), (("WashError" : Str), [(("TooMany" : Str), false), (("WashError" : Str), true), (("NoEnd" : Str), false), (("NoHeap" : Str), false), (("NoLoad" : Str), false), (("NoOrder" : Str), false), (("NoThree" : Str), false), (("TooFew" : Str), false)])]
  W := 1000
end Lw
namespace Lw
open PySem Ev
def subP : Str → Str → Option Bool := fun x y => (P.sub.lookup x).bind fun r => r.lookup y
abbrev bad1 : Df → Sl → CRes := fun _ _ => .bad
abbrev bad2 : Df → LRes → CRes := fun _ _ => .bad
def L__law_word (k : Nat) : LRes → CRes := callLm fuel (P.cfg false (P.run k) bad1 bad2) d__law_word
def p__law_word : MS := seqS [(asgS (nameG [0] 1) (immE (.str "let")))]
def m__law_word (r : LRes) : MS := (tryS 5 false r subP [("TooMany", 2, (seqS [(asgS (nameG [] 1) badE)])), ("WashError", 2, (seqS [(asgS (nameG [] 3) (lstE [(isxE subP "NoEnd" 2), (isxE subP "NoHeap" 2), (isxE subP "NoLoad" 2), (isxE subP "NoOrder" 2)])), (asgS (nameG [] 3) (op2 (binD .Add) (varE 3) (lstE [(isxE subP "NoThree" 2), (isxE subP "TooFew" 2)]))), (asgS (nameG [] 4) (lstE [(immE (.str "end")), (immE (.str "heap")), (immE (.str "load")), (immE (.str "order")), (immE (.str "three")), (immE (.str "few"))])), (asgS (nameG [] 1) (ifE (op2 (cmpF .Eq) (metE (vmF .count) (varE 3) (immE (.bool true))) (immE (.int 1))) (op2 subD (varE 4) (metE (vmF .index) (varE 3) (immE (.bool true)))) (immE (.str "other"))))]))])
def q__law_word : MS := seqS [(retS (varE 1))]
theorem r__law_word (k : Nat) (r : LRes) : L__law_word k r = endF [] ((p__law_word (List.replicate 5 none)).bind fun e => (m__law_word r e).bind q__law_word) := by kernel_rfl
def b_is_integer_0 (k : Nat) : MS := (retS (andE [(isiE .int (varE 0)), (notE (isiE .bool (varE 0)))]))
theorem r_is_integer (k : Nat) (ps : Sl) : P.run (k + 3) d_is_integer ps = endF [false] (seqS [b_is_integer_0 k] (ps ++ List.replicate 0 none)) := by kernel_rfl
def b_is_within_0 (k : Nat) : MS := (retS (andE [(callE [false] (P.run (k + 2) d_is_integer) [(varE 0)]), (chainE (cmpD .LtE) (cmpD .LtE) (varE 1) (varE 0) (varE 2))]))
theorem r_is_within (k : Nat) (ps : Sl) : P.run (k + 3) d_is_within ps = endF [false, false, false] (seqS [b_is_within_0 k] (ps ++ List.replicate 0 none)) := by kernel_rfl
def b_is_sized_0 (k : Nat) : MS := (retS (andE [(isiE .tuple (varE 0)), (chainE (cmpD .LtE) (cmpD .LtE) (varE 1) (bltE (bltD .len) [(varE 0)]) (varE 2))]))
theorem r_is_sized (k : Nat) (ps : Sl) : P.run (k + 3) d_is_sized ps = endF [false, false, false] (seqS [b_is_sized_0 k] (ps ++ List.replicate 0 none)) := by kernel_rfl
def ce_are_all_0 (k : Nat) : ME := (callE [false, false, false] (P.run (k + 2) d_is_within) [(varE 2), (immE (.int 0)), (op2 (binD .Sub) (varE 1) (immE (.int 1)))])
def c_are_all_0 (k : Nat) : ME := compE [2] (itE [] seqF [(varE 0)]) (nameT [] 2) (condE []) (ce_are_all_0 k)
def b_are_all_0 (k : Nat) : MS := (ifS (orE [(notE (callE [false, false, false] (P.run (k + 2) d_is_sized) [(varE 0), (varE 1), (varE 1)])), (notE (bltE (bltD .all) [(c_are_all_0 k)]))]) (seqS [(retS (immE (.bool false)))]) (seqS []))
def b_are_all_1 (k : Nat) : MS := (retS (op2 (cmpF .Eq) (bltE (bltD .sorted) [(varE 0)]) (bltE (rngD false) [(varE 1)])))
theorem r_are_all (k : Nat) (ps : Sl) : P.run (k + 3) d_are_all ps = endF [false, false] (seqS [b_are_all_0 k, b_are_all_1 k] (ps ++ List.replicate 1 none)) := by kernel_rfl
def ce_all_rows_0 (k : Nat) : ME := (op2 (binD .Add) (varE 4) (tupE [(varE 5)]))
def cc_all_rows_0 (k : Nat) : ME := condE [(op2 (cmpF .NotIn) (varE 5) (varE 4))]
def c_all_rows_0 (k : Nat) : ME := compE [5] (itE [] seqF [(varE 0)]) (nameT [] 5) (cc_all_rows_0 k) (ce_all_rows_0 k)
def w_all_rows_0_0 (k : Nat) : MS := (exprS (mutE 3 (mtF .extend) [(c_all_rows_0 k)]))
def lb_all_rows_0 (k : Nat) : MS := seqS [w_all_rows_0_0 k]
def l_all_rows_0 (k : Nat) : MS := forS (itE [] seqF [(varE 1)]) (nameT [] 4) (lb_all_rows_0 k)
def w_all_rows_1_0 (k : Nat) : MS := (asgS (nameG [] 3) (lstE []))
def w_all_rows_1_1 (k : Nat) : MS := (l_all_rows_0 k)
def w_all_rows_1_2 (k : Nat) : MS := (asgS (nameG [] 1) (varE 3))
def lb_all_rows_1 (k : Nat) : MS := seqS [w_all_rows_1_0 k, w_all_rows_1_1 k, w_all_rows_1_2 k]
def l_all_rows_1 (k : Nat) : MS := forS (itE [] seqF [(varE 0)]) (nameT [] 2) (lb_all_rows_1 k)
def b_all_rows_0 (k : Nat) : MS := (asgS (nameG [] 1) (lstE [(tupE [])]))
def b_all_rows_1 (k : Nat) : MS := (l_all_rows_1 k)
def b_all_rows_2 (k : Nat) : MS := (retS (varE 1))
theorem r_all_rows (k : Nat) (ps : Sl) : P.run (k + 3) d_all_rows ps = endF [false] (seqS [b_all_rows_0 k, b_all_rows_1 k, b_all_rows_2 k] (ps ++ List.replicate 5 none)) := by kernel_rfl
def ce_are_times_0 (k : Nat) : ME := (callE [false, false, false] (P.run (k + 2) d_is_within) [(varE 2), (immE (.int 0)), (immE (.int 99))])
def c_are_times_0 (k : Nat) : ME := compE [2] (itE [] seqF [(varE 0)]) (nameT [] 2) (condE []) (ce_are_times_0 k)
def b_are_times_0 (k : Nat) : MS := (retS (andE [(callE [false, false, false] (P.run (k + 2) d_is_sized) [(varE 0), (varE 1), (varE 1)]), (bltE (bltD .all) [(c_are_times_0 k)])]))
theorem r_are_times (k : Nat) (ps : Sl) : P.run (k + 3) d_are_times ps = endF [false, false] (seqS [b_are_times_0 k] (ps ++ List.replicate 1 none)) := by kernel_rfl
def ce_raw_johnson_0 (k : Nat) : ME := (tupE [(varE 5), (varE 3)])
def cc_raw_johnson_0 (k : Nat) : ME := condE [(op2 (cmpF .Lt) (varE 5) (varE 6))]
def c_raw_johnson_0 (k : Nat) : ME := compE [3, 5, 6] (itE [] enumF [(varE 0)]) (unpT [(nameT [] 3), (unpT [(nameT [] 5), (nameT [] 6)])]) (cc_raw_johnson_0 k) (ce_raw_johnson_0 k)
def ce_raw_johnson_1 (k : Nat) : ME := (tupE [(op2 (binD .Sub) (immE (.int 0)) (varE 6)), (varE 3)])
def cc_raw_johnson_1 (k : Nat) : ME := condE [(op2 (cmpF .GtE) (varE 5) (varE 6))]
def c_raw_johnson_1 (k : Nat) : ME := compE [3, 5, 6] (itE [] enumF [(varE 0)]) (unpT [(nameT [] 3), (unpT [(nameT [] 5), (nameT [] 6)])]) (cc_raw_johnson_1 k) (ce_raw_johnson_1 k)
def ce_raw_johnson_2 (k : Nat) : ME := (varE 3)
def c_raw_johnson_2 (k : Nat) : ME := compE [4, 3] (itE [] seqF [(op2 (binD .Add) (varE 1) (varE 2))]) (unpT [(nameT [] 4), (nameT [] 3)]) (condE []) (ce_raw_johnson_2 k)
def b_raw_johnson_0 (k : Nat) : MS := (asgS (nameG [] 1) (bltE (bltD .sorted) [(c_raw_johnson_0 k)]))
def b_raw_johnson_1 (k : Nat) : MS := (asgS (nameG [] 2) (bltE (bltD .sorted) [(c_raw_johnson_1 k)]))
def b_raw_johnson_2 (k : Nat) : MS := (retS (bltE (bltD .tuple) [(c_raw_johnson_2 k)]))
theorem r_raw_johnson (k : Nat) (ps : Sl) : P.run (k + 3) d_raw_johnson ps = endF [false] (seqS [b_raw_johnson_0 k, b_raw_johnson_1 k, b_raw_johnson_2 k] (ps ++ List.replicate 6 none)) := by kernel_rfl
def b_orders_of_0 (k : Nat) : MS := (retS (callE [false] (P.run (k + 2) d_all_rows) [(bltE (rngD false) [(bltE (bltD .len) [(varE 0)])])]))
theorem r_orders_of (k : Nat) (ps : Sl) : P.run (k + 3) d_orders_of ps = endF [false] (seqS [b_orders_of_0 k] (ps ++ List.replicate 0 none)) := by kernel_rfl
def ce_check_three_0 (k : Nat) : ME := (callE [false, false] (P.run (k + 2) d_are_times) [(varE 1), (immE (.int 3))])
def c_check_three_0 (k : Nat) : ME := compE [1] (itE [] seqF [(varE 0)]) (nameT [] 1) (condE []) (ce_check_three_0 k)
def b_check_three_0 (k : Nat) : MS := (ifS (orE [(notE (callE [false, false, false] (P.run (k + 2) d_is_sized) [(varE 0), (immE (.int 1)), (immE (.int 5))])), (notE (bltE (bltD .all) [(c_check_three_0 k)]))]) (seqS [(raiseS "NoThree")]) (seqS []))
theorem r_check_three (k : Nat) (ps : Sl) : P.run (k + 3) d_check_three ps = endF [false] (seqS [b_check_three_0 k] (ps ++ List.replicate 1 none)) := by kernel_rfl
def w_raw_three_0_0 (k : Nat) : MS := (asgS (nameG [] 4) (op2 (binD .Add) (bltE (bltD .max) [(varE 4), (op2 subD (varE 2) (varE 5))]) (op2 subD (op2 subD (varE 0) (varE 3)) (varE 5))))
def w_raw_three_0_1 (k : Nat) : MS := (setiS 2 setF (varE 5) (varE 4))
def lb_raw_three_0 (k : Nat) : MS := seqS [w_raw_three_0_0 k, w_raw_three_0_1 k]
def l_raw_three_0 (k : Nat) : MS := forS (itE [] rangeF1 [(immE (.int 3))]) (nameT [] 5) (lb_raw_three_0 k)
def w_raw_three_1_0 (k : Nat) : MS := (asgS (nameG [] 4) (immE (.int 0)))
def w_raw_three_1_1 (k : Nat) : MS := (l_raw_three_0 k)
def lb_raw_three_1 (k : Nat) : MS := seqS [w_raw_three_1_0 k, w_raw_three_1_1 k]
def l_raw_three_1 (k : Nat) : MS := forS (itE [] seqF [(varE 1)]) (nameT [] 3) (lb_raw_three_1 k)
def b_raw_three_0 (k : Nat) : MS := (asgS (nameG [] 2) (lstE [(immE (.int 0)), (immE (.int 0)), (immE (.int 0))]))
def b_raw_three_1 (k : Nat) : MS := (l_raw_three_1 k)
def b_raw_three_2 (k : Nat) : MS := (retS (op2 subD (varE 2) (immE (.int 2))))
theorem r_raw_three (k : Nat) (ps : Sl) : P.run (k + 3) d_raw_three ps = endF [false, false] (seqS [b_raw_three_0 k, b_raw_three_1 k, b_raw_three_2 k] (ps ++ List.replicate 4 none)) := by kernel_rfl
def b_three_end_0 (k : Nat) : MS := (exprS (callE [false] (P.run (k + 2) d_check_three) [(varE 0)]))
def b_three_end_1 (k : Nat) : MS := (ifS (notE (callE [false, false] (P.run (k + 2) d_are_all) [(varE 1), (bltE (bltD .len) [(varE 0)])])) (seqS [(raiseS "NoOrder")]) (seqS []))
def b_three_end_2 (k : Nat) : MS := (retS (callE [false, false] (P.run (k + 2) d_raw_three) [(varE 0), (varE 1)]))
theorem r_three_end (k : Nat) (ps : Sl) : P.run (k + 3) d_three_end ps = endF [false, false] (seqS [b_three_end_0 k, b_three_end_1 k, b_three_end_2 k] (ps ++ List.replicate 0 none)) := by kernel_rfl
def ce_three_told_0 (k : Nat) : ME := (tupE [(callE [false, false] (P.run (k + 2) d_raw_three) [(varE 0), (varE 1)]), (varE 1)])
def c_three_told_0 (k : Nat) : ME := compE [1] (itE [] seqF [(callE [false] (P.run (k + 2) d_orders_of) [(varE 0)])]) (nameT [] 1) (condE []) (ce_three_told_0 k)
def b_three_told_0 (k : Nat) : MS := (exprS (callE [false] (P.run (k + 2) d_check_three) [(varE 0)]))
def b_three_told_1 (k : Nat) : MS := (retS (bltE (bltD .min) [(c_three_told_0 k)]))
theorem r_three_told (k : Nat) (ps : Sl) : P.run (k + 3) d_three_told ps = endF [false] (seqS [b_three_told_0 k, b_three_told_1 k] (ps ++ List.replicate 1 none)) := by kernel_rfl
def ce_three_bound_0 (k : Nat) : ME := (bltE (bltD .sum) [(sliE (varE 5) none (some (varE 2)))])
def c_three_bound_0 (k : Nat) : ME := compE [5] (itE [] seqF [(varE 0)]) (nameT [] 5) (condE []) (ce_three_bound_0 k)
def ce_three_bound_1 (k : Nat) : ME := (bltE (bltD .sum) [(sliE (varE 5) (some (op2 (binD .Add) (varE 2) (immE (.int 1)))) none)])
def c_three_bound_1 (k : Nat) : ME := compE [5] (itE [] seqF [(varE 0)]) (nameT [] 5) (condE []) (ce_three_bound_1 k)
def ce_three_bound_2 (k : Nat) : ME := (op2 subD (varE 5) (varE 2))
def c_three_bound_2 (k : Nat) : ME := compE [5] (itE [] seqF [(varE 0)]) (nameT [] 5) (condE []) (ce_three_bound_2 k)
def w_three_bound_0_0 (k : Nat) : MS := (asgS (nameG [] 3) (bltE (bltD .min) [(c_three_bound_0 k)]))
def w_three_bound_0_1 (k : Nat) : MS := (asgS (nameG [] 4) (bltE (bltD .min) [(c_three_bound_1 k)]))
def w_three_bound_0_2 (k : Nat) : MS := (exprS (mutE 1 (mtF .append) [(op2 (binD .Add) (op2 (binD .Add) (varE 3) (bltE (bltD .sum) [(c_three_bound_2 k)])) (varE 4))]))
def lb_three_bound_0 (k : Nat) : MS := seqS [w_three_bound_0_0 k, w_three_bound_0_1 k, w_three_bound_0_2 k]
def l_three_bound_0 (k : Nat) : MS := forS (itE [] rangeF1 [(immE (.int 3))]) (nameT [] 2) (lb_three_bound_0 k)
def b_three_bound_0 (k : Nat) : MS := (exprS (callE [false] (P.run (k + 2) d_check_three) [(varE 0)]))
def b_three_bound_1 (k : Nat) : MS := (asgS (nameG [] 1) (lstE []))
def b_three_bound_2 (k : Nat) : MS := (l_three_bound_0 k)
def b_three_bound_3 (k : Nat) : MS := (retS (bltE (bltD .max) [(varE 1)]))
theorem r_three_bound (k : Nat) (ps : Sl) : P.run (k + 3) d_three_bound ps = endF [false] (seqS [b_three_bound_0 k, b_three_bound_1 k, b_three_bound_2 k, b_three_bound_3 k] (ps ++ List.replicate 5 none)) := by kernel_rfl
def ce_raw_pairs_0 (k : Nat) : ME := (tupE [(op2 (binD .Add) (varE 1) (varE 2)), (op2 (binD .Add) (varE 2) (varE 3))])
def c_raw_pairs_0 (k : Nat) : ME := compE [1, 2, 3] (itE [] seqF [(varE 0)]) (unpT [(nameT [] 1), (nameT [] 2), (nameT [] 3)]) (condE []) (ce_raw_pairs_0 k)
def b_raw_pairs_0 (k : Nat) : MS := (retS (callE [false] (P.run (k + 2) d_raw_johnson) [(bltE (bltD .tuple) [(c_raw_pairs_0 k)])]))
theorem r_raw_pairs (k : Nat) (ps : Sl) : P.run (k + 3) d_raw_pairs ps = endF [false] (seqS [b_raw_pairs_0 k] (ps ++ List.replicate 3 none)) := by kernel_rfl
def b_by_pairs_0 (k : Nat) : MS := (exprS (callE [false] (P.run (k + 2) d_check_three) [(varE 0)]))
def b_by_pairs_1 (k : Nat) : MS := (retS (callE [false] (P.run (k + 2) d_raw_pairs) [(varE 0)]))
theorem r_by_pairs (k : Nat) (ps : Sl) : P.run (k + 3) d_by_pairs ps = endF [false] (seqS [b_by_pairs_0 k, b_by_pairs_1 k] (ps ++ List.replicate 0 none)) := by kernel_rfl
def ce_is_easy_0 (k : Nat) : ME := (varE 3)
def c_is_easy_0 (k : Nat) : ME := compE [2, 3, 4] (itE [] seqF [(varE 0)]) (unpT [(nameT [] 2), (nameT [] 3), (nameT [] 4)]) (condE []) (ce_is_easy_0 k)
def ce_is_easy_1 (k : Nat) : ME := (varE 2)
def c_is_easy_1 (k : Nat) : ME := compE [2, 3, 4] (itE [] seqF [(varE 0)]) (unpT [(nameT [] 2), (nameT [] 3), (nameT [] 4)]) (condE []) (ce_is_easy_1 k)
def ce_is_easy_2 (k : Nat) : ME := (varE 4)
def c_is_easy_2 (k : Nat) : ME := compE [2, 3, 4] (itE [] seqF [(varE 0)]) (unpT [(nameT [] 2), (nameT [] 3), (nameT [] 4)]) (condE []) (ce_is_easy_2 k)
def b_is_easy_0 (k : Nat) : MS := (exprS (callE [false] (P.run (k + 2) d_check_three) [(varE 0)]))
def b_is_easy_1 (k : Nat) : MS := (asgS (nameG [] 1) (bltE (bltD .max) [(c_is_easy_0 k)]))
def b_is_easy_2 (k : Nat) : MS := (retS (orE [(op2 (cmpF .LtE) (varE 1) (bltE (bltD .min) [(c_is_easy_1 k)])), (op2 (cmpF .LtE) (varE 1) (bltE (bltD .min) [(c_is_easy_2 k)]))]))
theorem r_is_easy (k : Nat) (ps : Sl) : P.run (k + 3) d_is_easy ps = endF [false] (seqS [b_is_easy_0 k, b_is_easy_1 k, b_is_easy_2 k] (ps ++ List.replicate 4 none)) := by kernel_rfl
def ce__law_hand_0 (k : Nat) : ME := (bltE (bltD .abs) [(bltE (bltD .int) [(varE 2)])])
def c__law_hand_0 (k : Nat) : ME := compE [2] (itE [] seqF [(sliE (varE 0) none (some (immE (.int 63))))]) (nameT [] 2) (condE []) (ce__law_hand_0 k)
def b__law_hand_0 (k : Nat) : MS := (asgS (nameG [] 1) (c__law_hand_0 k))
def b__law_hand_1 (k : Nat) : MS := (retS (lstE [(varE 1), (immE (.int 0)), (immE (.int 0)), (op2 (binD .Add) (immE (.int 61)) (op2 (binD .Mult) (immE (.int 7)) (bltE (bltD .len) [(varE 1)]))), (immE (.int 0))]))
theorem r__law_hand (k : Nat) (ps : Sl) : P.run (k + 3) d__law_hand ps = endF [false] (seqS [b__law_hand_0 k, b__law_hand_1 k] (ps ++ List.replicate 2 none)) := by kernel_rfl
def b__law_draw_0 (k : Nat) : MS := (ifS (andE [(op2 (cmpF .Eq) (op2 subD (varE 0) (immE (.int 2))) (immE (.int 0))), (op2 (cmpF .Lt) (op2 subD (varE 0) (immE (.int 1))) (bltE (bltD .len) [(op2 subD (varE 0) (immE (.int 0)))]))]) (seqS [(asgS (nameG [0] 3) (op2 subD (op2 subD (varE 0) (immE (.int 0))) (op2 subD (varE 0) (immE (.int 1))))), (setiS 0 setF (immE (.int 1)) (op2 (binD .Add) (op2 subD (varE 0) (immE (.int 1))) (immE (.int 1)))), (setiS 0 setF (immE (.int 3)) (op2 (binD .Mod) (bltE (bltD .int) [(op2 (binD .Add) (op2 (binD .Add) (op2 (binD .Mult) (op2 subD (varE 0) (immE (.int 3))) (immE (.int 69621))) (op2 (binD .Mult) (varE 3) (immE (.int 40692)))) (immE (.int 31)))]) (immE (.int 2147483629)))), (ifS (op2 (cmpF .GtE) (varE 3) (op2 (binD .Pow) (immE (.int 10)) (immE (.int 18)))) (seqS [(setiS 0 setF (immE (.int 2)) (varE 3))]) (seqS []))]) (seqS []))
def b__law_draw_1 (k : Nat) : MS := (ifS (op2 (cmpF .Gt) (op2 subD (varE 0) (immE (.int 2))) (immE (.int 0))) (seqS [(asgS (nameG [0] 4) (op2 (binD .Mod) (bltE (bltD .int) [(op2 subD (varE 0) (immE (.int 2)))]) (varE 1))), (setiS 0 setF (immE (.int 2)) (op2 (binD .FloorDiv) (op2 subD (varE 0) (immE (.int 2))) (varE 1))), (retS (varE 4))]) (seqS []))
def b__law_draw_2 (k : Nat) : MS := (setiS 0 setF (immE (.int 4)) (op2 (binD .Add) (op2 subD (varE 0) (immE (.int 4))) (immE (.int 1))))
def b__law_draw_3 (k : Nat) : MS := (asgS (nameG [0] 2) (op2 (binD .Mod) (bltE (bltD .int) [(op2 (binD .Mult) (bltE (bltD .int) [(op2 (binD .Add) (op2 subD (varE 0) (immE (.int 3))) (op2 (binD .Mult) (immE (.int 7919)) (op2 subD (varE 0) (immE (.int 4)))))]) (immE (.int 48271)))]) (immE (.int 2147483647))))
def b__law_draw_4 (k : Nat) : MS := (asgS (nameG [0] 2) (op2 (binD .Mod) (bltE (bltD .int) [(op2 (binD .Mult) (varE 2) (op2 (binD .Add) (op2 (binD .FloorDiv) (varE 2) (immE (.int 1009))) (immE (.int 69621))))]) (immE (.int 2147483647))))
def b__law_draw_5 (k : Nat) : MS := (asgS (nameG [0] 2) (op2 (binD .Mod) (bltE (bltD .int) [(op2 (binD .Mult) (varE 2) (op2 (binD .Add) (op2 (binD .FloorDiv) (varE 2) (immE (.int 2003))) (immE (.int 40014))))]) (immE (.int 2147483563))))
def b__law_draw_6 (k : Nat) : MS := (retS (op2 (binD .Mod) (bltE (bltD .int) [(op2 (binD .FloorDiv) (varE 2) (immE (.int 16)))]) (varE 1)))
theorem r__law_draw (k : Nat) (ps : Sl) : P.run (k + 3) d__law_draw ps = endF [true, false] (seqS [b__law_draw_0 k, b__law_draw_1 k, b__law_draw_2 k, b__law_draw_3 k, b__law_draw_4 k, b__law_draw_5 k, b__law_draw_6 k] (ps ++ List.replicate 3 none)) := by kernel_rfl
def b__law_any_0 (k : Nat) : MS := (retS (op2 subD (varE 1) (callE [true, false] (P.run (k + 2) d__law_draw) [(varE 0), (bltE (bltD .len) [(varE 1)])])))
theorem r__law_any (k : Nat) (ps : Sl) : P.run (k + 3) d__law_any ps = endF [true, false] (seqS [b__law_any_0 k] (ps ++ List.replicate 0 none)) := by kernel_rfl
def ce__law_rows_0 (k : Nat) : ME := (op2 (binD .Add) (varE 4) (tupE [(varE 5)]))
def cc__law_rows_0 (k : Nat) : ME := condE [(op2 (cmpF .NotIn) (varE 5) (varE 4))]
def c__law_rows_0 (k : Nat) : ME := compE [5] (itE [] rangeF1 [(varE 0)]) (nameT [] 5) (cc__law_rows_0 k) (ce__law_rows_0 k)
def w__law_rows_0_0 (k : Nat) : MS := (asgS (nameG [] 3) (op2 (binD .Add) (varE 3) (c__law_rows_0 k)))
def lb__law_rows_0 (k : Nat) : MS := seqS [w__law_rows_0_0 k]
def l__law_rows_0 (k : Nat) : MS := forS (itE [] seqF [(varE 1)]) (nameT [] 4) (lb__law_rows_0 k)
def w__law_rows_1_0 (k : Nat) : MS := (asgS (nameG [] 3) (lstE []))
def w__law_rows_1_1 (k : Nat) : MS := (l__law_rows_0 k)
def w__law_rows_1_2 (k : Nat) : MS := (asgS (nameG [] 1) (varE 3))
def lb__law_rows_1 (k : Nat) : MS := seqS [w__law_rows_1_0 k, w__law_rows_1_1 k, w__law_rows_1_2 k]
def l__law_rows_1 (k : Nat) : MS := forS (itE [] rangeF1 [(varE 0)]) (nameT [] 2) (lb__law_rows_1 k)
def b__law_rows_0 (k : Nat) : MS := (asgS (nameG [] 1) (lstE [(tupE [])]))
def b__law_rows_1 (k : Nat) : MS := (l__law_rows_1 k)
def b__law_rows_2 (k : Nat) : MS := (retS (varE 1))
theorem r__law_rows (k : Nat) (ps : Sl) : P.run (k + 3) d__law_rows ps = endF [false] (seqS [b__law_rows_0 k, b__law_rows_1 k, b__law_rows_2 k] (ps ++ List.replicate 5 none)) := by kernel_rfl
def ce__law_johnson_0 (k : Nat) : ME := (tupE [(varE 5), (varE 3)])
def cc__law_johnson_0 (k : Nat) : ME := condE [(op2 (cmpF .Lt) (varE 5) (varE 6))]
def c__law_johnson_0 (k : Nat) : ME := compE [3, 5, 6] (itE [] enumF [(varE 0)]) (unpT [(nameT [] 3), (unpT [(nameT [] 5), (nameT [] 6)])]) (cc__law_johnson_0 k) (ce__law_johnson_0 k)
def ce__law_johnson_1 (k : Nat) : ME := (tupE [(op2 (binD .Sub) (immE (.int 0)) (varE 6)), (varE 3)])
def cc__law_johnson_1 (k : Nat) : ME := condE [(op2 (cmpF .GtE) (varE 5) (varE 6))]
def c__law_johnson_1 (k : Nat) : ME := compE [3, 5, 6] (itE [] enumF [(varE 0)]) (unpT [(nameT [] 3), (unpT [(nameT [] 5), (nameT [] 6)])]) (cc__law_johnson_1 k) (ce__law_johnson_1 k)
def ce__law_johnson_2 (k : Nat) : ME := (varE 3)
def c__law_johnson_2 (k : Nat) : ME := compE [4, 3] (itE [] seqF [(op2 (binD .Add) (varE 1) (varE 2))]) (unpT [(nameT [] 4), (nameT [] 3)]) (condE []) (ce__law_johnson_2 k)
def b__law_johnson_0 (k : Nat) : MS := (asgS (nameG [] 1) (bltE (bltD .sorted) [(c__law_johnson_0 k)]))
def b__law_johnson_1 (k : Nat) : MS := (asgS (nameG [] 2) (bltE (bltD .sorted) [(c__law_johnson_1 k)]))
def b__law_johnson_2 (k : Nat) : MS := (retS (bltE (bltD .tuple) [(c__law_johnson_2 k)]))
theorem r__law_johnson (k : Nat) (ps : Sl) : P.run (k + 3) d__law_johnson ps = endF [false] (seqS [b__law_johnson_0 k, b__law_johnson_1 k, b__law_johnson_2 k] (ps ++ List.replicate 6 none)) := by kernel_rfl
def b__law_no_order_0 (k : Nat) : MS := (retS (callE [true, false] (P.run (k + 2) d__law_any) [(varE 0), (lstE [(immE (.none)), (bltE (rngD false) [(varE 1)]), (op2 (binD .Mult) (tupE [(immE (.int 0))]) (op2 (binD .Add) (varE 1) (immE (.int 1)))), (op2 (binD .Mult) (tupE [(varE 1)]) (varE 1)), (op2 (binD .Mult) (tupE [(un1 negD (immE (.int 1)))]) (varE 1)), (immE (.int 0)), (immE (.str "0"))])]))
theorem r__law_no_order (k : Nat) (ps : Sl) : P.run (k + 3) d__law_no_order ps = endF [true, false] (seqS [b__law_no_order_0 k] (ps ++ List.replicate 0 none)) := by kernel_rfl
def w__law_three_end_0_0 (k : Nat) : MS := (asgS (nameG [] 3) (op2 (binD .Add) (varE 3) (op2 subD (op2 subD (varE 0) (varE 2)) (immE (.int 0)))))
def w__law_three_end_0_1 (k : Nat) : MS := (asgS (nameG [] 4) (op2 (binD .Add) (bltE (bltD .max) [(varE 3), (varE 4)]) (op2 subD (op2 subD (varE 0) (varE 2)) (immE (.int 1)))))
def w__law_three_end_0_2 (k : Nat) : MS := (asgS (nameG [] 5) (op2 (binD .Add) (bltE (bltD .max) [(varE 4), (varE 5)]) (op2 subD (op2 subD (varE 0) (varE 2)) (immE (.int 2)))))
def lb__law_three_end_0 (k : Nat) : MS := seqS [w__law_three_end_0_0 k, w__law_three_end_0_1 k, w__law_three_end_0_2 k]
def l__law_three_end_0 (k : Nat) : MS := forS (itE [] seqF [(varE 1)]) (nameT [] 2) (lb__law_three_end_0 k)
def b__law_three_end_0 (k : Nat) : MS := (parS [nameG [] 3, nameG [] 4, nameG [] 5] [(immE (.int 0)), (immE (.int 0)), (immE (.int 0))])
def b__law_three_end_1 (k : Nat) : MS := (l__law_three_end_0 k)
def b__law_three_end_2 (k : Nat) : MS := (retS (varE 5))
theorem r__law_three_end (k : Nat) (ps : Sl) : P.run (k + 3) d__law_three_end ps = endF [false, false] (seqS [b__law_three_end_0 k, b__law_three_end_1 k, b__law_three_end_2 k] (ps ++ List.replicate 4 none)) := by kernel_rfl
def w_law_0_0 (k : Nat) : MS := (exprS (mutE 4 (mtF .append) [(tupE [(callE [true, false] (P.run (k + 2) d__law_draw) [(varE 1), (varE 3)]), (callE [true, false] (P.run (k + 2) d__law_draw) [(varE 1), (varE 3)]), (callE [true, false] (P.run (k + 2) d__law_draw) [(varE 1), (varE 3)])])]))
def lb_law_0 (k : Nat) : MS := seqS [w_law_0_0 k]
def l_law_0 (k : Nat) : MS := forS (itE [] rangeF1 [(op2 (binD .Add) (immE (.int 1)) (callE [true, false] (P.run (k + 2) d__law_draw) [(varE 1), (immE (.int 4))]))]) (nameT [] 5) (lb_law_0 k)
def ce_law_0 (k : Nat) : ME := (tupE [(bltE (bltD .min) [(immE (.int 99)), (op2 (binD .Add) (varE 9) (varE 3))]), (varE 10), (varE 11)])
def c_law_0 (k : Nat) : ME := compE [9, 10, 11] (itE [] seqF [(varE 4)]) (unpT [(nameT [] 9), (nameT [] 10), (nameT [] 11)]) (condE []) (ce_law_0 k)
def ce_law_1 (k : Nat) : ME := (tupE [(callE [false, false] (P.run (k + 2) d__law_three_end) [(varE 4), (varE 18)]), (varE 18)])
def c_law_1 (k : Nat) : ME := compE [18] (itE [] seqF [(varE 6)]) (nameT [] 18) (condE []) (ce_law_1 k)
def ce_law_2 (k : Nat) : ME := (op2 subD (varE 19) (immE (.int 0)))
def c_law_2 (k : Nat) : ME := compE [19] (itE [] seqF [(varE 4)]) (nameT [] 19) (condE []) (ce_law_2 k)
def ce_law_3 (k : Nat) : ME := (op2 (binD .Add) (op2 subD (varE 19) (immE (.int 1))) (op2 subD (varE 19) (immE (.int 2))))
def c_law_3 (k : Nat) : ME := compE [19] (itE [] seqF [(varE 4)]) (nameT [] 19) (condE []) (ce_law_3 k)
def ce_law_4 (k : Nat) : ME := (op2 subD (varE 19) (immE (.int 1)))
def c_law_4 (k : Nat) : ME := compE [19] (itE [] seqF [(varE 4)]) (nameT [] 19) (condE []) (ce_law_4 k)
def ce_law_5 (k : Nat) : ME := (op2 subD (varE 19) (immE (.int 0)))
def c_law_5 (k : Nat) : ME := compE [19] (itE [] seqF [(varE 4)]) (nameT [] 19) (condE []) (ce_law_5 k)
def ce_law_6 (k : Nat) : ME := (op2 subD (varE 19) (immE (.int 2)))
def c_law_6 (k : Nat) : ME := compE [19] (itE [] seqF [(varE 4)]) (nameT [] 19) (condE []) (ce_law_6 k)
def ce_law_7 (k : Nat) : ME := (op2 subD (varE 19) (immE (.int 2)))
def c_law_7 (k : Nat) : ME := compE [19] (itE [] seqF [(varE 4)]) (nameT [] 19) (condE []) (ce_law_7 k)
def ce_law_8 (k : Nat) : ME := (op2 (binD .Add) (op2 subD (varE 19) (immE (.int 0))) (op2 subD (varE 19) (immE (.int 1))))
def c_law_8 (k : Nat) : ME := compE [19] (itE [] seqF [(varE 4)]) (nameT [] 19) (condE []) (ce_law_8 k)
def ce_law_9 (k : Nat) : ME := (tupE [(op2 (binD .Add) (op2 subD (varE 19) (immE (.int 0))) (op2 subD (varE 19) (immE (.int 1)))), (op2 (binD .Add) (op2 subD (varE 19) (immE (.int 1))) (op2 subD (varE 19) (immE (.int 2))))])
def c_law_9 (k : Nat) : ME := compE [19] (itE [] seqF [(varE 4)]) (nameT [] 19) (condE []) (ce_law_9 k)
def ce_law_10 (k : Nat) : ME := (op2 subD (varE 19) (immE (.int 1)))
def c_law_10 (k : Nat) : ME := compE [19] (itE [] seqF [(varE 4)]) (nameT [] 19) (condE []) (ce_law_10 k)
def ce_law_11 (k : Nat) : ME := (op2 subD (varE 19) (immE (.int 0)))
def c_law_11 (k : Nat) : ME := compE [19] (itE [] seqF [(varE 4)]) (nameT [] 19) (condE []) (ce_law_11 k)
def ce_law_12 (k : Nat) : ME := (op2 subD (varE 19) (immE (.int 2)))
def c_law_12 (k : Nat) : ME := compE [19] (itE [] seqF [(varE 4)]) (nameT [] 19) (condE []) (ce_law_12 k)
def gb_law_0 (k : Nat) : ME := (callE [false, false] (P.run (k) d_three_end) [(varE 15), (varE 16)])
def g_law_0 (k : Nat) : ME := lamE [] [15, 16] (L__law_word k) (gb_law_0 k)
def gb_law_1 (k : Nat) : ME := (callE [false, false] (P.run (k) d_three_end) [(varE 4), (varE 16)])
def g_law_1 (k : Nat) : ME := lamE [] [16, 4] (L__law_word k) (gb_law_1 k)
def gb_law_2 (k : Nat) : ME := (callE [false] (P.run (k) d_three_told) [(varE 15)])
def g_law_2 (k : Nat) : ME := lamE [] [15] (L__law_word k) (gb_law_2 k)
def gb_law_3 (k : Nat) : ME := (callE [false] (P.run (k) d_three_bound) [(varE 15)])
def g_law_3 (k : Nat) : ME := lamE [] [15] (L__law_word k) (gb_law_3 k)
def gb_law_4 (k : Nat) : ME := (callE [false] (P.run (k) d_by_pairs) [(varE 15)])
def g_law_4 (k : Nat) : ME := lamE [] [15] (L__law_word k) (gb_law_4 k)
def gb_law_5 (k : Nat) : ME := (callE [false] (P.run (k) d_is_easy) [(varE 15)])
def g_law_5 (k : Nat) : ME := lamE [] [15] (L__law_word k) (gb_law_5 k)
def w_law_1_0 (k : Nat) : MS := (asgS (nameG [] 3) (callE [true, false] (P.run (k + 2) d__law_any) [(varE 1), (lstE [(immE (.int 4)), (immE (.int 20)), (immE (.int 100))])]))
def w_law_1_1 (k : Nat) : MS := (asgS (nameG [] 4) (lstE []))
def w_law_1_2 (k : Nat) : MS := (l_law_0 k)
def w_law_1_3 (k : Nat) : MS := (asgS (nameG [] 4) (bltE (bltD .tuple) [(varE 4)]))
def w_law_1_4 (k : Nat) : MS := (ifS (op2 (cmpF .Eq) (callE [true, false] (P.run (k + 2) d__law_draw) [(varE 1), (immE (.int 2))]) (immE (.int 0))) (seqS [(asgS (nameG [] 4) (bltE (bltD .tuple) [(c_law_0 k)]))]) (seqS []))
def w_law_1_5 (k : Nat) : MS := (asgS (nameG [] 6) (callE [false] (P.run (k + 2) d__law_rows) [(bltE (bltD .len) [(varE 4)])]))
def w_law_1_6 (k : Nat) : MS := (asgS (nameG [] 7) (callE [true, false] (P.run (k + 2) d__law_any) [(varE 1), (varE 6)]))
def w_law_1_7 (k : Nat) : MS := (ifS (op2 (cmpF .NotEq) (callE [false, false] (P.run (k + 2) d_three_end) [(varE 4), (varE 7)]) (callE [false, false] (P.run (k + 2) d__law_three_end) [(varE 4), (varE 7)])) (seqS [(retS (immE (.bool false)))]) (seqS []))
def w_law_1_8 (k : Nat) : MS := (asgS (nameG [] 8) (bltE (bltD .min) [(c_law_1 k)]))
def w_law_1_9 (k : Nat) : MS := (ifS (op2 (cmpF .NotEq) (callE [false] (P.run (k + 2) d_three_told) [(varE 4)]) (varE 8)) (seqS [(retS (immE (.bool false)))]) (seqS []))
def w_law_1_10 (k : Nat) : MS := (asgS (nameG [] 9) (op2 (binD .Add) (bltE (bltD .sum) [(c_law_2 k)]) (bltE (bltD .min) [(c_law_3 k)])))
def w_law_1_11 (k : Nat) : MS := (asgS (nameG [] 10) (op2 (binD .Add) (op2 (binD .Add) (bltE (bltD .sum) [(c_law_4 k)]) (bltE (bltD .min) [(c_law_5 k)])) (bltE (bltD .min) [(c_law_6 k)])))
def w_law_1_12 (k : Nat) : MS := (asgS (nameG [] 11) (op2 (binD .Add) (bltE (bltD .sum) [(c_law_7 k)]) (bltE (bltD .min) [(c_law_8 k)])))
def w_law_1_13 (k : Nat) : MS := (ifS (orE [(op2 (cmpF .Lt) (op2 subD (varE 8) (immE (.int 0))) (callE [false] (P.run (k + 2) d_three_bound) [(varE 4)])), (op2 (cmpF .Gt) (callE [false] (P.run (k + 2) d_three_bound) [(varE 4)]) (bltE (bltD .max) [(varE 9), (varE 10), (varE 11)]))]) (seqS [(retS (immE (.bool false)))]) (seqS []))
def w_law_1_14 (k : Nat) : MS := (asgS (nameG [] 12) (callE [false] (P.run (k + 2) d__law_johnson) [(bltE (bltD .tuple) [(c_law_9 k)])]))
def w_law_1_15 (k : Nat) : MS := (asgS (nameG [] 13) (bltE (bltD .max) [(c_law_10 k)]))
def w_law_1_16 (k : Nat) : MS := (asgS (nameG [] 14) (orE [(op2 (cmpF .LtE) (varE 13) (bltE (bltD .min) [(c_law_11 k)])), (op2 (cmpF .LtE) (varE 13) (bltE (bltD .min) [(c_law_12 k)]))]))
def w_law_1_17 (k : Nat) : MS := (ifS (orE [(op2 (cmpF .NotEq) (callE [false] (P.run (k + 2) d_by_pairs) [(varE 4)]) (varE 12)), (op2 (cmpF .NotEq) (callE [false] (P.run (k + 2) d_is_easy) [(varE 4)]) (varE 14)), (andE [(varE 14), (op2 (cmpF .NotEq) (callE [false, false] (P.run (k + 2) d__law_three_end) [(varE 4), (varE 12)]) (op2 subD (varE 8) (immE (.int 0))))])]) (seqS [(retS (immE (.bool false)))]) (seqS []))
def w_law_1_18 (k : Nat) : MS := (asgS (nameG [] 15) (callE [true, false] (P.run (k + 2) d__law_any) [(varE 1), (lstE [(immE (.none)), (tupE []), (lstE [(tupE [(immE (.int 1)), (immE (.int 1)), (immE (.int 1))])]), (tupE [(tupE [(immE (.int 1)), (immE (.int 1))])]), (tupE [(tupE [(immE (.int 100)), (immE (.int 0)), (immE (.int 0))])]), (tupE [(tupE [(immE (.bool true)), (immE (.int 1)), (immE (.int 1))])]), (op2 (binD .Mult) (tupE [(tupE [(immE (.int 1)), (immE (.int 1)), (immE (.int 1))])]) (immE (.int 6))), (immE (.int 0))])]))
def w_law_1_19 (k : Nat) : MS := (asgS (nameG [] 16) (callE [true, false] (P.run (k + 2) d__law_no_order) [(varE 1), (bltE (bltD .len) [(varE 4)])]))
def w_law_1_20 (k : Nat) : MS := (asgS (nameG [] 17) (lstE [(g_law_0 k)]))
def w_law_1_21 (k : Nat) : MS := (exprS (mutE 17 (mtF .append) [(g_law_1 k)]))
def w_law_1_22 (k : Nat) : MS := (exprS (mutE 17 (mtF .append) [(g_law_2 k)]))
def w_law_1_23 (k : Nat) : MS := (exprS (mutE 17 (mtF .append) [(g_law_3 k)]))
def w_law_1_24 (k : Nat) : MS := (exprS (mutE 17 (mtF .append) [(g_law_4 k)]))
def w_law_1_25 (k : Nat) : MS := (exprS (mutE 17 (mtF .append) [(g_law_5 k)]))
def w_law_1_26 (k : Nat) : MS := (ifS (op2 (cmpF .NotEq) (varE 17) (lstE [(immE (.str "three")), (immE (.str "order")), (immE (.str "three")), (immE (.str "three")), (immE (.str "three")), (immE (.str "three"))])) (seqS [(retS (immE (.bool false)))]) (seqS []))
def lb_law_1 (k : Nat) : MS := seqS [w_law_1_0 k, w_law_1_1 k, w_law_1_2 k, w_law_1_3 k, w_law_1_4 k, w_law_1_5 k, w_law_1_6 k, w_law_1_7 k, w_law_1_8 k, w_law_1_9 k, w_law_1_10 k, w_law_1_11 k, w_law_1_12 k, w_law_1_13 k, w_law_1_14 k, w_law_1_15 k, w_law_1_16 k, w_law_1_17 k, w_law_1_18 k, w_law_1_19 k, w_law_1_20 k, w_law_1_21 k, w_law_1_22 k, w_law_1_23 k, w_law_1_24 k, w_law_1_25 k, w_law_1_26 k]
def l_law_1 (k : Nat) : MS := forS (itE [] rangeF1 [(immE (.int 4))]) (nameT [] 2) (lb_law_1 k)
def b_law_0 (k : Nat) : MS := (asgS (nameG [] 1) (callE [false] (P.run (k + 2) d__law_hand) [(varE 0)]))
def b_law_1 (k : Nat) : MS := (l_law_1 k)
def b_law_2 (k : Nat) : MS := (retS (immE (.bool true)))
theorem r_law (k : Nat) (ps : Sl) : P.run (k + 3) d_law ps = endF [false] (seqS [b_law_0 k, b_law_1 k, b_law_2 k] (ps ++ List.replicate 19 none)) := by kernel_rfl
end Lw
end
section
set_option maxHeartbeats 1000000
namespace Lw
open PySem Ev
theorem t_is_integer (k : Nat) (i : Int) : P.run (k + 3) d_is_integer [some (.im (.int i))] = .ok (.im (.bool true)) [none] := by rw [r_is_integer] <;> rfl
theorem t_is_within (k : Nat) {i lo hi : Int} (h : lo ≤ i) (h' : i ≤ hi) : P.run (k + 4) d_is_within [some (.im (.int i)), some (.im (.int lo)), some (.im (.int hi))] = .ok (.im (.bool true)) [none, none, none] := by
  rw [r_is_within (k + 1)]
  simp only [b_is_within_0, t_is_integer, seqS, SR.bind, Res.st, Res.bind, retS, exprS, ifS, asgS, nameG, stS_n, stS_1, stS_2, stS_3, stS_4, stS_5, stS_6, stS_7, stS_8, stS_9, stS_10, stS_11, stS_12, stS_13, stS_14, stS_15, asgT, unpT, tupT, parS, argsP, parG, immE, varE, lift, un1, op2, andE, orE, notE, ifE, chainE, tru, argsD, tupE, lstE, argsO, toPar, backs, callE, vw, vws, fzO, gt, pt, bltE, isiE, isisE, tyD, imB, imI, cmpF, cmpD, binD_add, binD_sub, augD, sliE, optE, sliD, itE, argsI, hid_im, hid_tl, hid_n, mutE, mtF, appF, isOl, setiS, setF, endF, outO, finsOf_f, finsOf_t, finsOf_n, fxOf, raiseS, seqF, seqD, nameT, unhS, List.replicate, List.cons_append, List.nil_append, List.contains, List.elem, Option.map, Option.bind, ltD_int, leD_int, eqD_int, eqD_str, Bool.not_true, Bool.not_false, Bool.false_eq_true, if_true, if_false]
  simp [h, h']
theorem t_is_sized (k : Nat) {xs : List D} {lo hi : Int} (h : lo ≤ xs.length) (h' : (xs.length : Int) ≤ hi) : P.run (k + 3) d_is_sized [some (.im (.tuple xs)), some (.im (.int lo)), some (.im (.int hi))] = .ok (.im (.bool true)) [none, none, none] := by
  rw [r_is_sized]
  simp only [b_is_sized_0, bltD, seqS, SR.bind, Res.st, Res.bind, retS, exprS, ifS, asgS, nameG, stS_n, stS_1, stS_2, stS_3, stS_4, stS_5, stS_6, stS_7, stS_8, stS_9, stS_10, stS_11, stS_12, stS_13, stS_14, stS_15, asgT, unpT, tupT, parS, argsP, parG, immE, varE, lift, un1, op2, andE, orE, notE, ifE, chainE, tru, argsD, tupE, lstE, argsO, toPar, backs, callE, vw, vws, fzO, gt, pt, bltE, isiE, isisE, tyD, imB, imI, cmpF, cmpD, binD_add, binD_sub, augD, sliE, optE, sliD, itE, argsI, hid_im, hid_tl, hid_n, mutE, mtF, appF, isOl, setiS, setF, endF, outO, finsOf_f, finsOf_t, finsOf_n, fxOf, raiseS, seqF, seqD, nameT, unhS, List.replicate, List.cons_append, List.nil_append, List.contains, List.elem, Option.map, Option.bind, ltD_int, leD_int, eqD_int, eqD_str, Bool.not_true, Bool.not_false, Bool.false_eq_true, if_true, if_false]
  simp [h, h']
abbrev im (d : D) : Option Sv := some (.im d)
abbrev pr (p : Int × Int) : D := .tuple [.int p.1, .int p.2]
def hL (hs : List (Int × Int)) : List D := hs.map pr
theorem hL_len {hs : List (Int × Int)} : (hL hs).length = hs.length := List.length_map ..
theorem sub0 {p : Int × Int} : subD (pr p) (.int 0) = some (.im (.int p.1)) := rfl
theorem sub1 {p : Int × Int} : subD (pr p) (.int 1) = some (.im (.int p.2)) := rfl
/-- an order of n loads -/
def Row (n : Nat) (r : List Int) : Prop := r.length = n ∧ r.Nodup ∧ ∀ i ∈ r, 0 ≤ i ∧ i < n
theorem rI_eq : ∀ {n : Nat} {a : Int}, rangeI a n = iL ((List.range n).map fun j => a + (j : Nat))
  | 0, _ => rfl
  | n + 1, a => by
    rw [rangeI, rI_eq, List.range_succ_eq_map, List.map_cons, List.map_map, iL_cons]
    congr 1
    · congr 1; omega
    · congr 1
      refine List.map_congr_left fun j _ => ?_
      show a + 1 + (j : Nat) = a + ((j + 1 : Nat) : Int)
      omega
def rng (n : Nat) : List Int := (List.range n).map fun j : Nat => (j : Int)
theorem rng_eq {n : Nat} : rangeI 0 n = iL (rng n) := by
  rw [rI_eq]
  congr 1
  exact List.map_congr_left fun j _ => by omega
theorem rng_mem {n : Nat} {i : Int} : i ∈ rng n ↔ 0 ≤ i ∧ i < n := by
  unfold rng
  rw [List.mem_map]
  constructor
  · rintro ⟨j, hj, rfl⟩
    have := List.mem_range.mp hj
    omega
  · rintro ⟨h, h'⟩
    exact ⟨i.toNat, List.mem_range.mpr (by omega), by omega⟩
theorem rng_sorted {n : Nat} : (rng n).Pairwise (· < ·) := by
  unfold rng
  rw [List.pairwise_map]
  exact List.pairwise_lt_range.imp fun h => by omega
theorem rng_nodup {n : Nat} : (rng n).Nodup := rng_sorted.imp fun h => by omega
theorem rng_len {n : Nat} : (rng n).length = n := by simp [rng]
theorem nodup_len {α : Type} [BEq α] [LawfulBEq α] : ∀ {xs ys : List α}, xs.Nodup → (∀ x ∈ xs, x ∈ ys) → xs.length ≤ ys.length
  | [], ys, _, _ => Nat.zero_le _
  | x :: xs, ys, hn, hs => by
    have hx : x ∈ ys := hs x List.mem_cons_self
    have hn' := List.nodup_cons.mp hn
    have := nodup_len (ys := ys.erase x) hn'.2 fun y hy => (List.mem_erase_of_ne (by intro e; subst e; exact hn'.1 hy)).mpr (hs y (List.mem_cons_of_mem _ hy))
    rw [List.length_erase_of_mem hx] at this
    have := List.length_pos_of_mem hx
    simp only [List.length_cons]
    omega
/-- nodup lists with the same members are permutations -/
theorem perm_of {α : Type} [BEq α] [LawfulBEq α] : ∀ {xs ys : List α}, xs.Nodup → ys.Nodup → (∀ x, x ∈ xs ↔ x ∈ ys) → xs.Perm ys
  | [], ys, _, _, h => by
    have : ys = [] := List.eq_nil_iff_forall_not_mem.mpr fun y hy => by simpa using (h y).mpr hy
    rw [this]
  | x :: xs, ys, hn, hm, h => by
    have hx : x ∈ ys := (h x).mp List.mem_cons_self
    have hn' := List.nodup_cons.mp hn
    have p := List.perm_cons_erase hx
    refine List.Perm.trans ?_ p.symm
    refine List.Perm.cons x (perm_of hn'.2 (hm.erase x) fun y => ?_)
    rw [hm.mem_erase_iff]
    constructor
    · intro hy
      exact ⟨fun e => by subst e; exact hn'.1 hy, (h y).mp (List.mem_cons_of_mem _ hy)⟩
    · rintro ⟨ne, hy⟩
      rcases List.mem_cons.mp ((h y).mpr hy) with e | e
      · exact absurd e ne
      · exact e
theorem row_perm {n : Nat} {r : List Int} (h : Row n r) : r.Perm (rng n) := by
  refine perm_of h.2.1 rng_nodup fun i => ⟨fun hi => rng_mem.mpr (h.2.2 i hi), fun hi => ?_⟩
  by_cases z : i ∈ r
  · exact z
  · have := nodup_len (xs := i :: r) (ys := rng n) (List.nodup_cons.mpr ⟨z, h.2.1⟩) fun y hy => by
      rcases List.mem_cons.mp hy with rfl | hy
      · exact hi
      · exact rng_mem.mpr (h.2.2 y hy)
    rw [List.length_cons, h.1, rng_len] at this
    omega
def leI (a b : Int) : Bool := decide (a ≤ b)
theorem sort_rng {n : Nat} {r : List Int} (h : Row n r) : r.mergeSort leI = rng n := by
  have tr : ∀ a b c : Int, leI a b = true → leI b c = true → leI a c = true := fun a b c h h' => by simp [leI] at *; omega
  have tt : ∀ a b : Int, (leI a b || leI b a) = true := fun a b => by simp [leI]; omega
  have s1 := List.pairwise_mergeSort tr tt r
  have p : (r.mergeSort leI).Perm (rng n) := (List.mergeSort_perm r leI).trans (row_perm h)
  refine List.Perm.eq_of_pairwise (le := fun a b => leI a b = true) (fun a b _ _ h h' => ?_) s1 (rng_sorted.imp fun h => ?_) p
  · simp [leI] at *; omega
  · simp [leI]; omega
theorem sorted_iL {ns : List Int} (hl : ns.length ≤ 1000) : bltD .sorted [.tuple (iL ns)] = some (.tl (iL (ns.mergeSort leI))) := by
  have c : sortB (iL ns) = true := by
    unfold sortB
    rw [Bool.or_eq_true]
    right
    exact List.all_eq_true.mpr fun x hx => by
      obtain ⟨i, _, rfl⟩ := List.mem_map.mp hx
      rfl
  have l : (iL ns).length ≤ sizeMax := by rw [iL_len]; simp [sizeMax]; omega
  have b : shps (iL ns) = true := shpNs_iL
  have m : iL (ns.mergeSort leI) = (iL ns).mergeSort leB := List.map_mergeSort fun a _ b _ => by
    unfold leB leI
    rw [PySem.W.dataLt_int]
    by_cases z : b < a
    · have z' : ¬ a ≤ b := by omega
      simp [z, z']
    · have z' : a ≤ b := by omega
      simp [z, z']
  rw [m]
  simp only [bltD, alikeB_iL, b, c, decide_eq_true l, Bool.and_self, if_true]
theorem rngD_1 {t : Bool} {n : Int} (h0 : 0 ≤ n) (h1 : n ≤ 1000) : rngD t [.int n] = some (rngO t (iL (rng n.toNat))) := by
  have e : rngOk 0 n = true := by
    simp only [rngOk, rngB, Bool.and_eq_true, decide_eq_true_eq]
    omega
  have z : (n - 0).toNat = n.toNat := by omega
  simp only [rngD, e, if_true, z, rng_eq]
theorem rngD_n {n : Nat} (h : n ≤ 1000) : rngD false [.int n] = some (.tl (iL (rng n))) := by
  have := rngD_1 (t := false) (n := (n : Int)) (by omega) (by omega)
  rw [Int.toNat_natCast] at this
  exact this
theorem rng_call {F : List D → Option Op} {n : Int} {ys : List D} {x z : Option Sv} (rg : F [.int n] = some (.tl ys)) : bltE F [varE 1] [x, im (.int n), z] = .ok (.tl ys) [x, im (.int n), z] := by
  show lift (F [.int n]) _ = _
  rw [rg]
  rfl
theorem sort_call {F : List D → Option Op} {x : D} {ys : List D} {y z : Option Sv} (rg : F [x] = some (.tl ys)) : bltE F [varE 0] [im x, y, z] = .ok (.tl ys) [im x, y, z] := by
  show lift (F [x]) _ = _
  rw [rg]
  rfl
theorem eq_call {a b : ME} {e : Sl} {ys : List D} (h1 : a e = .ok (.tl ys) e) (h2 : b e = .ok (.tl ys) e) (q : shp (.list ys) = true) : retS (op2 (cmpF .Eq) a b) e = .rt (.im (.bool true)) e := by
  refine retS_ok (o := .im (.bool true)) ?_
  unfold op2
  rw [h1]
  simp only [Res.bind, h2, vw, lift, cmpF, cmpD, eqD_self q, imB, Option.bind]
theorem all1 (k : Nat) {n : Nat} {r : List Int} (so : bltD .sorted [.tuple (iL r)] = some (.tl (iL (rng n)))) (rg : rngD false [.int n] = some (.tl (iL (rng n)))) : b_are_all_1 (k + 2) [im (.tuple (iL r)), im (.int n), none] = .rt (.im (.bool true)) [im (.tuple (iL r)), im (.int n), none] :=
  eq_call (sort_call so) (rng_call rg) (by simp only [shp_N, shpN_list, shpNs_iL])
theorem t_are_all (k : Nat) {n : Nat} {r : List Int} (h : Row n r) (hn : n ≤ 100) : P.run (k + 5) d_are_all [im (.tuple (iL r)), im (.int n)] = .ok (.im (.bool true)) [none, none] := by
  rw [r_are_all (k + 2)]
  have hr := h.1
  have e : c_are_all_0 (k + 2) [im (.tuple (iL r)), im (.int n), none] = .ok (.tl (bL ((iL r).map fun _ => true))) [im (.tuple (iL r)), im (.int n), none] := by
    rw [all_true]
    refine compE_map (fun _ => .bool true) rfl rfl (by rw [iL_len]; simp [sizeMax]; omega) fun d hd => ?_
    obtain ⟨i, hi, rfl⟩ := List.mem_map.mp hd
    obtain ⟨i0, i1⟩ := h.2.2 i hi
    refine ⟨_, rfl, rfl, ?_, rfl⟩
    simp only [ce_are_all_0, im, wipeS, t_is_within k (i := i) (lo := 0) (hi := n - 1) i0 (by omega), seqS, SR.bind, Res.st, Res.bind, retS, exprS, ifS, asgS, nameG, stS_n, stS_1, stS_2, stS_3, stS_4, stS_5, stS_6, stS_7, stS_8, stS_9, stS_10, stS_11, stS_12, stS_13, stS_14, stS_15, asgT, unpT, tupT, parS, argsP, parG, immE, varE, lift, un1, op2, andE, orE, notE, ifE, chainE, tru, argsD, tupE, lstE, argsO, toPar, backs, callE, vw, vws, fzO, gt, pt, bltE, isiE, isisE, tyD, imB, imI, cmpF, cmpD, binD_add, binD_sub, augD, sliE, optE, sliD, itE, argsI, hid_im, hid_tl, hid_n, mutE, mtF, appF, isOl, setiS, setF, endF, outO, finsOf_f, finsOf_t, finsOf_n, fxOf, raiseS, seqF, seqD, nameT, unhS, List.replicate, List.cons_append, List.nil_append, List.contains, List.elem, Option.map, Option.bind, ltD_int, leD_int, eqD_int, eqD_str, Bool.not_true, Bool.not_false, Bool.false_eq_true, if_true, if_false]
  have so := sorted_iL (ns := r) (by omega)
  rw [sort_rng h] at so
  have s0 : b_are_all_0 (k + 2) [im (.tuple (iL r)), im (.int n), none] = .nx [im (.tuple (iL r)), im (.int n), none] := by
    simp only [im] at e
    simp only [b_are_all_0, im, t_is_sized (k + 1) (xs := iL r) (lo := n) (hi := n) (by rw [iL_len]; omega) (by rw [iL_len]; omega), e, bltD_allT, seqS, SR.bind, Res.st, Res.bind, retS, exprS, ifS, asgS, nameG, stS_n, stS_1, stS_2, stS_3, stS_4, stS_5, stS_6, stS_7, stS_8, stS_9, stS_10, stS_11, stS_12, stS_13, stS_14, stS_15, asgT, unpT, tupT, parS, argsP, parG, immE, varE, lift, un1, op2, andE, orE, notE, ifE, chainE, tru, argsD, tupE, lstE, argsO, toPar, backs, callE, vw, vws, fzO, gt, pt, bltE, isiE, isisE, tyD, imB, imI, cmpF, cmpD, binD_add, binD_sub, augD, sliE, optE, sliD, itE, argsI, hid_im, hid_tl, hid_n, mutE, mtF, appF, isOl, setiS, setF, endF, outO, finsOf_f, finsOf_t, finsOf_n, fxOf, raiseS, seqF, seqD, nameT, unhS, List.replicate, List.cons_append, List.nil_append, List.contains, List.elem, Option.map, Option.bind, ltD_int, leD_int, eqD_int, eqD_str, Bool.not_true, Bool.not_false, Bool.false_eq_true, if_true, if_false]
  have s1 : b_are_all_1 (k + 2) [im (.tuple (iL r)), im (.int n), none] = .rt (.im (.bool true)) [im (.tuple (iL r)), im (.int n), none] := all1 k so (rngD_n (by omega))
  show endF [false, false] (seqS _ [im (.tuple (iL r)), im (.int n), none]) = _
  rw [seqS_nx s0, seqS_one, s1]
  rfl
end Lw
end
section
set_option maxHeartbeats 1000000
namespace Lw
open PySem Ev
def ld (ps : List (Int × Int)) (i : Int) : Int × Int := ps.getD i.toNat (0, 0)
theorem sub_ld {ps : List (Int × Int)} {i : Int} (h0 : 0 ≤ i) (h1 : i < ps.length) : subD (.tuple (hL ps)) (.int i) = some (.im (pr (ld ps i))) := by
  have e : ixD (hL ps).length i = some i.toNat := by rw [hL_len]; simp [ixD, h0, h1]
  have hi : i.toNat < ps.length := by omega
  have g : (hL ps)[i.toNat]? = some (pr (ld ps i)) := by
    simp only [hL, List.getElem?_map, List.getElem?_eq_getElem hi, ld, List.getD_eq_getElem?_getD, Option.map, Option.getD]
  simp only [subD, e, g, Option.map]
abbrev T3 := Int × Int × Int
abbrev tD (t : T3) : D := .tuple [.int t.1, .int t.2.1, .int t.2.2]
def tL (ts : List T3) : List D := ts.map tD
theorem tL_len {ts : List T3} : (tL ts).length = ts.length := List.length_map ..
theorem tL_app {a b : List T3} : tL (a ++ b) = tL a ++ tL b := List.map_append ..
/-- the greater, as it is told -/
def mx (i j : Int) : Int := if j > i then j else i
theorem mx2 {i j : Int} : bltD .max [.int i, .int j] = some (.im (.int (mx i j))) := rfl
def edn (ps : List (Int × Int)) : Int → Int → List Int → Int
  | _, E, [] => E
  | W, E, i :: r => edn ps (W + (ld ps i).1) (mx (W + (ld ps i).1) E + (ld ps i).2) r
end Lw
end
section
set_option maxHeartbeats 1000000
namespace Lw
open PySem Ev
/-! ### Johnson's order ends first -/
/-- a may stand ahead of b -/
def jn (a b : Int × Int) : Prop := min a.1 b.2 ≤ min b.1 a.2
def ed (W E : Int) : List (Int × Int) → Int
  | [] => E
  | p :: r => ed (W + p.1) (mx (W + p.1) E + p.2) r
theorem edn_ed {ps : List (Int × Int)} : ∀ {r : List Int} {W E : Int}, edn ps W E r = ed W E (r.map (ld ps))
  | [], _, _ => rfl
  | i :: r, W, E => by rw [edn, edn_ed]; rfl
theorem ed_mono : ∀ {r : List (Int × Int)} {W E F : Int}, E ≤ F → ed W E r ≤ ed W F r
  | [], _, _, _, h => h
  | p :: r, W, E, F, h => by
    refine ed_mono (r := r) (W := W + p.1) (E := mx (W + p.1) E + p.2) (F := mx (W + p.1) F + p.2) ?_
    unfold mx
    split <;> split <;> omega
theorem ed_swap {a b : Int × Int} {r : List (Int × Int)} {W E : Int} (h : jn a b) : ed W E (a :: b :: r) ≤ ed W E (b :: a :: r) := by
  show ed (W + a.1 + b.1) (mx (W + a.1 + b.1) (mx (W + a.1) E + a.2) + b.2) r ≤ ed (W + b.1 + a.1) (mx (W + b.1 + a.1) (mx (W + b.1) E + b.2) + a.2) r
  have e : W + b.1 + a.1 = W + a.1 + b.1 := by omega
  rw [e]
  refine ed_mono (r := r) ?_
  unfold jn at h
  unfold mx
  split <;> split <;> split <;> split <;> omega
/-- one that may stand ahead of all goes to the front -/
theorem ed_front {a : Int × Int} : ∀ {l : List (Int × Int)} {r : List (Int × Int)} {W E : Int}, (∀ x ∈ l, jn a x) → ed W E (a :: (l ++ r)) ≤ ed W E (l ++ a :: r)
  | [], _, _, _, _ => Int.le_refl _
  | x :: l, r, W, E, h => by
    have h1 := ed_swap (a := a) (b := x) (r := l ++ r) (W := W) (E := E) (h x List.mem_cons_self)
    have h2 := ed_front (a := a) (l := l) (r := r) (W := W + x.1) (E := mx (W + x.1) E + x.2) fun y hy => h y (List.mem_cons_of_mem _ hy)
    exact Int.le_trans h1 h2
theorem johnson_least : ∀ {js ls : List (Int × Int)} {W E : Int}, js.Pairwise jn → ls.Perm js → ed W E js ≤ ed W E ls
  | [], ls, W, E, _, hp => by rw [List.Perm.eq_nil hp]; exact Int.le_refl _
  | a :: js, ls, W, E, hj, hp => by
    obtain ⟨hj1, hj2⟩ := List.pairwise_cons.mp hj
    have ha : a ∈ ls := hp.mem_iff.mpr List.mem_cons_self
    obtain ⟨l, r, rfl⟩ := List.append_of_mem ha
    have hp2 : (l ++ r).Perm js := List.Perm.cons_inv ((List.perm_middle.symm.trans hp))
    have h1 := johnson_least (W := W + a.1) (E := mx (W + a.1) E + a.2) hj2 hp2
    have h2 := ed_front (a := a) (l := l) (r := r) (W := W) (E := E) fun x hx => hj1 x (hp2.mem_iff.mp (List.mem_append_left _ hx))
    exact Int.le_trans h1 h2
/-! ### Johnson's order -/
abbrev kD (q : Int × Int) : D := .tuple [.int q.1, .int q.2]
def leP (a b : Int × Int) : Bool := !decide (b.1 < a.1 ∨ (b.1 = a.1 ∧ b.2 < a.2))
theorem leP_iff {a b : Int × Int} : leP a b = true ↔ a.1 < b.1 ∨ (a.1 = b.1 ∧ a.2 ≤ b.2) := by
  unfold leP
  rw [Bool.not_eq_true', decide_eq_false_iff_not]
  omega
theorem leP_trans (a b c : Int × Int) (h : leP a b = true) (h' : leP b c = true) : leP a c = true := by
  rw [leP_iff] at *
  omega
theorem leP_total (a b : Int × Int) : (leP a b || leP b a) = true := by
  rw [Bool.or_eq_true, leP_iff, leP_iff]
  omega
theorem shpNs_all {n : Nat} : ∀ {xs : List D}, (∀ d ∈ xs, shpN n d = true) → shpNs n xs = true
  | [], _ => shpNs_nil
  | x :: xs, h => by rw [shpNs_cons, h x List.mem_cons_self, shpNs_all fun d hd => h d (List.mem_cons_of_mem _ hd)]; rfl
theorem alike_kD {qs : List (Int × Int)} : alikeB (qs.map kD) = true ∧ shps (qs.map kD) = true := by
  constructor
  · unfold alikeB
    rw [Bool.and_eq_true_iff]
    refine ⟨List.all_eq_true.mpr fun x hx => List.all_eq_true.mpr fun y hy => ?_, List.all_eq_true.mpr fun x hx => ?_⟩
    · obtain ⟨_, _, rfl⟩ := List.mem_map.mp hx
      obtain ⟨_, _, rfl⟩ := List.mem_map.mp hy
      simp [PySem.W.alike, PySem.W.alikeAll]
    · obtain ⟨_, _, rfl⟩ := List.mem_map.mp hx
      rfl
  · refine shpNs_all fun d hd => ?_
    obtain ⟨_, _, rfl⟩ := List.mem_map.mp hd
    simp only [maxDepth, shpN_tuple, shpNs_cons, shpN_int, shpNs_nil, Bool.and_self]
theorem sorted_kD {qs : List (Int × Int)} (hl : qs.length ≤ 1000) : bltD .sorted [.list (qs.map kD)] = some (.tl ((qs.mergeSort leP).map kD)) := by
  obtain ⟨a, b⟩ := alike_kD (qs := qs)
  have c : sortB (qs.map kD) = true := by
    unfold sortB
    rw [Bool.or_eq_true]
    left
    exact List.all_eq_true.mpr fun x hx => by
      obtain ⟨_, _, rfl⟩ := List.mem_map.mp hx
      rfl
  have l : (qs.map kD).length ≤ sizeMax := by rw [List.length_map]; simp [sizeMax]; omega
  have m : (qs.mergeSort leP).map kD = (qs.map kD).mergeSort leB := List.map_mergeSort fun a _ b _ => by
    unfold leB leP
    rw [PySem.W.dataLt_ii]
  rw [m]
  simp only [bltD, a, b, c, decide_eq_true l, Bool.and_self, if_true]
/-- the numbered loads, from i on -/
def nums (i : Int) : List (Int × Int) → List (Int × (Int × Int))
  | [] => []
  | p :: r => (i, p) :: nums (i + 1) r
def nD (x : Int × (Int × Int)) : D := .tuple [.int x.1, pr x.2]
theorem nums_enum : ∀ {ps : List (Int × Int)} {i : Int}, enumI i (hL ps) = (nums i ps).map nD
  | [], _ => rfl
  | p :: r, i => by
    show PyData.tuple [.int i, pr p] :: enumI (i + 1) (hL r) = _
    rw [nums_enum]
    rfl
theorem nums_len : ∀ {ps : List (Int × Int)} {i : Int}, (nums i ps).length = ps.length
  | [], _ => rfl
  | p :: r, i => by rw [nums, List.length_cons, nums_len, List.length_cons]
theorem nums_mem {x : Int × (Int × Int)} : ∀ {ps : List (Int × Int)} {i : Int}, x ∈ nums i ps ↔ i ≤ x.1 ∧ ps[(x.1 - i).toNat]? = some x.2
  | [], i => by simp [nums]
  | p :: r, i => by
    rw [nums, List.mem_cons, nums_mem]
    obtain ⟨j, q⟩ := x
    simp only [Prod.mk.injEq]
    constructor
    · rintro (⟨rfl, rfl⟩ | ⟨h1, h2⟩)
      · exact ⟨Int.le_refl _, by simp⟩
      · refine ⟨by omega, ?_⟩
        have e : (j - i).toNat = (j - (i + 1)).toNat + 1 := by omega
        rw [e, List.getElem?_cons_succ]
        exact h2
    · rintro ⟨h1, h2⟩
      by_cases z : j = i
      · subst z
        simp at h2
        exact .inl ⟨rfl, h2.symm⟩
      · have e : (j - i).toNat = (j - (i + 1)).toNat + 1 := by omega
        rw [e, List.getElem?_cons_succ] at h2
        exact .inr ⟨by omega, h2⟩
theorem nums_fst : ∀ {ps : List (Int × Int)} {i : Int}, ((nums i ps).map (·.1)).Pairwise (· < ·) ∧ ∀ x ∈ nums i ps, i ≤ x.1
  | [], _ => ⟨List.Pairwise.nil, by simp [nums]⟩
  | p :: r, i => by
    obtain ⟨h1, h2⟩ := nums_fst (ps := r) (i := i + 1)
    refine ⟨?_, fun x hx => ?_⟩
    · rw [nums, List.map_cons, List.pairwise_cons]
      refine ⟨fun y hy => ?_, h1⟩
      obtain ⟨x, hx, rfl⟩ := List.mem_map.mp hy
      have := h2 x hx
      show i < x.1
      omega
    · rw [nums] at hx
      rcases List.mem_cons.mp hx with rfl | hx
      · exact Int.le_refl _
      · have := h2 x hx
        omega
/-- the two groups, sorted -/
def jF (ps : List (Int × Int)) : List (Int × Int) := (((nums 0 ps).filter fun x => decide (x.2.1 < x.2.2)).map fun x => (x.2.1, x.1)).mergeSort leP
def jS (ps : List (Int × Int)) : List (Int × Int) := (((nums 0 ps).filter fun x => decide (x.2.2 ≤ x.2.1)).map fun x => (0 - x.2.2, x.1)).mergeSort leP
/-- Johnson's order -/
def jo (ps : List (Int × Int)) : List Int := (jF ps ++ jS ps).map (·.2)
theorem jF_mem {ps : List (Int × Int)} {q : Int × Int} : q ∈ jF ps ↔ 0 ≤ q.2 ∧ ∃ p, ps[q.2.toNat]? = some p ∧ p.1 < p.2 ∧ q.1 = p.1 := by
  unfold jF
  rw [List.mem_mergeSort, List.mem_map]
  constructor
  · rintro ⟨x, hx, rfl⟩
    obtain ⟨h1, h2⟩ := List.mem_filter.mp hx
    obtain ⟨h3, h4⟩ := nums_mem.mp h1
    have z : (x.1 - 0).toNat = x.1.toNat := by omega
    rw [z] at h4
    exact ⟨h3, x.2, h4, of_decide_eq_true h2, rfl⟩
  · rintro ⟨h0, p, h1, h2, h3⟩
    refine ⟨(q.2, p), List.mem_filter.mpr ⟨nums_mem.mpr ⟨h0, ?_⟩, decide_eq_true h2⟩, ?_⟩
    · have z : (q.2 - 0).toNat = q.2.toNat := by omega
      simp only [z]
      exact h1
    · rw [← h3]
theorem jS_mem {ps : List (Int × Int)} {q : Int × Int} : q ∈ jS ps ↔ 0 ≤ q.2 ∧ ∃ p, ps[q.2.toNat]? = some p ∧ p.2 ≤ p.1 ∧ q.1 = 0 - p.2 := by
  unfold jS
  rw [List.mem_mergeSort, List.mem_map]
  constructor
  · rintro ⟨x, hx, rfl⟩
    obtain ⟨h1, h2⟩ := List.mem_filter.mp hx
    obtain ⟨h3, h4⟩ := nums_mem.mp h1
    have z : (x.1 - 0).toNat = x.1.toNat := by omega
    rw [z] at h4
    exact ⟨h3, x.2, h4, of_decide_eq_true h2, rfl⟩
  · rintro ⟨h0, p, h1, h2, h3⟩
    refine ⟨(q.2, p), List.mem_filter.mpr ⟨nums_mem.mpr ⟨h0, ?_⟩, decide_eq_true h2⟩, ?_⟩
    · have z : (q.2 - 0).toNat = q.2.toNat := by omega
      simp only [z]
      exact h1
    · rw [← h3]
theorem ld_at {ps : List (Int × Int)} {i : Int} {p : Int × Int} (h : ps[i.toNat]? = some p) : ld ps i = p := by
  unfold ld
  rw [List.getD_eq_getElem?_getD, h]
  rfl
theorem jo_jn {ps : List (Int × Int)} : ((jo ps).map (ld ps)).Pairwise jn := by
  unfold jo
  rw [List.map_map, List.map_append, List.pairwise_append]
  refine ⟨?_, ?_, ?_⟩
  · rw [List.pairwise_map]
    refine (List.pairwise_mergeSort leP_trans leP_total _).imp_of_mem fun {a b} ha hb h => ?_
    obtain ⟨_, p, h1, h2, h3⟩ := jF_mem.mp ha
    obtain ⟨_, q, h4, h5, h6⟩ := jF_mem.mp hb
    show jn (ld ps a.2) (ld ps b.2)
    rw [ld_at h1, ld_at h4]
    rw [leP_iff] at h
    unfold jn
    omega
  · rw [List.pairwise_map]
    refine (List.pairwise_mergeSort leP_trans leP_total _).imp_of_mem fun {a b} ha hb h => ?_
    obtain ⟨_, p, h1, h2, h3⟩ := jS_mem.mp ha
    obtain ⟨_, q, h4, h5, h6⟩ := jS_mem.mp hb
    show jn (ld ps a.2) (ld ps b.2)
    rw [ld_at h1, ld_at h4]
    rw [leP_iff] at h
    unfold jn
    omega
  · intro a ha b hb
    obtain ⟨x, hx, rfl⟩ := List.mem_map.mp ha
    obtain ⟨y, hy, rfl⟩ := List.mem_map.mp hb
    obtain ⟨_, p, h1, h2, h3⟩ := jF_mem.mp hx
    obtain ⟨_, q, h4, h5, h6⟩ := jS_mem.mp hy
    show jn (ld ps x.2) (ld ps y.2)
    rw [ld_at h1, ld_at h4]
    unfold jn
    omega
theorem jo_row {ps : List (Int × Int)} : Row ps.length (jo ps) := by
  have nd : (jo ps).Nodup := by
    unfold jo
    rw [List.map_append]
    have fst_nd : ∀ (p : Int × (Int × Int) → Bool) (f : Int × (Int × Int) → Int), ((((nums 0 ps).filter p).map fun x => (f x, x.1)).mergeSort leP |>.map (·.2)).Nodup := fun p f => by
      have pm := (List.mergeSort_perm (((nums 0 ps).filter p).map fun x => (f x, x.1)) leP).map (·.2)
      refine pm.nodup_iff.mpr ?_
      rw [List.map_map]
      have : (((nums 0 ps).filter p).map ((·.2) ∘ fun x : Int × (Int × Int) => (f x, x.1))).Sublist ((nums 0 ps).map (·.1)) := (List.filter_sublist (p := p)).map _
      exact ((nums_fst (ps := ps) (i := 0)).1.imp fun h => by omega).sublist this
    refine List.nodup_append.mpr ⟨fst_nd _ _, fst_nd _ _, fun a ha b hb e => ?_⟩
    subst e
    obtain ⟨x, hx, h⟩ := List.mem_map.mp ha
    obtain ⟨y, hy, h'⟩ := List.mem_map.mp hb
    obtain ⟨_, p, h1, h2, h3⟩ := jF_mem.mp hx
    obtain ⟨_, q, h4, h5, h6⟩ := jS_mem.mp hy
    rw [h] at h1
    rw [h', h1] at h4
    cases h4
    omega
  have mem : ∀ i, i ∈ jo ps ↔ i ∈ rng ps.length := fun i => by
    rw [rng_mem]
    unfold jo
    rw [List.mem_map]
    constructor
    · rintro ⟨q, hq, rfl⟩
      rcases List.mem_append.mp hq with h | h
      · obtain ⟨h0, p, h1, _⟩ := jF_mem.mp h
        have := (List.getElem?_eq_some_iff.mp h1).1
        exact ⟨h0, by omega⟩
      · obtain ⟨h0, p, h1, _⟩ := jS_mem.mp h
        have := (List.getElem?_eq_some_iff.mp h1).1
        exact ⟨h0, by omega⟩
    · rintro ⟨h0, h1⟩
      have hi : i.toNat < ps.length := by omega
      by_cases z : ps[i.toNat].1 < ps[i.toNat].2
      · exact ⟨(ps[i.toNat].1, i), List.mem_append_left _ (jF_mem.mpr ⟨h0, _, List.getElem?_eq_getElem hi, z, rfl⟩), rfl⟩
      · exact ⟨(0 - ps[i.toNat].2, i), List.mem_append_right _ (jS_mem.mpr ⟨h0, _, List.getElem?_eq_getElem hi, by omega, rfl⟩), rfl⟩
  refine ⟨?_, nd, fun i hi => rng_mem.mp ((mem i).mp hi)⟩
  rw [(perm_of nd rng_nodup mem).length_eq, rng_len]
/-- no order ends ahead of it -/
theorem jo_least {ps : List (Int × Int)} {r : List Int} (h : Row ps.length r) : edn ps 0 0 (jo ps) ≤ edn ps 0 0 r := by
  rw [edn_ed, edn_ed]
  exact johnson_least jo_jn (((row_perm h).trans (row_perm jo_row).symm).map _)
end Lw
end
section
set_option maxHeartbeats 1000000
namespace Lw
open PySem Ev
/-! ### Johnson's order, by the program -/
def pF : D → Bool
  | .tuple [_, .tuple [.int w, .int d]] => decide (w < d)
  | _ => false
def fF : D → D
  | .tuple [.int i, .tuple [.int w, .int d]] => .tuple [.int w, .int i]
  | d => d
def pS : D → Bool
  | .tuple [_, .tuple [.int w, .int d]] => decide (d ≤ w)
  | _ => false
def fS : D → D
  | .tuple [.int i, .tuple [.int w, .int d]] => .tuple [.int (0 - d), .int i]
  | d => d
theorem jF_enum {ps : List (Int × Int)} : ((enumI 0 (hL ps)).filter pF).map fF = (((nums 0 ps).filter fun x => decide (x.2.1 < x.2.2)).map fun x => (x.2.1, x.1)).map kD := by
  rw [nums_enum, List.filter_map, List.map_map, List.map_map]
  rfl
theorem jS_enum {ps : List (Int × Int)} : ((enumI 0 (hL ps)).filter pS).map fS = (((nums 0 ps).filter fun x => decide (x.2.2 ≤ x.2.1)).map fun x => (0 - x.2.2, x.1)).map kD := by
  rw [nums_enum, List.filter_map, List.map_map, List.map_map]
  rfl
theorem enum_len {i : Int} {ds : List D} : (enumI i ds).length = ds.length := by
  induction ds generalizing i with
  | nil => rfl
  | cons d ds ih => simp [enumI, ih]
theorem enum_mem {ps : List (Int × Int)} {d : D} (h : d ∈ enumI 0 (hL ps)) : ∃ i p, d = .tuple [.int i, pr p] := by
  rw [nums_enum] at h
  obtain ⟨x, _, rfl⟩ := List.mem_map.mp h
  exact ⟨x.1, x.2, rfl⟩
theorem t_raw_johnson (k : Nat) {ps : List (Int × Int)} (h6 : ps.length ≤ 6) : P.run (k + 3) d_raw_johnson [im (.tuple (hL ps))] = .ok (.im (.tuple (iL (jo ps)))) [none] := by
  rw [r_raw_johnson]
  have nl : ∀ p : Int × (Int × Int) → Bool, ((nums 0 ps).filter p).length ≤ 6 := fun p => by
    have := List.length_filter_le p (nums 0 ps)
    rw [nums_len] at this
    omega
  have e0 : c_raw_johnson_0 k [im (.tuple (hL ps)), none, none, none, none, none, none] = .ok (.tl (((enumI 0 (hL ps)).filter pF).map fF)) [im (.tuple (hL ps)), none, none, none, none, none, none] := by
    refine compE_filter pF fF rfl rfl (by rw [enum_len, hL_len]; simp [sizeMax]; omega) fun d hd => ?_
    obtain ⟨i, p, rfl⟩ := enum_mem hd
    refine ⟨[im (.tuple (hL ps)), none, none, im (.int i), none, im (.int p.1), im (.int p.2)], rfl, ?_, rfl, rfl⟩
    simp only [cc_raw_johnson_0, condE, im, pF, seqS, SR.bind, Res.st, Res.bind, retS, exprS, ifS, asgS, nameG, stS_n, stS_1, stS_2, stS_3, stS_4, stS_5, stS_6, stS_7, stS_8, stS_9, stS_10, stS_11, stS_12, stS_13, stS_14, stS_15, asgT, unpT, tupT, parS, argsP, parG, immE, varE, lift, un1, op2, andE, orE, notE, ifE, chainE, tru, argsD, tupE, lstE, argsO, toPar, backs, callE, vw, vws, fzO, gt, pt, bltE, isiE, isisE, tyD, imB, imI, cmpF, cmpD, binD_add, binD_sub, augD, sliE, optE, sliD, itE, argsI, hid_im, hid_tl, hid_n, mutE, mtF, appF, isOl, setiS, setF, endF, outO, finsOf_f, finsOf_t, finsOf_n, fxOf, raiseS, seqF, seqD, nameT, unhS, List.replicate, List.cons_append, List.nil_append, List.contains, List.elem, Option.map, Option.bind, ltD_int, leD_int, eqD_int, eqD_str, Bool.not_true, Bool.not_false, Bool.false_eq_true, if_true, if_false]
  rw [jF_enum] at e0
  have so0 := sorted_kD (qs := ((nums 0 ps).filter fun x => decide (x.2.1 < x.2.2)).map fun x => (x.2.1, x.1)) (by rw [List.length_map]; have := nl fun x => decide (x.2.1 < x.2.2); omega)
  have jf : (((nums 0 ps).filter fun x => decide (x.2.1 < x.2.2)).map fun x => (x.2.1, x.1)).mergeSort leP = jF ps := rfl
  rw [jf] at so0
  generalize ((((nums 0 ps).filter fun x => decide (x.2.1 < x.2.2)).map fun x => (x.2.1, x.1)).map kD) = xs at e0 so0
  have s0 : b_raw_johnson_0 k [im (.tuple (hL ps)), none, none, none, none, none, none] = .nx [im (.tuple (hL ps)), some (.ol ((jF ps).map kD)), none, none, none, none, none] := by
    simp only [im] at e0
    simp only [b_raw_johnson_0, im, e0, so0, seqS, SR.bind, Res.st, Res.bind, retS, exprS, ifS, asgS, nameG, stS_n, stS_1, stS_2, stS_3, stS_4, stS_5, stS_6, stS_7, stS_8, stS_9, stS_10, stS_11, stS_12, stS_13, stS_14, stS_15, asgT, unpT, tupT, parS, argsP, parG, immE, varE, lift, un1, op2, andE, orE, notE, ifE, chainE, tru, argsD, tupE, lstE, argsO, toPar, backs, callE, vw, vws, fzO, gt, pt, bltE, isiE, isisE, tyD, imB, imI, cmpF, cmpD, binD_add, binD_sub, augD, sliE, optE, sliD, itE, argsI, hid_im, hid_tl, hid_n, mutE, mtF, appF, isOl, setiS, setF, endF, outO, finsOf_f, finsOf_t, finsOf_n, fxOf, raiseS, seqF, seqD, nameT, unhS, List.replicate, List.cons_append, List.nil_append, List.contains, List.elem, Option.map, Option.bind, ltD_int, leD_int, eqD_int, eqD_str, Bool.not_true, Bool.not_false, Bool.false_eq_true, if_true, if_false]
  have e1 : c_raw_johnson_1 k [im (.tuple (hL ps)), some (.ol ((jF ps).map kD)), none, none, none, none, none] = .ok (.tl (((enumI 0 (hL ps)).filter pS).map fS)) [im (.tuple (hL ps)), some (.ol ((jF ps).map kD)), none, none, none, none, none] := by
    refine compE_filter pS fS rfl rfl (by rw [enum_len, hL_len]; simp [sizeMax]; omega) fun d hd => ?_
    obtain ⟨i, p, rfl⟩ := enum_mem hd
    refine ⟨[im (.tuple (hL ps)), some (.ol ((jF ps).map kD)), none, im (.int i), none, im (.int p.1), im (.int p.2)], rfl, ?_, rfl, rfl⟩
    simp only [cc_raw_johnson_1, condE, im, pS, ge_iff_le, seqS, SR.bind, Res.st, Res.bind, retS, exprS, ifS, asgS, nameG, stS_n, stS_1, stS_2, stS_3, stS_4, stS_5, stS_6, stS_7, stS_8, stS_9, stS_10, stS_11, stS_12, stS_13, stS_14, stS_15, asgT, unpT, tupT, parS, argsP, parG, immE, varE, lift, un1, op2, andE, orE, notE, ifE, chainE, tru, argsD, tupE, lstE, argsO, toPar, backs, callE, vw, vws, fzO, gt, pt, bltE, isiE, isisE, tyD, imB, imI, cmpF, cmpD, binD_add, binD_sub, augD, sliE, optE, sliD, itE, argsI, hid_im, hid_tl, hid_n, mutE, mtF, appF, isOl, setiS, setF, endF, outO, finsOf_f, finsOf_t, finsOf_n, fxOf, raiseS, seqF, seqD, nameT, unhS, List.replicate, List.cons_append, List.nil_append, List.contains, List.elem, Option.map, Option.bind, ltD_int, leD_int, eqD_int, eqD_str, Bool.not_true, Bool.not_false, Bool.false_eq_true, if_true, if_false]
  rw [jS_enum] at e1
  have so1 := sorted_kD (qs := ((nums 0 ps).filter fun x => decide (x.2.2 ≤ x.2.1)).map fun x => (0 - x.2.2, x.1)) (by rw [List.length_map]; have := nl fun x => decide (x.2.2 ≤ x.2.1); omega)
  have js : (((nums 0 ps).filter fun x => decide (x.2.2 ≤ x.2.1)).map fun x => (0 - x.2.2, x.1)).mergeSort leP = jS ps := rfl
  rw [js] at so1
  generalize ((((nums 0 ps).filter fun x => decide (x.2.2 ≤ x.2.1)).map fun x => (0 - x.2.2, x.1)).map kD) = ys at e1 so1
  have s1 : b_raw_johnson_1 k [im (.tuple (hL ps)), some (.ol ((jF ps).map kD)), none, none, none, none, none] = .nx [im (.tuple (hL ps)), some (.ol ((jF ps).map kD)), some (.ol ((jS ps).map kD)), none, none, none, none] := by
    simp only [im] at e1
    simp only [b_raw_johnson_1, im, e1, so1, seqS, SR.bind, Res.st, Res.bind, retS, exprS, ifS, asgS, nameG, stS_n, stS_1, stS_2, stS_3, stS_4, stS_5, stS_6, stS_7, stS_8, stS_9, stS_10, stS_11, stS_12, stS_13, stS_14, stS_15, asgT, unpT, tupT, parS, argsP, parG, immE, varE, lift, un1, op2, andE, orE, notE, ifE, chainE, tru, argsD, tupE, lstE, argsO, toPar, backs, callE, vw, vws, fzO, gt, pt, bltE, isiE, isisE, tyD, imB, imI, cmpF, cmpD, binD_add, binD_sub, augD, sliE, optE, sliD, itE, argsI, hid_im, hid_tl, hid_n, mutE, mtF, appF, isOl, setiS, setF, endF, outO, finsOf_f, finsOf_t, finsOf_n, fxOf, raiseS, seqF, seqD, nameT, unhS, List.replicate, List.cons_append, List.nil_append, List.contains, List.elem, Option.map, Option.bind, ltD_int, leD_int, eqD_int, eqD_str, Bool.not_true, Bool.not_false, Bool.false_eq_true, if_true, if_false]
  have lf : (jF ps).length ≤ 6 := by unfold jF; rw [List.length_mergeSort, List.length_map]; exact nl _
  have ls : (jS ps).length ≤ 6 := by unfold jS; rw [List.length_mergeSort, List.length_map]; exact nl _
  have ad : binD .Add (.list ((jF ps).map kD)) (.list ((jS ps).map kD)) = some (.tl ((jF ps ++ jS ps).map kD)) := by
    rw [binD_addL (by rw [List.length_map, List.length_map]; simp [sizeMax]; omega), List.map_append]
  let fK : D → D := fun d => match d with
    | .tuple [_, x] => x
    | d => d
  have hit : itE [] seqF [(op2 (binD .Add) (varE 1) (varE 2))] [im (.tuple (hL ps)), some (.ol ((jF ps).map kD)), some (.ol ((jS ps).map kD)), none, none, none, none] = .ok ⟨(jF ps ++ jS ps).map kD, []⟩ [im (.tuple (hL ps)), some (.ol ((jF ps).map kD)), some (.ol ((jS ps).map kD)), none, none, none, none] := by
    simp only [im, ad, List.append_nil, seqS, SR.bind, Res.st, Res.bind, retS, exprS, ifS, asgS, nameG, stS_n, stS_1, stS_2, stS_3, stS_4, stS_5, stS_6, stS_7, stS_8, stS_9, stS_10, stS_11, stS_12, stS_13, stS_14, stS_15, asgT, unpT, tupT, parS, argsP, parG, immE, varE, lift, un1, op2, andE, orE, notE, ifE, chainE, tru, argsD, tupE, lstE, argsO, toPar, backs, callE, vw, vws, fzO, gt, pt, bltE, isiE, isisE, tyD, imB, imI, cmpF, cmpD, binD_add, binD_sub, augD, sliE, optE, sliD, itE, argsI, hid_im, hid_tl, hid_n, mutE, mtF, appF, isOl, setiS, setF, endF, outO, finsOf_f, finsOf_t, finsOf_n, fxOf, raiseS, seqF, seqD, nameT, unhS, List.replicate, List.cons_append, List.nil_append, List.contains, List.elem, Option.map, Option.bind, ltD_int, leD_int, eqD_int, eqD_str, Bool.not_true, Bool.not_false, Bool.false_eq_true, if_true, if_false]
  have e2 : c_raw_johnson_2 k [im (.tuple (hL ps)), some (.ol ((jF ps).map kD)), some (.ol ((jS ps).map kD)), none, none, none, none] = .ok (.tl (((jF ps ++ jS ps).map kD).map fK)) [im (.tuple (hL ps)), some (.ol ((jF ps).map kD)), some (.ol ((jS ps).map kD)), none, none, none, none] := by
    refine compE_map fK hit rfl (by rw [List.length_map, List.length_append]; simp [sizeMax]; omega) fun d hd => ?_
    obtain ⟨q, hq, rfl⟩ := List.mem_map.mp hd
    exact ⟨[im (.tuple (hL ps)), some (.ol ((jF ps).map kD)), some (.ol ((jS ps).map kD)), im (.int q.2), im (.int q.1), none, none], rfl, rfl, rfl, rfl⟩
  have ej : ((jF ps ++ jS ps).map kD).map fK = iL (jo ps) := by
    rw [List.map_map, jo, iL, List.map_map]
    rfl
  rw [ej] at e2
  have s2 : b_raw_johnson_2 k [im (.tuple (hL ps)), some (.ol ((jF ps).map kD)), some (.ol ((jS ps).map kD)), none, none, none, none] = .rt (.im (.tuple (iL (jo ps)))) [im (.tuple (hL ps)), some (.ol ((jF ps).map kD)), some (.ol ((jS ps).map kD)), none, none, none, none] := by
    have bt : bltD .tuple [.list (iL (jo ps))] = some (.im (.tuple (iL (jo ps)))) := rfl
    simp only [im] at e2
    simp only [b_raw_johnson_2, im, e2, bt, seqS, SR.bind, Res.st, Res.bind, retS, exprS, ifS, asgS, nameG, stS_n, stS_1, stS_2, stS_3, stS_4, stS_5, stS_6, stS_7, stS_8, stS_9, stS_10, stS_11, stS_12, stS_13, stS_14, stS_15, asgT, unpT, tupT, parS, argsP, parG, immE, varE, lift, un1, op2, andE, orE, notE, ifE, chainE, tru, argsD, tupE, lstE, argsO, toPar, backs, callE, vw, vws, fzO, gt, pt, bltE, isiE, isisE, tyD, imB, imI, cmpF, cmpD, binD_add, binD_sub, augD, sliE, optE, sliD, itE, argsI, hid_im, hid_tl, hid_n, mutE, mtF, appF, isOl, setiS, setF, endF, outO, finsOf_f, finsOf_t, finsOf_n, fxOf, raiseS, seqF, seqD, nameT, unhS, List.replicate, List.cons_append, List.nil_append, List.contains, List.elem, Option.map, Option.bind, ltD_int, leD_int, eqD_int, eqD_str, Bool.not_true, Bool.not_false, Bool.false_eq_true, if_true, if_false]
  show endF [false] (seqS _ [im (.tuple (hL ps)), none, none, none, none, none, none]) = _
  rw [seqS_nx s0, seqS_nx s1, seqS_one, s2]
  rfl
theorem t_ljohnson (k : Nat) {ps : List (Int × Int)} (h6 : ps.length ≤ 6) : P.run (k + 3) d__law_johnson [im (.tuple (hL ps))] = .ok (.im (.tuple (iL (jo ps)))) [none] := by
  rw [r__law_johnson]
  have nl : ∀ p : Int × (Int × Int) → Bool, ((nums 0 ps).filter p).length ≤ 6 := fun p => by
    have := List.length_filter_le p (nums 0 ps)
    rw [nums_len] at this
    omega
  have e0 : c__law_johnson_0 k [im (.tuple (hL ps)), none, none, none, none, none, none] = .ok (.tl (((enumI 0 (hL ps)).filter pF).map fF)) [im (.tuple (hL ps)), none, none, none, none, none, none] := by
    refine compE_filter pF fF rfl rfl (by rw [enum_len, hL_len]; simp [sizeMax]; omega) fun d hd => ?_
    obtain ⟨i, p, rfl⟩ := enum_mem hd
    refine ⟨[im (.tuple (hL ps)), none, none, im (.int i), none, im (.int p.1), im (.int p.2)], rfl, ?_, rfl, rfl⟩
    simp only [cc__law_johnson_0, condE, im, pF, seqS, SR.bind, Res.st, Res.bind, retS, exprS, ifS, asgS, nameG, stS_n, stS_1, stS_2, stS_3, stS_4, stS_5, stS_6, stS_7, stS_8, stS_9, stS_10, stS_11, stS_12, stS_13, stS_14, stS_15, asgT, unpT, tupT, parS, argsP, parG, immE, varE, lift, un1, op2, andE, orE, notE, ifE, chainE, tru, argsD, tupE, lstE, argsO, toPar, backs, callE, vw, vws, fzO, gt, pt, bltE, isiE, isisE, tyD, imB, imI, cmpF, cmpD, binD_add, binD_sub, augD, sliE, optE, sliD, itE, argsI, hid_im, hid_tl, hid_n, mutE, mtF, appF, isOl, setiS, setF, endF, outO, finsOf_f, finsOf_t, finsOf_n, fxOf, raiseS, seqF, seqD, nameT, unhS, List.replicate, List.cons_append, List.nil_append, List.contains, List.elem, Option.map, Option.bind, ltD_int, leD_int, eqD_int, eqD_str, Bool.not_true, Bool.not_false, Bool.false_eq_true, if_true, if_false]
  rw [jF_enum] at e0
  have so0 := sorted_kD (qs := ((nums 0 ps).filter fun x => decide (x.2.1 < x.2.2)).map fun x => (x.2.1, x.1)) (by rw [List.length_map]; have := nl fun x => decide (x.2.1 < x.2.2); omega)
  have jf : (((nums 0 ps).filter fun x => decide (x.2.1 < x.2.2)).map fun x => (x.2.1, x.1)).mergeSort leP = jF ps := rfl
  rw [jf] at so0
  generalize ((((nums 0 ps).filter fun x => decide (x.2.1 < x.2.2)).map fun x => (x.2.1, x.1)).map kD) = xs at e0 so0
  have s0 : b__law_johnson_0 k [im (.tuple (hL ps)), none, none, none, none, none, none] = .nx [im (.tuple (hL ps)), some (.ol ((jF ps).map kD)), none, none, none, none, none] := by
    simp only [im] at e0
    simp only [b__law_johnson_0, im, e0, so0, seqS, SR.bind, Res.st, Res.bind, retS, exprS, ifS, asgS, nameG, stS_n, stS_1, stS_2, stS_3, stS_4, stS_5, stS_6, stS_7, stS_8, stS_9, stS_10, stS_11, stS_12, stS_13, stS_14, stS_15, asgT, unpT, tupT, parS, argsP, parG, immE, varE, lift, un1, op2, andE, orE, notE, ifE, chainE, tru, argsD, tupE, lstE, argsO, toPar, backs, callE, vw, vws, fzO, gt, pt, bltE, isiE, isisE, tyD, imB, imI, cmpF, cmpD, binD_add, binD_sub, augD, sliE, optE, sliD, itE, argsI, hid_im, hid_tl, hid_n, mutE, mtF, appF, isOl, setiS, setF, endF, outO, finsOf_f, finsOf_t, finsOf_n, fxOf, raiseS, seqF, seqD, nameT, unhS, List.replicate, List.cons_append, List.nil_append, List.contains, List.elem, Option.map, Option.bind, ltD_int, leD_int, eqD_int, eqD_str, Bool.not_true, Bool.not_false, Bool.false_eq_true, if_true, if_false]
  have e1 : c__law_johnson_1 k [im (.tuple (hL ps)), some (.ol ((jF ps).map kD)), none, none, none, none, none] = .ok (.tl (((enumI 0 (hL ps)).filter pS).map fS)) [im (.tuple (hL ps)), some (.ol ((jF ps).map kD)), none, none, none, none, none] := by
    refine compE_filter pS fS rfl rfl (by rw [enum_len, hL_len]; simp [sizeMax]; omega) fun d hd => ?_
    obtain ⟨i, p, rfl⟩ := enum_mem hd
    refine ⟨[im (.tuple (hL ps)), some (.ol ((jF ps).map kD)), none, im (.int i), none, im (.int p.1), im (.int p.2)], rfl, ?_, rfl, rfl⟩
    simp only [cc__law_johnson_1, condE, im, pS, ge_iff_le, seqS, SR.bind, Res.st, Res.bind, retS, exprS, ifS, asgS, nameG, stS_n, stS_1, stS_2, stS_3, stS_4, stS_5, stS_6, stS_7, stS_8, stS_9, stS_10, stS_11, stS_12, stS_13, stS_14, stS_15, asgT, unpT, tupT, parS, argsP, parG, immE, varE, lift, un1, op2, andE, orE, notE, ifE, chainE, tru, argsD, tupE, lstE, argsO, toPar, backs, callE, vw, vws, fzO, gt, pt, bltE, isiE, isisE, tyD, imB, imI, cmpF, cmpD, binD_add, binD_sub, augD, sliE, optE, sliD, itE, argsI, hid_im, hid_tl, hid_n, mutE, mtF, appF, isOl, setiS, setF, endF, outO, finsOf_f, finsOf_t, finsOf_n, fxOf, raiseS, seqF, seqD, nameT, unhS, List.replicate, List.cons_append, List.nil_append, List.contains, List.elem, Option.map, Option.bind, ltD_int, leD_int, eqD_int, eqD_str, Bool.not_true, Bool.not_false, Bool.false_eq_true, if_true, if_false]
  rw [jS_enum] at e1
  have so1 := sorted_kD (qs := ((nums 0 ps).filter fun x => decide (x.2.2 ≤ x.2.1)).map fun x => (0 - x.2.2, x.1)) (by rw [List.length_map]; have := nl fun x => decide (x.2.2 ≤ x.2.1); omega)
  have js : (((nums 0 ps).filter fun x => decide (x.2.2 ≤ x.2.1)).map fun x => (0 - x.2.2, x.1)).mergeSort leP = jS ps := rfl
  rw [js] at so1
  generalize ((((nums 0 ps).filter fun x => decide (x.2.2 ≤ x.2.1)).map fun x => (0 - x.2.2, x.1)).map kD) = ys at e1 so1
  have s1 : b__law_johnson_1 k [im (.tuple (hL ps)), some (.ol ((jF ps).map kD)), none, none, none, none, none] = .nx [im (.tuple (hL ps)), some (.ol ((jF ps).map kD)), some (.ol ((jS ps).map kD)), none, none, none, none] := by
    simp only [im] at e1
    simp only [b__law_johnson_1, im, e1, so1, seqS, SR.bind, Res.st, Res.bind, retS, exprS, ifS, asgS, nameG, stS_n, stS_1, stS_2, stS_3, stS_4, stS_5, stS_6, stS_7, stS_8, stS_9, stS_10, stS_11, stS_12, stS_13, stS_14, stS_15, asgT, unpT, tupT, parS, argsP, parG, immE, varE, lift, un1, op2, andE, orE, notE, ifE, chainE, tru, argsD, tupE, lstE, argsO, toPar, backs, callE, vw, vws, fzO, gt, pt, bltE, isiE, isisE, tyD, imB, imI, cmpF, cmpD, binD_add, binD_sub, augD, sliE, optE, sliD, itE, argsI, hid_im, hid_tl, hid_n, mutE, mtF, appF, isOl, setiS, setF, endF, outO, finsOf_f, finsOf_t, finsOf_n, fxOf, raiseS, seqF, seqD, nameT, unhS, List.replicate, List.cons_append, List.nil_append, List.contains, List.elem, Option.map, Option.bind, ltD_int, leD_int, eqD_int, eqD_str, Bool.not_true, Bool.not_false, Bool.false_eq_true, if_true, if_false]
  have lf : (jF ps).length ≤ 6 := by unfold jF; rw [List.length_mergeSort, List.length_map]; exact nl _
  have ls : (jS ps).length ≤ 6 := by unfold jS; rw [List.length_mergeSort, List.length_map]; exact nl _
  have ad : binD .Add (.list ((jF ps).map kD)) (.list ((jS ps).map kD)) = some (.tl ((jF ps ++ jS ps).map kD)) := by
    rw [binD_addL (by rw [List.length_map, List.length_map]; simp [sizeMax]; omega), List.map_append]
  let fK : D → D := fun d => match d with
    | .tuple [_, x] => x
    | d => d
  have hit : itE [] seqF [(op2 (binD .Add) (varE 1) (varE 2))] [im (.tuple (hL ps)), some (.ol ((jF ps).map kD)), some (.ol ((jS ps).map kD)), none, none, none, none] = .ok ⟨(jF ps ++ jS ps).map kD, []⟩ [im (.tuple (hL ps)), some (.ol ((jF ps).map kD)), some (.ol ((jS ps).map kD)), none, none, none, none] := by
    simp only [im, ad, List.append_nil, seqS, SR.bind, Res.st, Res.bind, retS, exprS, ifS, asgS, nameG, stS_n, stS_1, stS_2, stS_3, stS_4, stS_5, stS_6, stS_7, stS_8, stS_9, stS_10, stS_11, stS_12, stS_13, stS_14, stS_15, asgT, unpT, tupT, parS, argsP, parG, immE, varE, lift, un1, op2, andE, orE, notE, ifE, chainE, tru, argsD, tupE, lstE, argsO, toPar, backs, callE, vw, vws, fzO, gt, pt, bltE, isiE, isisE, tyD, imB, imI, cmpF, cmpD, binD_add, binD_sub, augD, sliE, optE, sliD, itE, argsI, hid_im, hid_tl, hid_n, mutE, mtF, appF, isOl, setiS, setF, endF, outO, finsOf_f, finsOf_t, finsOf_n, fxOf, raiseS, seqF, seqD, nameT, unhS, List.replicate, List.cons_append, List.nil_append, List.contains, List.elem, Option.map, Option.bind, ltD_int, leD_int, eqD_int, eqD_str, Bool.not_true, Bool.not_false, Bool.false_eq_true, if_true, if_false]
  have e2 : c__law_johnson_2 k [im (.tuple (hL ps)), some (.ol ((jF ps).map kD)), some (.ol ((jS ps).map kD)), none, none, none, none] = .ok (.tl (((jF ps ++ jS ps).map kD).map fK)) [im (.tuple (hL ps)), some (.ol ((jF ps).map kD)), some (.ol ((jS ps).map kD)), none, none, none, none] := by
    refine compE_map fK hit rfl (by rw [List.length_map, List.length_append]; simp [sizeMax]; omega) fun d hd => ?_
    obtain ⟨q, hq, rfl⟩ := List.mem_map.mp hd
    exact ⟨[im (.tuple (hL ps)), some (.ol ((jF ps).map kD)), some (.ol ((jS ps).map kD)), im (.int q.2), im (.int q.1), none, none], rfl, rfl, rfl, rfl⟩
  have ej : ((jF ps ++ jS ps).map kD).map fK = iL (jo ps) := by
    rw [List.map_map, jo, iL, List.map_map]
    rfl
  rw [ej] at e2
  have s2 : b__law_johnson_2 k [im (.tuple (hL ps)), some (.ol ((jF ps).map kD)), some (.ol ((jS ps).map kD)), none, none, none, none] = .rt (.im (.tuple (iL (jo ps)))) [im (.tuple (hL ps)), some (.ol ((jF ps).map kD)), some (.ol ((jS ps).map kD)), none, none, none, none] := by
    have bt : bltD .tuple [.list (iL (jo ps))] = some (.im (.tuple (iL (jo ps)))) := rfl
    simp only [im] at e2
    simp only [b__law_johnson_2, im, e2, bt, seqS, SR.bind, Res.st, Res.bind, retS, exprS, ifS, asgS, nameG, stS_n, stS_1, stS_2, stS_3, stS_4, stS_5, stS_6, stS_7, stS_8, stS_9, stS_10, stS_11, stS_12, stS_13, stS_14, stS_15, asgT, unpT, tupT, parS, argsP, parG, immE, varE, lift, un1, op2, andE, orE, notE, ifE, chainE, tru, argsD, tupE, lstE, argsO, toPar, backs, callE, vw, vws, fzO, gt, pt, bltE, isiE, isisE, tyD, imB, imI, cmpF, cmpD, binD_add, binD_sub, augD, sliE, optE, sliD, itE, argsI, hid_im, hid_tl, hid_n, mutE, mtF, appF, isOl, setiS, setF, endF, outO, finsOf_f, finsOf_t, finsOf_n, fxOf, raiseS, seqF, seqD, nameT, unhS, List.replicate, List.cons_append, List.nil_append, List.contains, List.elem, Option.map, Option.bind, ltD_int, leD_int, eqD_int, eqD_str, Bool.not_true, Bool.not_false, Bool.false_eq_true, if_true, if_false]
  show endF [false] (seqS _ [im (.tuple (hL ps)), none, none, none, none, none, none]) = _
  rw [seqS_nx s0, seqS_nx s1, seqS_one, s2]
  rfl
/-! ### all orders -/
/-- a row, one load longer -/
def ext (n : Nat) (row : List Int) : List (List Int) := ((rng n).filter fun i => !decide (i ∈ row)).map fun i => row ++ [i]
def lev (n : Nat) : Nat → List (List Int)
  | 0 => [[]]
  | m + 1 => (lev n m).flatMap (ext n)
def rL (rs : List (List Int)) : List D := rs.map fun r => .tuple (iL r)
theorem rL_len {rs : List (List Int)} : (rL rs).length = rs.length := List.length_map ..
theorem rL_app {a b : List (List Int)} : rL (a ++ b) = rL a ++ rL b := List.map_append ..
theorem any_iL {xs : List Int} {i : Int} : ((iL xs).any fun z => PyData.eqv z (.int i)) = decide (i ∈ xs) := by
  induction xs with
  | nil => rfl
  | cons x xs ih =>
    rw [iL_cons, List.any_cons, ih]
    have e : PyData.eqv (.int x) (.int i) = decide (x = i) := by
      simp [PyData.eqv]
      by_cases h : x = i <;> simp [h]
    rw [e]
    by_cases h : x = i
    · subst h
      simp
    · have h' : ¬ i = x := fun z => h z.symm
      simp [h, h']
theorem in_tup {xs : List Int} {i : Int} : inD (.int i) (.tuple (iL xs)) = some (decide (i ∈ xs)) := by
  have e : shp (.tuple (iL xs)) = true := by simp only [shp_N, shpN_tuple, shpNs_iL]
  simp only [inD, shp_int, e, Bool.and_self, if_true, any_iL]
theorem lev_mem {n : Nat} {r : List Int} : ∀ {m : Nat}, r ∈ lev n m ↔ r.length = m ∧ r.Nodup ∧ ∀ i ∈ r, 0 ≤ i ∧ i < n := by
  intro m
  induction m generalizing r with
  | zero =>
    rw [lev, List.mem_singleton]
    constructor
    · rintro rfl
      exact ⟨rfl, List.nodup_nil, by simp⟩
    · rintro ⟨h, _⟩
      exact List.eq_nil_of_length_eq_zero h
  | succ m ih =>
    rw [lev, List.mem_flatMap]
    constructor
    · rintro ⟨q, hq, hr⟩
      obtain ⟨h1, h2, h3⟩ := ih.mp hq
      obtain ⟨i, hi, rfl⟩ := List.mem_map.mp hr
      obtain ⟨h4, h5⟩ := List.mem_filter.mp hi
      refine ⟨by simp [h1], List.nodup_append.mpr ⟨h2, by simp, fun a ha b hb e => ?_⟩, fun j hj => ?_⟩
      · simp at hb h5
        subst hb e
        exact h5 ha
      · rcases List.mem_append.mp hj with hj | hj
        · exact h3 j hj
        · simp at hj
          subst hj
          exact rng_mem.mp h4
    · rintro ⟨h1, h2, h3⟩
      have hn : r ≠ [] := by intro e; subst e; simp at h1
      obtain ⟨q, i, rfl⟩ : ∃ q i, r = q ++ [i] := ⟨r.dropLast, r.getLast hn, (List.dropLast_concat_getLast hn).symm⟩
      obtain ⟨h4, _, h5⟩ := List.nodup_append.mp h2
      refine ⟨q, ih.mpr ⟨by simpa using h1, h4, fun j hj => h3 j (List.mem_append_left _ hj)⟩, ?_⟩
      refine List.mem_map.mpr ⟨i, List.mem_filter.mpr ⟨rng_mem.mpr (h3 i (by simp)), ?_⟩, rfl⟩
      simp only [Bool.not_eq_true', decide_eq_false_iff_not]
      intro hi
      exact h5 i hi i (by simp) rfl
theorem lev_row {n : Nat} {r : List Int} : r ∈ lev n n ↔ Row n r := lev_mem
theorem ext_len {n : Nat} {row : List Int} : (ext n row).length ≤ n := by
  unfold ext
  rw [List.length_map]
  have := List.length_filter_le (fun i => !decide (i ∈ row)) (rng n)
  rw [rng_len] at this
  exact this
theorem flat_len {n : Nat} : ∀ {rs : List (List Int)}, (rs.flatMap (ext n)).length ≤ rs.length * n
  | [] => by simp
  | r :: rs => by
    rw [List.flatMap_cons, List.length_append, List.length_cons, Nat.succ_mul]
    have := ext_len (n := n) (row := r)
    have := flat_len (n := n) (rs := rs)
    omega
theorem lev_len {n : Nat} : ∀ {m : Nat}, (lev n m).length ≤ n ^ m
  | 0 => by simp [lev]
  | m + 1 => by
    rw [lev, Nat.pow_succ]
    exact Nat.le_trans flat_len (Nat.mul_le_mul_right n lev_len)
theorem pow_small {n m : Nat} (hn : n ≤ 6) (hn1 : 1 ≤ n) (hm : m ≤ 6) : n ^ m ≤ 46656 := by
  calc n ^ m ≤ n ^ 6 := Nat.pow_le_pow_right hn1 hm
    _ ≤ 6 ^ 6 := Nat.pow_le_pow_left hn 6
    _ = 46656 := by decide
theorem row_app {row : List Int} {i : Int} (h : row.length ≤ 100) : binD .Add (.tuple (iL row)) (.tuple [.int i]) = some (.im (.tuple (iL (row ++ [i])))) := by
  rw [binD_addT (by rw [iL_len]; simp [sizeMax]; omega), iL_app]
  rfl
def nin (row : List Int) : D → Bool
  | .int i => !decide (i ∈ row)
  | _ => false
def rap (row : List Int) : D → D
  | .int i => .tuple (iL (row ++ [i]))
  | d => d
theorem ext_enc {n : Nat} {row : List Int} : ((iL (rng n)).filter (nin row)).map (rap row) = rL (ext n row) := by
  unfold iL
  rw [List.filter_map, List.map_map, rL, ext, List.map_map]
  rfl
section
variable {n : Nat} {N : Int} {x0 x1 x2 x4 : Option Sv}
theorem lr_turn (k : Nat) (hN : N = n) (hn : n ≤ 100) {acc : List (List Int)} {row : List Int} (hr : row.length ≤ 100) (hl : acc.length + n ≤ 1000000) : lb__law_rows_0 k [im (.int N), x1, x2, some (.ol (rL acc)), im (.tuple (iL row)), none] = .nx [im (.int N), x1, x2, some (.ol (rL (acc ++ ext n row))), im (.tuple (iL row)), none] := by
  have hrb : rngB N = true := by simp [rngB]; omega
  have hNn : N.toNat = n := by omega
  have hit : itE [] rangeF1 [(varE 0)] [im (.int N), x1, x2, some (.ol (rL acc)), im (.tuple (iL row)), none] = .ok ⟨iL (rng n), []⟩ [im (.int N), x1, x2, some (.ol (rL acc)), im (.tuple (iL row)), none] := by
    simp only [im, rangeF1, hrb, hNn, rng_eq, List.append_nil, seqS, SR.bind, Res.st, Res.bind, retS, exprS, ifS, asgS, nameG, stS_n, stS_1, stS_2, stS_3, stS_4, stS_5, stS_6, stS_7, stS_8, stS_9, stS_10, stS_11, stS_12, stS_13, stS_14, stS_15, asgT, unpT, tupT, parS, argsP, parG, immE, varE, lift, un1, op2, andE, orE, notE, ifE, chainE, tru, argsD, tupE, lstE, argsO, toPar, backs, callE, vw, vws, fzO, gt, pt, bltE, isiE, isisE, tyD, imB, imI, cmpF, cmpD, binD_add, binD_sub, augD, sliE, optE, sliD, itE, argsI, hid_im, hid_tl, hid_n, mutE, mtF, appF, isOl, setiS, setF, endF, outO, finsOf_f, finsOf_t, finsOf_n, fxOf, raiseS, seqF, seqD, nameT, unhS, List.replicate, List.cons_append, List.nil_append, List.contains, List.elem, Option.map, Option.bind, ltD_int, leD_int, eqD_int, eqD_str, Bool.not_true, Bool.not_false, Bool.false_eq_true, if_true, if_false]
  have e : c__law_rows_0 k [im (.int N), x1, x2, some (.ol (rL acc)), im (.tuple (iL row)), none] = .ok (.tl (((iL (rng n)).filter (nin row)).map (rap row))) [im (.int N), x1, x2, some (.ol (rL acc)), im (.tuple (iL row)), none] := by
    refine compE_filter (nin row) (rap row) hit rfl (by rw [iL_len, rng_len]; simp [sizeMax]; omega) fun d hd => ?_
    obtain ⟨i, hi, rfl⟩ := List.mem_map.mp hd
    refine ⟨[im (.int N), x1, x2, some (.ol (rL acc)), im (.tuple (iL row)), im (.int i)], rfl, ?_, ?_, rfl⟩
    · simp only [cc__law_rows_0, condE, im, in_tup, nin, seqS, SR.bind, Res.st, Res.bind, retS, exprS, ifS, asgS, nameG, stS_n, stS_1, stS_2, stS_3, stS_4, stS_5, stS_6, stS_7, stS_8, stS_9, stS_10, stS_11, stS_12, stS_13, stS_14, stS_15, asgT, unpT, tupT, parS, argsP, parG, immE, varE, lift, un1, op2, andE, orE, notE, ifE, chainE, tru, argsD, tupE, lstE, argsO, toPar, backs, callE, vw, vws, fzO, gt, pt, bltE, isiE, isisE, tyD, imB, imI, cmpF, cmpD, binD_add, binD_sub, augD, sliE, optE, sliD, itE, argsI, hid_im, hid_tl, hid_n, mutE, mtF, appF, isOl, setiS, setF, endF, outO, finsOf_f, finsOf_t, finsOf_n, fxOf, raiseS, seqF, seqD, nameT, unhS, List.replicate, List.cons_append, List.nil_append, List.contains, List.elem, Option.map, Option.bind, ltD_int, leD_int, eqD_int, eqD_str, Bool.not_true, Bool.not_false, Bool.false_eq_true, if_true, if_false]
    · simp only [ce__law_rows_0, im, row_app hr, rap, seqS, SR.bind, Res.st, Res.bind, retS, exprS, ifS, asgS, nameG, stS_n, stS_1, stS_2, stS_3, stS_4, stS_5, stS_6, stS_7, stS_8, stS_9, stS_10, stS_11, stS_12, stS_13, stS_14, stS_15, asgT, unpT, tupT, parS, argsP, parG, immE, varE, lift, un1, op2, andE, orE, notE, ifE, chainE, tru, argsD, tupE, lstE, argsO, toPar, backs, callE, vw, vws, fzO, gt, pt, bltE, isiE, isisE, tyD, imB, imI, cmpF, cmpD, binD_add, binD_sub, augD, sliE, optE, sliD, itE, argsI, hid_im, hid_tl, hid_n, mutE, mtF, appF, isOl, setiS, setF, endF, outO, finsOf_f, finsOf_t, finsOf_n, fxOf, raiseS, seqF, seqD, nameT, unhS, List.replicate, List.cons_append, List.nil_append, List.contains, List.elem, Option.map, Option.bind, ltD_int, leD_int, eqD_int, eqD_str, Bool.not_true, Bool.not_false, Bool.false_eq_true, if_true, if_false]
  rw [ext_enc] at e
  have el := ext_len (n := n) (row := row)
  have ad : binD .Add (.list (rL acc)) (.list (rL (ext n row))) = some (.tl (rL (acc ++ ext n row))) := by
    rw [binD_addL (by rw [rL_len, rL_len]; simp [sizeMax]; omega), rL_app]
  simp only [im] at e
  simp only [lb__law_rows_0, w__law_rows_0_0, im, e, ad, seqS, SR.bind, Res.st, Res.bind, retS, exprS, ifS, asgS, nameG, stS_n, stS_1, stS_2, stS_3, stS_4, stS_5, stS_6, stS_7, stS_8, stS_9, stS_10, stS_11, stS_12, stS_13, stS_14, stS_15, asgT, unpT, tupT, parS, argsP, parG, immE, varE, lift, un1, op2, andE, orE, notE, ifE, chainE, tru, argsD, tupE, lstE, argsO, toPar, backs, callE, vw, vws, fzO, gt, pt, bltE, isiE, isisE, tyD, imB, imI, cmpF, cmpD, binD_add, binD_sub, augD, sliE, optE, sliD, itE, argsI, hid_im, hid_tl, hid_n, mutE, mtF, appF, isOl, setiS, setF, endF, outO, finsOf_f, finsOf_t, finsOf_n, fxOf, raiseS, seqF, seqD, nameT, unhS, List.replicate, List.cons_append, List.nil_append, List.contains, List.elem, Option.map, Option.bind, ltD_int, leD_int, eqD_int, eqD_str, Bool.not_true, Bool.not_false, Bool.false_eq_true, if_true, if_false]
theorem lr_loop (k : Nat) (hN : N = n) (hn : n ≤ 100) : ∀ (rs acc : List (List Int)) (x4 : Option Sv), (∀ r ∈ rs, r.length ≤ 100) → acc.length + rs.length * n + n ≤ 1000000 →
    ∃ y4, forL (nameT [] 4) (lb__law_rows_0 k) (rL rs) [im (.int N), x1, x2, some (.ol (rL acc)), x4, none] = .nx [im (.int N), x1, x2, some (.ol (rL (acc ++ rs.flatMap (ext n)))), y4, none]
  | [], acc, x4, _, _ => ⟨x4, by rw [List.flatMap_nil, List.append_nil]; rfl⟩
  | r :: rs, acc, x4, h, hl => by
    rw [List.length_cons, Nat.succ_mul] at hl
    have t := lr_turn k (x1 := x1) (x2 := x2) hN hn (acc := acc) (h r List.mem_cons_self) (by omega)
    have el := ext_len (n := n) (row := r)
    obtain ⟨y4, ih⟩ := lr_loop k hN hn rs (acc ++ ext n r) (im (.tuple (iL r))) (fun r hr => h r (List.mem_cons_of_mem _ hr)) (by rw [List.length_append]; omega)
    refine ⟨y4, ?_⟩
    have ec : rL (r :: rs) = .tuple (iL r) :: rL rs := rfl
    rw [ec]
    unfold forL
    have t0 : nameT [] 4 (.tuple (iL r)) [im (.int N), x1, x2, some (.ol (rL acc)), x4, none] = some [im (.int N), x1, x2, some (.ol (rL acc)), im (.tuple (iL r)), none] := rfl
    simp only [t0, t]
    rw [ih, List.flatMap_cons, List.append_assoc]
theorem hit_1 {xs : List D} {a : Option Sv} {r : Sl} {s1 : Sv} (h : s1 = .ol xs ∨ s1 = .im (.list xs)) : itE [] seqF [varE 1] (a :: some s1 :: r) = .ok ⟨xs, []⟩ (a :: im (.list xs) :: r) := by
  rcases h with rfl | rfl <;> simp only [im, List.append_nil, seqS, SR.bind, Res.st, Res.bind, retS, exprS, ifS, asgS, nameG, stS_n, stS_1, stS_2, stS_3, stS_4, stS_5, stS_6, stS_7, stS_8, stS_9, stS_10, stS_11, stS_12, stS_13, stS_14, stS_15, asgT, unpT, tupT, parS, argsP, parG, immE, varE, lift, un1, op2, andE, orE, notE, ifE, chainE, tru, argsD, tupE, lstE, argsO, toPar, backs, callE, vw, vws, fzO, gt, pt, bltE, isiE, isisE, tyD, imB, imI, cmpF, cmpD, binD_add, binD_sub, augD, sliE, optE, sliD, itE, argsI, hid_im, hid_tl, hid_n, mutE, mtF, appF, isOl, setiS, setF, endF, outO, finsOf_f, finsOf_t, finsOf_n, fxOf, raiseS, seqF, seqD, nameT, unhS, List.replicate, List.cons_append, List.nil_append, List.contains, List.elem, Option.map, Option.bind, ltD_int, leD_int, eqD_int, eqD_str, Bool.not_true, Bool.not_false, Bool.false_eq_true, if_true, if_false]
theorem lr_outer (k : Nat) (hN : N = n) (hn : n ≤ 6) (hn1 : 1 ≤ n) : ∀ (m : Nat) (lo : Int) (i : Nat) (s1 : Sv) (x2 x3 x4 : Option Sv), (s1 = .ol (rL (lev n i)) ∨ s1 = .im (.list (rL (lev n i)))) → i + m ≤ 6 →
    ∃ t1 y2 y3 y4, forL (nameT [] 2) (lb__law_rows_1 k) (rangeI lo m) [im (.int N), some s1, x2, x3, x4, none] = .nx [im (.int N), some t1, y2, y3, y4, none] ∧ ((m = 0 ∧ t1 = s1) ∨ t1 = .im (.list (rL (lev n (i + m)))))
  | 0, lo, i, s1, x2, x3, x4, hs, _ => ⟨s1, x2, x3, x4, rfl, .inl ⟨rfl, rfl⟩⟩
  | m + 1, lo, i, s1, x2, x3, x4, hs, hi => by
    have ll := lev_len (n := n) (m := i)
    have pw := pow_small hn hn1 (show i ≤ 6 by omega)
    have mn : (lev n i).length * n ≤ 46656 * 6 := Nat.mul_le_mul (by omega) hn
    obtain ⟨y4, e⟩ := lr_loop k (n := n) (x1 := im (.list (rL (lev n i)))) (x2 := im (.int lo)) hN (by omega) (lev n i) [] x4 (fun r hr => by have := (lev_mem.mp hr).1; omega) (by simp only [List.length_nil]; omega)
    rw [List.nil_append] at e
    have b0 : w__law_rows_1_0 k [im (.int N), some s1, im (.int lo), x3, x4, none] = .nx [im (.int N), some s1, im (.int lo), some (.ol (rL [])), x4, none] := rfl
    have b1 : w__law_rows_1_1 k [im (.int N), some s1, im (.int lo), some (.ol (rL [])), x4, none] = .nx [im (.int N), im (.list (rL (lev n i))), im (.int lo), some (.ol (rL ((lev n i).flatMap (ext n)))), y4, none] := by
      unfold w__law_rows_1_1 l__law_rows_0
      exact forS_nx (hit_1 hs) e
    have b2 : w__law_rows_1_2 k [im (.int N), im (.list (rL (lev n i))), im (.int lo), some (.ol (rL ((lev n i).flatMap (ext n)))), y4, none] = .nx [im (.int N), im (.list (rL (lev n (i + 1)))), im (.int lo), im (.list (rL (lev n (i + 1)))), y4, none] := rfl
    obtain ⟨t1, y2, y3, y4', ih, ht⟩ := lr_outer k hN hn hn1 m (lo + 1) (i + 1) (.im (.list (rL (lev n (i + 1))))) (im (.int lo)) (im (.list (rL (lev n (i + 1))))) y4 (.inr rfl) (by omega)
    refine ⟨t1, y2, y3, y4', ?_, .inr ?_⟩
    · rw [rangeI]
      unfold forL
      have t0 : nameT [] 2 (.int lo) [im (.int N), some s1, x2, x3, x4, none] = some [im (.int N), some s1, im (.int lo), x3, x4, none] := rfl
      have tb : lb__law_rows_1 k [im (.int N), some s1, im (.int lo), x3, x4, none] = .nx [im (.int N), im (.list (rL (lev n (i + 1)))), im (.int lo), im (.list (rL (lev n (i + 1)))), y4, none] := by
        unfold lb__law_rows_1
        rw [seqS_nx b0, seqS_nx b1, seqS_one, b2]
      simp only [t0, tb]
      exact ih
    · rcases ht with ⟨rfl, rfl⟩ | rfl
      · rfl
      · have : i + 1 + m = i + (m + 1) := by omega
        rw [this]
theorem t_lrows (k : Nat) (hN : N = n) (hn : n ≤ 6) (hn1 : 1 ≤ n) : P.run (k + 3) d__law_rows [im (.int N)] = .ok (.im (.list (rL (lev n n)))) [none] := by
  rw [r__law_rows]
  obtain ⟨t1, y2, y3, y4, e, ht⟩ := lr_outer k hN hn hn1 n 0 0 (.ol (rL (lev n 0))) none none none (.inl rfl) (by omega)
  have ht : t1 = .im (.list (rL (lev n n))) := by
    rcases ht with ⟨z, _⟩ | ht
    · omega
    · rw [ht, Nat.zero_add]
  subst ht
  have hrb : rngB N = true := by simp [rngB]; omega
  have hNn : N.toNat = n := by omega
  have hit : itE [] rangeF1 [(varE 0)] [im (.int N), some (.ol (rL (lev n 0))), none, none, none, none] = .ok ⟨rangeI 0 n, []⟩ [im (.int N), some (.ol (rL (lev n 0))), none, none, none, none] := by
    simp only [im, rangeF1, hrb, hNn, List.append_nil, seqS, SR.bind, Res.st, Res.bind, retS, exprS, ifS, asgS, nameG, stS_n, stS_1, stS_2, stS_3, stS_4, stS_5, stS_6, stS_7, stS_8, stS_9, stS_10, stS_11, stS_12, stS_13, stS_14, stS_15, asgT, unpT, tupT, parS, argsP, parG, immE, varE, lift, un1, op2, andE, orE, notE, ifE, chainE, tru, argsD, tupE, lstE, argsO, toPar, backs, callE, vw, vws, fzO, gt, pt, bltE, isiE, isisE, tyD, imB, imI, cmpF, cmpD, binD_add, binD_sub, augD, sliE, optE, sliD, itE, argsI, hid_im, hid_tl, hid_n, mutE, mtF, appF, isOl, setiS, setF, endF, outO, finsOf_f, finsOf_t, finsOf_n, fxOf, raiseS, seqF, seqD, nameT, unhS, List.replicate, List.cons_append, List.nil_append, List.contains, List.elem, Option.map, Option.bind, ltD_int, leD_int, eqD_int, eqD_str, Bool.not_true, Bool.not_false, Bool.false_eq_true, if_true, if_false]
  have s0 : b__law_rows_0 k [im (.int N), none, none, none, none, none] = .nx [im (.int N), some (.ol (rL (lev n 0))), none, none, none, none] := rfl
  have s1 : b__law_rows_1 k [im (.int N), some (.ol (rL (lev n 0))), none, none, none, none] = .nx [im (.int N), im (.list (rL (lev n n))), y2, y3, y4, none] := by
    unfold b__law_rows_1 l__law_rows_1
    exact forS_nx hit e
  show endF [false] (seqS _ [im (.int N), none, none, none, none, none]) = _
  rw [seqS_nx s0, seqS_nx s1]
  rfl
/-! the program's -/
theorem ar_turn (k : Nat) (hn : n ≤ 100) {acc : List (List Int)} {row : List Int} (hr : row.length ≤ 100) (hl : acc.length + n ≤ 1000000) : lb_all_rows_0 k [im (.list (iL (rng n))), x1, x2, some (.ol (rL acc)), im (.tuple (iL row)), none] = .nx [im (.list (iL (rng n))), x1, x2, some (.ol (rL (acc ++ ext n row))), im (.tuple (iL row)), none] := by
  have e : c_all_rows_0 k [im (.list (iL (rng n))), x1, x2, some (.ol (rL acc)), im (.tuple (iL row)), none] = .ok (.tl (((iL (rng n)).filter (nin row)).map (rap row))) [im (.list (iL (rng n))), x1, x2, some (.ol (rL acc)), im (.tuple (iL row)), none] := by
    refine compE_filter (nin row) (rap row) rfl rfl (by rw [iL_len, rng_len]; simp [sizeMax]; omega) fun d hd => ?_
    obtain ⟨i, hi, rfl⟩ := List.mem_map.mp hd
    refine ⟨[im (.list (iL (rng n))), x1, x2, some (.ol (rL acc)), im (.tuple (iL row)), im (.int i)], rfl, ?_, ?_, rfl⟩
    · simp only [cc_all_rows_0, condE, im, in_tup, nin, seqS, SR.bind, Res.st, Res.bind, retS, exprS, ifS, asgS, nameG, stS_n, stS_1, stS_2, stS_3, stS_4, stS_5, stS_6, stS_7, stS_8, stS_9, stS_10, stS_11, stS_12, stS_13, stS_14, stS_15, asgT, unpT, tupT, parS, argsP, parG, immE, varE, lift, un1, op2, andE, orE, notE, ifE, chainE, tru, argsD, tupE, lstE, argsO, toPar, backs, callE, vw, vws, fzO, gt, pt, bltE, isiE, isisE, tyD, imB, imI, cmpF, cmpD, binD_add, binD_sub, augD, sliE, optE, sliD, itE, argsI, hid_im, hid_tl, hid_n, mutE, mtF, appF, isOl, setiS, setF, endF, outO, finsOf_f, finsOf_t, finsOf_n, fxOf, raiseS, seqF, seqD, nameT, unhS, List.replicate, List.cons_append, List.nil_append, List.contains, List.elem, Option.map, Option.bind, ltD_int, leD_int, eqD_int, eqD_str, Bool.not_true, Bool.not_false, Bool.false_eq_true, if_true, if_false]
    · simp only [ce_all_rows_0, im, row_app hr, rap, seqS, SR.bind, Res.st, Res.bind, retS, exprS, ifS, asgS, nameG, stS_n, stS_1, stS_2, stS_3, stS_4, stS_5, stS_6, stS_7, stS_8, stS_9, stS_10, stS_11, stS_12, stS_13, stS_14, stS_15, asgT, unpT, tupT, parS, argsP, parG, immE, varE, lift, un1, op2, andE, orE, notE, ifE, chainE, tru, argsD, tupE, lstE, argsO, toPar, backs, callE, vw, vws, fzO, gt, pt, bltE, isiE, isisE, tyD, imB, imI, cmpF, cmpD, binD_add, binD_sub, augD, sliE, optE, sliD, itE, argsI, hid_im, hid_tl, hid_n, mutE, mtF, appF, isOl, setiS, setF, endF, outO, finsOf_f, finsOf_t, finsOf_n, fxOf, raiseS, seqF, seqD, nameT, unhS, List.replicate, List.cons_append, List.nil_append, List.contains, List.elem, Option.map, Option.bind, ltD_int, leD_int, eqD_int, eqD_str, Bool.not_true, Bool.not_false, Bool.false_eq_true, if_true, if_false]
  rw [ext_enc] at e
  have el := ext_len (n := n) (row := row)
  have ll : (rL acc).length + (rL (ext n row)).length ≤ sizeMax := by rw [rL_len, rL_len]; simp [sizeMax]; omega
  simp only [im] at e
  simp only [lb_all_rows_0, w_all_rows_0_0, im, e, extF, if_pos ll, rL_app, seqS, SR.bind, Res.st, Res.bind, retS, exprS, ifS, asgS, nameG, stS_n, stS_1, stS_2, stS_3, stS_4, stS_5, stS_6, stS_7, stS_8, stS_9, stS_10, stS_11, stS_12, stS_13, stS_14, stS_15, asgT, unpT, tupT, parS, argsP, parG, immE, varE, lift, un1, op2, andE, orE, notE, ifE, chainE, tru, argsD, tupE, lstE, argsO, toPar, backs, callE, vw, vws, fzO, gt, pt, bltE, isiE, isisE, tyD, imB, imI, cmpF, cmpD, binD_add, binD_sub, augD, sliE, optE, sliD, itE, argsI, hid_im, hid_tl, hid_n, mutE, mtF, appF, isOl, setiS, setF, endF, outO, finsOf_f, finsOf_t, finsOf_n, fxOf, raiseS, seqF, seqD, nameT, unhS, List.replicate, List.cons_append, List.nil_append, List.contains, List.elem, Option.map, Option.bind, ltD_int, leD_int, eqD_int, eqD_str, Bool.not_true, Bool.not_false, Bool.false_eq_true, if_true, if_false]
theorem ar_loop (k : Nat) (hn : n ≤ 100) : ∀ (rs acc : List (List Int)) (x4 : Option Sv), (∀ r ∈ rs, r.length ≤ 100) → acc.length + rs.length * n + n ≤ 1000000 →
    ∃ y4, forL (nameT [] 4) (lb_all_rows_0 k) (rL rs) [im (.list (iL (rng n))), x1, x2, some (.ol (rL acc)), x4, none] = .nx [im (.list (iL (rng n))), x1, x2, some (.ol (rL (acc ++ rs.flatMap (ext n)))), y4, none]
  | [], acc, x4, _, _ => ⟨x4, by rw [List.flatMap_nil, List.append_nil]; rfl⟩
  | r :: rs, acc, x4, h, hl => by
    rw [List.length_cons, Nat.succ_mul] at hl
    have t := ar_turn k (x1 := x1) (x2 := x2) hn (acc := acc) (h r List.mem_cons_self) (by omega)
    have el := ext_len (n := n) (row := r)
    obtain ⟨y4, ih⟩ := ar_loop k hn rs (acc ++ ext n r) (im (.tuple (iL r))) (fun r hr => h r (List.mem_cons_of_mem _ hr)) (by rw [List.length_append]; omega)
    refine ⟨y4, ?_⟩
    have ec : rL (r :: rs) = .tuple (iL r) :: rL rs := rfl
    rw [ec]
    unfold forL
    have t0 : nameT [] 4 (.tuple (iL r)) [im (.list (iL (rng n))), x1, x2, some (.ol (rL acc)), x4, none] = some [im (.list (iL (rng n))), x1, x2, some (.ol (rL acc)), im (.tuple (iL r)), none] := rfl
    simp only [t0, t]
    rw [ih, List.flatMap_cons, List.append_assoc]
theorem ar_outer (k : Nat) (hn : n ≤ 6) (hn1 : 1 ≤ n) : ∀ (ds : List Int) (i : Nat) (s1 : Sv) (x2 x3 x4 : Option Sv), (s1 = .ol (rL (lev n i)) ∨ s1 = .im (.list (rL (lev n i)))) → i + ds.length ≤ 6 →
    ∃ t1 y2 y3 y4, forL (nameT [] 2) (lb_all_rows_1 k) (iL ds) [im (.list (iL (rng n))), some s1, x2, x3, x4, none] = .nx [im (.list (iL (rng n))), some t1, y2, y3, y4, none] ∧ ((ds.length = 0 ∧ t1 = s1) ∨ t1 = .im (.list (rL (lev n (i + ds.length)))))
  | [], i, s1, x2, x3, x4, hs, _ => ⟨s1, x2, x3, x4, rfl, .inl ⟨rfl, rfl⟩⟩
  | lo :: ds, i, s1, x2, x3, x4, hs, hi => by
    rw [List.length_cons] at hi
    have ll := lev_len (n := n) (m := i)
    have pw := pow_small hn hn1 (show i ≤ 6 by omega)
    have mn : (lev n i).length * n ≤ 46656 * 6 := Nat.mul_le_mul (by omega) hn
    obtain ⟨y4, e⟩ := ar_loop k (n := n) (x1 := im (.list (rL (lev n i)))) (x2 := im (.int lo)) (by omega) (lev n i) [] x4 (fun r hr => by have := (lev_mem.mp hr).1; omega) (by simp only [List.length_nil]; omega)
    rw [List.nil_append] at e
    have b0 : w_all_rows_1_0 k [im (.list (iL (rng n))), some s1, im (.int lo), x3, x4, none] = .nx [im (.list (iL (rng n))), some s1, im (.int lo), some (.ol (rL [])), x4, none] := rfl
    have b1 : w_all_rows_1_1 k [im (.list (iL (rng n))), some s1, im (.int lo), some (.ol (rL [])), x4, none] = .nx [im (.list (iL (rng n))), im (.list (rL (lev n i))), im (.int lo), some (.ol (rL ((lev n i).flatMap (ext n)))), y4, none] := by
      unfold w_all_rows_1_1 l_all_rows_0
      exact forS_nx (hit_1 hs) e
    have b2 : w_all_rows_1_2 k [im (.list (iL (rng n))), im (.list (rL (lev n i))), im (.int lo), some (.ol (rL ((lev n i).flatMap (ext n)))), y4, none] = .nx [im (.list (iL (rng n))), im (.list (rL (lev n (i + 1)))), im (.int lo), im (.list (rL (lev n (i + 1)))), y4, none] := rfl
    obtain ⟨t1, y2, y3, y4', ih, ht⟩ := ar_outer k hn hn1 ds (i + 1) (.im (.list (rL (lev n (i + 1))))) (im (.int lo)) (im (.list (rL (lev n (i + 1))))) y4 (.inr rfl) (by omega)
    refine ⟨t1, y2, y3, y4', ?_, .inr ?_⟩
    · rw [iL_cons]
      unfold forL
      have t0 : nameT [] 2 (.int lo) [im (.list (iL (rng n))), some s1, x2, x3, x4, none] = some [im (.list (iL (rng n))), some s1, im (.int lo), x3, x4, none] := rfl
      have tb : lb_all_rows_1 k [im (.list (iL (rng n))), some s1, im (.int lo), x3, x4, none] = .nx [im (.list (iL (rng n))), im (.list (rL (lev n (i + 1)))), im (.int lo), im (.list (rL (lev n (i + 1)))), y4, none] := by
        unfold lb_all_rows_1
        rw [seqS_nx b0, seqS_nx b1, seqS_one, b2]
      simp only [t0, tb]
      exact ih
    · rcases ht with ⟨z, rfl⟩ | rfl
      · rw [List.length_cons, z]
      · have : i + 1 + ds.length = i + (ds.length + 1) := by omega
        rw [this, List.length_cons]
theorem t_all_rows (k : Nat) (hn : n ≤ 6) (hn1 : 1 ≤ n) : P.run (k + 3) d_all_rows [some (.ol (iL (rng n)))] = .ok (.im (.list (rL (lev n n)))) [none] := by
  rw [r_all_rows]
  obtain ⟨t1, y2, y3, y4, e, ht⟩ := ar_outer k (n := n) hn hn1 (rng n) 0 (.ol (rL (lev n 0))) none none none (.inl rfl) (by rw [rng_len]; omega)
  have ht : t1 = .im (.list (rL (lev n n))) := by
    rw [rng_len] at ht
    rcases ht with ⟨z, _⟩ | ht
    · omega
    · rw [ht, Nat.zero_add]
  subst ht
  generalize iL (rng n) = ys at e
  have hit : itE [] seqF [(varE 0)] [some (.ol ys), some (.ol (rL (lev n 0))), none, none, none, none] = .ok ⟨ys, []⟩ [im (.list ys), some (.ol (rL (lev n 0))), none, none, none, none] := by
    simp only [im, List.append_nil, seqS, SR.bind, Res.st, Res.bind, retS, exprS, ifS, asgS, nameG, stS_n, stS_1, stS_2, stS_3, stS_4, stS_5, stS_6, stS_7, stS_8, stS_9, stS_10, stS_11, stS_12, stS_13, stS_14, stS_15, asgT, unpT, tupT, parS, argsP, parG, immE, varE, lift, un1, op2, andE, orE, notE, ifE, chainE, tru, argsD, tupE, lstE, argsO, toPar, backs, callE, vw, vws, fzO, gt, pt, bltE, isiE, isisE, tyD, imB, imI, cmpF, cmpD, binD_add, binD_sub, augD, sliE, optE, sliD, itE, argsI, hid_im, hid_tl, hid_n, mutE, mtF, appF, isOl, setiS, setF, endF, outO, finsOf_f, finsOf_t, finsOf_n, fxOf, raiseS, seqF, seqD, nameT, unhS, List.replicate, List.cons_append, List.nil_append, List.contains, List.elem, Option.map, Option.bind, ltD_int, leD_int, eqD_int, eqD_str, Bool.not_true, Bool.not_false, Bool.false_eq_true, if_true, if_false]
  have s0 : b_all_rows_0 k [some (.ol ys), none, none, none, none, none] = .nx [some (.ol ys), some (.ol (rL (lev n 0))), none, none, none, none] := rfl
  have s1 : b_all_rows_1 k [some (.ol ys), some (.ol (rL (lev n 0))), none, none, none, none] = .nx [im (.list ys), im (.list (rL (lev n n))), y2, y3, y4, none] := by
    unfold b_all_rows_1 l_all_rows_1
    exact forS_nx hit e
  show endF [false] (seqS _ [some (.ol ys), none, none, none, none, none]) = _
  rw [seqS_nx s0, seqS_nx s1]
  rfl
theorem orders_call {F : Sl → CRes} {G : List D → Option Op} {a x : D} {n : Int} {ys : List D} (hb : bltD .len [a] = some (.im (.int n))) (hG : G [.int n] = some (.tl ys)) (hF : F [some (.ol ys)] = .ok (.im x) [none]) : retS (callE [false] F [(bltE G [(bltE (bltD .len) [(varE 0)])])]) [im a] = .rt (.im x) [im a] := by
  simp only [im, hb, hG, hF, seqS, SR.bind, Res.st, Res.bind, retS, exprS, ifS, asgS, nameG, stS_n, stS_1, stS_2, stS_3, stS_4, stS_5, stS_6, stS_7, stS_8, stS_9, stS_10, stS_11, stS_12, stS_13, stS_14, stS_15, asgT, unpT, tupT, parS, argsP, parG, immE, varE, lift, un1, op2, andE, orE, notE, ifE, chainE, tru, argsD, tupE, lstE, argsO, toPar, backs, callE, vw, vws, fzO, gt, pt, bltE, isiE, isisE, tyD, imB, imI, cmpF, cmpD, binD_add, binD_sub, augD, sliE, optE, sliD, itE, argsI, hid_im, hid_tl, hid_n, mutE, mtF, appF, isOl, setiS, setF, endF, outO, finsOf_f, finsOf_t, finsOf_n, fxOf, raiseS, seqF, seqD, nameT, unhS, List.replicate, List.cons_append, List.nil_append, List.contains, List.elem, Option.map, Option.bind, ltD_int, leD_int, eqD_int, eqD_str, Bool.not_true, Bool.not_false, Bool.false_eq_true, if_true, if_false]
end
theorem row_ne {n : Nat} {r : List Int} (h : Row n r) (hn : 1 ≤ n) : r ≠ [] := by
  intro e
  subst e
  have := h.1
  rw [List.length_nil] at this
  omega
theorem rangeF1_N {N : Int} {n : Nat} (hN : N = n) (h : n ≤ 1000) : rangeF1 [.int N] = some (iL (rng n)) := by
  have hrb : rngB N = true := by simp [rngB]; omega
  have hNn : N.toNat = n := by omega
  simp only [rangeF1, hrb, hNn, rng_eq, if_true]
theorem rangeF1_n {n : Nat} (h : n ≤ 1000) : rangeF1 [.int n] = some (iL (rng n)) := rangeF1_N rfl h
theorem it_call {F : List D → Option (List D)} {m : ME} {e : Sl} {d : D} {xs : List D} (hm : m e = .ok (.im d) e) (hF : F [d] = some xs) : itE [] F [m] e = .ok ⟨xs, []⟩ e := by
  simp only [itE, argsI, hm, Res.bind, hid_im, hF, List.append_nil]
theorem len_call {G : List D → Option Op} {m : ME} {e : Sl} {a d : D} (hm : m e = .ok (.im a) e) (hG : G [a] = some (.im d)) : bltE G [m] e = .ok (.im d) e := by
  simp only [bltE, argsO, hm, Res.bind, vws, vw, hG, lift]
theorem len_N {r : List Int} {N : Int} (h : N = r.length) : bltD .len [.tuple (iL r)] = some (.im (.int N)) := by
  rw [h]
  show imI _ = _
  rw [iL_len]
  rfl
theorem seq_call {F : Sl → CRes} {a : D} {r : Sl} {xs : List D} (hF : F [im a] = .ok (.im (.list xs)) [none]) : itE [] seqF [(callE [false] F [(varE 0)])] (im a :: r) = .ok ⟨xs, []⟩ (im a :: r) := by
  simp only [im, hF, List.append_nil, seqS, SR.bind, Res.st, Res.bind, retS, exprS, ifS, asgS, nameG, stS_n, stS_1, stS_2, stS_3, stS_4, stS_5, stS_6, stS_7, stS_8, stS_9, stS_10, stS_11, stS_12, stS_13, stS_14, stS_15, asgT, unpT, tupT, parS, argsP, parG, immE, varE, lift, un1, op2, andE, orE, notE, ifE, chainE, tru, argsD, tupE, lstE, argsO, toPar, backs, callE, vw, vws, fzO, gt, pt, bltE, isiE, isisE, tyD, imB, imI, cmpF, cmpD, binD_add, binD_sub, augD, sliE, optE, sliD, itE, argsI, hid_im, hid_tl, hid_n, mutE, mtF, appF, isOl, setiS, setF, endF, outO, finsOf_f, finsOf_t, finsOf_n, fxOf, raiseS, seqF, seqD, nameT, unhS, List.replicate, List.cons_append, List.nil_append, List.contains, List.elem, Option.map, Option.bind, ltD_int, leD_int, eqD_int, eqD_str, Bool.not_true, Bool.not_false, Bool.false_eq_true, if_true, if_false]
theorem blt_of {c : ME} {e e1 : Sl} {zs : List D} {x : D} {G : List D → Option Op} (hc : c e = .ok (.tl zs) e1) (hG : G [.list zs] = some (.im x)) : bltE G [c] e = .ok (.im x) e1 := by
  simp only [bltE, argsO, hc, Res.bind, vws, vw, hG, lift]
theorem call_01 {F : Sl → CRes} {a b : D} {r : Sl} {o : Op} (hF : F [im a, im b] = .ok o [none, none]) (ho : (∃ d, o = .im d) ∨ ∃ xs, o = .tl xs) : callE [false, false] F [(varE 0), (varE 1)] (im a :: im b :: r) = .ok o (im a :: im b :: r) := by
  rcases ho with ⟨d, rfl⟩ | ⟨xs, rfl⟩ <;> simp only [im, hF, seqS, SR.bind, Res.st, Res.bind, retS, exprS, ifS, asgS, nameG, stS_n, stS_1, stS_2, stS_3, stS_4, stS_5, stS_6, stS_7, stS_8, stS_9, stS_10, stS_11, stS_12, stS_13, stS_14, stS_15, asgT, unpT, tupT, parS, argsP, parG, immE, varE, lift, un1, op2, andE, orE, notE, ifE, chainE, tru, argsD, tupE, lstE, argsO, toPar, backs, callE, vw, vws, fzO, gt, pt, bltE, isiE, isisE, tyD, imB, imI, cmpF, cmpD, binD_add, binD_sub, augD, sliE, optE, sliD, itE, argsI, hid_im, hid_tl, hid_n, mutE, mtF, appF, isOl, setiS, setF, endF, outO, finsOf_f, finsOf_t, finsOf_n, fxOf, raiseS, seqF, seqD, nameT, unhS, List.replicate, List.cons_append, List.nil_append, List.contains, List.elem, Option.map, Option.bind, ltD_int, leD_int, eqD_int, eqD_str, Bool.not_true, Bool.not_false, Bool.false_eq_true, if_true, if_false]
theorem call1 {F : Sl → CRes} {m : ME} {e : Sl} {a x : D} (hm : m e = .ok (.im a) e) (hF : F [im a] = .ok (.im x) [none]) : callE [false] F [m] e = .ok (.im x) e := by
  simp only [callE, argsO, hm, Res.bind, toPar, fzO, Option.map, im] at *
  rw [hF]
  rfl
theorem call2 {F : Sl → CRes} {m1 m2 : ME} {e : Sl} {a b : D} {o : Op} (h1 : m1 e = .ok (.im a) e) (h2 : m2 e = .ok (.im b) e) (hF : F [im a, im b] = .ok o [none, none]) : callE [false, false] F [m1, m2] e = .ok o e := by
  simp only [callE, argsO, h1, h2, Res.bind, toPar, fzO, Option.map, im] at *
  rw [hF]
  rfl
theorem ne_skip {a b : ME} {A : MS} {e : Sl} {d : D} (q : shp d = true) (h1 : a e = .ok (.im d) e) (h2 : b e = .ok (.im d) e) : ifS (op2 (cmpF .NotEq) a b) A (seqS []) e = .nx e := by
  have t : op2 (cmpF .NotEq) a b e = .ok (.im (.bool false)) e := by
    unfold op2
    rw [h1]
    simp only [Res.bind, h2, vw, ne_self q, lift]
  rw [ifS_false t]
  rfl
theorem add_ok {a b : ME} {e : Sl} {i j : Int} (h1 : a e = .ok (.im (.int i)) e) (h2 : b e = .ok (.im (.int j)) e) : op2 (binD .Add) a b e = .ok (.im (.int (i + j))) e := by
  unfold op2
  rw [h1]
  simp only [Res.bind, h2, vw, lift, binD_add]
theorem fmin_eq : ∀ {ns : List Int} {n m : Int}, (∀ x ∈ n :: ns, m ≤ x) → m ∈ n :: ns → ns.foldl min n = m
  | [], n, m, h, hm => by
    simp at hm
    exact hm.symm
  | y :: ns, n, m, h, hm => by
    rw [List.foldl_cons]
    have h1 := h n List.mem_cons_self
    have h2 := h y (List.mem_cons_of_mem _ List.mem_cons_self)
    refine fmin_eq (fun x hx => ?_) ?_
    · rcases List.mem_cons.mp hx with rfl | hx
      · omega
      · exact h x (List.mem_cons_of_mem _ (List.mem_cons_of_mem _ hx))
    · rcases List.mem_cons.mp hm with e | hm
      · have : min n y = m := by omega
        rw [this]; exact List.mem_cons_self
      · rcases List.mem_cons.mp hm with e | hm
        · have : min n y = m := by omega
          rw [this]; exact List.mem_cons_self
        · exact List.mem_cons_of_mem _ hm
theorem var_ol {e : Sl} {i : Nat} {xs : List D} {G : List D → Option Op} {x : D} (h : gt e i = some (.ol xs)) (hG : G [.list xs] = some (.im x)) : bltE G [(varE i)] e = .ok (.im x) e := by
  have v : varE i e = .ok (.bor i) e := by unfold varE; rw [h]
  simp only [bltE, argsO, v, Res.bind, vws, vw, h, hG, lift]
theorem call3 {F : Sl → CRes} {m1 m2 m3 : ME} {e : Sl} {a b c : D} {o : Op} (h1 : m1 e = .ok (.im a) e) (h2 : m2 e = .ok (.im b) e) (h3 : m3 e = .ok (.im c) e) (hF : F [im a, im b, im c] = .ok o [none, none, none]) : callE [false, false, false] F [m1, m2, m3] e = .ok o e := by
  simp only [callE, argsO, h1, h2, h3, Res.bind, toPar, fzO, Option.map, im] at *
  rw [hF]
  rfl
theorem ne_false {a b : ME} {e : Sl} {d : D} (q : shp d = true) (h1 : a e = .ok (.im d) e) (h2 : b e = .ok (.im d) e) : op2 (cmpF .NotEq) a b e = .ok (.im (.bool false)) e := by
  unfold op2
  rw [h1]
  simp only [Res.bind, h2, vw, ne_self q, lift]
theorem or2_false {x y : ME} {e : Sl} (hx : x e = .ok (.im (.bool false)) e) (hy : y e = .ok (.im (.bool false)) e) : orE [x, y] e = .ok (.im (.bool false)) e := by
  simp only [orE, hx, Res.bind, tru, hy]
theorem isnot_same {x : ME} {e : Sl} {b : Bool} (hx : x e = .ok (.im (.bool b)) e) : op2 (cmpF .IsNot) x (immE (.bool b)) e = .ok (.im (.bool false)) e := by
  unfold op2
  rw [hx]
  cases b <;> rfl
theorem if_skip {t : ME} {A : MS} {e : Sl} (h : t e = .ok (.im (.bool false)) e) : ifS t A (seqS []) e = .nx e := by
  rw [ifS_false h]
  rfl
end Lw
end
section
set_option maxHeartbeats 1000000
namespace Lw
open PySem Ev
theorem t_draw (k : Nat) {h : Hand} {m : Int} (ok : h.ok) (hm : 0 < m) (hm2 : m < 1073741824) : ∃ (h' : Hand) (i : Int), P.run (k + 3) d__law_draw [some (.ol h.ds), some (.im (.int m))] = .ok (.im (.int i)) [some (.ol h'.ds), none] ∧ 0 ≤ i ∧ i < m ∧ h'.ok := by
  rw [r__law_draw]
  exact draw_ok (B := 40692) (C := 31) (F := 48271) (by decide) (by decide) ok hm hm2
theorem t_any (k : Nat) {h : Hand} {xs : List D} {sv : Sv} (ok : h.ok) (hs : sv = .ol xs ∨ sv = .im (.list xs)) (hx : 0 < xs.length) (hx2 : xs.length < 1000000) : ∃ (h' : Hand) (x : D), P.run (k + 4) d__law_any [some (.ol h.ds), some sv] = .ok (.im x) [some (.ol h'.ds), none] ∧ x ∈ xs ∧ h'.ok := by
  obtain ⟨h', i, e, i0, i1, ok'⟩ := t_draw k (m := (xs.length : Int)) ok (by omega) (by omega)
  have hi : i.toNat < xs.length := by omega
  refine ⟨h', xs[i.toNat], ?_, List.getElem_mem _, ok'⟩
  rw [r__law_any (k + 1)]
  have g : subD (.list xs) (.int i) = some (.im xs[i.toNat]) := by
    simp only [subD, ixD_at i0 i1, List.getElem?_eq_getElem hi]
    rfl
  have bl : bltD .len [.list xs] = some (.im (.int xs.length)) := rfl
  generalize (xs.length : Int) = N at e bl
  rcases hs with rfl | rfl <;> simp only [b__law_any_0, e, g, bl, seqS, SR.bind, Res.st, Res.bind, retS, exprS, ifS, asgS, nameG, stS_n, stS_1, stS_2, stS_3, stS_4, stS_5, stS_6, stS_7, stS_8, stS_9, stS_10, stS_11, stS_12, stS_13, stS_14, stS_15, asgT, unpT, tupT, parS, argsP, parG, immE, varE, lift, un1, op2, andE, orE, notE, ifE, chainE, tru, argsD, tupE, lstE, argsO, toPar, backs, callE, vw, vws, fzO, gt, pt, bltE, isiE, isisE, tyD, imB, imI, cmpF, cmpD, binD_add, binD_sub, augD, sliE, optE, sliD, itE, argsI, hid_im, hid_tl, hid_n, mutE, mtF, appF, isOl, setiS, setF, endF, outO, finsOf_f, finsOf_t, finsOf_n, fxOf, raiseS, seqF, seqD, nameT, unhS, List.replicate, List.cons_append, List.nil_append, List.contains, List.elem, Option.map, Option.bind, ltD_int, leD_int, eqD_int, eqD_str, Bool.not_true, Bool.not_false, Bool.false_eq_true, if_true, if_false]
def noOrd (n : Nat) : List D := [.none, .list (iL (rng n)), .tuple (List.replicate (n + 1) (.int 0)), .tuple (List.replicate n (.int n)), .tuple (List.replicate n (.int (-1))), .int 0, .str "0"]
theorem n_all (k : Nat) {n : Nat} {x : D} (h1 : 1 ≤ n) (h2 : n ≤ 5) (hx : x ∈ noOrd n) : P.run (k + 6) d_are_all [im x, im (.int n)] = .ok (.im (.bool false)) [none, none] := by
  obtain rfl | rfl | rfl | rfl | rfl : n = 1 ∨ n = 2 ∨ n = 3 ∨ n = 4 ∨ n = 5 := by omega
  all_goals
    simp only [noOrd, List.mem_cons, List.not_mem_nil, or_false] at hx
    rcases hx with rfl | rfl | rfl | rfl | rfl | rfl | rfl <;> kernel_rfl
theorem no_ord {F : Sl → CRes} {a b : D} {N : Int} (hl : bltD .len [a] = some (.im (.int N))) (hF : F [im b, im (.int N)] = .ok (.im (.bool false)) [none, none]) : ifS (notE (callE [false, false] F [(varE 1), (bltE (bltD .len) [(varE 0)])])) (seqS [(raiseS "NoOrder")]) (seqS []) [im a, im b] = .er ⟨"NoOrder", none⟩ [im a, im b] := by
  simp only [im, hl, hF, seqS, SR.bind, Res.st, Res.bind, retS, exprS, ifS, asgS, nameG, stS_n, stS_1, stS_2, stS_3, stS_4, stS_5, stS_6, stS_7, stS_8, stS_9, stS_10, stS_11, stS_12, stS_13, stS_14, stS_15, asgT, unpT, tupT, parS, argsP, parG, immE, varE, lift, un1, op2, andE, orE, notE, ifE, chainE, tru, argsD, tupE, lstE, argsO, toPar, backs, callE, vw, vws, fzO, gt, pt, bltE, isiE, isisE, tyD, imB, imI, cmpF, cmpD, binD_add, binD_sub, augD, sliE, optE, sliD, itE, argsI, hid_im, hid_tl, hid_n, mutE, mtF, appF, isOl, setiS, setF, endF, outO, finsOf_f, finsOf_t, finsOf_n, fxOf, raiseS, seqF, seqD, nameT, unhS, List.replicate, List.cons_append, List.nil_append, List.contains, List.elem, Option.map, Option.bind, ltD_int, leD_int, eqD_int, eqD_str, Bool.not_true, Bool.not_false, Bool.false_eq_true, if_true, if_false]
theorem rngD_N {N : Int} {n : Nat} (hN : N = n) (h : n ≤ 1000) : rngD false [.int N] = some (.tl (iL (rng n))) := by
  subst hN
  exact rngD_n h
theorem ord_list {N : Int} {G : List D → Option Op} {h : Sv} {ys a b c : List D} (hG : G [.int N] = some (.tl ys)) (ha : binD .Mult (.tuple [.int 0]) (.int (N + 1)) = some (.im (.tuple a))) (hb : binD .Mult (.tuple [.int N]) (.int N) = some (.im (.tuple b))) (hc : binD .Mult (.tuple [.int (-1)]) (.int N) = some (.im (.tuple c))) : lstE [(immE (.none)), (bltE G [(varE 1)]), (op2 (binD .Mult) (tupE [(immE (.int 0))]) (op2 (binD .Add) (varE 1) (immE (.int 1)))), (op2 (binD .Mult) (tupE [(varE 1)]) (varE 1)), (op2 (binD .Mult) (tupE [(un1 negD (immE (.int 1)))]) (varE 1)), (immE (.int 0)), (immE (.str "0"))] [some h, im (.int N)] = .ok (.tl [.none, .list ys, .tuple a, .tuple b, .tuple c, .int 0, .str "0"]) [some h, im (.int N)] := by
  simp only [im, hG, ha, hb, hc, negD, Int.reduceNeg, seqS, SR.bind, Res.st, Res.bind, retS, exprS, ifS, asgS, nameG, stS_n, stS_1, stS_2, stS_3, stS_4, stS_5, stS_6, stS_7, stS_8, stS_9, stS_10, stS_11, stS_12, stS_13, stS_14, stS_15, asgT, unpT, tupT, parS, argsP, parG, immE, varE, lift, un1, op2, andE, orE, notE, ifE, chainE, tru, argsD, tupE, lstE, argsO, toPar, backs, callE, vw, vws, fzO, gt, pt, bltE, isiE, isisE, tyD, imB, imI, cmpF, cmpD, binD_add, binD_sub, augD, sliE, optE, sliD, itE, argsI, hid_im, hid_tl, hid_n, mutE, mtF, appF, isOl, setiS, setF, endF, outO, finsOf_f, finsOf_t, finsOf_n, fxOf, raiseS, seqF, seqD, nameT, unhS, List.replicate, List.cons_append, List.nil_append, List.contains, List.elem, Option.map, Option.bind, ltD_int, leD_int, eqD_int, eqD_str, Bool.not_true, Bool.not_false, Bool.false_eq_true, if_true, if_false]
theorem t_no_order (k : Nat) {h : Hand} {n : Nat} {N : Int} (ok : h.ok) (hN : N = n) (h5 : n ≤ 5) : ∃ (h' : Hand) (x : D), P.run (k + 5) d__law_no_order [some (.ol h.ds), im (.int N)] = .ok (.im x) [some (.ol h'.ds), none] ∧ x ∈ noOrd n ∧ h'.ok := by
  obtain ⟨h', x, e, hx, ok'⟩ := t_any k (xs := noOrd n) ok (.inl rfl) (by simp [noOrd]) (by simp [noOrd])
  refine ⟨h', x, ?_, hx, ok'⟩
  have ha : binD .Mult (.tuple [.int 0]) (.int (N + 1)) = some (.im (.tuple (List.replicate (n + 1) (.int 0)))) := by
    have := mul_tup (k := N + 1) (x := .int 0) (by omega) (by omega)
    have z : (N + 1).toNat = n + 1 := by omega
    rw [z] at this
    exact this
  have hb : binD .Mult (.tuple [.int N]) (.int N) = some (.im (.tuple (List.replicate n (.int n)))) := by
    have := mul_tup (k := N) (x := .int N) (by omega) (by omega)
    have z : N.toNat = n := by omega
    rw [z] at this
    rw [this, hN]
  have hc : binD .Mult (.tuple [.int (-1)]) (.int N) = some (.im (.tuple (List.replicate n (.int (-1))))) := by
    have := mul_tup (k := N) (x := .int (-1)) (by omega) (by omega)
    have z : N.toNat = n := by omega
    rw [z] at this
    exact this
  have g := ord_list (h := .ol h.ds) (rngD_N hN (by omega)) ha hb hc
  have en : noOrd n = [.none, .list (iL (rng n)), .tuple (List.replicate (n + 1) (.int 0)), .tuple (List.replicate n (.int n)), .tuple (List.replicate n (.int (-1))), .int 0, .str "0"] := rfl
  rw [← en] at g
  rw [r__law_no_order (k + 2)]
  have s0 : b__law_no_order_0 (k + 2) [some (.ol h.ds), im (.int N)] = .rt (.im x) [some (.ol h'.ds), im (.int N)] := retS_ok (callE_any g e)
  show endF [true, false] (seqS _ [some (.ol h.ds), im (.int N)]) = _
  rw [seqS_one, s0]
  rfl
theorem er_call {F : Sl → CRes} {a b : D} {r : Sl} {x : Exc} (h : F [im a, im b] = .er x [none, none]) : exprS (callE [false, false] F [(varE 0), (varE 1)]) (im a :: im b :: r) = .er x (im a :: im b :: r) := by
  simp only [im, h, seqS, SR.bind, Res.st, Res.bind, retS, exprS, ifS, asgS, nameG, stS_n, stS_1, stS_2, stS_3, stS_4, stS_5, stS_6, stS_7, stS_8, stS_9, stS_10, stS_11, stS_12, stS_13, stS_14, stS_15, asgT, unpT, tupT, parS, argsP, parG, immE, varE, lift, un1, op2, andE, orE, notE, ifE, chainE, tru, argsD, tupE, lstE, argsO, toPar, backs, callE, vw, vws, fzO, gt, pt, bltE, isiE, isisE, tyD, imB, imI, cmpF, cmpD, binD_add, binD_sub, augD, sliE, optE, sliD, itE, argsI, hid_im, hid_tl, hid_n, mutE, mtF, appF, isOl, setiS, setF, endF, outO, finsOf_f, finsOf_t, finsOf_n, fxOf, raiseS, seqF, seqD, nameT, unhS, List.replicate, List.cons_append, List.nil_append, List.contains, List.elem, Option.map, Option.bind, ltD_int, leD_int, eqD_int, eqD_str, Bool.not_true, Bool.not_false, Bool.false_eq_true, if_true, if_false]
def absD : D → D
  | .int i => .int (if i < 0 then -i else i)
  | d => d
theorem t_hand (k : Nat) (ns : List Int) : ∃ h : Hand, h.ok ∧ P.run (k + 3) d__law_hand [some (.im (.dict [(.none, .list (iL ns))]))] = .ok (.tl h.ds) [none] := by
  let ms : List Int := ns.take (min (63 : Int).toNat (iL ns).length - 0)
  have hit : itE [] seqF [(sliE (varE 0) none (some (immE (.int 63))))] [some (.im (.dict [(.none, .list (iL ns))])), none, none] = .ok ⟨iL ms, []⟩ [some (.im (.dict [(.none, .list (iL ns))])), none, none] := by
    have : cutL (iL ns) none (some 63) = iL ms := by simp only [cutL, cutI, ms, ← iL_take]; rfl
    simp only [this, List.append_nil, seqS, SR.bind, Res.st, Res.bind, retS, exprS, ifS, asgS, nameG, stS_n, stS_1, stS_2, stS_3, stS_4, stS_5, stS_6, stS_7, stS_8, stS_9, stS_10, stS_11, stS_12, stS_13, stS_14, stS_15, asgT, unpT, tupT, parS, argsP, parG, immE, varE, lift, un1, op2, andE, orE, notE, ifE, chainE, tru, argsD, tupE, lstE, argsO, toPar, backs, callE, vw, vws, fzO, gt, pt, bltE, isiE, isisE, tyD, imB, imI, cmpF, cmpD, binD_add, binD_sub, augD, sliE, optE, sliD, itE, argsI, hid_im, hid_tl, hid_n, mutE, mtF, appF, isOl, setiS, setF, endF, outO, finsOf_f, finsOf_t, finsOf_n, fxOf, raiseS, seqF, seqD, nameT, unhS, List.replicate, List.cons_append, List.nil_append, List.contains, List.elem, Option.map, Option.bind, ltD_int, leD_int, eqD_int, eqD_str, Bool.not_true, Bool.not_false, Bool.false_eq_true, if_true, if_false]
  have hc : c__law_hand_0 k [some (.im (.dict [(.none, .list (iL ns))])), none, none] = .ok (.tl ((iL ms).map absD)) [some (.im (.dict [(.none, .list (iL ns))])), none, none] := by
    refine compE_map absD hit rfl (by simp [iL_len, sizeMax, ms]; omega) fun d hd => ?_
    obtain ⟨i, hi, rfl⟩ := List.mem_map.mp hd
    exact ⟨_, rfl, rfl, rfl, rfl⟩
  have he : (iL ms).map absD = iL (ms.map fun i => if i < 0 then -i else i) := by simp [iL, absD]
  rw [he] at hc
  have h7 : ∀ m n : Int, small64 m = true → binD .Mult (.int m) (.int n) = some (.im (.int (m * n))) := fun m n z => by simp [binD, z, imI]
  rw [r__law_hand]
  refine ⟨⟨ms.map fun i => if i < 0 then -i else i, 0, 0, 61 + 7 * (ms.map fun i => if i < 0 then -i else i).length, 0⟩, ⟨Int.le_refl _, Int.le_refl _⟩, ?_⟩
  simp only [b__law_hand_0, b__law_hand_1, hc, bltD, h7 7 _ (by decide), iL_len, Hand.ds, seqS, SR.bind, Res.st, Res.bind, retS, exprS, ifS, asgS, nameG, stS_n, stS_1, stS_2, stS_3, stS_4, stS_5, stS_6, stS_7, stS_8, stS_9, stS_10, stS_11, stS_12, stS_13, stS_14, stS_15, asgT, unpT, tupT, parS, argsP, parG, immE, varE, lift, un1, op2, andE, orE, notE, ifE, chainE, tru, argsD, tupE, lstE, argsO, toPar, backs, callE, vw, vws, fzO, gt, pt, bltE, isiE, isisE, tyD, imB, imI, cmpF, cmpD, binD_add, binD_sub, augD, sliE, optE, sliD, itE, argsI, hid_im, hid_tl, hid_n, mutE, mtF, appF, isOl, setiS, setF, endF, outO, finsOf_f, finsOf_t, finsOf_n, fxOf, raiseS, seqF, seqD, nameT, unhS, List.replicate, List.cons_append, List.nil_append, List.contains, List.elem, Option.map, Option.bind, ltD_int, leD_int, eqD_int, eqD_str, Bool.not_true, Bool.not_false, Bool.false_eq_true, if_true, if_false]
end Lw
end
section
set_option maxHeartbeats 1000000
namespace Lw
open PySem Ev
/-- triples -/
def Ts (ts : List T3) : Prop := 1 ≤ ts.length ∧ ts.length ≤ 4 ∧ ∀ t ∈ ts, 0 ≤ t.1 ∧ t.1 ≤ 99 ∧ 0 ≤ t.2.1 ∧ t.2.1 ≤ 99 ∧ 0 ≤ t.2.2 ∧ t.2.2 ≤ 99
def th (ts : List T3) (i : Int) : T3 := ts.getD i.toNat (0, 0, 0)
theorem d0 {t : T3} : subD (tD t) (.int 0) = some (.im (.int t.1)) := rfl
theorem d1 {t : T3} : subD (tD t) (.int 1) = some (.im (.int t.2.1)) := rfl
theorem d2 {t : T3} : subD (tD t) (.int 2) = some (.im (.int t.2.2)) := rfl
theorem sub_th {ts : List T3} {i : Int} (h0 : 0 ≤ i) (h1 : i < ts.length) : subD (.tuple (tL ts)) (.int i) = some (.im (tD (th ts i))) := by
  have e : ixD (tL ts).length i = some i.toNat := by rw [tL_len]; simp [ixD, h0, h1]
  have hi : i.toNat < ts.length := by omega
  have g : (tL ts)[i.toNat]? = some (tD (th ts i)) := by
    simp only [tL, List.getElem?_map, List.getElem?_eq_getElem hi, th, List.getD_eq_getElem?_getD, Option.map, Option.getD]
  simp only [subD, e, g, Option.map]
theorem th_nn {ts : List T3} (h : Ts ts) (i : Int) : 0 ≤ (th ts i).1 ∧ 0 ≤ (th ts i).2.1 ∧ 0 ≤ (th ts i).2.2 := by
  unfold th
  rw [List.getD_eq_getElem?_getD]
  cases e : ts[i.toNat]? with
  | none => exact ⟨Int.le_refl _, Int.le_refl _, Int.le_refl _⟩
  | some p =>
    have := h.2.2 p (List.mem_of_getElem? e)
    exact ⟨this.1, this.2.2.1, this.2.2.2.2.1⟩
theorem th_mem {ts : List T3} {i : Int} (h0 : 0 ≤ i) (h1 : i < ts.length) : th ts i ∈ ts := by
  have hi : i.toNat < ts.length := by omega
  unfold th
  rw [List.getD_eq_getElem?_getD, List.getElem?_eq_getElem hi]
  exact List.getElem_mem _
theorem t_are_times3 (k : Nat) {t : T3} (h : 0 ≤ t.1 ∧ t.1 ≤ 99 ∧ 0 ≤ t.2.1 ∧ t.2.1 ≤ 99 ∧ 0 ≤ t.2.2 ∧ t.2.2 ≤ 99) : P.run (k + 5) d_are_times [im (tD t), im (.int 3)] = .ok (.im (.bool true)) [none, none] := by
  rw [r_are_times (k + 2)]
  have e : c_are_times_0 (k + 2) [im (tD t), im (.int 3), none] = .ok (.tl (bL ([PyData.int t.1, .int t.2.1, .int t.2.2].map fun _ => true))) [im (tD t), im (.int 3), none] := by
    rw [all_true]
    refine compE_map (fun _ => .bool true) rfl rfl (by simp [sizeMax]) fun d hd => ?_
    have : ∃ i, d = .int i ∧ 0 ≤ i ∧ i ≤ 99 := by
      simp only [List.mem_cons, List.not_mem_nil, or_false] at hd
      rcases hd with rfl | rfl | rfl
      · exact ⟨_, rfl, h.1, h.2.1⟩
      · exact ⟨_, rfl, h.2.2.1, h.2.2.2.1⟩
      · exact ⟨_, rfl, h.2.2.2.2⟩
    obtain ⟨i, rfl, i0, i1⟩ := this
    refine ⟨_, rfl, rfl, ?_, rfl⟩
    simp only [ce_are_times_0, im, wipeS, t_is_within k i0 i1, seqS, SR.bind, Res.st, Res.bind, retS, exprS, ifS, asgS, nameG, stS_n, stS_1, stS_2, stS_3, stS_4, stS_5, stS_6, stS_7, stS_8, stS_9, stS_10, stS_11, stS_12, stS_13, stS_14, stS_15, asgT, unpT, tupT, parS, argsP, parG, immE, varE, lift, un1, op2, andE, orE, notE, ifE, chainE, tru, argsD, tupE, lstE, argsO, toPar, backs, callE, vw, vws, fzO, gt, pt, bltE, isiE, isisE, tyD, imB, imI, cmpF, cmpD, binD_add, binD_sub, augD, sliE, optE, sliD, itE, argsI, hid_im, hid_tl, hid_n, mutE, mtF, appF, isOl, setiS, setF, endF, outO, finsOf_f, finsOf_t, finsOf_n, fxOf, raiseS, seqF, seqD, nameT, unhS, List.replicate, List.cons_append, List.nil_append, List.contains, List.elem, Option.map, Option.bind, ltD_int, leD_int, eqD_int, eqD_str, Bool.not_true, Bool.not_false, Bool.false_eq_true, if_true, if_false]
  simp only [im] at e
  simp only [b_are_times_0, im, t_is_sized (k + 1) (xs := [PyData.int t.1, .int t.2.1, .int t.2.2]) (lo := 3) (hi := 3) (by simp) (by simp), e, bltD_allT, seqS, SR.bind, Res.st, Res.bind, retS, exprS, ifS, asgS, nameG, stS_n, stS_1, stS_2, stS_3, stS_4, stS_5, stS_6, stS_7, stS_8, stS_9, stS_10, stS_11, stS_12, stS_13, stS_14, stS_15, asgT, unpT, tupT, parS, argsP, parG, immE, varE, lift, un1, op2, andE, orE, notE, ifE, chainE, tru, argsD, tupE, lstE, argsO, toPar, backs, callE, vw, vws, fzO, gt, pt, bltE, isiE, isisE, tyD, imB, imI, cmpF, cmpD, binD_add, binD_sub, augD, sliE, optE, sliD, itE, argsI, hid_im, hid_tl, hid_n, mutE, mtF, appF, isOl, setiS, setF, endF, outO, finsOf_f, finsOf_t, finsOf_n, fxOf, raiseS, seqF, seqD, nameT, unhS, List.replicate, List.cons_append, List.nil_append, List.contains, List.elem, Option.map, Option.bind, ltD_int, leD_int, eqD_int, eqD_str, Bool.not_true, Bool.not_false, Bool.false_eq_true, if_true, if_false]
theorem t_check_three (k : Nat) {ts : List T3} (h : Ts ts) : P.run (k + 7) d_check_three [im (.tuple (tL ts))] = .ok (.im .none) [none] := by
  rw [r_check_three (k + 4)]
  obtain ⟨h1, h2, h3⟩ := h
  have e0 : c_check_three_0 (k + 4) [im (.tuple (tL ts)), none] = .ok (.tl (bL ((tL ts).map fun _ => true))) [im (.tuple (tL ts)), none] := by
    rw [all_true]
    refine compE_map (fun _ => .bool true) rfl rfl (by rw [tL_len]; simp [sizeMax]; omega) fun d hd => ?_
    obtain ⟨p, hp, rfl⟩ := List.mem_map.mp hd
    refine ⟨_, rfl, rfl, ?_, rfl⟩
    have t := t_are_times3 (k + 1) (h3 p hp)
    simp only [im] at t
    simp only [ce_check_three_0, im, wipeS, t, seqS, SR.bind, Res.st, Res.bind, retS, exprS, ifS, asgS, nameG, stS_n, stS_1, stS_2, stS_3, stS_4, stS_5, stS_6, stS_7, stS_8, stS_9, stS_10, stS_11, stS_12, stS_13, stS_14, stS_15, asgT, unpT, tupT, parS, argsP, parG, immE, varE, lift, un1, op2, andE, orE, notE, ifE, chainE, tru, argsD, tupE, lstE, argsO, toPar, backs, callE, vw, vws, fzO, gt, pt, bltE, isiE, isisE, tyD, imB, imI, cmpF, cmpD, binD_add, binD_sub, augD, sliE, optE, sliD, itE, argsI, hid_im, hid_tl, hid_n, mutE, mtF, appF, isOl, setiS, setF, endF, outO, finsOf_f, finsOf_t, finsOf_n, fxOf, raiseS, seqF, seqD, nameT, unhS, List.replicate, List.cons_append, List.nil_append, List.contains, List.elem, Option.map, Option.bind, ltD_int, leD_int, eqD_int, eqD_str, Bool.not_true, Bool.not_false, Bool.false_eq_true, if_true, if_false]
  simp only [im] at e0
  simp only [b_check_three_0, im, t_is_sized (k + 3) (xs := tL ts) (lo := 1) (hi := 5) (by rw [tL_len]; omega) (by rw [tL_len]; omega), e0, bltD_allT, seqS, SR.bind, Res.st, Res.bind, retS, exprS, ifS, asgS, nameG, stS_n, stS_1, stS_2, stS_3, stS_4, stS_5, stS_6, stS_7, stS_8, stS_9, stS_10, stS_11, stS_12, stS_13, stS_14, stS_15, asgT, unpT, tupT, parS, argsP, parG, immE, varE, lift, un1, op2, andE, orE, notE, ifE, chainE, tru, argsD, tupE, lstE, argsO, toPar, backs, callE, vw, vws, fzO, gt, pt, bltE, isiE, isisE, tyD, imB, imI, cmpF, cmpD, binD_add, binD_sub, augD, sliE, optE, sliD, itE, argsI, hid_im, hid_tl, hid_n, mutE, mtF, appF, isOl, setiS, setF, endF, outO, finsOf_f, finsOf_t, finsOf_n, fxOf, raiseS, seqF, seqD, nameT, unhS, List.replicate, List.cons_append, List.nil_append, List.contains, List.elem, Option.map, Option.bind, ltD_int, leD_int, eqD_int, eqD_str, Bool.not_true, Bool.not_false, Bool.false_eq_true, if_true, if_false]
/-- the end on three machines -/
def e3 (ts : List T3) : Int → Int → Int → List Int → Int
  | _, _, c, [] => c
  | a, b, c, i :: r => e3 ts (a + (th ts i).1) (mx (a + (th ts i).1) b + (th ts i).2.1) (mx (mx (a + (th ts i).1) b + (th ts i).2.1) c + (th ts i).2.2) r
theorem mx0 {a : Int} (h : 0 ≤ a) : mx 0 a = a := by
  unfold mx
  split <;> omega
section
variable {ts : List T3} {r : List Int} {x1 x2 x3 x4 x5 : Option Sv}
theorem m_step (k : Nat) {i p : Int} {m : Int} {xs ys : List D} {t : D} {v w : Int} (sl : subD (.tuple (tL ts)) (.int i) = some (.im t)) (st : subD t (.int m) = some (.im (.int v))) (se : subD (.list xs) (.int m) = some (.im (.int w))) (ss : setF xs (.int m) (.int (mx p w + v)) = some ys) : lb_raw_three_0 k [im (.tuple (tL ts)), x1, some (.ol xs), im (.int i), im (.int p), im (.int m)] = .nx [im (.tuple (tL ts)), x1, some (.ol ys), im (.int i), im (.int (mx p w + v)), im (.int m)] := by
  have b0 : w_raw_three_0_0 k [im (.tuple (tL ts)), x1, some (.ol xs), im (.int i), im (.int p), im (.int m)] = .nx [im (.tuple (tL ts)), x1, some (.ol xs), im (.int i), im (.int (mx p w + v)), im (.int m)] := by
    simp only [w_raw_three_0_0, im, sl, st, se, mx2, seqS, SR.bind, Res.st, Res.bind, retS, exprS, ifS, asgS, nameG, stS_n, stS_1, stS_2, stS_3, stS_4, stS_5, stS_6, stS_7, stS_8, stS_9, stS_10, stS_11, stS_12, stS_13, stS_14, stS_15, asgT, unpT, tupT, parS, argsP, parG, immE, varE, lift, un1, op2, andE, orE, notE, ifE, chainE, tru, argsD, tupE, lstE, argsO, toPar, backs, callE, vw, vws, fzO, gt, pt, bltE, isiE, isisE, tyD, imB, imI, cmpF, cmpD, binD_add, binD_sub, augD, sliE, optE, sliD, itE, argsI, hid_im, hid_tl, hid_n, mutE, mtF, appF, isOl, setiS, setF, endF, outO, finsOf_f, finsOf_t, finsOf_n, fxOf, raiseS, seqF, seqD, nameT, unhS, List.replicate, List.cons_append, List.nil_append, List.contains, List.elem, Option.map, Option.bind, ltD_int, leD_int, eqD_int, eqD_str, Bool.not_true, Bool.not_false, Bool.false_eq_true, if_true, if_false]
  have b1 : w_raw_three_0_1 k [im (.tuple (tL ts)), x1, some (.ol xs), im (.int i), im (.int (mx p w + v)), im (.int m)] = .nx [im (.tuple (tL ts)), x1, some (.ol ys), im (.int i), im (.int (mx p w + v)), im (.int m)] := by
    generalize mx p w + v = z at ss
    unfold w_raw_three_0_1
    generalize setF = F at ss ⊢
    simp only [im, ss, seqS, SR.bind, Res.st, Res.bind, retS, exprS, ifS, asgS, nameG, stS_n, stS_1, stS_2, stS_3, stS_4, stS_5, stS_6, stS_7, stS_8, stS_9, stS_10, stS_11, stS_12, stS_13, stS_14, stS_15, asgT, unpT, tupT, parS, argsP, parG, immE, varE, lift, un1, op2, andE, orE, notE, ifE, chainE, tru, argsD, tupE, lstE, argsO, toPar, backs, callE, vw, vws, fzO, gt, pt, bltE, isiE, isisE, tyD, imB, imI, cmpF, cmpD, binD_add, binD_sub, augD, sliE, optE, sliD, itE, argsI, hid_im, hid_tl, hid_n, mutE, mtF, appF, isOl, setiS, setF, endF, outO, finsOf_f, finsOf_t, finsOf_n, fxOf, raiseS, seqF, seqD, nameT, unhS, List.replicate, List.cons_append, List.nil_append, List.contains, List.elem, Option.map, Option.bind, ltD_int, leD_int, eqD_int, eqD_str, Bool.not_true, Bool.not_false, Bool.false_eq_true, if_true, if_false]
  unfold lb_raw_three_0
  rw [seqS_nx b0, seqS_one, b1]
theorem for_cons {tg : MT} {body : MS} {d : D} {ds : List D} {e e1 e2 : Sl} (h1 : tg d e = some e1) (h2 : body e1 = .nx e2) : forL tg body (d :: ds) e = forL tg body ds e2 := by
  conv => lhs; unfold forL
  simp only [h1, h2]
theorem three_turn (k : Nat) {i a b c : Int} (a0 : 0 ≤ a) (i0 : 0 ≤ i) (i1 : i < ts.length) : ∃ y4 y5, lb_raw_three_1 k [im (.tuple (tL ts)), x1, some (.ol [.int a, .int b, .int c]), im (.int i), x4, x5] = .nx [im (.tuple (tL ts)), x1, some (.ol [.int (a + (th ts i).1), .int (mx (a + (th ts i).1) b + (th ts i).2.1), .int (mx (mx (a + (th ts i).1) b + (th ts i).2.1) c + (th ts i).2.2)]), im (.int i), y4, y5] := by
  have sl := sub_th i0 i1
  generalize th ts i = t at sl ⊢
  have s0 := m_step k (x1 := x1) (m := 0) (p := 0) (xs := [.int a, .int b, .int c]) (ys := [.int (mx 0 a + t.1), .int b, .int c]) sl d0 rfl rfl
  rw [mx0 a0] at s0
  have s1 := m_step k (x1 := x1) (m := 1) (p := a + t.1) (xs := [.int (a + t.1), .int b, .int c]) (ys := [.int (a + t.1), .int (mx (a + t.1) b + t.2.1), .int c]) sl d1 rfl rfl
  have s2 := m_step k (x1 := x1) (m := 2) (p := mx (a + t.1) b + t.2.1) (xs := [.int (a + t.1), .int (mx (a + t.1) b + t.2.1), .int c]) (ys := [.int (a + t.1), .int (mx (a + t.1) b + t.2.1), .int (mx (mx (a + t.1) b + t.2.1) c + t.2.2)]) sl d2 rfl rfl
  refine ⟨im (.int (mx (mx (a + t.1) b + t.2.1) c + t.2.2)), im (.int 2), ?_⟩
  have b0 : w_raw_three_1_0 k [im (.tuple (tL ts)), x1, some (.ol [.int a, .int b, .int c]), im (.int i), x4, x5] = .nx [im (.tuple (tL ts)), x1, some (.ol [.int a, .int b, .int c]), im (.int i), im (.int 0), x5] := rfl
  have lo : forL (nameT [] 5) (lb_raw_three_0 k) [.int 0, .int 1, .int 2] [im (.tuple (tL ts)), x1, some (.ol [.int a, .int b, .int c]), im (.int i), im (.int 0), x5] = .nx [im (.tuple (tL ts)), x1, some (.ol [.int (a + t.1), .int (mx (a + t.1) b + t.2.1), .int (mx (mx (a + t.1) b + t.2.1) c + t.2.2)]), im (.int i), im (.int (mx (mx (a + t.1) b + t.2.1) c + t.2.2)), im (.int 2)] := by
    rw [for_cons rfl s0, for_cons rfl s1, for_cons rfl s2]
    rfl
  unfold lb_raw_three_1
  rw [seqS_nx b0, seqS_one]
  unfold w_raw_three_1_1 l_raw_three_0
  exact forS_nx (ds := [.int 0, .int 1, .int 2]) (by kernel_rfl) lo
theorem three_loop (k : Nat) (h : Ts ts) : ∀ (r : List Int) (a b c : Int) (x3 x4 x5 : Option Sv), 0 ≤ a → (∀ i ∈ r, 0 ≤ i ∧ i < ts.length) → ∃ a' b' y3 y4 y5, forL (nameT [] 3) (lb_raw_three_1 k) (iL r) [im (.tuple (tL ts)), x1, some (.ol [.int a, .int b, .int c]), x3, x4, x5] = .nx [im (.tuple (tL ts)), x1, some (.ol [.int a', .int b', .int (e3 ts a b c r)]), y3, y4, y5]
  | [], a, b, c, x3, x4, x5, _, _ => ⟨a, b, x3, x4, x5, rfl⟩
  | i :: r, a, b, c, x3, x4, x5, a0, hr => by
    obtain ⟨i0, i1⟩ := hr i List.mem_cons_self
    obtain ⟨y4, y5, t⟩ := three_turn k (x1 := x1) (x4 := x4) (x5 := x5) (b := b) (c := c) a0 i0 i1
    have nn := th_nn h i
    obtain ⟨a', b', z3, z4, z5, ih⟩ := three_loop k h r (a + (th ts i).1) (mx (a + (th ts i).1) b + (th ts i).2.1) (mx (mx (a + (th ts i).1) b + (th ts i).2.1) c + (th ts i).2.2) (im (.int i)) y4 y5 (by omega) fun j hj => hr j (List.mem_cons_of_mem _ hj)
    refine ⟨a', b', z3, z4, z5, ?_⟩
    rw [iL_cons, for_cons (e1 := [im (.tuple (tL ts)), x1, some (.ol [.int a, .int b, .int c]), im (.int i), x4, x5]) rfl t]
    exact ih
theorem t_raw_three (k : Nat) (h : Ts ts) (hr : ∀ i ∈ r, 0 ≤ i ∧ i < ts.length) : P.run (k + 3) d_raw_three [im (.tuple (tL ts)), im (.tuple (iL r))] = .ok (.im (.int (e3 ts 0 0 0 r))) [none, none] := by
  rw [r_raw_three]
  obtain ⟨a', b', y3, y4, y5, e⟩ := three_loop k h (x1 := im (.tuple (iL r))) r 0 0 0 none none none (Int.le_refl _) hr
  have s0 : b_raw_three_0 k [im (.tuple (tL ts)), im (.tuple (iL r)), none, none, none, none] = .nx [im (.tuple (tL ts)), im (.tuple (iL r)), some (.ol [.int 0, .int 0, .int 0]), none, none, none] := rfl
  have s1 : b_raw_three_1 k [im (.tuple (tL ts)), im (.tuple (iL r)), some (.ol [.int 0, .int 0, .int 0]), none, none, none] = .nx [im (.tuple (tL ts)), im (.tuple (iL r)), some (.ol [.int a', .int b', .int (e3 ts 0 0 0 r)]), y3, y4, y5] := by
    unfold b_raw_three_1 l_raw_three_1
    exact forS_nx (ds := iL r) rfl e
  show endF [false, false] (seqS _ [im (.tuple (tL ts)), im (.tuple (iL r)), none, none, none, none]) = _
  rw [seqS_nx s0, seqS_nx s1]
  rfl
theorem l3_loop (k : Nat) : ∀ (r : List Int) (a b c : Int) (x2 : Option Sv), (∀ i ∈ r, 0 ≤ i ∧ i < ts.length) → ∃ y2 a' b', forL (nameT [] 2) (lb__law_three_end_0 k) (iL r) [im (.tuple (tL ts)), x1, x2, im (.int a), im (.int b), im (.int c)] = .nx [im (.tuple (tL ts)), x1, y2, im (.int a'), im (.int b'), im (.int (e3 ts a b c r))]
  | [], a, b, c, x2, _ => ⟨x2, a, b, rfl⟩
  | i :: r, a, b, c, x2, hr => by
    obtain ⟨i0, i1⟩ := hr i List.mem_cons_self
    have sl := sub_th i0 i1
    obtain ⟨y2, a', b', ih⟩ := l3_loop k r (a + (th ts i).1) (mx (a + (th ts i).1) b + (th ts i).2.1) (mx (mx (a + (th ts i).1) b + (th ts i).2.1) c + (th ts i).2.2) (im (.int i)) fun j hj => hr j (List.mem_cons_of_mem _ hj)
    refine ⟨y2, a', b', ?_⟩
    have t : lb__law_three_end_0 k [im (.tuple (tL ts)), x1, im (.int i), im (.int a), im (.int b), im (.int c)] = .nx [im (.tuple (tL ts)), x1, im (.int i), im (.int (a + (th ts i).1)), im (.int (mx (a + (th ts i).1) b + (th ts i).2.1)), im (.int (mx (mx (a + (th ts i).1) b + (th ts i).2.1) c + (th ts i).2.2))] := by
      generalize th ts i = t at sl ⊢
      simp only [lb__law_three_end_0, w__law_three_end_0_0, w__law_three_end_0_1, w__law_three_end_0_2, im, sl, d0, d1, d2, mx2, seqS, SR.bind, Res.st, Res.bind, retS, exprS, ifS, asgS, nameG, stS_n, stS_1, stS_2, stS_3, stS_4, stS_5, stS_6, stS_7, stS_8, stS_9, stS_10, stS_11, stS_12, stS_13, stS_14, stS_15, asgT, unpT, tupT, parS, argsP, parG, immE, varE, lift, un1, op2, andE, orE, notE, ifE, chainE, tru, argsD, tupE, lstE, argsO, toPar, backs, callE, vw, vws, fzO, gt, pt, bltE, isiE, isisE, tyD, imB, imI, cmpF, cmpD, binD_add, binD_sub, augD, sliE, optE, sliD, itE, argsI, hid_im, hid_tl, hid_n, mutE, mtF, appF, isOl, setiS, setF, endF, outO, finsOf_f, finsOf_t, finsOf_n, fxOf, raiseS, seqF, seqD, nameT, unhS, List.replicate, List.cons_append, List.nil_append, List.contains, List.elem, Option.map, Option.bind, ltD_int, leD_int, eqD_int, eqD_str, Bool.not_true, Bool.not_false, Bool.false_eq_true, if_true, if_false]
    rw [iL_cons, for_cons (e1 := [im (.tuple (tL ts)), x1, im (.int i), im (.int a), im (.int b), im (.int c)]) rfl t]
    exact ih
theorem t_l3 (k : Nat) (hr : ∀ i ∈ r, 0 ≤ i ∧ i < ts.length) : P.run (k + 3) d__law_three_end [im (.tuple (tL ts)), im (.tuple (iL r))] = .ok (.im (.int (e3 ts 0 0 0 r))) [none, none] := by
  rw [r__law_three_end]
  obtain ⟨y2, a', b', e⟩ := l3_loop k (x1 := im (.tuple (iL r))) r 0 0 0 none hr
  have s0 : b__law_three_end_0 k [im (.tuple (tL ts)), im (.tuple (iL r)), none, none, none, none] = .nx [im (.tuple (tL ts)), im (.tuple (iL r)), none, im (.int 0), im (.int 0), im (.int 0)] := rfl
  have s1 : b__law_three_end_1 k [im (.tuple (tL ts)), im (.tuple (iL r)), none, im (.int 0), im (.int 0), im (.int 0)] = .nx [im (.tuple (tL ts)), im (.tuple (iL r)), y2, im (.int a'), im (.int b'), im (.int (e3 ts 0 0 0 r))] := by
    unfold b__law_three_end_1 l__law_three_end_0
    exact forS_nx (ds := iL r) rfl e
  show endF [false, false] (seqS _ [im (.tuple (tL ts)), im (.tuple (iL r)), none, none, none, none]) = _
  rw [seqS_nx s0, seqS_nx s1]
  rfl
theorem len_t {N : Int} (h : N = ts.length) : bltD .len [.tuple (tL ts)] = some (.im (.int N)) := by
  rw [h]
  show imI _ = _
  rw [tL_len]
  rfl
theorem ord_ok {F : Sl → CRes} {a b : D} {N : Int} {A : MS} (hl : bltD .len [a] = some (.im (.int N))) (hF : F [im b, im (.int N)] = .ok (.im (.bool true)) [none, none]) : ifS (notE (callE [false, false] F [(varE 1), (bltE (bltD .len) [(varE 0)])])) A (seqS []) [im a, im b] = .nx [im a, im b] := by
  simp only [im, hl, hF, seqS, SR.bind, Res.st, Res.bind, retS, exprS, ifS, asgS, nameG, stS_n, stS_1, stS_2, stS_3, stS_4, stS_5, stS_6, stS_7, stS_8, stS_9, stS_10, stS_11, stS_12, stS_13, stS_14, stS_15, asgT, unpT, tupT, parS, argsP, parG, immE, varE, lift, un1, op2, andE, orE, notE, ifE, chainE, tru, argsD, tupE, lstE, argsO, toPar, backs, callE, vw, vws, fzO, gt, pt, bltE, isiE, isisE, tyD, imB, imI, cmpF, cmpD, binD_add, binD_sub, augD, sliE, optE, sliD, itE, argsI, hid_im, hid_tl, hid_n, mutE, mtF, appF, isOl, setiS, setF, endF, outO, finsOf_f, finsOf_t, finsOf_n, fxOf, raiseS, seqF, seqD, nameT, unhS, List.replicate, List.cons_append, List.nil_append, List.contains, List.elem, Option.map, Option.bind, ltD_int, leD_int, eqD_int, eqD_str, Bool.not_true, Bool.not_false, Bool.false_eq_true, if_true, if_false]
theorem t_three_end (k : Nat) (h : Ts ts) (hr : Row ts.length r) : P.run (k + 9) d_three_end [im (.tuple (tL ts)), im (.tuple (iL r))] = .ok (.im (.int (e3 ts 0 0 0 r))) [none, none] := by
  rw [r_three_end (k + 6)]
  have s0 : b_three_end_0 (k + 6) [im (.tuple (tL ts)), im (.tuple (iL r))] = .nx [im (.tuple (tL ts)), im (.tuple (iL r))] := by
    have c := t_check_three (k + 1) h
    simp only [im] at c
    simp only [b_three_end_0, im, c, seqS, SR.bind, Res.st, Res.bind, retS, exprS, ifS, asgS, nameG, stS_n, stS_1, stS_2, stS_3, stS_4, stS_5, stS_6, stS_7, stS_8, stS_9, stS_10, stS_11, stS_12, stS_13, stS_14, stS_15, asgT, unpT, tupT, parS, argsP, parG, immE, varE, lift, un1, op2, andE, orE, notE, ifE, chainE, tru, argsD, tupE, lstE, argsO, toPar, backs, callE, vw, vws, fzO, gt, pt, bltE, isiE, isisE, tyD, imB, imI, cmpF, cmpD, binD_add, binD_sub, augD, sliE, optE, sliD, itE, argsI, hid_im, hid_tl, hid_n, mutE, mtF, appF, isOl, setiS, setF, endF, outO, finsOf_f, finsOf_t, finsOf_n, fxOf, raiseS, seqF, seqD, nameT, unhS, List.replicate, List.cons_append, List.nil_append, List.contains, List.elem, Option.map, Option.bind, ltD_int, leD_int, eqD_int, eqD_str, Bool.not_true, Bool.not_false, Bool.false_eq_true, if_true, if_false]
  have s1 : b_three_end_1 (k + 6) [im (.tuple (tL ts)), im (.tuple (iL r))] = .nx [im (.tuple (tL ts)), im (.tuple (iL r))] := ord_ok (len_t rfl) (t_are_all (k + 3) hr (by have := h.2.1; omega))
  have s2 : b_three_end_2 (k + 6) [im (.tuple (tL ts)), im (.tuple (iL r))] = .rt (.im (.int (e3 ts 0 0 0 r))) [im (.tuple (tL ts)), im (.tuple (iL r))] := retS_ok (call2 rfl rfl (t_raw_three (k + 5) h hr.2.2))
  show endF [false, false] (seqS _ [im (.tuple (tL ts)), im (.tuple (iL r))]) = _
  rw [seqS_nx s0, seqS_nx s1, seqS_one, s2]
  rfl
/-! ### the best order -/
def eD (ts : List T3) (r : List Int) : D := .tuple [.int (e3 ts 0 0 0 r), .tuple (iL r)]
def eF (ts : List T3) : D → D
  | .tuple xs => (match intsD xs with
    | some r => eD ts r
    | none => .none)
  | d => d
theorem eF_map {rs : List (List Int)} : (rL rs).map (eF ts) = rs.map (eD ts) := by
  unfold rL
  rw [List.map_map]
  refine List.map_congr_left fun r _ => ?_
  have ee : eF ts (.tuple (iL r)) = eD ts r := by simp only [eF, intsD_iL]
  exact ee
theorem alike_iL : ∀ {a b : List Int}, PySem.W.alikeAll (iL a) (iL b) = true
  | [], _ => by simp [iL, PySem.W.alikeAll]
  | _ :: _, [] => by simp [iL, PySem.W.alikeAll]
  | x :: a, y :: b => by
    rw [iL_cons, iL_cons]
    simp only [PySem.W.alikeAll, PySem.W.alike, alike_iL, Bool.and_self]
theorem eD_lt {a b : List Int} (h : PySem.W.dataLt (eD ts a) (eD ts b) = true) : e3 ts 0 0 0 a ≤ e3 ts 0 0 0 b := by
  unfold eD at h
  rw [PySem.W.dataLt_pair (by simp [PySem.W.alike]) (by simp only [PySem.W.alike, alike_iL])] at h
  by_cases z : e3 ts 0 0 0 a = e3 ts 0 0 0 b
  · omega
  · rw [if_neg (by simp [PyData.eqv, z]), PySem.W.dataLt_int] at h
    have := of_decide_eq_true h
    omega
theorem eD_ge {a b : List Int} (h : PySem.W.dataLt (eD ts a) (eD ts b) = false) : e3 ts 0 0 0 b ≤ e3 ts 0 0 0 a := by
  by_cases z : e3 ts 0 0 0 a < e3 ts 0 0 0 b
  · unfold eD at h
    rw [PySem.W.dataLt_pair (by simp [PySem.W.alike]) (by simp only [PySem.W.alike, alike_iL]), if_neg (by simp [PyData.eqv]; omega), PySem.W.dataLt_int, decide_eq_true z] at h
    cases h
  · omega
theorem min_e : ∀ {rs : List (List Int)} {q : List Int}, ∃ m, (rs.map (eD ts)).foldl (fun a y => if PySem.W.dataLt y a then y else a) (eD ts q) = eD ts m ∧ (m = q ∨ m ∈ rs) ∧ e3 ts 0 0 0 m ≤ e3 ts 0 0 0 q ∧ ∀ r ∈ rs, e3 ts 0 0 0 m ≤ e3 ts 0 0 0 r
  | [], q => ⟨q, rfl, .inl rfl, Int.le_refl _, by simp⟩
  | r :: rs, q => by
    rw [List.map_cons, List.foldl_cons]
    cases z : PySem.W.dataLt (eD ts r) (eD ts q) with
    | true =>
      obtain ⟨m, h1, h2, h3, h4⟩ := min_e (rs := rs) (q := r)
      have := eD_lt z
      refine ⟨m, by simpa using h1, ?_, by omega, fun x hx => ?_⟩
      · rcases h2 with rfl | h2
        · exact .inr List.mem_cons_self
        · exact .inr (List.mem_cons_of_mem _ h2)
      · rcases List.mem_cons.mp hx with rfl | hx
        · exact h3
        · exact h4 x hx
    | false =>
      obtain ⟨m, h1, h2, h3, h4⟩ := min_e (rs := rs) (q := q)
      have := eD_ge z
      refine ⟨m, by simpa using h1, ?_, h3, fun x hx => ?_⟩
      · rcases h2 with rfl | h2
        · exact .inl rfl
        · exact .inr (List.mem_cons_of_mem _ h2)
      · rcases List.mem_cons.mp hx with rfl | hx
        · omega
        · exact h4 x hx
theorem min_rows {rs : List (List Int)} (hn : rs ≠ []) : ∃ m ∈ rs, bltD .min [.list (rs.map (eD ts))] = some (.im (eD ts m)) ∧ ∀ r ∈ rs, e3 ts 0 0 0 m ≤ e3 ts 0 0 0 r := by
  cases rs with
  | nil => exact absurd rfl hn
  | cons q rs =>
    obtain ⟨m, h1, h2, h3, h4⟩ := min_e (ts := ts) (rs := rs) (q := q)
    have a : alikeB ((q :: rs).map (eD ts)) = true := by
      unfold alikeB
      rw [Bool.and_eq_true_iff]
      refine ⟨List.all_eq_true.mpr fun x hx => List.all_eq_true.mpr fun y hy => ?_, List.all_eq_true.mpr fun x hx => ?_⟩
      · obtain ⟨_, _, rfl⟩ := List.mem_map.mp hx
        obtain ⟨_, _, rfl⟩ := List.mem_map.mp hy
        simp only [eD, PySem.W.alike, PySem.W.alikeAll, alike_iL, Bool.and_self]
      · obtain ⟨_, _, rfl⟩ := List.mem_map.mp hx
        rfl
    have b : shps ((q :: rs).map (eD ts)) = true := shpNs_all fun d hd => by
      obtain ⟨_, _, rfl⟩ := List.mem_map.mp hd
      simp only [eD, maxDepth, shpN_tuple, shpNs_cons, shpN_int, shpNs_iL, shpNs_nil, Bool.and_self]
    rw [List.map_cons] at a b
    refine ⟨m, ?_, ?_, fun r hr => ?_⟩
    · rcases h2 with rfl | h2
      · exact List.mem_cons_self
      · exact List.mem_cons_of_mem _ h2
    · rw [List.map_cons]
      simp only [bltD, seqD, a, b, Bool.and_self, if_true, PySem.W.minD, h1]
    · rcases List.mem_cons.mp hr with rfl | hr
      · exact h3
      · exact h4 r hr
end
end Lw
end
section
set_option maxHeartbeats 1000000
namespace Lw
open PySem Ev
/-! ### the plain law: bounds, easy rows -/
def sm (f : T3 → Int) (ts : List T3) : Int := (ts.map f).sum
def fmn : List Int → Int
  | [] => 0
  | n :: ns => ns.foldl min n
def mn (f : T3 → Int) (ts : List T3) : Int := fmn (ts.map f)
theorem fmin_le : ∀ {ns : List Int} {n : Int}, ns.foldl min n ≤ n ∧ ∀ x ∈ ns, ns.foldl min n ≤ x
  | [], n => ⟨Int.le_refl _, by simp⟩
  | y :: ns, n => by
    obtain ⟨a, b⟩ := fmin_le (ns := ns) (n := min n y)
    rw [List.foldl_cons]
    refine ⟨by omega, fun x hx => ?_⟩
    rcases List.mem_cons.mp hx with rfl | hx
    · omega
    · exact b x hx
theorem mn_le {f : T3 → Int} {ts : List T3} {t : T3} (h : t ∈ ts) : mn f ts ≤ f t := by
  unfold mn fmn
  cases ts with
  | nil => simp at h
  | cons q ts =>
    rw [List.map_cons]
    obtain ⟨a, b⟩ := fmin_le (ns := ts.map f) (n := f q)
    rcases List.mem_cons.mp h with rfl | h
    · exact a
    · exact b _ (List.mem_map_of_mem h)
theorem min_mn {f : T3 → Int} {ts : List T3} (h : ts ≠ []) : bltD .min [.list (iL (ts.map f))] = some (.im (.int (mn f ts))) := by
  cases ts with
  | nil => exact absurd rfl h
  | cons t ts =>
    rw [List.map_cons]
    exact bltD_min_lst
theorem mx_ge {a b : Int} : a ≤ mx a b ∧ b ≤ mx a b := by unfold mx; split <;> omega
def sr (ts : List T3) (f : T3 → Int) (r : List Int) : Int := (r.map fun i => f (th ts i)).sum
theorem sr_cons {ts : List T3} {f : T3 → Int} {i : Int} {r : List Int} : sr ts f (i :: r) = f (th ts i) + sr ts f r := by simp [sr]
theorem rng_th {ts : List T3} : (rng ts.length).map (th ts) = ts := by
  unfold rng
  rw [List.map_map]
  refine List.ext_getElem (by simp) fun i h1 h2 => ?_
  rw [List.getElem_map, List.getElem_range]
  show th ts ((i : Nat) : Int) = _
  unfold th
  rw [List.getD_eq_getElem?_getD]
  have : ((i : Nat) : Int).toNat = i := by omega
  rw [this, List.getElem?_eq_getElem h2]
  rfl
theorem sum_perm {a b : List Int} (h : a.Perm b) : a.sum = b.sum := by
  induction h with
  | nil => rfl
  | cons x _ ih => simp [ih]
  | swap x y l => simp only [List.sum_cons]; omega
  | trans _ _ i1 i2 => exact i1.trans i2
theorem sr_row {ts : List T3} {f : T3 → Int} {r : List Int} (h : Row ts.length r) : sr ts f r = sm f ts := by
  unfold sr sm
  rw [sum_perm ((row_perm h).map fun i => f (th ts i))]
  have : (rng ts.length).map (fun i => f (th ts i)) = ts.map f := by
    conv => rhs; rw [← rng_th (ts := ts)]
    rw [List.map_map]
    rfl
  rw [this]
abbrev fw : T3 → Int := fun t => t.1
abbrev fs : T3 → Int := fun t => t.2.1
abbrev fd : T3 → Int := fun t => t.2.2
abbrev fws : T3 → Int := fun t => t.1 + t.2.1
abbrev fsd : T3 → Int := fun t => t.2.1 + t.2.2
abbrev f0 : T3 → Int := fun _ => 0
theorem e3_c {ts : List T3} : ∀ {r : List Int} {a b c : Int}, c + sr ts fd r ≤ e3 ts a b c r
  | [], a, b, c => by simp [sr, e3]
  | i :: r, a, b, c => by
    have ih := e3_c (ts := ts) (r := r) (a := a + (th ts i).1) (b := mx (a + (th ts i).1) b + (th ts i).2.1) (c := mx (mx (a + (th ts i).1) b + (th ts i).2.1) c + (th ts i).2.2)
    have m := mx_ge (a := mx (a + (th ts i).1) b + (th ts i).2.1) (b := c)
    rw [e3, sr_cons]
    show c + ((th ts i).2.2 + sr ts fd r) ≤ _
    omega
theorem e3_b {ts : List T3} : ∀ {r : List Int} {i a b c : Int}, ∃ j ∈ i :: r, b + sr ts fs (i :: r) + fd (th ts j) ≤ e3 ts a b c (i :: r)
  | [], i, a, b, c => by
    refine ⟨i, List.mem_cons_self, ?_⟩
    have m1 := mx_ge (a := a + (th ts i).1) (b := b)
    have m2 := mx_ge (a := mx (a + (th ts i).1) b + (th ts i).2.1) (b := c)
    rw [sr_cons]
    show b + ((th ts i).2.1 + 0) + (th ts i).2.2 ≤ mx (mx (a + (th ts i).1) b + (th ts i).2.1) c + (th ts i).2.2
    omega
  | k :: r, i, a, b, c => by
    obtain ⟨j, hj, ih⟩ := e3_b (ts := ts) (r := r) (i := k) (a := a + (th ts i).1) (b := mx (a + (th ts i).1) b + (th ts i).2.1) (c := mx (mx (a + (th ts i).1) b + (th ts i).2.1) c + (th ts i).2.2)
    refine ⟨j, List.mem_cons_of_mem _ hj, ?_⟩
    have m1 := mx_ge (a := a + (th ts i).1) (b := b)
    rw [e3, sr_cons]
    show b + ((th ts i).2.1 + sr ts fs (k :: r)) + fd (th ts j) ≤ _
    omega
theorem e3_a {ts : List T3} : ∀ {r : List Int} {i a b c : Int}, ∃ j ∈ i :: r, a + sr ts fw (i :: r) + fsd (th ts j) ≤ e3 ts a b c (i :: r)
  | [], i, a, b, c => by
    refine ⟨i, List.mem_cons_self, ?_⟩
    have m1 := mx_ge (a := a + (th ts i).1) (b := b)
    have m2 := mx_ge (a := mx (a + (th ts i).1) b + (th ts i).2.1) (b := c)
    rw [sr_cons]
    show a + ((th ts i).1 + 0) + ((th ts i).2.1 + (th ts i).2.2) ≤ mx (mx (a + (th ts i).1) b + (th ts i).2.1) c + (th ts i).2.2
    omega
  | k :: r, i, a, b, c => by
    obtain ⟨j, hj, ih⟩ := e3_a (ts := ts) (r := r) (i := k) (a := a + (th ts i).1) (b := mx (a + (th ts i).1) b + (th ts i).2.1) (c := mx (mx (a + (th ts i).1) b + (th ts i).2.1) c + (th ts i).2.2)
    refine ⟨j, List.mem_cons_of_mem _ hj, ?_⟩
    rw [e3, sr_cons]
    show a + ((th ts i).1 + sr ts fw (k :: r)) + fsd (th ts j) ≤ _
    omega
/-- the bounds of the three machines -/
def B0 (ts : List T3) : Int := mn f0 ts + sm fw ts + mn fsd ts
def B1 (ts : List T3) : Int := mn fw ts + sm fs ts + mn fd ts
def B2 (ts : List T3) : Int := mn fws ts + sm fd ts + mn f0 ts
theorem mn_0 : ∀ {ts : List T3}, mn f0 ts = 0
  | [] => rfl
  | t :: ts => by
    show (ts.map f0).foldl min 0 = 0
    induction ts with
    | nil => rfl
    | cons q ts ih => exact ih
theorem bounds {ts : List T3} {r : List Int} (h : Ts ts) (hr : Row ts.length r) : B0 ts ≤ e3 ts 0 0 0 r ∧ B1 ts ≤ e3 ts 0 0 0 r ∧ B2 ts ≤ e3 ts 0 0 0 r := by
  cases r with
  | nil => exact absurd rfl (row_ne hr h.1)
  | cons i r =>
    have mem : ∀ j ∈ i :: r, th ts j ∈ ts := fun j hj => th_mem (hr.2.2 j hj).1 (hr.2.2 j hj).2
    have nn := th_nn h i
    refine ⟨?_, ?_, ?_⟩
    · obtain ⟨j, hj, e⟩ := e3_a (ts := ts) (r := r) (i := i) (a := 0) (b := 0) (c := 0)
      have m := mn_le (f := fsd) (mem j hj)
      rw [sr_row hr] at e
      unfold B0
      rw [mn_0]
      omega
    · have m0 := mn_le (f := fw) (mem i List.mem_cons_self)
      have s := sr_row (f := fs) hr
      rw [sr_cons] at s
      have m1 := mx_ge (a := 0 + (th ts i).1) (b := 0)
      unfold B1
      cases r with
      | nil =>
        have m2 := mx_ge (a := mx (0 + (th ts i).1) 0 + (th ts i).2.1) (b := 0)
        have m := mn_le (f := fd) (mem i List.mem_cons_self)
        have s0 : sr ts fs [] = 0 := rfl
        show _ ≤ mx (mx (0 + (th ts i).1) 0 + (th ts i).2.1) 0 + (th ts i).2.2
        simp only [fs, fw, fd] at s m m0
        omega
      | cons k r =>
        obtain ⟨j, hj, e⟩ := e3_b (ts := ts) (r := r) (i := k) (a := 0 + (th ts i).1) (b := mx (0 + (th ts i).1) 0 + (th ts i).2.1) (c := mx (mx (0 + (th ts i).1) 0 + (th ts i).2.1) 0 + (th ts i).2.2)
        have m := mn_le (f := fd) (mem j (List.mem_cons_of_mem _ hj))
        rw [e3]
        simp only [fs, fw, fd] at s m m0 e
        omega
    · have m0 := mn_le (f := fws) (mem i List.mem_cons_self)
      have s := sr_row (f := fd) hr
      rw [sr_cons] at s
      have m1 := mx_ge (a := 0 + (th ts i).1) (b := 0)
      have m2 := mx_ge (a := mx (0 + (th ts i).1) 0 + (th ts i).2.1) (b := 0)
      have e := e3_c (ts := ts) (r := r) (a := 0 + (th ts i).1) (b := mx (0 + (th ts i).1) 0 + (th ts i).2.1) (c := mx (mx (0 + (th ts i).1) 0 + (th ts i).2.1) 0 + (th ts i).2.2)
      unfold B2
      rw [mn_0, e3]
      simp only [fd, fws] at s m0 e
      omega
/-- the pairs of a row -/
def prs (ts : List T3) : List (Int × Int) := ts.map fun t => (t.1 + t.2.1, t.2.1 + t.2.2)
theorem prs_len {ts : List T3} : (prs ts).length = ts.length := List.length_map ..
theorem ld_prs {ts : List T3} {i : Int} (h0 : 0 ≤ i) (h1 : i < ts.length) : ld (prs ts) i = ((th ts i).1 + (th ts i).2.1, (th ts i).2.1 + (th ts i).2.2) := by
  have hi : i.toNat < ts.length := by omega
  unfold ld th prs
  rw [List.getD_eq_getElem?_getD, List.getD_eq_getElem?_getD, List.getElem?_map, List.getElem?_eq_getElem hi]
  rfl
theorem mx_l {p q : Int} (h : q ≤ p) : mx p q = p := by unfold mx; rw [if_neg (by omega)]
theorem mx_r {p q : Int} (h : p ≤ q) : mx p q = q := by unfold mx; split <;> omega
/-- one step: as on two machines -/
theorem two_step {w s d a c S : Int} {e : Int} (h : e = mx (a + w + s) c) : mx (a + S + (w + s)) (c + S) + (s + d) = e + d + (S + s) := by
  rw [h]
  unfold mx
  split <;> split <;> omega
theorem two_w {ts : List T3} {M : Int} (hs : ∀ t ∈ ts, 0 ≤ t.2.1 ∧ t.2.1 ≤ M) (hw : ∀ t ∈ ts, M ≤ t.1) : ∀ {r : List Int} {a b c S : Int}, (∀ i ∈ r, 0 ≤ i ∧ i < ts.length) → b ≤ a + M → edn (prs ts) (a + S) (c + S) r = e3 ts a b c r + S + sr ts fs r
  | [], a, b, c, S, _, _ => by simp [edn, e3, sr]
  | i :: r, a, b, c, S, hr, inv => by
    obtain ⟨i0, i1⟩ := hr i List.mem_cons_self
    have tm := th_mem i0 i1
    have s1 := hs _ tm
    have w1 := hw _ tm
    rw [edn, e3, sr_cons, ld_prs i0 i1]
    simp only [fs]
    generalize th ts i = t at tm s1 w1 ⊢
    have k1 : mx (a + t.1) b = a + t.1 := mx_l (by omega)
    rw [k1, two_step (e := mx (a + t.1 + t.2.1) c) rfl]
    have e1 : a + S + (t.1 + t.2.1) = a + t.1 + (S + t.2.1) := by omega
    rw [e1, two_w hs hw (r := r) (b := a + t.1 + t.2.1) (fun j hj => hr j (List.mem_cons_of_mem _ hj)) (by omega)]
    omega
theorem two_d {ts : List T3} {M : Int} (h0 : ∀ t ∈ ts, 0 ≤ t.1) (hs : ∀ t ∈ ts, 0 ≤ t.2.1 ∧ t.2.1 ≤ M) (hd : ∀ t ∈ ts, M ≤ t.2.2) : ∀ {r : List Int} {a b c S : Int}, (∀ i ∈ r, 0 ≤ i ∧ i < ts.length) → (b ≤ a ∨ b + M ≤ c) → edn (prs ts) (a + S) (c + S) r = e3 ts a b c r + S + sr ts fs r
  | [], a, b, c, S, _, _ => by simp [edn, e3, sr]
  | i :: r, a, b, c, S, hr, inv => by
    obtain ⟨i0, i1⟩ := hr i List.mem_cons_self
    have tm := th_mem i0 i1
    have s1 := hs _ tm
    have d1 := hd _ tm
    have w1 := h0 _ tm
    rw [edn, e3, sr_cons, ld_prs i0 i1]
    simp only [fs]
    generalize th ts i = t at tm s1 d1 w1 ⊢
    have k1 : mx (mx (a + t.1) b + t.2.1) c = mx (a + t.1 + t.2.1) c := by
      rcases inv with h | h
      · rw [mx_l (p := a + t.1) (q := b) (by omega)]
      · by_cases z : b ≤ a + t.1
        · rw [mx_l z]
        · rw [mx_r (p := a + t.1) (q := b) (by omega), mx_r (by omega), mx_r (by omega)]
    have g := mx_ge (a := mx (a + t.1) b + t.2.1) (b := c)
    rw [two_step (e := mx (mx (a + t.1) b + t.2.1) c) k1]
    have e1 : a + S + (t.1 + t.2.1) = a + t.1 + (S + t.2.1) := by omega
    rw [e1, two_d h0 hs hd (r := r) (b := mx (a + t.1) b + t.2.1) (fun j hj => hr j (List.mem_cons_of_mem _ hj)) (.inr (by omega))]
    omega
/-- is it easy -/
def mxs (ts : List T3) : Int := match ts.map fs with
  | [] => 0
  | n :: ns => ns.foldl max n
def esy (ts : List T3) : Bool := decide (mxs ts ≤ mn fw ts) || decide (mxs ts ≤ mn fd ts)
theorem mxs_ge {ts : List T3} {t : T3} (h : t ∈ ts) : t.2.1 ≤ mxs ts := by
  unfold mxs
  cases ts with
  | nil => simp at h
  | cons q ts =>
    rw [List.map_cons]
    obtain ⟨a, b⟩ := foldl_max_ge (ts.map fs) (fs q)
    rcases List.mem_cons.mp h with rfl | h
    · exact a
    · exact b _ (List.mem_map_of_mem h)
theorem easy_eq {ts : List T3} (h : Ts ts) (he : esy ts = true) {r : List Int} (hr : Row ts.length r) : edn (prs ts) 0 0 r = e3 ts 0 0 0 r + sm fs ts := by
  have hs : ∀ t ∈ ts, 0 ≤ t.2.1 ∧ t.2.1 ≤ mxs ts := fun t ht => ⟨(h.2.2 t ht).2.2.1, mxs_ge ht⟩
  have h0 : ∀ t ∈ ts, 0 ≤ t.1 := fun t ht => (h.2.2 t ht).1
  have m0 : 0 ≤ mxs ts := by
    cases ts with
    | nil => exact Int.le_refl _
    | cons t ts => have := hs t List.mem_cons_self; omega
  unfold esy at he
  rw [Bool.or_eq_true, decide_eq_true_eq, decide_eq_true_eq] at he
  rcases he with he | he
  · have := two_w (S := 0) (a := 0) (b := 0) (c := 0) hs (fun t ht => by have := mn_le (f := fw) ht; simp only [fw] at this he; omega) hr.2.2 (by omega)
    rw [sr_row hr] at this
    simpa using this
  · have := two_d (S := 0) (a := 0) (b := 0) (c := 0) h0 hs (fun t ht => by have := mn_le (f := fd) ht; simp only [fd] at this he; omega) hr.2.2 (.inl (Int.le_refl _))
    rw [sr_row hr] at this
    simpa using this
/-- easy rows: Johnson's order of the pairs is as early as any -/
theorem easy_best {ts : List T3} (h : Ts ts) (he : esy ts = true) {m : List Int} (hm : Row ts.length m) (least : ∀ r ∈ lev ts.length ts.length, e3 ts 0 0 0 m ≤ e3 ts 0 0 0 r) : e3 ts 0 0 0 (jo (prs ts)) = e3 ts 0 0 0 m := by
  have jr : Row ts.length (jo (prs ts)) := by have := jo_row (ps := prs ts); rw [prs_len] at this; exact this
  have l1 := least _ (lev_row.mpr jr)
  have l2 := jo_least (ps := prs ts) (r := m) (by rw [prs_len]; exact hm)
  rw [easy_eq h he jr, easy_eq h he hm] at l2
  omega
end Lw
end
section
set_option maxHeartbeats 1000000
namespace Lw
open PySem Ev
def lif (f : T3 → Int) : D → D
  | .tuple [.int a, .int b, .int c] => .int (f (a, b, c))
  | d => d
theorem lif_map {f : T3 → Int} {ts : List T3} : (tL ts).map (lif f) = iL (ts.map f) := by
  unfold tL iL
  rw [List.map_map, List.map_map]
  rfl
theorem sum_sm {f : T3 → Int} {ts : List T3} : bltD .sum [.list (iL (ts.map f))] = some (.im (.int (sm f ts))) := bltD_sum_lst
theorem max_mxs {ts : List T3} (h : ts ≠ []) : bltD .max [.list (iL (ts.map fs))] = some (.im (.int (mxs ts))) := by
  cases ts with
  | nil => exact absurd rfl h
  | cons t ts => exact bltD_max_lst
section
variable {ts : List T3} {r : List Int} {x1 x2 x3 x4 x5 : Option Sv}
theorem ts_ne (h : Ts ts) : ts ≠ [] := by
  intro e
  have := h.1
  rw [e, List.length_nil] at this
  omega
theorem t_orders (k : Nat) (h : Ts ts) : P.run (k + 4) d_orders_of [im (.tuple (tL ts))] = .ok (.im (.list (rL (lev ts.length ts.length)))) [none] := by
  rw [r_orders_of (k + 1)]
  have s0 : b_orders_of_0 (k + 1) [im (.tuple (tL ts))] = .rt (.im (.list (rL (lev ts.length ts.length)))) [im (.tuple (tL ts))] := by
    unfold b_orders_of_0
    exact orders_call (len_t rfl) (rngD_n (by have := h.2.1; omega)) (t_all_rows k (by have := h.2.1; omega) h.1)
  show endF [false] (seqS _ [im (.tuple (tL ts))]) = _
  rw [seqS_one, s0]
  rfl
theorem lev_small (h : Ts ts) : (lev ts.length ts.length).length ≤ 46656 := by
  have := lev_len (n := ts.length) (m := ts.length)
  have := pow_small (n := ts.length) (m := ts.length) (by have := h.2.1; omega) h.1 (by have := h.2.1; omega)
  omega
theorem told_elt {F : Sl → CRes} {a b : D} {i : Int} (hF : F [im a, im b] = .ok (.im (.int i)) [none, none]) : tupE [(callE [false, false] F [(varE 0), (varE 1)]), (varE 1)] [im a, im b] = .ok (.im (.tuple [.int i, b])) [im a, im b] := by
  simp only [im, hF, seqS, SR.bind, Res.st, Res.bind, retS, exprS, ifS, asgS, nameG, stS_n, stS_1, stS_2, stS_3, stS_4, stS_5, stS_6, stS_7, stS_8, stS_9, stS_10, stS_11, stS_12, stS_13, stS_14, stS_15, asgT, unpT, tupT, parS, argsP, parG, immE, varE, lift, un1, op2, andE, orE, notE, ifE, chainE, tru, argsD, tupE, lstE, argsO, toPar, backs, callE, vw, vws, fzO, gt, pt, bltE, isiE, isisE, tyD, imB, imI, cmpF, cmpD, binD_add, binD_sub, augD, sliE, optE, sliD, itE, argsI, hid_im, hid_tl, hid_n, mutE, mtF, appF, isOl, setiS, setF, endF, outO, finsOf_f, finsOf_t, finsOf_n, fxOf, raiseS, seqF, seqD, nameT, unhS, List.replicate, List.cons_append, List.nil_append, List.contains, List.elem, Option.map, Option.bind, ltD_int, leD_int, eqD_int, eqD_str, Bool.not_true, Bool.not_false, Bool.false_eq_true, if_true, if_false]
theorem t_three_told (k : Nat) (h : Ts ts) {m : List Int} (hm : bltD .min [.list ((lev ts.length ts.length).map (eD ts))] = some (.im (eD ts m))) : P.run (k + 8) d_three_told [im (.tuple (tL ts))] = .ok (.im (eD ts m)) [none] := by
  rw [r_three_told (k + 5)]
  have s0 : b_three_told_0 (k + 5) [im (.tuple (tL ts)), none] = .nx [im (.tuple (tL ts)), none] := by
    have c := t_check_three k h
    simp only [im] at c
    simp only [b_three_told_0, im, c, seqS, SR.bind, Res.st, Res.bind, retS, exprS, ifS, asgS, nameG, stS_n, stS_1, stS_2, stS_3, stS_4, stS_5, stS_6, stS_7, stS_8, stS_9, stS_10, stS_11, stS_12, stS_13, stS_14, stS_15, asgT, unpT, tupT, parS, argsP, parG, immE, varE, lift, un1, op2, andE, orE, notE, ifE, chainE, tru, argsD, tupE, lstE, argsO, toPar, backs, callE, vw, vws, fzO, gt, pt, bltE, isiE, isisE, tyD, imB, imI, cmpF, cmpD, binD_add, binD_sub, augD, sliE, optE, sliD, itE, argsI, hid_im, hid_tl, hid_n, mutE, mtF, appF, isOl, setiS, setF, endF, outO, finsOf_f, finsOf_t, finsOf_n, fxOf, raiseS, seqF, seqD, nameT, unhS, List.replicate, List.cons_append, List.nil_append, List.contains, List.elem, Option.map, Option.bind, ltD_int, leD_int, eqD_int, eqD_str, Bool.not_true, Bool.not_false, Bool.false_eq_true, if_true, if_false]
  have ls := lev_small h
  have e : c_three_told_0 (k + 5) [im (.tuple (tL ts)), none] = .ok (.tl ((rL (lev ts.length ts.length)).map (eF ts))) [im (.tuple (tL ts)), none] := by
    refine compE_map (eF ts) (seq_call (t_orders (k + 3) h)) rfl (by rw [rL_len]; simp [sizeMax]; omega) fun d hd => ?_
    obtain ⟨r, hr, rfl⟩ := List.mem_map.mp hd
    have row := lev_row.mp hr
    refine ⟨[im (.tuple (tL ts)), im (.tuple (iL r))], rfl, rfl, ?_, rfl⟩
    have ee : eF ts (.tuple (iL r)) = eD ts r := by simp only [eF, intsD_iL]
    rw [ee]
    exact told_elt (t_raw_three (k + 4) h row.2.2)
  rw [eF_map] at e
  have s1 : b_three_told_1 (k + 5) [im (.tuple (tL ts)), none] = .rt (.im (eD ts m)) [im (.tuple (tL ts)), none] := retS_ok (blt_of e hm)
  show endF [false] (seqS _ [im (.tuple (tL ts)), none]) = _
  rw [seqS_nx s0, seqS_one, s1]
  rfl
/-! ### the bound -/
theorem bd_comp {elt : ME} {f : T3 → Int} {xs : List D} {m : Int} (hl : ts.length ≤ 100) (he : ∀ t : T3, elt [im (.tuple (tL ts)), some (.ol xs), im (.int m), x3, x4, im (tD t)] = .ok (.im (.int (f t))) [im (.tuple (tL ts)), some (.ol xs), im (.int m), x3, x4, im (tD t)]) : compE [5] (itE [] seqF [(varE 0)]) (nameT [] 5) (condE []) elt [im (.tuple (tL ts)), some (.ol xs), im (.int m), x3, x4, none] = .ok (.tl (iL (ts.map f))) [im (.tuple (tL ts)), some (.ol xs), im (.int m), x3, x4, none] := by
  rw [← lif_map]
  refine compE_map (lif f) rfl rfl (by rw [tL_len]; simp [sizeMax]; omega) fun d hd => ?_
  obtain ⟨t, ht, rfl⟩ := List.mem_map.mp hd
  exact ⟨[im (.tuple (tL ts)), some (.ol xs), im (.int m), x3, x4, im (tD t)], rfl, rfl, he t, rfl⟩
theorem sl_lo {m : Int} {d : D} {ys xs : List D} {i : Int} (hs : bltD .sum [.tuple (cutL ys none (some m))] = some (.im (.int i))) : bltE (bltD .sum) [(sliE (varE 5) none (some (varE 2)))] [x1, some (.ol xs), im (.int m), x3, x4, im (.tuple ys)] = .ok (.im (.int i)) [x1, some (.ol xs), im (.int m), x3, x4, im (.tuple ys)] := by
  simp only [im, hs, seqS, SR.bind, Res.st, Res.bind, retS, exprS, ifS, asgS, nameG, stS_n, stS_1, stS_2, stS_3, stS_4, stS_5, stS_6, stS_7, stS_8, stS_9, stS_10, stS_11, stS_12, stS_13, stS_14, stS_15, asgT, unpT, tupT, parS, argsP, parG, immE, varE, lift, un1, op2, andE, orE, notE, ifE, chainE, tru, argsD, tupE, lstE, argsO, toPar, backs, callE, vw, vws, fzO, gt, pt, bltE, isiE, isisE, tyD, imB, imI, cmpF, cmpD, binD_add, binD_sub, augD, sliE, optE, sliD, itE, argsI, hid_im, hid_tl, hid_n, mutE, mtF, appF, isOl, setiS, setF, endF, outO, finsOf_f, finsOf_t, finsOf_n, fxOf, raiseS, seqF, seqD, nameT, unhS, List.replicate, List.cons_append, List.nil_append, List.contains, List.elem, Option.map, Option.bind, ltD_int, leD_int, eqD_int, eqD_str, Bool.not_true, Bool.not_false, Bool.false_eq_true, if_true, if_false]
theorem sl_hi {m : Int} {ys xs : List D} {i : Int} (hs : bltD .sum [.tuple (cutL ys (some (m + 1)) none)] = some (.im (.int i))) : bltE (bltD .sum) [(sliE (varE 5) (some (op2 (binD .Add) (varE 2) (immE (.int 1)))) none)] [x1, some (.ol xs), im (.int m), x3, x4, im (.tuple ys)] = .ok (.im (.int i)) [x1, some (.ol xs), im (.int m), x3, x4, im (.tuple ys)] := by
  simp only [im, hs, seqS, SR.bind, Res.st, Res.bind, retS, exprS, ifS, asgS, nameG, stS_n, stS_1, stS_2, stS_3, stS_4, stS_5, stS_6, stS_7, stS_8, stS_9, stS_10, stS_11, stS_12, stS_13, stS_14, stS_15, asgT, unpT, tupT, parS, argsP, parG, immE, varE, lift, un1, op2, andE, orE, notE, ifE, chainE, tru, argsD, tupE, lstE, argsO, toPar, backs, callE, vw, vws, fzO, gt, pt, bltE, isiE, isisE, tyD, imB, imI, cmpF, cmpD, binD_add, binD_sub, augD, sliE, optE, sliD, itE, argsI, hid_im, hid_tl, hid_n, mutE, mtF, appF, isOl, setiS, setF, endF, outO, finsOf_f, finsOf_t, finsOf_n, fxOf, raiseS, seqF, seqD, nameT, unhS, List.replicate, List.cons_append, List.nil_append, List.contains, List.elem, Option.map, Option.bind, ltD_int, leD_int, eqD_int, eqD_str, Bool.not_true, Bool.not_false, Bool.false_eq_true, if_true, if_false]
theorem bd_step (k : Nat) (h : Ts ts) {m : Int} {pf af sf : T3 → Int} {ns : List Int} (hn : ns.length ≤ 10)
    (h0 : ∀ t : T3, bltD .sum [.tuple (cutL [.int t.1, .int t.2.1, .int t.2.2] none (some m))] = some (.im (.int (pf t))))
    (h1 : ∀ t : T3, bltD .sum [.tuple (cutL [.int t.1, .int t.2.1, .int t.2.2] (some (m + 1)) none)] = some (.im (.int (sf t))))
    (h2 : ∀ t : T3, subD (tD t) (.int m) = some (.im (.int (af t)))) : lb_three_bound_0 k [im (.tuple (tL ts)), some (.ol (iL ns)), im (.int m), x3, x4, none] = .nx [im (.tuple (tL ts)), some (.ol (iL (ns ++ [mn pf ts + sm af ts + mn sf ts]))), im (.int m), im (.int (mn pf ts)), im (.int (mn sf ts)), none] := by
  have hl : ts.length ≤ 100 := by have := h.2.1; omega
  have hne := ts_ne h
  have b0 : w_three_bound_0_0 k [im (.tuple (tL ts)), some (.ol (iL ns)), im (.int m), x3, x4, none] = .nx [im (.tuple (tL ts)), some (.ol (iL ns)), im (.int m), im (.int (mn pf ts)), x4, none] :=
    asgS_im (blt_of (bd_comp hl fun t => sl_lo (d := .none) (h0 t)) (min_mn hne)) rfl
  have b1 : w_three_bound_0_1 k [im (.tuple (tL ts)), some (.ol (iL ns)), im (.int m), im (.int (mn pf ts)), x4, none] = .nx [im (.tuple (tL ts)), some (.ol (iL ns)), im (.int m), im (.int (mn pf ts)), im (.int (mn sf ts)), none] :=
    asgS_im (blt_of (bd_comp hl fun t => sl_hi (h1 t)) (min_mn hne)) rfl
  have e2 : bltE (bltD .sum) [(c_three_bound_2 k)] [im (.tuple (tL ts)), some (.ol (iL ns)), im (.int m), im (.int (mn pf ts)), im (.int (mn sf ts)), none] = .ok (.im (.int (sm af ts))) [im (.tuple (tL ts)), some (.ol (iL ns)), im (.int m), im (.int (mn pf ts)), im (.int (mn sf ts)), none] :=
    blt_of (bd_comp hl fun t => by
      have := h2 t
      simp only [ce_three_bound_2, im, this, seqS, SR.bind, Res.st, Res.bind, retS, exprS, ifS, asgS, nameG, stS_n, stS_1, stS_2, stS_3, stS_4, stS_5, stS_6, stS_7, stS_8, stS_9, stS_10, stS_11, stS_12, stS_13, stS_14, stS_15, asgT, unpT, tupT, parS, argsP, parG, immE, varE, lift, un1, op2, andE, orE, notE, ifE, chainE, tru, argsD, tupE, lstE, argsO, toPar, backs, callE, vw, vws, fzO, gt, pt, bltE, isiE, isisE, tyD, imB, imI, cmpF, cmpD, binD_add, binD_sub, augD, sliE, optE, sliD, itE, argsI, hid_im, hid_tl, hid_n, mutE, mtF, appF, isOl, setiS, setF, endF, outO, finsOf_f, finsOf_t, finsOf_n, fxOf, raiseS, seqF, seqD, nameT, unhS, List.replicate, List.cons_append, List.nil_append, List.contains, List.elem, Option.map, Option.bind, ltD_int, leD_int, eqD_int, eqD_str, Bool.not_true, Bool.not_false, Bool.false_eq_true, if_true, if_false]) sum_sm
  have b2 : w_three_bound_0_2 k [im (.tuple (tL ts)), some (.ol (iL ns)), im (.int m), im (.int (mn pf ts)), im (.int (mn sf ts)), none] = .nx [im (.tuple (tL ts)), some (.ol (iL (ns ++ [mn pf ts + sm af ts + mn sf ts]))), im (.int m), im (.int (mn pf ts)), im (.int (mn sf ts)), none] := by
    have l : (iL ns).length < sizeMax := by rw [iL_len]; simp [sizeMax]; omega
    have ap : iL ns ++ [.int (mn pf ts + sm af ts + mn sf ts)] = iL (ns ++ [mn pf ts + sm af ts + mn sf ts]) := by rw [iL_app]; rfl
    unfold w_three_bound_0_2
    generalize bltE (bltD .sum) [(c_three_bound_2 k)] = M at e2 ⊢
    generalize mn pf ts = p at e2 ap ⊢
    generalize mn sf ts = q at e2 ap ⊢
    generalize sm af ts = u at e2 ap ⊢
    simp only [im] at e2
    simp only [im, e2, l, ap, decide_true, seqS, SR.bind, Res.st, Res.bind, retS, exprS, ifS, asgS, nameG, stS_n, stS_1, stS_2, stS_3, stS_4, stS_5, stS_6, stS_7, stS_8, stS_9, stS_10, stS_11, stS_12, stS_13, stS_14, stS_15, asgT, unpT, tupT, parS, argsP, parG, immE, varE, lift, un1, op2, andE, orE, notE, ifE, chainE, tru, argsD, tupE, lstE, argsO, toPar, backs, callE, vw, vws, fzO, gt, pt, bltE, isiE, isisE, tyD, imB, imI, cmpF, cmpD, binD_add, binD_sub, augD, sliE, optE, sliD, itE, argsI, hid_im, hid_tl, hid_n, mutE, mtF, appF, isOl, setiS, setF, endF, outO, finsOf_f, finsOf_t, finsOf_n, fxOf, raiseS, seqF, seqD, nameT, unhS, List.replicate, List.cons_append, List.nil_append, List.contains, List.elem, Option.map, Option.bind, ltD_int, leD_int, eqD_int, eqD_str, Bool.not_true, Bool.not_false, Bool.false_eq_true, if_true, if_false]
  unfold lb_three_bound_0
  rw [seqS_nx b0, seqS_nx b1, seqS_one, b2]
/-- the bound of all three -/
def bnd (ts : List T3) : Int := [B1 ts, B2 ts].foldl max (B0 ts)
theorem ints1 {a : Int} : bltD .sum [.tuple [.int a]] = some (.im (.int a)) := by
  have := bltD_sum_tup (ns := [a])
  simpa [imI, iL] using this
theorem ints2 {a b : Int} : bltD .sum [.tuple [.int a, .int b]] = some (.im (.int (a + b))) := by
  have := bltD_sum_tup (ns := [a, b])
  simpa [imI, iL] using this
theorem t_three_bound (k : Nat) (h : Ts ts) : P.run (k + 8) d_three_bound [im (.tuple (tL ts))] = .ok (.im (.int (bnd ts))) [none] := by
  rw [r_three_bound (k + 5)]
  have s0 : b_three_bound_0 (k + 5) [im (.tuple (tL ts)), none, none, none, none, none] = .nx [im (.tuple (tL ts)), none, none, none, none, none] := by
    have c := t_check_three k h
    simp only [im] at c
    simp only [b_three_bound_0, im, c, seqS, SR.bind, Res.st, Res.bind, retS, exprS, ifS, asgS, nameG, stS_n, stS_1, stS_2, stS_3, stS_4, stS_5, stS_6, stS_7, stS_8, stS_9, stS_10, stS_11, stS_12, stS_13, stS_14, stS_15, asgT, unpT, tupT, parS, argsP, parG, immE, varE, lift, un1, op2, andE, orE, notE, ifE, chainE, tru, argsD, tupE, lstE, argsO, toPar, backs, callE, vw, vws, fzO, gt, pt, bltE, isiE, isisE, tyD, imB, imI, cmpF, cmpD, binD_add, binD_sub, augD, sliE, optE, sliD, itE, argsI, hid_im, hid_tl, hid_n, mutE, mtF, appF, isOl, setiS, setF, endF, outO, finsOf_f, finsOf_t, finsOf_n, fxOf, raiseS, seqF, seqD, nameT, unhS, List.replicate, List.cons_append, List.nil_append, List.contains, List.elem, Option.map, Option.bind, ltD_int, leD_int, eqD_int, eqD_str, Bool.not_true, Bool.not_false, Bool.false_eq_true, if_true, if_false]
  have s1 : b_three_bound_1 (k + 5) [im (.tuple (tL ts)), none, none, none, none, none] = .nx [im (.tuple (tL ts)), some (.ol (iL [])), none, none, none, none] := rfl
  have a0 := bd_step (k + 5) h (m := 0) (pf := f0) (af := fw) (sf := fsd) (ns := []) (x3 := none) (x4 := none) (by simp) (fun t => rfl) (fun t => ints2) (fun t => rfl)
  have a1 := bd_step (k + 5) h (m := 1) (pf := fw) (af := fs) (sf := fd) (ns := [B0 ts]) (x3 := im (.int (mn f0 ts))) (x4 := im (.int (mn fsd ts))) (by simp) (fun t => ints1) (fun t => ints1) (fun t => rfl)
  have a2 := bd_step (k + 5) h (m := 2) (pf := fws) (af := fd) (sf := f0) (ns := [B0 ts, B1 ts]) (x3 := im (.int (mn fw ts))) (x4 := im (.int (mn fd ts))) (by simp) (fun t => ints2) (fun t => rfl) (fun t => rfl)
  have lo : forL (nameT [] 2) (lb_three_bound_0 (k + 5)) [.int 0, .int 1, .int 2] [im (.tuple (tL ts)), some (.ol (iL [])), none, none, none, none] = .nx [im (.tuple (tL ts)), some (.ol (iL [B0 ts, B1 ts, B2 ts])), im (.int 2), im (.int (mn fws ts)), im (.int (mn f0 ts)), none] := by
    rw [for_cons (e1 := [im (.tuple (tL ts)), some (.ol (iL [])), im (.int 0), none, none, none]) rfl a0, for_cons (e1 := [im (.tuple (tL ts)), some (.ol (iL [B0 ts])), im (.int 1), im (.int (mn f0 ts)), im (.int (mn fsd ts)), none]) rfl a1, for_cons (e1 := [im (.tuple (tL ts)), some (.ol (iL [B0 ts, B1 ts])), im (.int 2), im (.int (mn fw ts)), im (.int (mn fd ts)), none]) rfl a2]
    rfl
  have s2 : b_three_bound_2 (k + 5) [im (.tuple (tL ts)), some (.ol (iL [])), none, none, none, none] = .nx [im (.tuple (tL ts)), some (.ol (iL [B0 ts, B1 ts, B2 ts])), im (.int 2), im (.int (mn fws ts)), im (.int (mn f0 ts)), none] := by
    unfold b_three_bound_2 l_three_bound_0
    exact forS_nx (ds := [.int 0, .int 1, .int 2]) (by kernel_rfl) lo
  have s3 : b_three_bound_3 (k + 5) [im (.tuple (tL ts)), some (.ol (iL [B0 ts, B1 ts, B2 ts])), im (.int 2), im (.int (mn fws ts)), im (.int (mn f0 ts)), none] = .rt (.im (.int (bnd ts))) [im (.tuple (tL ts)), some (.ol (iL [B0 ts, B1 ts, B2 ts])), im (.int 2), im (.int (mn fws ts)), im (.int (mn f0 ts)), none] :=
    retS_ok (var_ol rfl bltD_max_lst)
  show endF [false] (seqS _ [im (.tuple (tL ts)), none, none, none, none, none]) = _
  rw [seqS_nx s0, seqS_nx s1, seqS_nx s2, seqS_one, s3]
  rfl
/-! ### pairs -/
def prF : D → D
  | .tuple [.int a, .int b, .int c] => .tuple [.int (a + b), .int (b + c)]
  | d => d
theorem pr_map : (tL ts).map prF = hL (prs ts) := by
  unfold tL hL prs
  rw [List.map_map, List.map_map]
  rfl
theorem t_raw_pairs (k : Nat) (h : Ts ts) : P.run (k + 4) d_raw_pairs [im (.tuple (tL ts))] = .ok (.im (.tuple (iL (jo (prs ts))))) [none] := by
  rw [r_raw_pairs (k + 1)]
  have e : c_raw_pairs_0 (k + 1) [im (.tuple (tL ts)), none, none, none] = .ok (.tl ((tL ts).map prF)) [im (.tuple (tL ts)), none, none, none] := by
    refine compE_map prF rfl rfl (by rw [tL_len]; have := h.2.1; simp [sizeMax]; omega) fun d hd => ?_
    obtain ⟨t, ht, rfl⟩ := List.mem_map.mp hd
    exact ⟨[im (.tuple (tL ts)), im (.int t.1), im (.int t.2.1), im (.int t.2.2)], rfl, rfl, rfl, rfl⟩
  rw [pr_map] at e
  have s0 : b_raw_pairs_0 (k + 1) [im (.tuple (tL ts)), none, none, none] = .rt (.im (.tuple (iL (jo (prs ts))))) [im (.tuple (tL ts)), none, none, none] :=
    retS_ok (call1 (blt_of e rfl) (t_raw_johnson k (by rw [prs_len]; have := h.2.1; omega)))
  show endF [false] (seqS _ [im (.tuple (tL ts)), none, none, none]) = _
  rw [seqS_one, s0]
  rfl
theorem t_by_pairs (k : Nat) (h : Ts ts) : P.run (k + 8) d_by_pairs [im (.tuple (tL ts))] = .ok (.im (.tuple (iL (jo (prs ts))))) [none] := by
  rw [r_by_pairs (k + 5)]
  have s0 : b_by_pairs_0 (k + 5) [im (.tuple (tL ts))] = .nx [im (.tuple (tL ts))] := by
    have c := t_check_three k h
    simp only [im] at c
    simp only [b_by_pairs_0, im, c, seqS, SR.bind, Res.st, Res.bind, retS, exprS, ifS, asgS, nameG, stS_n, stS_1, stS_2, stS_3, stS_4, stS_5, stS_6, stS_7, stS_8, stS_9, stS_10, stS_11, stS_12, stS_13, stS_14, stS_15, asgT, unpT, tupT, parS, argsP, parG, immE, varE, lift, un1, op2, andE, orE, notE, ifE, chainE, tru, argsD, tupE, lstE, argsO, toPar, backs, callE, vw, vws, fzO, gt, pt, bltE, isiE, isisE, tyD, imB, imI, cmpF, cmpD, binD_add, binD_sub, augD, sliE, optE, sliD, itE, argsI, hid_im, hid_tl, hid_n, mutE, mtF, appF, isOl, setiS, setF, endF, outO, finsOf_f, finsOf_t, finsOf_n, fxOf, raiseS, seqF, seqD, nameT, unhS, List.replicate, List.cons_append, List.nil_append, List.contains, List.elem, Option.map, Option.bind, ltD_int, leD_int, eqD_int, eqD_str, Bool.not_true, Bool.not_false, Bool.false_eq_true, if_true, if_false]
  have s1 : b_by_pairs_1 (k + 5) [im (.tuple (tL ts))] = .rt (.im (.tuple (iL (jo (prs ts))))) [im (.tuple (tL ts))] := retS_ok (call1 rfl (t_raw_pairs (k + 3) h))
  show endF [false] (seqS _ [im (.tuple (tL ts))]) = _
  rw [seqS_nx s0, seqS_one, s1]
  rfl
theorem le_call {a b : ME} {e : Sl} {i j : Int} (h1 : a e = .ok (.im (.int i)) e) (h2 : b e = .ok (.im (.int j)) e) : op2 (cmpF .LtE) a b e = .ok (.im (.bool (decide (i ≤ j)))) e := by
  unfold op2
  rw [h1]
  simp only [Res.bind, h2, vw, cmpF, cmpD, leD_int, imB, Option.bind, lift]
theorem or_call {x y : ME} {e : Sl} {a b : Bool} (hx : x e = .ok (.im (.bool a)) e) (hy : y e = .ok (.im (.bool b)) e) : orE [x, y] e = .ok (.im (.bool (a || b))) e := by
  cases a <;> simp [orE, hx, hy, Res.bind, tru]
theorem ez_comp {elt : ME} {f : T3 → Int} (hl : ts.length ≤ 100) (he : ∀ t : T3, elt [im (.tuple (tL ts)), x1, im (.int t.1), im (.int t.2.1), im (.int t.2.2)] = .ok (.im (.int (f t))) [im (.tuple (tL ts)), x1, im (.int t.1), im (.int t.2.1), im (.int t.2.2)]) : compE [2, 3, 4] (itE [] seqF [(varE 0)]) (unpT [(nameT [] 2), (nameT [] 3), (nameT [] 4)]) (condE []) elt [im (.tuple (tL ts)), x1, none, none, none] = .ok (.tl (iL (ts.map f))) [im (.tuple (tL ts)), x1, none, none, none] := by
  rw [← lif_map]
  refine compE_map (lif f) rfl rfl (by rw [tL_len]; simp [sizeMax]; omega) fun d hd => ?_
  obtain ⟨t, ht, rfl⟩ := List.mem_map.mp hd
  exact ⟨[im (.tuple (tL ts)), x1, im (.int t.1), im (.int t.2.1), im (.int t.2.2)], rfl, rfl, he t, rfl⟩
theorem t_is_easy (k : Nat) (h : Ts ts) : P.run (k + 8) d_is_easy [im (.tuple (tL ts))] = .ok (.im (.bool (esy ts))) [none] := by
  rw [r_is_easy (k + 5)]
  have hl : ts.length ≤ 100 := by have := h.2.1; omega
  have hne := ts_ne h
  have s0 : b_is_easy_0 (k + 5) [im (.tuple (tL ts)), none, none, none, none] = .nx [im (.tuple (tL ts)), none, none, none, none] := by
    have c := t_check_three k h
    simp only [im] at c
    simp only [b_is_easy_0, im, c, seqS, SR.bind, Res.st, Res.bind, retS, exprS, ifS, asgS, nameG, stS_n, stS_1, stS_2, stS_3, stS_4, stS_5, stS_6, stS_7, stS_8, stS_9, stS_10, stS_11, stS_12, stS_13, stS_14, stS_15, asgT, unpT, tupT, parS, argsP, parG, immE, varE, lift, un1, op2, andE, orE, notE, ifE, chainE, tru, argsD, tupE, lstE, argsO, toPar, backs, callE, vw, vws, fzO, gt, pt, bltE, isiE, isisE, tyD, imB, imI, cmpF, cmpD, binD_add, binD_sub, augD, sliE, optE, sliD, itE, argsI, hid_im, hid_tl, hid_n, mutE, mtF, appF, isOl, setiS, setF, endF, outO, finsOf_f, finsOf_t, finsOf_n, fxOf, raiseS, seqF, seqD, nameT, unhS, List.replicate, List.cons_append, List.nil_append, List.contains, List.elem, Option.map, Option.bind, ltD_int, leD_int, eqD_int, eqD_str, Bool.not_true, Bool.not_false, Bool.false_eq_true, if_true, if_false]
  have s1 : b_is_easy_1 (k + 5) [im (.tuple (tL ts)), none, none, none, none] = .nx [im (.tuple (tL ts)), im (.int (mxs ts)), none, none, none] :=
    asgS_im (blt_of (ez_comp (f := fs) hl fun t => rfl) (max_mxs hne)) rfl
  have s2 : b_is_easy_2 (k + 5) [im (.tuple (tL ts)), im (.int (mxs ts)), none, none, none] = .rt (.im (.bool (esy ts))) [im (.tuple (tL ts)), im (.int (mxs ts)), none, none, none] :=
    retS_ok (or_call (le_call rfl (blt_of (ez_comp (f := fw) hl fun t => rfl) (min_mn hne))) (le_call rfl (blt_of (ez_comp (f := fd) hl fun t => rfl) (min_mn hne))))
  show endF [false] (seqS _ [im (.tuple (tL ts)), none, none, none, none]) = _
  rw [seqS_nx s0, seqS_nx s1, seqS_one, s2]
  rfl
end
end Lw
end
section
set_option maxHeartbeats 1000000
namespace Lw
open PySem Ev
/-! ### refusals -/
def noThree : List D := [.none, .tuple [], .list [.tuple [.int 1, .int 1, .int 1]], .tuple [.tuple [.int 1, .int 1]], .tuple [.tuple [.int 100, .int 0, .int 0]], .tuple [.tuple [.bool true, .int 1, .int 1]], .tuple (List.replicate 6 (.tuple [.int 1, .int 1, .int 1])), .int 0]
theorem n_three (k : Nat) {b : D} (hb : b ∈ noThree) : P.run (k + 10) d_check_three [im b] = .er ⟨"NoThree", none⟩ [none] := by
  simp only [noThree, List.mem_cons, List.not_mem_nil, or_false] at hb
  rcases hb with rfl | rfl | rfl | rfl | rfl | rfl | rfl | rfl <;> kernel_rfl
theorem er_end (k : Nat) {b x : D} (hb : b ∈ noThree) : P.run (k + 11) d_three_end [im b, im x] = .er ⟨"NoThree", none⟩ [none, none] := by
  have c := n_three k hb
  simp only [im] at c
  rw [r_three_end (k + 8)]
  simp only [b_three_end_0, im, c, seqS, SR.bind, Res.st, Res.bind, retS, exprS, ifS, asgS, nameG, stS_n, stS_1, stS_2, stS_3, stS_4, stS_5, stS_6, stS_7, stS_8, stS_9, stS_10, stS_11, stS_12, stS_13, stS_14, stS_15, asgT, unpT, tupT, parS, argsP, parG, immE, varE, lift, un1, op2, andE, orE, notE, ifE, chainE, tru, argsD, tupE, lstE, argsO, toPar, backs, callE, vw, vws, fzO, gt, pt, bltE, isiE, isisE, tyD, imB, imI, cmpF, cmpD, binD_add, binD_sub, augD, sliE, optE, sliD, itE, argsI, hid_im, hid_tl, hid_n, mutE, mtF, appF, isOl, setiS, setF, endF, outO, finsOf_f, finsOf_t, finsOf_n, fxOf, raiseS, seqF, seqD, nameT, unhS, List.replicate, List.cons_append, List.nil_append, List.contains, List.elem, Option.map, Option.bind, ltD_int, leD_int, eqD_int, eqD_str, Bool.not_true, Bool.not_false, Bool.false_eq_true, if_true, if_false]
theorem er_told (k : Nat) {b : D} (hb : b ∈ noThree) : P.run (k + 11) d_three_told [im b] = .er ⟨"NoThree", none⟩ [none] := by
  have c := n_three k hb
  simp only [im] at c
  rw [r_three_told (k + 8)]
  simp only [b_three_told_0, im, c, seqS, SR.bind, Res.st, Res.bind, retS, exprS, ifS, asgS, nameG, stS_n, stS_1, stS_2, stS_3, stS_4, stS_5, stS_6, stS_7, stS_8, stS_9, stS_10, stS_11, stS_12, stS_13, stS_14, stS_15, asgT, unpT, tupT, parS, argsP, parG, immE, varE, lift, un1, op2, andE, orE, notE, ifE, chainE, tru, argsD, tupE, lstE, argsO, toPar, backs, callE, vw, vws, fzO, gt, pt, bltE, isiE, isisE, tyD, imB, imI, cmpF, cmpD, binD_add, binD_sub, augD, sliE, optE, sliD, itE, argsI, hid_im, hid_tl, hid_n, mutE, mtF, appF, isOl, setiS, setF, endF, outO, finsOf_f, finsOf_t, finsOf_n, fxOf, raiseS, seqF, seqD, nameT, unhS, List.replicate, List.cons_append, List.nil_append, List.contains, List.elem, Option.map, Option.bind, ltD_int, leD_int, eqD_int, eqD_str, Bool.not_true, Bool.not_false, Bool.false_eq_true, if_true, if_false]
theorem er_bound (k : Nat) {b : D} (hb : b ∈ noThree) : P.run (k + 11) d_three_bound [im b] = .er ⟨"NoThree", none⟩ [none] := by
  have c := n_three k hb
  simp only [im] at c
  rw [r_three_bound (k + 8)]
  simp only [b_three_bound_0, im, c, seqS, SR.bind, Res.st, Res.bind, retS, exprS, ifS, asgS, nameG, stS_n, stS_1, stS_2, stS_3, stS_4, stS_5, stS_6, stS_7, stS_8, stS_9, stS_10, stS_11, stS_12, stS_13, stS_14, stS_15, asgT, unpT, tupT, parS, argsP, parG, immE, varE, lift, un1, op2, andE, orE, notE, ifE, chainE, tru, argsD, tupE, lstE, argsO, toPar, backs, callE, vw, vws, fzO, gt, pt, bltE, isiE, isisE, tyD, imB, imI, cmpF, cmpD, binD_add, binD_sub, augD, sliE, optE, sliD, itE, argsI, hid_im, hid_tl, hid_n, mutE, mtF, appF, isOl, setiS, setF, endF, outO, finsOf_f, finsOf_t, finsOf_n, fxOf, raiseS, seqF, seqD, nameT, unhS, List.replicate, List.cons_append, List.nil_append, List.contains, List.elem, Option.map, Option.bind, ltD_int, leD_int, eqD_int, eqD_str, Bool.not_true, Bool.not_false, Bool.false_eq_true, if_true, if_false]
theorem er_pairs (k : Nat) {b : D} (hb : b ∈ noThree) : P.run (k + 11) d_by_pairs [im b] = .er ⟨"NoThree", none⟩ [none] := by
  have c := n_three k hb
  simp only [im] at c
  rw [r_by_pairs (k + 8)]
  simp only [b_by_pairs_0, im, c, seqS, SR.bind, Res.st, Res.bind, retS, exprS, ifS, asgS, nameG, stS_n, stS_1, stS_2, stS_3, stS_4, stS_5, stS_6, stS_7, stS_8, stS_9, stS_10, stS_11, stS_12, stS_13, stS_14, stS_15, asgT, unpT, tupT, parS, argsP, parG, immE, varE, lift, un1, op2, andE, orE, notE, ifE, chainE, tru, argsD, tupE, lstE, argsO, toPar, backs, callE, vw, vws, fzO, gt, pt, bltE, isiE, isisE, tyD, imB, imI, cmpF, cmpD, binD_add, binD_sub, augD, sliE, optE, sliD, itE, argsI, hid_im, hid_tl, hid_n, mutE, mtF, appF, isOl, setiS, setF, endF, outO, finsOf_f, finsOf_t, finsOf_n, fxOf, raiseS, seqF, seqD, nameT, unhS, List.replicate, List.cons_append, List.nil_append, List.contains, List.elem, Option.map, Option.bind, ltD_int, leD_int, eqD_int, eqD_str, Bool.not_true, Bool.not_false, Bool.false_eq_true, if_true, if_false]
theorem er_easy (k : Nat) {b : D} (hb : b ∈ noThree) : P.run (k + 11) d_is_easy [im b] = .er ⟨"NoThree", none⟩ [none] := by
  have c := n_three k hb
  simp only [im] at c
  rw [r_is_easy (k + 8)]
  simp only [b_is_easy_0, im, c, seqS, SR.bind, Res.st, Res.bind, retS, exprS, ifS, asgS, nameG, stS_n, stS_1, stS_2, stS_3, stS_4, stS_5, stS_6, stS_7, stS_8, stS_9, stS_10, stS_11, stS_12, stS_13, stS_14, stS_15, asgT, unpT, tupT, parS, argsP, parG, immE, varE, lift, un1, op2, andE, orE, notE, ifE, chainE, tru, argsD, tupE, lstE, argsO, toPar, backs, callE, vw, vws, fzO, gt, pt, bltE, isiE, isisE, tyD, imB, imI, cmpF, cmpD, binD_add, binD_sub, augD, sliE, optE, sliD, itE, argsI, hid_im, hid_tl, hid_n, mutE, mtF, appF, isOl, setiS, setF, endF, outO, finsOf_f, finsOf_t, finsOf_n, fxOf, raiseS, seqF, seqD, nameT, unhS, List.replicate, List.cons_append, List.nil_append, List.contains, List.elem, Option.map, Option.bind, ltD_int, leD_int, eqD_int, eqD_str, Bool.not_true, Bool.not_false, Bool.false_eq_true, if_true, if_false]
theorem er_end2 (k : Nat) {ts : List T3} {x : D} (h : Ts ts) (hx : x ∈ noOrd ts.length) : P.run (k + 10) d_three_end [im (.tuple (tL ts)), im x] = .er ⟨"NoOrder", none⟩ [none, none] := by
  rw [r_three_end (k + 7)]
  have s0 : b_three_end_0 (k + 7) [im (.tuple (tL ts)), im x] = .nx [im (.tuple (tL ts)), im x] := by
    have c := t_check_three (k + 2) h
    simp only [im] at c
    simp only [b_three_end_0, im, c, seqS, SR.bind, Res.st, Res.bind, retS, exprS, ifS, asgS, nameG, stS_n, stS_1, stS_2, stS_3, stS_4, stS_5, stS_6, stS_7, stS_8, stS_9, stS_10, stS_11, stS_12, stS_13, stS_14, stS_15, asgT, unpT, tupT, parS, argsP, parG, immE, varE, lift, un1, op2, andE, orE, notE, ifE, chainE, tru, argsD, tupE, lstE, argsO, toPar, backs, callE, vw, vws, fzO, gt, pt, bltE, isiE, isisE, tyD, imB, imI, cmpF, cmpD, binD_add, binD_sub, augD, sliE, optE, sliD, itE, argsI, hid_im, hid_tl, hid_n, mutE, mtF, appF, isOl, setiS, setF, endF, outO, finsOf_f, finsOf_t, finsOf_n, fxOf, raiseS, seqF, seqD, nameT, unhS, List.replicate, List.cons_append, List.nil_append, List.contains, List.elem, Option.map, Option.bind, ltD_int, leD_int, eqD_int, eqD_str, Bool.not_true, Bool.not_false, Bool.false_eq_true, if_true, if_false]
  have s1 : b_three_end_1 (k + 7) [im (.tuple (tL ts)), im x] = .er ⟨"NoOrder", none⟩ [im (.tuple (tL ts)), im x] := no_ord (len_t rfl) (n_all (k + 3) h.1 (by have := h.2.1; omega) hx)
  show endF [false, false] (seqS _ [im (.tuple (tL ts)), im x]) = _
  rw [seqS_nx s0, seqS_er s1]
  rfl
theorem said0 (k : Nat) : L__law_word k (.er ⟨"NoThree", none⟩) = .ok (.im (.str "three")) [] := by kernel_rfl
theorem said1 (k : Nat) : L__law_word k (.er ⟨"NoOrder", none⟩) = .ok (.im (.str "order")) [] := by kernel_rfl
/-! ### small ones -/
theorem lt_call {a b : ME} {e : Sl} {i j : Int} (h1 : a e = .ok (.im (.int i)) e) (h2 : b e = .ok (.im (.int j)) e) : op2 (cmpF .Lt) a b e = .ok (.im (.bool (decide (i < j)))) e := by
  unfold op2
  rw [h1]
  simp only [Res.bind, h2, vw, cmpF, cmpD, ltD_int, imB, Option.bind, lift]
theorem gtD_int {i j : Int} : cmpD .Gt (.int i) (.int j) = some (decide (j < i)) := by
  simp only [cmpD, ltD_int]
theorem gt_call {a b : ME} {e : Sl} {i j : Int} (h1 : a e = .ok (.im (.int i)) e) (h2 : b e = .ok (.im (.int j)) e) : op2 (cmpF .Gt) a b e = .ok (.im (.bool (decide (j < i)))) e := by
  unfold op2
  rw [h1]
  simp only [Res.bind, h2, vw, cmpF, gtD_int, imB, Option.bind, lift]
theorem or3_false {x y z : ME} {e : Sl} (hx : x e = .ok (.im (.bool false)) e) (hy : y e = .ok (.im (.bool false)) e) (hz : z e = .ok (.im (.bool false)) e) : orE [x, y, z] e = .ok (.im (.bool false)) e := by
  simp [orE, hx, hy, hz, Res.bind, tru]
theorem and2_false {x y : ME} {e : Sl} {b : Bool} (hx : x e = .ok (.im (.bool b)) e) (hy : b = true → y e = .ok (.im (.bool false)) e) : andE [x, y] e = .ok (.im (.bool false)) e := by
  cases b with
  | false => simp [andE, hx, Res.bind, tru]
  | true => simp [andE, hx, hy rfl, Res.bind, tru]
theorem told2 {F : Sl → CRes} {a b : D} {i : Int} {e : Sl} (ga : gt e 4 = im a) (gb : gt e 18 = im b) (hF : F [im a, im b] = .ok (.im (.int i)) [none, none]) : tupE [(callE [false, false] F [(varE 4), (varE 18)]), (varE 18)] e = .ok (.im (.tuple [.int i, b])) e := by
  have v4 : varE 4 e = .ok (.im a) e := by unfold varE; rw [ga]
  have v18 : varE 18 e = .ok (.im b) e := by unfold varE; rw [gb]
  have c : callE [false, false] F [(varE 4), (varE 18)] e = .ok (.im (.int i)) e := call2 v4 v18 hF
  simp only [tupE, argsD, c, fzO, v18, Res.bind, vw, gb, im, Option.map]
theorem eD_shp {ts : List T3} {m : List Int} : shp (eD ts m) = true := by simp only [eD, shp_N, shpN_tuple, shpNs_cons, shpN_int, shpNs_iL, shpNs_nil, Bool.and_self]
theorem iL_shp {r : List Int} : shp (.tuple (iL r)) = true := by simp only [shp_N, shpN_tuple, shpNs_iL]
def mi (i j : Int) : Int := if j < i then j else i
def wsh (m : Int) (t : T3) : T3 := (mi 99 (t.1 + m), t.2.1, t.2.2)
def wsF (m : Int) : D → D
  | .tuple [.int a, .int b, .int c] => .tuple [.int (mi 99 (a + m)), .int b, .int c]
  | d => d
theorem ws_map {m : Int} {ts : List T3} : (tL ts).map (wsF m) = tL (ts.map (wsh m)) := by
  unfold tL
  rw [List.map_map, List.map_map]
  rfl
theorem wsh_ts {m : Int} {ts : List T3} (m0 : 0 < m) (h : Ts ts) : Ts (ts.map (wsh m)) := by
  refine ⟨by rw [List.length_map]; exact h.1, by rw [List.length_map]; exact h.2.1, fun t ht => ?_⟩
  obtain ⟨q, hq, rfl⟩ := List.mem_map.mp ht
  have := h.2.2 q hq
  refine ⟨?_, ?_, this.2.2⟩
  · show 0 ≤ mi 99 (q.1 + m)
    unfold mi
    split <;> omega
  · show mi 99 (q.1 + m) ≤ 99
    unfold mi
    split <;> omega
theorem rows_asg {F : Sl → CRes} {G : List D → Option Op} {a x : D} {N : Int} {a0 a1 a2 a3 a5 x6 : Option Sv} {r : Sl} (hG : G [a] = some (.im (.int N))) (hF : F [im (.int N)] = .ok (.im x) [none]) : asgS (nameG [] 6) (callE [false] F [(bltE G [(varE 4)])]) (a0 :: a1 :: a2 :: a3 :: im a :: a5 :: x6 :: r) = .nx (a0 :: a1 :: a2 :: a3 :: im a :: a5 :: im x :: r) := by
  simp only [im, hG, hF, seqS, SR.bind, Res.st, Res.bind, retS, exprS, ifS, asgS, nameG, stS_n, stS_1, stS_2, stS_3, stS_4, stS_5, stS_6, stS_7, stS_8, stS_9, stS_10, stS_11, stS_12, stS_13, stS_14, stS_15, asgT, unpT, tupT, parS, argsP, parG, immE, varE, lift, un1, op2, andE, orE, notE, ifE, chainE, tru, argsD, tupE, lstE, argsO, toPar, backs, callE, vw, vws, fzO, gt, pt, bltE, isiE, isisE, tyD, imB, imI, cmpF, cmpD, binD_add, binD_sub, augD, sliE, optE, sliD, itE, argsI, hid_im, hid_tl, hid_n, mutE, mtF, appF, isOl, setiS, setF, endF, outO, finsOf_f, finsOf_t, finsOf_n, fxOf, raiseS, seqF, seqD, nameT, unhS, List.replicate, List.cons_append, List.nil_append, List.contains, List.elem, Option.map, Option.bind, ltD_int, leD_int, eqD_int, eqD_str, Bool.not_true, Bool.not_false, Bool.false_eq_true, if_true, if_false]
theorem off_call {G : Sl → CRes} {B : List D → Option Op} {a b : List D} {d y : D} {N : Int} {s x2 x3 : Option Sv} {r : Sl} (hG : G [some (.ol a), im (.int N)] = .ok (.im y) [some (.ol b), none]) (hl : B [d] = some (.im (.int N))) : callE [true, false] G [(varE 1), (bltE B [(varE 4)])] (s :: some (.ol a) :: x2 :: x3 :: im d :: r) = .ok (.im y) (s :: some (.ol b) :: x2 :: x3 :: im d :: r) := by
  simp only [im, hG, hl, seqS, SR.bind, Res.st, Res.bind, retS, exprS, ifS, asgS, nameG, stS_n, stS_1, stS_2, stS_3, stS_4, stS_5, stS_6, stS_7, stS_8, stS_9, stS_10, stS_11, stS_12, stS_13, stS_14, stS_15, asgT, unpT, tupT, parS, argsP, parG, immE, varE, lift, un1, op2, andE, orE, notE, ifE, chainE, tru, argsD, tupE, lstE, argsO, toPar, backs, callE, vw, vws, fzO, gt, pt, bltE, isiE, isisE, tyD, imB, imI, cmpF, cmpD, binD_add, binD_sub, augD, sliE, optE, sliD, itE, argsI, hid_im, hid_tl, hid_n, mutE, mtF, appF, isOl, setiS, setF, endF, outO, finsOf_f, finsOf_t, finsOf_n, fxOf, raiseS, seqF, seqD, nameT, unhS, List.replicate, List.cons_append, List.nil_append, List.contains, List.elem, Option.map, Option.bind, ltD_int, leD_int, eqD_int, eqD_str, Bool.not_true, Bool.not_false, Bool.false_eq_true, if_true, if_false]
abbrev Q (s : D) (h : Hand) (x2 x3 x4 x5 x6 x7 x8 x9 x10 x11 x12 x13 x14 x15 x16 x17 : Option Sv) : Sl := [some (.im s), some (.ol h.ds), x2, x3, x4, x5, x6, x7, x8, x9, x10, x11, x12, x13, x14, x15, x16, x17, none, none]
section
variable {j : Nat} {s : D} {h : Hand} {ts : List T3} {r m : List Int} {tp : Int} {x2 x3 x4 x5 x6 x7 x8 x9 x10 x11 x12 x13 x14 x15 x16 x17 : Option Sv}
theorem l0 (ok : h.ok) : ∃ (h' : Hand) (tp : Int), w_law_1_0 (j + 20) (Q s h x2 x3 x4 x5 x6 x7 x8 x9 x10 x11 x12 x13 x14 x15 x16 x17) = .nx (Q s h' x2 (im (.int tp)) x4 x5 x6 x7 x8 x9 x10 x11 x12 x13 x14 x15 x16 x17) ∧ 0 < tp ∧ tp ≤ 100 ∧ h'.ok := by
  obtain ⟨h1, m, e1, hm, ok1⟩ := t_any (j + 18) (xs := [.int 4, .int 20, .int 100]) ok (.inl rfl) (by simp) (by simp)
  have : ∃ m' : Int, m = .int m' ∧ 0 < m' ∧ m' ≤ 100 := by
    simp only [List.mem_cons, List.not_mem_nil, or_false] at hm
    rcases hm with rfl | rfl | rfl <;> exact ⟨_, rfl, by decide, by decide⟩
  obtain ⟨m, rfl, m0, m1⟩ := this
  refine ⟨h1, m, ?_, m0, m1, ok1⟩
  simp only [w_law_1_0, Q, im, e1, seqS, SR.bind, Res.st, Res.bind, retS, exprS, ifS, asgS, nameG, stS_n, stS_1, stS_2, stS_3, stS_4, stS_5, stS_6, stS_7, stS_8, stS_9, stS_10, stS_11, stS_12, stS_13, stS_14, stS_15, asgT, unpT, tupT, parS, argsP, parG, immE, varE, lift, un1, op2, andE, orE, notE, ifE, chainE, tru, argsD, tupE, lstE, argsO, toPar, backs, callE, vw, vws, fzO, gt, pt, bltE, isiE, isisE, tyD, imB, imI, cmpF, cmpD, binD_add, binD_sub, augD, sliE, optE, sliD, itE, argsI, hid_im, hid_tl, hid_n, mutE, mtF, appF, isOl, setiS, setF, endF, outO, finsOf_f, finsOf_t, finsOf_n, fxOf, raiseS, seqF, seqD, nameT, unhS, List.replicate, List.cons_append, List.nil_append, List.contains, List.elem, Option.map, Option.bind, ltD_int, leD_int, eqD_int, eqD_str, Bool.not_true, Bool.not_false, Bool.false_eq_true, if_true, if_false]
theorem l1 : w_law_1_1 (j + 20) (Q s h x2 x3 x4 x5 x6 x7 x8 x9 x10 x11 x12 x13 x14 x15 x16 x17) = .nx (Q s h x2 x3 (some (.ol (tL []))) x5 x6 x7 x8 x9 x10 x11 x12 x13 x14 x15 x16 x17) := rfl
abbrev Bt (t : T3) : Prop := 0 ≤ t.1 ∧ t.1 ≤ 99 ∧ 0 ≤ t.2.1 ∧ t.2.1 ≤ 99 ∧ 0 ≤ t.2.2 ∧ t.2.2 ≤ 99
theorem ld_turn (ok : h.ok) (m0 : 0 < tp) (m1 : tp ≤ 100) (hl : ts.length ≤ 10) : ∃ (h' : Hand) (t : T3), lb_law_0 (j + 20) (Q s h x2 (im (.int tp)) (some (.ol (tL ts))) x5 x6 x7 x8 x9 x10 x11 x12 x13 x14 x15 x16 x17) = .nx (Q s h' x2 (im (.int tp)) (some (.ol (tL (ts ++ [t])))) x5 x6 x7 x8 x9 x10 x11 x12 x13 x14 x15 x16 x17) ∧ Bt t ∧ h'.ok := by
  obtain ⟨h1, a, e1, a0, a1, ok1⟩ := t_draw (j + 19) (m := tp) ok m0 (by omega)
  obtain ⟨h2, b, e2, b0, b1, ok2⟩ := t_draw (j + 19) (m := tp) ok1 m0 (by omega)
  obtain ⟨h3, c, e3, c0, c1, ok3⟩ := t_draw (j + 19) (m := tp) ok2 m0 (by omega)
  refine ⟨h3, (a, b, c), ?_, ⟨a0, by show a ≤ 99; omega, b0, by show b ≤ 99; omega, c0, by show c ≤ 99; omega⟩, ok3⟩
  have l : (tL ts).length < sizeMax := by rw [tL_len]; simp [sizeMax]; omega
  have ap : tL (ts ++ [(a, b, c)]) = tL ts ++ [.tuple [.int a, .int b, .int c]] := by unfold tL; rw [List.map_append]; rfl
  rw [ap]
  generalize tL ts = xs at l
  simp only [lb_law_0, w_law_0_0, Q, im, e1, e2, e3, l, decide_true, seqS, SR.bind, Res.st, Res.bind, retS, exprS, ifS, asgS, nameG, stS_n, stS_1, stS_2, stS_3, stS_4, stS_5, stS_6, stS_7, stS_8, stS_9, stS_10, stS_11, stS_12, stS_13, stS_14, stS_15, asgT, unpT, tupT, parS, argsP, parG, immE, varE, lift, un1, op2, andE, orE, notE, ifE, chainE, tru, argsD, tupE, lstE, argsO, toPar, backs, callE, vw, vws, fzO, gt, pt, bltE, isiE, isisE, tyD, imB, imI, cmpF, cmpD, binD_add, binD_sub, augD, sliE, optE, sliD, itE, argsI, hid_im, hid_tl, hid_n, mutE, mtF, appF, isOl, setiS, setF, endF, outO, finsOf_f, finsOf_t, finsOf_n, fxOf, raiseS, seqF, seqD, nameT, unhS, List.replicate, List.cons_append, List.nil_append, List.contains, List.elem, Option.map, Option.bind, ltD_int, leD_int, eqD_int, eqD_str, Bool.not_true, Bool.not_false, Bool.false_eq_true, if_true, if_false]
theorem ld_loop (m0 : 0 < tp) (m1 : tp ≤ 100) : ∀ (r : List Int) (h : Hand) (ts : List T3) (x5 : Option Sv), h.ok → ts.length + r.length ≤ 4 → (∀ t ∈ ts, Bt t) → ∃ (h' : Hand) (ts' : List T3) (y5 : Option Sv), forL (nameT [] 5) (lb_law_0 (j + 20)) (iL r) (Q s h x2 (im (.int tp)) (some (.ol (tL ts))) x5 x6 x7 x8 x9 x10 x11 x12 x13 x14 x15 x16 x17) = .nx (Q s h' x2 (im (.int tp)) (some (.ol (tL ts'))) y5 x6 x7 x8 x9 x10 x11 x12 x13 x14 x15 x16 x17) ∧ ts'.length = ts.length + r.length ∧ (∀ t ∈ ts', Bt t) ∧ h'.ok
  | [], h, ts, x5, ok, _, hb => ⟨h, ts, x5, rfl, rfl, hb, ok⟩
  | i :: r, h, ts, x5, ok, hl, hb => by
    rw [List.length_cons] at hl
    obtain ⟨h1, t, e1, ht, ok1⟩ := ld_turn (j := j) (s := s) (x2 := x2) (x6 := x6) (x7 := x7) (x8 := x8) (x9 := x9) (x10 := x10) (x11 := x11) (x12 := x12) (x13 := x13) (x14 := x14) (x15 := x15) (x16 := x16) (x17 := x17) (x5 := im (.int i)) ok m0 m1 (ts := ts) (by omega)
    obtain ⟨h2, ts2, y5, e2, l2, b2, ok2⟩ := ld_loop m0 m1 r h1 (ts ++ [t]) (im (.int i)) ok1 (by rw [List.length_append, List.length_singleton]; omega) (fun q hq => by
      rcases List.mem_append.mp hq with hq | hq
      · exact hb q hq
      · rw [List.mem_singleton.mp hq]
        exact ht)
    refine ⟨h2, ts2, y5, ?_, by rw [l2, List.length_append, List.length_singleton, List.length_cons]; omega, b2, ok2⟩
    rw [iL_cons, for_cons (e1 := (Q s h x2 (im (.int tp)) (some (.ol (tL ts))) (im (.int i)) x6 x7 x8 x9 x10 x11 x12 x13 x14 x15 x16 x17)) rfl e1]
    exact e2
theorem l2 (ok : h.ok) (m0 : 0 < tp) (m1 : tp ≤ 100) : ∃ (h' : Hand) (ts : List T3) (y5 : Option Sv), w_law_1_2 (j + 20) (Q s h x2 (im (.int tp)) (some (.ol (tL []))) x5 x6 x7 x8 x9 x10 x11 x12 x13 x14 x15 x16 x17) = .nx (Q s h' x2 (im (.int tp)) (some (.ol (tL ts))) y5 x6 x7 x8 x9 x10 x11 x12 x13 x14 x15 x16 x17) ∧ Ts ts ∧ h'.ok := by
  obtain ⟨h1, i, e1, i0, i1, ok1⟩ := t_draw (j + 19) (m := 4) ok (by decide) (by decide)
  have rg : rangeF1 [.int (1 + i)] = some (iL (rng (1 + i).toNat)) := rangeF1_N (by omega) (by omega)
  have hit : itE [] rangeF1 [(op2 (binD .Add) (immE (.int 1)) (callE [true, false] (P.run (j + 20 + 2) d__law_draw) [(varE 1), (immE (.int 4))]))] (Q s h x2 (im (.int tp)) (some (.ol (tL []))) x5 x6 x7 x8 x9 x10 x11 x12 x13 x14 x15 x16 x17) = .ok ⟨iL (rng (1 + i).toNat), []⟩ (Q s h1 x2 (im (.int tp)) (some (.ol (tL []))) x5 x6 x7 x8 x9 x10 x11 x12 x13 x14 x15 x16 x17) := by
    generalize rangeF1 = G at rg ⊢
    simp only [Q, im, e1, rg, seqS, SR.bind, Res.st, Res.bind, retS, exprS, ifS, asgS, nameG, stS_n, stS_1, stS_2, stS_3, stS_4, stS_5, stS_6, stS_7, stS_8, stS_9, stS_10, stS_11, stS_12, stS_13, stS_14, stS_15, asgT, unpT, tupT, parS, argsP, parG, immE, varE, lift, un1, op2, andE, orE, notE, ifE, chainE, tru, argsD, tupE, lstE, argsO, toPar, backs, callE, vw, vws, fzO, gt, pt, bltE, isiE, isisE, tyD, imB, imI, cmpF, cmpD, binD_add, binD_sub, augD, sliE, optE, sliD, itE, argsI, hid_im, hid_tl, hid_n, mutE, mtF, appF, isOl, setiS, setF, endF, outO, finsOf_f, finsOf_t, finsOf_n, fxOf, raiseS, seqF, seqD, nameT, unhS, List.replicate, List.cons_append, List.nil_append, List.contains, List.elem, Option.map, Option.bind, ltD_int, leD_int, eqD_int, eqD_str, Bool.not_true, Bool.not_false, Bool.false_eq_true, if_true, if_false]
  obtain ⟨h2, ts, y5, e2, l2, b2, ok2⟩ := ld_loop (j := j) (s := s) (x2 := x2) (x6 := x6) (x7 := x7) (x8 := x8) (x9 := x9) (x10 := x10) (x11 := x11) (x12 := x12) (x13 := x13) (x14 := x14) (x15 := x15) (x16 := x16) (x17 := x17) m0 m1 (rng (1 + i).toNat) h1 [] x5 ok1 (by rw [rng_len]; simp; omega) (by simp)
  refine ⟨h2, ts, y5, ?_, ⟨by rw [l2, rng_len]; simp; omega, by rw [l2, rng_len]; simp; omega, b2⟩, ok2⟩
  unfold w_law_1_2 l_law_0
  exact forS_nx hit e2
theorem l3 : w_law_1_3 (j + 20) (Q s h x2 x3 (some (.ol (tL ts))) x5 x6 x7 x8 x9 x10 x11 x12 x13 x14 x15 x16 x17) = .nx (Q s h x2 x3 (im (.tuple (tL ts))) x5 x6 x7 x8 x9 x10 x11 x12 x13 x14 x15 x16 x17) := asgS_im (var_ol rfl rfl) rfl
theorem c0 {o9 o10 o11 : Option D} (hl : ts.length ≤ 100) : c_law_0 (j + 20) (Q s h x2 (im (.int tp)) (im (.tuple (tL ts))) x5 x6 x7 x8 (o9.map .im) (o10.map .im) (o11.map .im) x12 x13 x14 x15 x16 x17) = .ok (.tl (tL (ts.map (wsh tp)))) (Q s h x2 (im (.int tp)) (im (.tuple (tL ts))) x5 x6 x7 x8 (o9.map .im) (o10.map .im) (o11.map .im) x12 x13 x14 x15 x16 x17) := by
  rw [← ws_map]
  have im3 : imOnly (Q s h x2 (im (.int tp)) (im (.tuple (tL ts))) x5 x6 x7 x8 (o9.map .im) (o10.map .im) (o11.map .im) x12 x13 x14 x15 x16 x17) [9, 10, 11] = true := by cases o9 <;> cases o10 <;> cases o11 <;> rfl
  refine compE_map (wsF tp) rfl im3 (by rw [tL_len]; simp [sizeMax]; omega) fun d hd => ?_
  obtain ⟨t, ht, rfl⟩ := List.mem_map.mp hd
  exact ⟨[some (.im s), some (.ol h.ds), x2, (im (.int tp)), (im (.tuple (tL ts))), x5, x6, x7, x8, im (.int t.1), im (.int t.2.1), im (.int t.2.2), x12, x13, x14, x15, x16, x17, none, none], rfl, rfl, rfl, rfl⟩
theorem l4 {o9 o10 o11 : Option D} (ht : Ts ts) (m0 : 0 < tp) (ok : h.ok) : ∃ (h' : Hand) (ts' : List T3), w_law_1_4 (j + 20) (Q s h x2 (im (.int tp)) (im (.tuple (tL ts))) x5 x6 x7 x8 (o9.map .im) (o10.map .im) (o11.map .im) x12 x13 x14 x15 x16 x17) = .nx (Q s h' x2 (im (.int tp)) (im (.tuple (tL ts'))) x5 x6 x7 x8 (o9.map .im) (o10.map .im) (o11.map .im) x12 x13 x14 x15 x16 x17) ∧ Ts ts' ∧ h'.ok := by
  obtain ⟨h1, i, e1, i0, i1, ok1⟩ := t_draw (j + 19) (m := 2) ok (by decide) (by decide)
  have t : op2 (cmpF .Eq) (callE [true, false] (P.run (j + 20 + 2) d__law_draw) [(varE 1), (immE (.int 2))]) (immE (.int 0)) (Q s h x2 (im (.int tp)) (im (.tuple (tL ts))) x5 x6 x7 x8 (o9.map .im) (o10.map .im) (o11.map .im) x12 x13 x14 x15 x16 x17) = .ok (.im (.bool (decide (i = 0)))) (Q s h1 x2 (im (.int tp)) (im (.tuple (tL ts))) x5 x6 x7 x8 (o9.map .im) (o10.map .im) (o11.map .im) x12 x13 x14 x15 x16 x17) := by
    simp only [Q, im, e1, seqS, SR.bind, Res.st, Res.bind, retS, exprS, ifS, asgS, nameG, stS_n, stS_1, stS_2, stS_3, stS_4, stS_5, stS_6, stS_7, stS_8, stS_9, stS_10, stS_11, stS_12, stS_13, stS_14, stS_15, asgT, unpT, tupT, parS, argsP, parG, immE, varE, lift, un1, op2, andE, orE, notE, ifE, chainE, tru, argsD, tupE, lstE, argsO, toPar, backs, callE, vw, vws, fzO, gt, pt, bltE, isiE, isisE, tyD, imB, imI, cmpF, cmpD, binD_add, binD_sub, augD, sliE, optE, sliD, itE, argsI, hid_im, hid_tl, hid_n, mutE, mtF, appF, isOl, setiS, setF, endF, outO, finsOf_f, finsOf_t, finsOf_n, fxOf, raiseS, seqF, seqD, nameT, unhS, List.replicate, List.cons_append, List.nil_append, List.contains, List.elem, Option.map, Option.bind, ltD_int, leD_int, eqD_int, eqD_str, Bool.not_true, Bool.not_false, Bool.false_eq_true, if_true, if_false]
  by_cases z : i = 0
  · rw [decide_eq_true z] at t
    refine ⟨h1, ts.map (wsh tp), ?_, wsh_ts m0 ht, ok1⟩
    unfold w_law_1_4
    rw [ifS_true t, seqS_one]
    exact asgS_im (blt_of (c0 (by have := ht.2.1; omega)) rfl) rfl
  · rw [decide_eq_false z] at t
    refine ⟨h1, ts, ?_, ht, ok1⟩
    unfold w_law_1_4
    rw [ifS_false t]
    rfl
theorem l5 (ht : Ts ts) : w_law_1_5 (j + 20) (Q s h x2 x3 (im (.tuple (tL ts))) x5 x6 x7 x8 x9 x10 x11 x12 x13 x14 x15 x16 x17) = .nx (Q s h x2 x3 (im (.tuple (tL ts))) x5 (im (.list (rL (lev ts.length ts.length)))) x7 x8 x9 x10 x11 x12 x13 x14 x15 x16 x17) :=
  rows_asg (len_t rfl) (t_lrows (j + 19) (n := ts.length) (N := (ts.length : Int)) rfl (by have := ht.2.1; omega) ht.1)
theorem l6 (ht : Ts ts) (ok : h.ok) : ∃ (h' : Hand) (r : List Int), w_law_1_6 (j + 20) (Q s h x2 x3 x4 x5 (im (.list (rL (lev ts.length ts.length)))) x7 x8 x9 x10 x11 x12 x13 x14 x15 x16 x17) = .nx (Q s h' x2 x3 x4 x5 (im (.list (rL (lev ts.length ts.length)))) (im (.tuple (iL r))) x8 x9 x10 x11 x12 x13 x14 x15 x16 x17) ∧ Row ts.length r ∧ h'.ok := by
  have lm : rng ts.length ∈ lev ts.length ts.length := lev_row.mpr ⟨rng_len, rng_nodup, fun i hi => rng_mem.mp hi⟩
  have ls := lev_small ht
  have lr : ∀ r ∈ lev ts.length ts.length, Row ts.length r := fun r hr => lev_row.mp hr
  generalize lev ts.length ts.length = rs at lm ls lr
  obtain ⟨h1, x, e1, hx, ok1⟩ := t_any (j + 18) (xs := rL rs) ok (.inr rfl) (by rw [rL_len]; exact List.length_pos_of_mem lm) (by rw [rL_len]; omega)
  obtain ⟨r, hr, rfl⟩ := List.mem_map.mp hx
  refine ⟨h1, r, ?_, lr r hr, ok1⟩
  generalize rL rs = xs at e1
  simp only [w_law_1_6, Q, im, e1, seqS, SR.bind, Res.st, Res.bind, retS, exprS, ifS, asgS, nameG, stS_n, stS_1, stS_2, stS_3, stS_4, stS_5, stS_6, stS_7, stS_8, stS_9, stS_10, stS_11, stS_12, stS_13, stS_14, stS_15, asgT, unpT, tupT, parS, argsP, parG, immE, varE, lift, un1, op2, andE, orE, notE, ifE, chainE, tru, argsD, tupE, lstE, argsO, toPar, backs, callE, vw, vws, fzO, gt, pt, bltE, isiE, isisE, tyD, imB, imI, cmpF, cmpD, binD_add, binD_sub, augD, sliE, optE, sliD, itE, argsI, hid_im, hid_tl, hid_n, mutE, mtF, appF, isOl, setiS, setF, endF, outO, finsOf_f, finsOf_t, finsOf_n, fxOf, raiseS, seqF, seqD, nameT, unhS, List.replicate, List.cons_append, List.nil_append, List.contains, List.elem, Option.map, Option.bind, ltD_int, leD_int, eqD_int, eqD_str, Bool.not_true, Bool.not_false, Bool.false_eq_true, if_true, if_false]
theorem l7 (ht : Ts ts) (hr : Row ts.length r) : w_law_1_7 (j + 20) (Q s h x2 x3 (im (.tuple (tL ts))) x5 x6 (im (.tuple (iL r))) x8 x9 x10 x11 x12 x13 x14 x15 x16 x17) = .nx (Q s h x2 x3 (im (.tuple (tL ts))) x5 x6 (im (.tuple (iL r))) x8 x9 x10 x11 x12 x13 x14 x15 x16 x17) := by
  unfold w_law_1_7
  exact ne_skip shp_int (call2 rfl rfl (t_three_end (j + 13) ht hr)) (call2 rfl rfl (t_l3 (j + 19) hr.2.2))
theorem c1 (ht : Ts ts) : c_law_1 (j + 20) (Q s h x2 x3 (im (.tuple (tL ts))) x5 (im (.list (rL (lev ts.length ts.length)))) x7 x8 x9 x10 x11 x12 x13 x14 x15 x16 x17) = .ok (.tl ((lev ts.length ts.length).map (eD ts))) (Q s h x2 x3 (im (.tuple (tL ts))) x5 (im (.list (rL (lev ts.length ts.length)))) x7 x8 x9 x10 x11 x12 x13 x14 x15 x16 x17) := by
  rw [← eF_map]
  have ls := lev_small ht
  have lr : ∀ r ∈ lev ts.length ts.length, Row ts.length r := fun r hr => lev_row.mp hr
  generalize lev ts.length ts.length = rs at ls lr
  refine compE_map (eF ts) rfl rfl (by rw [rL_len]; simp [sizeMax]; omega) fun d hd => ?_
  obtain ⟨r, hr, rfl⟩ := List.mem_map.mp hd
  have row := lr r hr
  refine ⟨[some (.im s), some (.ol h.ds), x2, x3, (im (.tuple (tL ts))), x5, (im (.list (rL rs))), x7, x8, x9, x10, x11, x12, x13, x14, x15, x16, x17, im (.tuple (iL r)), none], rfl, rfl, ?_, rfl⟩
  have ee : eF ts (.tuple (iL r)) = eD ts r := by simp only [eF, intsD_iL]
  rw [ee]
  exact told2 rfl rfl (t_l3 (j + 19) row.2.2)
theorem l8 (ht : Ts ts) (hm : bltD .min [.list ((lev ts.length ts.length).map (eD ts))] = some (.im (eD ts m))) : w_law_1_8 (j + 20) (Q s h x2 x3 (im (.tuple (tL ts))) x5 (im (.list (rL (lev ts.length ts.length)))) x7 x8 x9 x10 x11 x12 x13 x14 x15 x16 x17) = .nx (Q s h x2 x3 (im (.tuple (tL ts))) x5 (im (.list (rL (lev ts.length ts.length)))) x7 (im (eD ts m)) x9 x10 x11 x12 x13 x14 x15 x16 x17) := asgS_im (blt_of (c1 ht) hm) rfl
theorem l9 (ht : Ts ts) (hm : bltD .min [.list ((lev ts.length ts.length).map (eD ts))] = some (.im (eD ts m))) : w_law_1_9 (j + 20) (Q s h x2 x3 (im (.tuple (tL ts))) x5 x6 x7 (im (eD ts m)) x9 x10 x11 x12 x13 x14 x15 x16 x17) = .nx (Q s h x2 x3 (im (.tuple (tL ts))) x5 x6 x7 (im (eD ts m)) x9 x10 x11 x12 x13 x14 x15 x16 x17) := by
  unfold w_law_1_9
  exact ne_skip eD_shp (call1 rfl (t_three_told (j + 14) ht hm)) rfl
theorem lw_comp {elt : ME} {f : T3 → Int} (hl : ts.length ≤ 100) (he : ∀ t : T3, elt [some (.im s), some (.ol h.ds), x2, x3, (im (.tuple (tL ts))), x5, x6, x7, x8, x9, x10, x11, x12, x13, x14, x15, x16, x17, none, im (tD t)] = .ok (.im (.int (f t))) [some (.im s), some (.ol h.ds), x2, x3, (im (.tuple (tL ts))), x5, x6, x7, x8, x9, x10, x11, x12, x13, x14, x15, x16, x17, none, im (tD t)]) : compE [19] (itE [] seqF [(varE 4)]) (nameT [] 19) (condE []) elt (Q s h x2 x3 (im (.tuple (tL ts))) x5 x6 x7 x8 x9 x10 x11 x12 x13 x14 x15 x16 x17) = .ok (.tl (iL (ts.map f))) (Q s h x2 x3 (im (.tuple (tL ts))) x5 x6 x7 x8 x9 x10 x11 x12 x13 x14 x15 x16 x17) := by
  rw [← lif_map]
  refine compE_map (lif f) rfl rfl (by rw [tL_len]; simp [sizeMax]; omega) fun d hd => ?_
  obtain ⟨t, ht, rfl⟩ := List.mem_map.mp hd
  exact ⟨[some (.im s), some (.ol h.ds), x2, x3, (im (.tuple (tL ts))), x5, x6, x7, x8, x9, x10, x11, x12, x13, x14, x15, x16, x17, none, im (tD t)], rfl, rfl, he t, rfl⟩
theorem l10 (ht : Ts ts) : w_law_1_10 (j + 20) (Q s h x2 x3 (im (.tuple (tL ts))) x5 x6 x7 x8 x9 x10 x11 x12 x13 x14 x15 x16 x17) = .nx (Q s h x2 x3 (im (.tuple (tL ts))) x5 x6 x7 x8 (im (.int (sm fw ts + mn fsd ts))) x10 x11 x12 x13 x14 x15 x16 x17) :=
  asgS_im (add_ok (blt_of (lw_comp (f := fw) (by have := ht.2.1; omega) fun t => rfl) sum_sm) (blt_of (lw_comp (f := fsd) (by have := ht.2.1; omega) fun t => rfl) (min_mn (ts_ne ht)))) rfl
theorem l11 (ht : Ts ts) : w_law_1_11 (j + 20) (Q s h x2 x3 (im (.tuple (tL ts))) x5 x6 x7 x8 x9 x10 x11 x12 x13 x14 x15 x16 x17) = .nx (Q s h x2 x3 (im (.tuple (tL ts))) x5 x6 x7 x8 x9 (im (.int (sm fs ts + mn fw ts + mn fd ts))) x11 x12 x13 x14 x15 x16 x17) :=
  asgS_im (add_ok (add_ok (blt_of (lw_comp (f := fs) (by have := ht.2.1; omega) fun t => rfl) sum_sm) (blt_of (lw_comp (f := fw) (by have := ht.2.1; omega) fun t => rfl) (min_mn (ts_ne ht)))) (blt_of (lw_comp (f := fd) (by have := ht.2.1; omega) fun t => rfl) (min_mn (ts_ne ht)))) rfl
theorem l12 (ht : Ts ts) : w_law_1_12 (j + 20) (Q s h x2 x3 (im (.tuple (tL ts))) x5 x6 x7 x8 x9 x10 x11 x12 x13 x14 x15 x16 x17) = .nx (Q s h x2 x3 (im (.tuple (tL ts))) x5 x6 x7 x8 x9 x10 (im (.int (sm fd ts + mn fws ts))) x12 x13 x14 x15 x16 x17) :=
  asgS_im (add_ok (blt_of (lw_comp (f := fd) (by have := ht.2.1; omega) fun t => rfl) sum_sm) (blt_of (lw_comp (f := fws) (by have := ht.2.1; omega) fun t => rfl) (min_mn (ts_ne ht)))) rfl
theorem max3 {a b c : Int} : bltD .max [.int a, .int b, .int c] = some (.im (.int (if b > a then (if c > b then c else b) else (if c > a then c else a)))) := rfl
theorem mx3_call {a b c : ME} {e : Sl} {i j k : Int} {x : D} {G : List D → Option Op} (h1 : a e = .ok (.im (.int i)) e) (h2 : b e = .ok (.im (.int j)) e) (h3 : c e = .ok (.im (.int k)) e) (hG : G [.int i, .int j, .int k] = some (.im x)) : bltE G [a, b, c] e = .ok (.im x) e := by
  simp only [bltE, argsO, argsD, h1, h2, h3, Res.bind, vw, vws, fzO, Option.map, hG, lift]
theorem l13 (ht : Ts ts) (hm : Row ts.length m) : w_law_1_13 (j + 20) (Q s h x2 x3 (im (.tuple (tL ts))) x5 x6 x7 (im (eD ts m)) (im (.int (sm fw ts + mn fsd ts))) (im (.int (sm fs ts + mn fw ts + mn fd ts))) (im (.int (sm fd ts + mn fws ts))) x12 x13 x14 x15 x16 x17) = .nx (Q s h x2 x3 (im (.tuple (tL ts))) x5 x6 x7 (im (eD ts m)) (im (.int (sm fw ts + mn fsd ts))) (im (.int (sm fs ts + mn fw ts + mn fd ts))) (im (.int (sm fd ts + mn fws ts))) x12 x13 x14 x15 x16 x17) := by
  obtain ⟨b0, b1, b2⟩ := bounds ht hm
  have z0 := mn_0 (ts := ts)
  have f1 : decide (e3 ts 0 0 0 m < bnd ts) = false := decide_eq_false (by
    unfold bnd
    simp only [List.foldl_cons, List.foldl_nil]
    omega)
  have f2 : decide ((if (sm fs ts + mn fw ts + mn fd ts) > (sm fw ts + mn fsd ts) then (if (sm fd ts + mn fws ts) > (sm fs ts + mn fw ts + mn fd ts) then (sm fd ts + mn fws ts) else (sm fs ts + mn fw ts + mn fd ts)) else (if (sm fd ts + mn fws ts) > (sm fw ts + mn fsd ts) then (sm fd ts + mn fws ts) else (sm fw ts + mn fsd ts))) < bnd ts) = false := decide_eq_false (by
    unfold bnd B0 B1 B2
    simp only [List.foldl_cons, List.foldl_nil]
    rw [z0]
    split <;> split <;> omega)
  have g1 := lt_call (e := (Q s h x2 x3 (im (.tuple (tL ts))) x5 x6 x7 (im (eD ts m)) (im (.int (sm fw ts + mn fsd ts))) (im (.int (sm fs ts + mn fw ts + mn fd ts))) (im (.int (sm fd ts + mn fws ts))) x12 x13 x14 x15 x16 x17)) (a := op2 subD (varE 8) (immE (.int 0))) (b := callE [false] (P.run (j + 20 + 2) d_three_bound) [(varE 4)]) (i := e3 ts 0 0 0 m) (j := bnd ts) rfl (call1 rfl (t_three_bound (j + 14) ht))
  have g2 := gt_call (e := (Q s h x2 x3 (im (.tuple (tL ts))) x5 x6 x7 (im (eD ts m)) (im (.int (sm fw ts + mn fsd ts))) (im (.int (sm fs ts + mn fw ts + mn fd ts))) (im (.int (sm fd ts + mn fws ts))) x12 x13 x14 x15 x16 x17)) (a := callE [false] (P.run (j + 20 + 2) d_three_bound) [(varE 4)]) (i := bnd ts) (call1 rfl (t_three_bound (j + 14) ht)) (mx3_call (a := varE 9) (b := varE 10) (c := varE 11) rfl rfl rfl max3)
  rw [f1] at g1
  rw [f2] at g2
  unfold w_law_1_13
  exact if_skip (or2_false g1 g2)
def p2F : D → D
  | .tuple [.int a, .int b, .int c] => .tuple [.int (a + b), .int (b + c)]
  | d => d
theorem c9 (ht : Ts ts) : c_law_9 (j + 20) (Q s h x2 x3 (im (.tuple (tL ts))) x5 x6 x7 x8 x9 x10 x11 x12 x13 x14 x15 x16 x17) = .ok (.tl (hL (prs ts))) (Q s h x2 x3 (im (.tuple (tL ts))) x5 x6 x7 x8 x9 x10 x11 x12 x13 x14 x15 x16 x17) := by
  have pm : (tL ts).map p2F = hL (prs ts) := by
    unfold tL hL prs
    rw [List.map_map, List.map_map]
    rfl
  rw [← pm]
  refine compE_map p2F rfl rfl (by rw [tL_len]; have := ht.2.1; simp [sizeMax]; omega) fun d hd => ?_
  obtain ⟨t, ht, rfl⟩ := List.mem_map.mp hd
  exact ⟨[some (.im s), some (.ol h.ds), x2, x3, (im (.tuple (tL ts))), x5, x6, x7, x8, x9, x10, x11, x12, x13, x14, x15, x16, x17, none, im (tD t)], rfl, rfl, rfl, rfl⟩
theorem l14 (ht : Ts ts) : w_law_1_14 (j + 20) (Q s h x2 x3 (im (.tuple (tL ts))) x5 x6 x7 x8 x9 x10 x11 x12 x13 x14 x15 x16 x17) = .nx (Q s h x2 x3 (im (.tuple (tL ts))) x5 x6 x7 x8 x9 x10 x11 (im (.tuple (iL (jo (prs ts))))) x13 x14 x15 x16 x17) :=
  asgS_im (call1 (blt_of (c9 ht) rfl) (t_ljohnson (j + 19) (by rw [prs_len]; have := ht.2.1; omega))) rfl
theorem l15 (ht : Ts ts) : w_law_1_15 (j + 20) (Q s h x2 x3 (im (.tuple (tL ts))) x5 x6 x7 x8 x9 x10 x11 x12 x13 x14 x15 x16 x17) = .nx (Q s h x2 x3 (im (.tuple (tL ts))) x5 x6 x7 x8 x9 x10 x11 x12 (im (.int (mxs ts))) x14 x15 x16 x17) :=
  asgS_im (blt_of (lw_comp (f := fs) (by have := ht.2.1; omega) fun t => rfl) (max_mxs (ts_ne ht))) rfl
theorem l16 (ht : Ts ts) : w_law_1_16 (j + 20) (Q s h x2 x3 (im (.tuple (tL ts))) x5 x6 x7 x8 x9 x10 x11 x12 (im (.int (mxs ts))) x14 x15 x16 x17) = .nx (Q s h x2 x3 (im (.tuple (tL ts))) x5 x6 x7 x8 x9 x10 x11 x12 (im (.int (mxs ts))) (im (.bool (esy ts))) x15 x16 x17) :=
  asgS_im (or_call (le_call (a := varE 13) (i := mxs ts) rfl (blt_of (lw_comp (f := fw) (by have := ht.2.1; omega) fun t => rfl) (min_mn (ts_ne ht)))) (le_call (a := varE 13) (i := mxs ts) rfl (blt_of (lw_comp (f := fd) (by have := ht.2.1; omega) fun t => rfl) (min_mn (ts_ne ht))))) rfl
theorem l17 (ht : Ts ts) (hm : Row ts.length m) (least : ∀ r ∈ lev ts.length ts.length, e3 ts 0 0 0 m ≤ e3 ts 0 0 0 r) : w_law_1_17 (j + 20) (Q s h x2 x3 (im (.tuple (tL ts))) x5 x6 x7 (im (eD ts m)) x9 x10 x11 (im (.tuple (iL (jo (prs ts))))) x13 (im (.bool (esy ts))) x15 x16 x17) = .nx (Q s h x2 x3 (im (.tuple (tL ts))) x5 x6 x7 (im (eD ts m)) x9 x10 x11 (im (.tuple (iL (jo (prs ts))))) x13 (im (.bool (esy ts))) x15 x16 x17) := by
  have jr : Row ts.length (jo (prs ts)) := by have := jo_row (ps := prs ts); rw [prs_len] at this; exact this
  unfold w_law_1_17
  refine if_skip (or3_false (ne_false iL_shp (call1 rfl (t_by_pairs (j + 14) ht)) rfl) (ne_false shp_bool (call1 rfl (t_is_easy (j + 14) ht)) rfl) (and2_false (b := esy ts) rfl fun he => ?_))
  have eb := easy_best ht he hm least
  refine ne_false (d := .int (e3 ts 0 0 0 m)) shp_int ?_ rfl
  rw [← eb]
  exact call2 rfl rfl (t_l3 (j + 19) jr.2.2)
theorem l18 (ok : h.ok) : ∃ (h' : Hand) (bd : D), w_law_1_18 (j + 20) (Q s h x2 x3 x4 x5 x6 x7 x8 x9 x10 x11 x12 x13 x14 x15 x16 x17) = .nx (Q s h' x2 x3 x4 x5 x6 x7 x8 x9 x10 x11 x12 x13 x14 (im bd) x16 x17) ∧ bd ∈ noThree ∧ h'.ok := by
  obtain ⟨h1, bd, e1, hm, ok1⟩ := t_any (j + 18) (xs := noThree) ok (.inl rfl) (by simp [noThree]) (by simp [noThree])
  refine ⟨h1, bd, ?_, hm, ok1⟩
  have m6 : binD .Mult (.tuple [.tuple [.int 1, .int 1, .int 1]]) (.int 6) = some (.im (.tuple (List.replicate 6 (.tuple [.int 1, .int 1, .int 1])))) := mul_tup (by decide) (by decide)
  unfold noThree at e1
  generalize List.replicate 6 (PyData.tuple [.int 1, .int 1, .int 1]) = zs at m6 e1
  simp only [w_law_1_18, Q, im, m6, e1, seqS, SR.bind, Res.st, Res.bind, retS, exprS, ifS, asgS, nameG, stS_n, stS_1, stS_2, stS_3, stS_4, stS_5, stS_6, stS_7, stS_8, stS_9, stS_10, stS_11, stS_12, stS_13, stS_14, stS_15, asgT, unpT, tupT, parS, argsP, parG, immE, varE, lift, un1, op2, andE, orE, notE, ifE, chainE, tru, argsD, tupE, lstE, argsO, toPar, backs, callE, vw, vws, fzO, gt, pt, bltE, isiE, isisE, tyD, imB, imI, cmpF, cmpD, binD_add, binD_sub, augD, sliE, optE, sliD, itE, argsI, hid_im, hid_tl, hid_n, mutE, mtF, appF, isOl, setiS, setF, endF, outO, finsOf_f, finsOf_t, finsOf_n, fxOf, raiseS, seqF, seqD, nameT, unhS, List.replicate, List.cons_append, List.nil_append, List.contains, List.elem, Option.map, Option.bind, ltD_int, leD_int, eqD_int, eqD_str, Bool.not_true, Bool.not_false, Bool.false_eq_true, if_true, if_false]
theorem l19 (ht : Ts ts) (ok : h.ok) : ∃ (h' : Hand) (off : D), w_law_1_19 (j + 20) (Q s h x2 x3 (im (.tuple (tL ts))) x5 x6 x7 x8 x9 x10 x11 x12 x13 x14 x15 x16 x17) = .nx (Q s h' x2 x3 (im (.tuple (tL ts))) x5 x6 x7 x8 x9 x10 x11 x12 x13 x14 x15 (im off) x17) ∧ off ∈ noOrd ts.length ∧ h'.ok := by
  obtain ⟨h1, off, e1, hm, ok1⟩ := t_no_order (j + 17) (N := (ts.length : Int)) ok rfl (by have := ht.2.1; omega)
  exact ⟨h1, off, asgS_im (off_call e1 (len_t rfl)) rfl, hm, ok1⟩
theorem l20 {bd off : D} (ht : Ts ts) (hb : bd ∈ noThree) (ho : off ∈ noOrd ts.length) : w_law_1_20 (j + 20) (Q s h x2 x3 (im (.tuple (tL ts))) x5 x6 x7 x8 x9 x10 x11 x12 x13 x14 (im bd) (im off) x17) = .nx (Q s h x2 x3 (im (.tuple (tL ts))) x5 x6 x7 x8 x9 x10 x11 x12 x13 x14 (im bd) (im off) (some (.ol [.str "three"]))) := by
  have g : g_law_0 (j + 20) (Q s h x2 x3 (im (.tuple (tL ts))) x5 x6 x7 x8 x9 x10 x11 x12 x13 x14 (im bd) (im off) x17) = .ok (.im (.str "three")) (Q s h x2 x3 (im (.tuple (tL ts))) x5 x6 x7 x8 x9 x10 x11 x12 x13 x14 (im bd) (im off) x17) := by
    have z := er_end (j + 9) (x := off) hb
    simp only [im] at z
    exact lamE_ok rfl (by simp only [gb_law_0, z, callE, argsO, varE, gtI, Q, im, gt, Res.bind, toPar, Option.map, lres]) (said0 (j + 20))
  refine asgS_tl (e1 := (Q s h x2 x3 (im (.tuple (tL ts))) x5 x6 x7 x8 x9 x10 x11 x12 x13 x14 (im bd) (im off) x17)) ?_ rfl
  generalize g_law_0 (j + 20) = G at g
  simp only [lstE, argsD, g, Res.bind, vw, fzO, Option.map]
theorem l21 {bd off : D} (ht : Ts ts) (hb : bd ∈ noThree) (ho : off ∈ noOrd ts.length) {xs : List D} (hx : xs.length < 20) : w_law_1_21 (j + 20) (Q s h x2 x3 (im (.tuple (tL ts))) x5 x6 x7 x8 x9 x10 x11 x12 x13 x14 (im bd) (im off) (some (.ol xs))) = .nx (Q s h x2 x3 (im (.tuple (tL ts))) x5 x6 x7 x8 x9 x10 x11 x12 x13 x14 (im bd) (im off) (some (.ol (xs ++ [.str "order"])))) := by
  have g : g_law_1 (j + 20) (Q s h x2 x3 (im (.tuple (tL ts))) x5 x6 x7 x8 x9 x10 x11 x12 x13 x14 (im bd) (im off) (some (.ol xs))) = .ok (.im (.str "order")) (Q s h x2 x3 (im (.tuple (tL ts))) x5 x6 x7 x8 x9 x10 x11 x12 x13 x14 (im bd) (im off) (some (.ol xs))) := by
    have z := er_end2 (j + 10) ht ho
    simp only [im] at z
    exact lamE_ok rfl (by simp only [gb_law_1, z, callE, argsO, varE, gtI, Q, im, gt, Res.bind, toPar, Option.map, lres]) (said1 (j + 20))
  have l : xs.length < sizeMax := by simp [sizeMax]; omega
  simp only [w_law_1_21, g, l, seqS, SR.bind, Res.st, Res.bind, retS, exprS, ifS, asgS, nameG, stS_n, stS_1, stS_2, stS_3, stS_4, stS_5, stS_6, stS_7, stS_8, stS_9, stS_10, stS_11, stS_12, stS_13, stS_14, stS_15, asgT, unpT, tupT, parS, argsP, parG, immE, varE, lift, un1, op2, andE, orE, notE, ifE, chainE, tru, argsD, tupE, lstE, argsO, toPar, backs, callE, vw, vws, fzO, gt, pt, bltE, isiE, isisE, tyD, imB, imI, cmpF, cmpD, binD_add, binD_sub, augD, sliE, optE, sliD, itE, argsI, hid_im, hid_tl, hid_n, mutE, mtF, appF, isOl, setiS, setF, endF, outO, finsOf_f, finsOf_t, finsOf_n, fxOf, raiseS, seqF, seqD, nameT, unhS, List.replicate, List.cons_append, List.nil_append, List.contains, List.elem, Option.map, Option.bind, ltD_int, leD_int, eqD_int, eqD_str, Bool.not_true, Bool.not_false, Bool.false_eq_true, if_true, if_false]
theorem l22 {bd off : D} (ht : Ts ts) (hb : bd ∈ noThree) (ho : off ∈ noOrd ts.length) {xs : List D} (hx : xs.length < 20) : w_law_1_22 (j + 20) (Q s h x2 x3 (im (.tuple (tL ts))) x5 x6 x7 x8 x9 x10 x11 x12 x13 x14 (im bd) (im off) (some (.ol xs))) = .nx (Q s h x2 x3 (im (.tuple (tL ts))) x5 x6 x7 x8 x9 x10 x11 x12 x13 x14 (im bd) (im off) (some (.ol (xs ++ [.str "three"])))) := by
  have g : g_law_2 (j + 20) (Q s h x2 x3 (im (.tuple (tL ts))) x5 x6 x7 x8 x9 x10 x11 x12 x13 x14 (im bd) (im off) (some (.ol xs))) = .ok (.im (.str "three")) (Q s h x2 x3 (im (.tuple (tL ts))) x5 x6 x7 x8 x9 x10 x11 x12 x13 x14 (im bd) (im off) (some (.ol xs))) := by
    have z := er_told (j + 9) hb
    simp only [im] at z
    exact lamE_ok rfl (by simp only [gb_law_2, z, callE, argsO, varE, gtI, Q, im, gt, Res.bind, toPar, Option.map, lres]) (said0 (j + 20))
  have l : xs.length < sizeMax := by simp [sizeMax]; omega
  simp only [w_law_1_22, g, l, seqS, SR.bind, Res.st, Res.bind, retS, exprS, ifS, asgS, nameG, stS_n, stS_1, stS_2, stS_3, stS_4, stS_5, stS_6, stS_7, stS_8, stS_9, stS_10, stS_11, stS_12, stS_13, stS_14, stS_15, asgT, unpT, tupT, parS, argsP, parG, immE, varE, lift, un1, op2, andE, orE, notE, ifE, chainE, tru, argsD, tupE, lstE, argsO, toPar, backs, callE, vw, vws, fzO, gt, pt, bltE, isiE, isisE, tyD, imB, imI, cmpF, cmpD, binD_add, binD_sub, augD, sliE, optE, sliD, itE, argsI, hid_im, hid_tl, hid_n, mutE, mtF, appF, isOl, setiS, setF, endF, outO, finsOf_f, finsOf_t, finsOf_n, fxOf, raiseS, seqF, seqD, nameT, unhS, List.replicate, List.cons_append, List.nil_append, List.contains, List.elem, Option.map, Option.bind, ltD_int, leD_int, eqD_int, eqD_str, Bool.not_true, Bool.not_false, Bool.false_eq_true, if_true, if_false]
theorem l23 {bd off : D} (ht : Ts ts) (hb : bd ∈ noThree) (ho : off ∈ noOrd ts.length) {xs : List D} (hx : xs.length < 20) : w_law_1_23 (j + 20) (Q s h x2 x3 (im (.tuple (tL ts))) x5 x6 x7 x8 x9 x10 x11 x12 x13 x14 (im bd) (im off) (some (.ol xs))) = .nx (Q s h x2 x3 (im (.tuple (tL ts))) x5 x6 x7 x8 x9 x10 x11 x12 x13 x14 (im bd) (im off) (some (.ol (xs ++ [.str "three"])))) := by
  have g : g_law_3 (j + 20) (Q s h x2 x3 (im (.tuple (tL ts))) x5 x6 x7 x8 x9 x10 x11 x12 x13 x14 (im bd) (im off) (some (.ol xs))) = .ok (.im (.str "three")) (Q s h x2 x3 (im (.tuple (tL ts))) x5 x6 x7 x8 x9 x10 x11 x12 x13 x14 (im bd) (im off) (some (.ol xs))) := by
    have z := er_bound (j + 9) hb
    simp only [im] at z
    exact lamE_ok rfl (by simp only [gb_law_3, z, callE, argsO, varE, gtI, Q, im, gt, Res.bind, toPar, Option.map, lres]) (said0 (j + 20))
  have l : xs.length < sizeMax := by simp [sizeMax]; omega
  simp only [w_law_1_23, g, l, seqS, SR.bind, Res.st, Res.bind, retS, exprS, ifS, asgS, nameG, stS_n, stS_1, stS_2, stS_3, stS_4, stS_5, stS_6, stS_7, stS_8, stS_9, stS_10, stS_11, stS_12, stS_13, stS_14, stS_15, asgT, unpT, tupT, parS, argsP, parG, immE, varE, lift, un1, op2, andE, orE, notE, ifE, chainE, tru, argsD, tupE, lstE, argsO, toPar, backs, callE, vw, vws, fzO, gt, pt, bltE, isiE, isisE, tyD, imB, imI, cmpF, cmpD, binD_add, binD_sub, augD, sliE, optE, sliD, itE, argsI, hid_im, hid_tl, hid_n, mutE, mtF, appF, isOl, setiS, setF, endF, outO, finsOf_f, finsOf_t, finsOf_n, fxOf, raiseS, seqF, seqD, nameT, unhS, List.replicate, List.cons_append, List.nil_append, List.contains, List.elem, Option.map, Option.bind, ltD_int, leD_int, eqD_int, eqD_str, Bool.not_true, Bool.not_false, Bool.false_eq_true, if_true, if_false]
theorem l24 {bd off : D} (ht : Ts ts) (hb : bd ∈ noThree) (ho : off ∈ noOrd ts.length) {xs : List D} (hx : xs.length < 20) : w_law_1_24 (j + 20) (Q s h x2 x3 (im (.tuple (tL ts))) x5 x6 x7 x8 x9 x10 x11 x12 x13 x14 (im bd) (im off) (some (.ol xs))) = .nx (Q s h x2 x3 (im (.tuple (tL ts))) x5 x6 x7 x8 x9 x10 x11 x12 x13 x14 (im bd) (im off) (some (.ol (xs ++ [.str "three"])))) := by
  have g : g_law_4 (j + 20) (Q s h x2 x3 (im (.tuple (tL ts))) x5 x6 x7 x8 x9 x10 x11 x12 x13 x14 (im bd) (im off) (some (.ol xs))) = .ok (.im (.str "three")) (Q s h x2 x3 (im (.tuple (tL ts))) x5 x6 x7 x8 x9 x10 x11 x12 x13 x14 (im bd) (im off) (some (.ol xs))) := by
    have z := er_pairs (j + 9) hb
    simp only [im] at z
    exact lamE_ok rfl (by simp only [gb_law_4, z, callE, argsO, varE, gtI, Q, im, gt, Res.bind, toPar, Option.map, lres]) (said0 (j + 20))
  have l : xs.length < sizeMax := by simp [sizeMax]; omega
  simp only [w_law_1_24, g, l, seqS, SR.bind, Res.st, Res.bind, retS, exprS, ifS, asgS, nameG, stS_n, stS_1, stS_2, stS_3, stS_4, stS_5, stS_6, stS_7, stS_8, stS_9, stS_10, stS_11, stS_12, stS_13, stS_14, stS_15, asgT, unpT, tupT, parS, argsP, parG, immE, varE, lift, un1, op2, andE, orE, notE, ifE, chainE, tru, argsD, tupE, lstE, argsO, toPar, backs, callE, vw, vws, fzO, gt, pt, bltE, isiE, isisE, tyD, imB, imI, cmpF, cmpD, binD_add, binD_sub, augD, sliE, optE, sliD, itE, argsI, hid_im, hid_tl, hid_n, mutE, mtF, appF, isOl, setiS, setF, endF, outO, finsOf_f, finsOf_t, finsOf_n, fxOf, raiseS, seqF, seqD, nameT, unhS, List.replicate, List.cons_append, List.nil_append, List.contains, List.elem, Option.map, Option.bind, ltD_int, leD_int, eqD_int, eqD_str, Bool.not_true, Bool.not_false, Bool.false_eq_true, if_true, if_false]
theorem l25 {bd off : D} (ht : Ts ts) (hb : bd ∈ noThree) (ho : off ∈ noOrd ts.length) {xs : List D} (hx : xs.length < 20) : w_law_1_25 (j + 20) (Q s h x2 x3 (im (.tuple (tL ts))) x5 x6 x7 x8 x9 x10 x11 x12 x13 x14 (im bd) (im off) (some (.ol xs))) = .nx (Q s h x2 x3 (im (.tuple (tL ts))) x5 x6 x7 x8 x9 x10 x11 x12 x13 x14 (im bd) (im off) (some (.ol (xs ++ [.str "three"])))) := by
  have g : g_law_5 (j + 20) (Q s h x2 x3 (im (.tuple (tL ts))) x5 x6 x7 x8 x9 x10 x11 x12 x13 x14 (im bd) (im off) (some (.ol xs))) = .ok (.im (.str "three")) (Q s h x2 x3 (im (.tuple (tL ts))) x5 x6 x7 x8 x9 x10 x11 x12 x13 x14 (im bd) (im off) (some (.ol xs))) := by
    have z := er_easy (j + 9) hb
    simp only [im] at z
    exact lamE_ok rfl (by simp only [gb_law_5, z, callE, argsO, varE, gtI, Q, im, gt, Res.bind, toPar, Option.map, lres]) (said0 (j + 20))
  have l : xs.length < sizeMax := by simp [sizeMax]; omega
  simp only [w_law_1_25, g, l, seqS, SR.bind, Res.st, Res.bind, retS, exprS, ifS, asgS, nameG, stS_n, stS_1, stS_2, stS_3, stS_4, stS_5, stS_6, stS_7, stS_8, stS_9, stS_10, stS_11, stS_12, stS_13, stS_14, stS_15, asgT, unpT, tupT, parS, argsP, parG, immE, varE, lift, un1, op2, andE, orE, notE, ifE, chainE, tru, argsD, tupE, lstE, argsO, toPar, backs, callE, vw, vws, fzO, gt, pt, bltE, isiE, isisE, tyD, imB, imI, cmpF, cmpD, binD_add, binD_sub, augD, sliE, optE, sliD, itE, argsI, hid_im, hid_tl, hid_n, mutE, mtF, appF, isOl, setiS, setF, endF, outO, finsOf_f, finsOf_t, finsOf_n, fxOf, raiseS, seqF, seqD, nameT, unhS, List.replicate, List.cons_append, List.nil_append, List.contains, List.elem, Option.map, Option.bind, ltD_int, leD_int, eqD_int, eqD_str, Bool.not_true, Bool.not_false, Bool.false_eq_true, if_true, if_false]
def nin9 : List D := [.str "three", .str "order", .str "three", .str "three", .str "three", .str "three"]
theorem l26 : w_law_1_26 (j + 20) (Q s h x2 x3 x4 x5 x6 x7 x8 x9 x10 x11 x12 x13 x14 x15 x16 (some (.ol nin9))) = .nx (Q s h x2 x3 x4 x5 x6 x7 x8 x9 x10 x11 x12 x13 x14 x15 x16 (some (.ol nin9))) := by
  have e : shp (.list nin9) = true := by simp only [nin9, shp_N, shpN_list, shpNs_cons, shpN_str, shpN_bool, shpNs_nil, Bool.and_self]
  simp only [nin9] at e
  simp only [w_law_1_26, Q, im, nin9, eqD_self e, decide_true, seqS, SR.bind, Res.st, Res.bind, retS, exprS, ifS, asgS, nameG, stS_n, stS_1, stS_2, stS_3, stS_4, stS_5, stS_6, stS_7, stS_8, stS_9, stS_10, stS_11, stS_12, stS_13, stS_14, stS_15, asgT, unpT, tupT, parS, argsP, parG, immE, varE, lift, un1, op2, andE, orE, notE, ifE, chainE, tru, argsD, tupE, lstE, argsO, toPar, backs, callE, vw, vws, fzO, gt, pt, bltE, isiE, isisE, tyD, imB, imI, cmpF, cmpD, binD_add, binD_sub, augD, sliE, optE, sliD, itE, argsI, hid_im, hid_tl, hid_n, mutE, mtF, appF, isOl, setiS, setF, endF, outO, finsOf_f, finsOf_t, finsOf_n, fxOf, raiseS, seqF, seqD, nameT, unhS, List.replicate, List.cons_append, List.nil_append, List.contains, List.elem, Option.map, Option.bind, ltD_int, leD_int, eqD_int, eqD_str, Bool.not_true, Bool.not_false, Bool.false_eq_true, if_true, if_false]
theorem turn {o9 o10 o11 : Option D} (ok : h.ok) : ∃ (h' : Hand) (q9 q10 q11 : Option D) (y3 y4 y5 y6 y7 y8 y12 y13 y14 y15 y16 y17 : Option Sv), lb_law_1 (j + 20) (Q s h x2 x3 x4 x5 x6 x7 x8 (o9.map .im) (o10.map .im) (o11.map .im) x12 x13 x14 x15 x16 x17) = .nx (Q s h' x2 y3 y4 y5 y6 y7 y8 (q9.map .im) (q10.map .im) (q11.map .im) y12 y13 y14 y15 y16 y17) ∧ h'.ok := by
  obtain ⟨h0, tp, e0, m0, m1, ok0⟩ := l0 (j := j) (s := s) (x2 := x2) (x3 := x3) (x4 := x4) (x5 := x5) (x6 := x6) (x7 := x7) (x8 := x8) (x9 := (o9.map .im)) (x10 := (o10.map .im)) (x11 := (o11.map .im)) (x12 := x12) (x13 := x13) (x14 := x14) (x15 := x15) (x16 := x16) (x17 := x17) ok
  have e1 := l1 (j := j) (s := s) (h := h0) (x2 := x2) (x3 := (im (.int tp))) (x4 := x4) (x5 := x5) (x6 := x6) (x7 := x7) (x8 := x8) (x9 := (o9.map .im)) (x10 := (o10.map .im)) (x11 := (o11.map .im)) (x12 := x12) (x13 := x13) (x14 := x14) (x15 := x15) (x16 := x16) (x17 := x17)
  obtain ⟨h2, t0, y5, e2, ht0, ok2⟩ := l2 (j := j) (s := s) (x2 := x2) (x5 := x5) (x6 := x6) (x7 := x7) (x8 := x8) (x9 := (o9.map .im)) (x10 := (o10.map .im)) (x11 := (o11.map .im)) (x12 := x12) (x13 := x13) (x14 := x14) (x15 := x15) (x16 := x16) (x17 := x17) ok0 m0 m1
  have e3 := l3 (j := j) (s := s) (h := h2) (ts := t0) (x2 := x2) (x3 := (im (.int tp))) (x5 := y5) (x6 := x6) (x7 := x7) (x8 := x8) (x9 := (o9.map .im)) (x10 := (o10.map .im)) (x11 := (o11.map .im)) (x12 := x12) (x13 := x13) (x14 := x14) (x15 := x15) (x16 := x16) (x17 := x17)
  obtain ⟨h4, ts, e4, ht, ok4⟩ := l4 (j := j) (s := s) (o9 := o9) (o10 := o10) (o11 := o11) (x2 := x2) (x5 := y5) (x6 := x6) (x7 := x7) (x8 := x8) (x12 := x12) (x13 := x13) (x14 := x14) (x15 := x15) (x16 := x16) (x17 := x17) ht0 m0 ok2
  have e5 := l5 (j := j) (s := s) (h := h4) (x2 := x2) (x3 := (im (.int tp))) (x5 := y5) (x6 := x6) (x7 := x7) (x8 := x8) (x9 := (o9.map .im)) (x10 := (o10.map .im)) (x11 := (o11.map .im)) (x12 := x12) (x13 := x13) (x14 := x14) (x15 := x15) (x16 := x16) (x17 := x17) ht
  obtain ⟨h6, r, e6, hr, ok6⟩ := l6 (j := j) (s := s) (x2 := x2) (x3 := (im (.int tp))) (x4 := (im (.tuple (tL ts)))) (x5 := y5) (x7 := x7) (x8 := x8) (x9 := (o9.map .im)) (x10 := (o10.map .im)) (x11 := (o11.map .im)) (x12 := x12) (x13 := x13) (x14 := x14) (x15 := x15) (x16 := x16) (x17 := x17) ht ok4
  have e7 := l7 (j := j) (s := s) (h := h6) (x2 := x2) (x3 := (im (.int tp))) (x5 := y5) (x6 := (im (.list (rL (lev ts.length ts.length))))) (x8 := x8) (x9 := (o9.map .im)) (x10 := (o10.map .im)) (x11 := (o11.map .im)) (x12 := x12) (x13 := x13) (x14 := x14) (x15 := x15) (x16 := x16) (x17 := x17) ht hr
  obtain ⟨m, mm, hm, least⟩ := min_rows (ts := ts) (rs := lev ts.length ts.length) (List.ne_nil_of_mem (lev_row.mpr hr))
  have mr := lev_row.mp mm
  have e8 := l8 (j := j) (s := s) (h := h6) (x2 := x2) (x3 := (im (.int tp))) (x5 := y5) (x7 := (im (.tuple (iL r)))) (x8 := x8) (x9 := (o9.map .im)) (x10 := (o10.map .im)) (x11 := (o11.map .im)) (x12 := x12) (x13 := x13) (x14 := x14) (x15 := x15) (x16 := x16) (x17 := x17) ht hm
  have e9 := l9 (j := j) (s := s) (h := h6) (x2 := x2) (x3 := (im (.int tp))) (x5 := y5) (x6 := (im (.list (rL (lev ts.length ts.length))))) (x7 := (im (.tuple (iL r)))) (x9 := (o9.map .im)) (x10 := (o10.map .im)) (x11 := (o11.map .im)) (x12 := x12) (x13 := x13) (x14 := x14) (x15 := x15) (x16 := x16) (x17 := x17) ht hm
  have e10 := l10 (j := j) (s := s) (h := h6) (x2 := x2) (x3 := (im (.int tp))) (x5 := y5) (x6 := (im (.list (rL (lev ts.length ts.length))))) (x7 := (im (.tuple (iL r)))) (x8 := (im (eD ts m))) (x9 := (o9.map .im)) (x10 := (o10.map .im)) (x11 := (o11.map .im)) (x12 := x12) (x13 := x13) (x14 := x14) (x15 := x15) (x16 := x16) (x17 := x17) ht
  have e11 := l11 (j := j) (s := s) (h := h6) (x2 := x2) (x3 := (im (.int tp))) (x5 := y5) (x6 := (im (.list (rL (lev ts.length ts.length))))) (x7 := (im (.tuple (iL r)))) (x8 := (im (eD ts m))) (x9 := (im (.int (sm fw ts + mn fsd ts)))) (x10 := (o10.map .im)) (x11 := (o11.map .im)) (x12 := x12) (x13 := x13) (x14 := x14) (x15 := x15) (x16 := x16) (x17 := x17) ht
  have e12 := l12 (j := j) (s := s) (h := h6) (x2 := x2) (x3 := (im (.int tp))) (x5 := y5) (x6 := (im (.list (rL (lev ts.length ts.length))))) (x7 := (im (.tuple (iL r)))) (x8 := (im (eD ts m))) (x9 := (im (.int (sm fw ts + mn fsd ts)))) (x10 := (im (.int (sm fs ts + mn fw ts + mn fd ts)))) (x11 := (o11.map .im)) (x12 := x12) (x13 := x13) (x14 := x14) (x15 := x15) (x16 := x16) (x17 := x17) ht
  have e13 := l13 (j := j) (s := s) (h := h6) (x2 := x2) (x3 := (im (.int tp))) (x5 := y5) (x6 := (im (.list (rL (lev ts.length ts.length))))) (x7 := (im (.tuple (iL r)))) (x12 := x12) (x13 := x13) (x14 := x14) (x15 := x15) (x16 := x16) (x17 := x17) ht mr
  have e14 := l14 (j := j) (s := s) (h := h6) (x2 := x2) (x3 := (im (.int tp))) (x5 := y5) (x6 := (im (.list (rL (lev ts.length ts.length))))) (x7 := (im (.tuple (iL r)))) (x8 := (im (eD ts m))) (x9 := (im (.int (sm fw ts + mn fsd ts)))) (x10 := (im (.int (sm fs ts + mn fw ts + mn fd ts)))) (x11 := (im (.int (sm fd ts + mn fws ts)))) (x12 := x12) (x13 := x13) (x14 := x14) (x15 := x15) (x16 := x16) (x17 := x17) ht
  have e15 := l15 (j := j) (s := s) (h := h6) (x2 := x2) (x3 := (im (.int tp))) (x5 := y5) (x6 := (im (.list (rL (lev ts.length ts.length))))) (x7 := (im (.tuple (iL r)))) (x8 := (im (eD ts m))) (x9 := (im (.int (sm fw ts + mn fsd ts)))) (x10 := (im (.int (sm fs ts + mn fw ts + mn fd ts)))) (x11 := (im (.int (sm fd ts + mn fws ts)))) (x12 := (im (.tuple (iL (jo (prs ts)))))) (x13 := x13) (x14 := x14) (x15 := x15) (x16 := x16) (x17 := x17) ht
  have e16 := l16 (j := j) (s := s) (h := h6) (x2 := x2) (x3 := (im (.int tp))) (x5 := y5) (x6 := (im (.list (rL (lev ts.length ts.length))))) (x7 := (im (.tuple (iL r)))) (x8 := (im (eD ts m))) (x9 := (im (.int (sm fw ts + mn fsd ts)))) (x10 := (im (.int (sm fs ts + mn fw ts + mn fd ts)))) (x11 := (im (.int (sm fd ts + mn fws ts)))) (x12 := (im (.tuple (iL (jo (prs ts)))))) (x14 := x14) (x15 := x15) (x16 := x16) (x17 := x17) ht
  have e17 := l17 (j := j) (s := s) (h := h6) (x2 := x2) (x3 := (im (.int tp))) (x5 := y5) (x6 := (im (.list (rL (lev ts.length ts.length))))) (x7 := (im (.tuple (iL r)))) (x9 := (im (.int (sm fw ts + mn fsd ts)))) (x10 := (im (.int (sm fs ts + mn fw ts + mn fd ts)))) (x11 := (im (.int (sm fd ts + mn fws ts)))) (x13 := (im (.int (mxs ts)))) (x15 := x15) (x16 := x16) (x17 := x17) ht mr least
  obtain ⟨h18, bd, e18, hb, ok18⟩ := l18 (j := j) (s := s) (x2 := x2) (x3 := (im (.int tp))) (x4 := (im (.tuple (tL ts)))) (x5 := y5) (x6 := (im (.list (rL (lev ts.length ts.length))))) (x7 := (im (.tuple (iL r)))) (x8 := (im (eD ts m))) (x9 := (im (.int (sm fw ts + mn fsd ts)))) (x10 := (im (.int (sm fs ts + mn fw ts + mn fd ts)))) (x11 := (im (.int (sm fd ts + mn fws ts)))) (x12 := (im (.tuple (iL (jo (prs ts)))))) (x13 := (im (.int (mxs ts)))) (x14 := (im (.bool (esy ts)))) (x15 := x15) (x16 := x16) (x17 := x17) ok6
  obtain ⟨h19, off, e19, ho, ok19⟩ := l19 (j := j) (s := s) (x2 := x2) (x3 := (im (.int tp))) (x5 := y5) (x6 := (im (.list (rL (lev ts.length ts.length))))) (x7 := (im (.tuple (iL r)))) (x8 := (im (eD ts m))) (x9 := (im (.int (sm fw ts + mn fsd ts)))) (x10 := (im (.int (sm fs ts + mn fw ts + mn fd ts)))) (x11 := (im (.int (sm fd ts + mn fws ts)))) (x12 := (im (.tuple (iL (jo (prs ts)))))) (x13 := (im (.int (mxs ts)))) (x14 := (im (.bool (esy ts)))) (x15 := (im bd)) (x16 := x16) (x17 := x17) ht ok18
  have e : lb_law_1 (j + 20) (Q s h x2 x3 x4 x5 x6 x7 x8 (o9.map .im) (o10.map .im) (o11.map .im) x12 x13 x14 x15 x16 x17) = .nx (Q s h19 x2 (im (.int tp)) (im (.tuple (tL ts))) y5 (im (.list (rL (lev ts.length ts.length)))) (im (.tuple (iL r))) (im (eD ts m)) (im (.int (sm fw ts + mn fsd ts))) (im (.int (sm fs ts + mn fw ts + mn fd ts))) (im (.int (sm fd ts + mn fws ts))) (im (.tuple (iL (jo (prs ts))))) (im (.int (mxs ts))) (im (.bool (esy ts))) (im bd) (im off) (some (.ol nin9))) := by
    unfold lb_law_1
    rw [seqS_nx e0, seqS_nx e1, seqS_nx e2, seqS_nx e3, seqS_nx e4, seqS_nx e5, seqS_nx e6, seqS_nx e7, seqS_nx e8, seqS_nx e9, seqS_nx e10, seqS_nx e11, seqS_nx e12, seqS_nx e13, seqS_nx e14, seqS_nx e15, seqS_nx e16, seqS_nx e17, seqS_nx e18, seqS_nx e19, seqS_nx (l20 ht hb ho), seqS_nx (l21 ht hb ho (by decide)), seqS_nx (l22 ht hb ho (by decide)), seqS_nx (l23 ht hb ho (by decide)), seqS_nx (l24 ht hb ho (by decide)), seqS_nx (l25 ht hb ho (by decide)), seqS_one]
    exact l26
  exact ⟨_, some (.int (sm fw ts + mn fsd ts)), some (.int (sm fs ts + mn fw ts + mn fd ts)), some (.int (sm fd ts + mn fws ts)), _, _, _, _, _, _, _, _, _, _, _, _, e, ok19⟩
end
theorem t_law (ns : List Int) : ∃ fin, P.run 30 d_law [some (.im (.dict [(.none, .list (iL ns))]))] = .ok (.im (.bool true)) fin := by
  obtain ⟨h, ok, e0⟩ := t_hand 26 ns
  have s0 : b_law_0 27 [some (.im (.dict [(.none, .list (iL ns))])), none, none, none, none, none, none, none, none, none, none, none, none, none, none, none, none, none, none, none] = .nx (Q (.dict [(.none, .list (iL ns))]) h none none none none none none none none none none none none none none none none) := by
    simp only [b_law_0, Q, e0, seqS, SR.bind, Res.st, Res.bind, retS, exprS, ifS, asgS, nameG, stS_n, stS_1, stS_2, stS_3, stS_4, stS_5, stS_6, stS_7, stS_8, stS_9, stS_10, stS_11, stS_12, stS_13, stS_14, stS_15, asgT, unpT, tupT, parS, argsP, parG, immE, varE, lift, un1, op2, andE, orE, notE, ifE, chainE, tru, argsD, tupE, lstE, argsO, toPar, backs, callE, vw, vws, fzO, gt, pt, bltE, isiE, isisE, tyD, imB, imI, cmpF, cmpD, binD_add, binD_sub, augD, sliE, optE, sliD, itE, argsI, hid_im, hid_tl, hid_n, mutE, mtF, appF, isOl, setiS, setF, endF, outO, finsOf_f, finsOf_t, finsOf_n, fxOf, raiseS, seqF, seqD, nameT, unhS, List.replicate, List.cons_append, List.nil_append, List.contains, List.elem, Option.map, Option.bind, ltD_int, leD_int, eqD_int, eqD_str, Bool.not_true, Bool.not_false, Bool.false_eq_true, if_true, if_false]
  obtain ⟨e', hl, h', q9, q10, q11, z2, z3, z4, z5, z6, z7, z8, z12, z13, z14, z15, z16, z17, ok', rfl⟩ := forL_inv (tg := nameT [] 2) (body := lb_law_1 27) (fun e => ∃ (h : Hand) (o9 o10 o11 : Option D) (x2 x3 x4 x5 x6 x7 x8 x12 x13 x14 x15 x16 x17 : Option Sv), h.ok ∧ e = Q (.dict [(.none, .list (iL ns))]) h x2 x3 x4 x5 x6 x7 x8 (o9.map .im) (o10.map .im) (o11.map .im) x12 x13 x14 x15 x16 x17) (rangeI 0 4) _ ⟨h, none, none, none, none, none, none, none, none, none, none, none, none, none, none, none, none, ok, rfl⟩ (fun d _ e ⟨h, o9, o10, o11, x2, x3, x4, x5, x6, x7, x8, x12, x13, x14, x15, x16, x17, ok, he⟩ => by
    subst he
    obtain ⟨h', q9, q10, q11, y3, y4, y5, y6, y7, y8, y12, y13, y14, y15, y16, y17, e, ok'⟩ := turn (j := 7) (s := (.dict [(.none, .list (iL ns))])) (x2 := im d) (o9 := o9) (o10 := o10) (o11 := o11) (x3 := x3) (x4 := x4) (x5 := x5) (x6 := x6) (x7 := x7) (x8 := x8) (x12 := x12) (x13 := x13) (x14 := x14) (x15 := x15) (x16 := x16) (x17 := x17) ok
    exact ⟨_, rfl, _, e, h', q9, q10, q11, _, _, _, _, _, _, _, _, _, _, _, _, _, ok', rfl⟩)
  have s1 : b_law_1 27 (Q (.dict [(.none, .list (iL ns))]) h none none none none none none none none none none none none none none none none) = .nx (Q (.dict [(.none, .list (iL ns))]) h' z2 z3 z4 z5 z6 z7 z8 (q9.map .im) (q10.map .im) (q11.map .im) z12 z13 z14 z15 z16 z17) := by
    unfold b_law_1 l_law_1
    exact forS_nx (ds := rangeI 0 4) (by kernel_rfl) hl
  have s2 : b_law_2 27 (Q (.dict [(.none, .list (iL ns))]) h' z2 z3 z4 z5 z6 z7 z8 (q9.map .im) (q10.map .im) (q11.map .im) z12 z13 z14 z15 z16 z17) = .rt (.im (.bool true)) (Q (.dict [(.none, .list (iL ns))]) h' z2 z3 z4 z5 z6 z7 z8 (q9.map .im) (q10.map .im) (q11.map .im) z12 z13 z14 z15 z16 z17) := rfl
  rw [r_law 27]
  show ∃ fin, endF [false] (seqS _ [some (.im (.dict [(.none, .list (iL ns))])), none, none, none, none, none, none, none, none, none, none, none, none, none, none, none, none, none, none, none]) = _
  rw [seqS_nx s0, seqS_nx s1, seqS_one, s2]
  exact ⟨_, rfl⟩
end Lw
end
section
set_option maxHeartbeats 0
namespace Lw
open Ev
theorem pays : Pays P 30 d_law 63 := fun ns _ => t_law ns
end Lw
end
section
set_option maxHeartbeats 0
namespace Lw
open PySem PySem.Spec PyProof.Rows L2 Ev
theorem sc_is_integer : FnScope ["thing"] ["thing"] (defScope s_is_integer) := ⟨rfl, rfl, rfl, by decide +kernel, rfl, by decide +kernel, by decide +kernel⟩
def D_is_integer : He.DefD := ⟨("is_integer", none), "is_integer", "is_integer", defArgs s_is_integer, defBody s_is_integer, defScope s_is_integer, [], []⟩
theorem sc_is_within : FnScope ["thing", "low", "high"] ["thing", "low", "high"] (defScope s_is_within) := ⟨rfl, rfl, rfl, by decide +kernel, rfl, by decide +kernel, by decide +kernel⟩
def D_is_within : He.DefD := ⟨("is_within", none), "is_within", "is_within", defArgs s_is_within, defBody s_is_within, defScope s_is_within, [], []⟩
theorem sc_is_sized : FnScope ["thing", "low", "high"] ["thing", "low", "high"] (defScope s_is_sized) := ⟨rfl, rfl, rfl, by decide +kernel, rfl, by decide +kernel, by decide +kernel⟩
def D_is_sized : He.DefD := ⟨("is_sized", none), "is_sized", "is_sized", defArgs s_is_sized, defBody s_is_sized, defScope s_is_sized, [], []⟩
theorem sc_are_all : FnScope ["thing", "many", "one"] ["thing", "many"] (defScope s_are_all) := ⟨rfl, rfl, rfl, by decide +kernel, rfl, by decide +kernel, by decide +kernel⟩
def D_are_all : He.DefD := ⟨("are_all", none), "are_all", "are_all", defArgs s_are_all, defBody s_are_all, defScope s_are_all, [], []⟩
theorem sc_all_rows : FnScope ["some", "found", "turn", "longer", "row", "one"] ["some"] (defScope s_all_rows) := ⟨rfl, rfl, rfl, by decide +kernel, rfl, by decide +kernel, by decide +kernel⟩
def D_all_rows : He.DefD := ⟨("all_rows", none), "all_rows", "all_rows", defArgs s_all_rows, defBody s_all_rows, defScope s_all_rows, [], []⟩
theorem sc_are_times : FnScope ["thing", "many", "one"] ["thing", "many"] (defScope s_are_times) := ⟨rfl, rfl, rfl, by decide +kernel, rfl, by decide +kernel, by decide +kernel⟩
def D_are_times : He.DefD := ⟨("are_times", none), "are_times", "are_times", defArgs s_are_times, defBody s_are_times, defScope s_are_times, [], []⟩
theorem sc_raw_johnson : FnScope ["heap", "first", "last", "load", "minutes", "wash", "dry"] ["heap"] (defScope s_raw_johnson) := ⟨rfl, rfl, rfl, by decide +kernel, rfl, by decide +kernel, by decide +kernel⟩
def D_raw_johnson : He.DefD := ⟨("raw_johnson", none), "raw_johnson", "raw_johnson", defArgs s_raw_johnson, defBody s_raw_johnson, defScope s_raw_johnson, [], []⟩
theorem sc_orders_of : FnScope ["heap"] ["heap"] (defScope s_orders_of) := ⟨rfl, rfl, rfl, by decide +kernel, rfl, by decide +kernel, by decide +kernel⟩
def D_orders_of : He.DefD := ⟨("orders_of", none), "orders_of", "orders_of", defArgs s_orders_of, defBody s_orders_of, defScope s_orders_of, [], []⟩
theorem sc_check_three : FnScope ["thing", "load"] ["thing"] (defScope s_check_three) := ⟨rfl, rfl, rfl, by decide +kernel, rfl, by decide +kernel, by decide +kernel⟩
def D_check_three : He.DefD := ⟨("check_three", none), "check_three", "check_three", defArgs s_check_three, defBody s_check_three, defScope s_check_three, [], []⟩
theorem sc_raw_three : FnScope ["three", "order", "ends", "load", "ahead", "machine"] ["three", "order"] (defScope s_raw_three) := ⟨rfl, rfl, rfl, by decide +kernel, rfl, by decide +kernel, by decide +kernel⟩
def D_raw_three : He.DefD := ⟨("raw_three", none), "raw_three", "raw_three", defArgs s_raw_three, defBody s_raw_three, defScope s_raw_three, [], []⟩
theorem sc_three_end : FnScope ["three", "order"] ["three", "order"] (defScope s_three_end) := ⟨rfl, rfl, rfl, by decide +kernel, rfl, by decide +kernel, by decide +kernel⟩
def D_three_end : He.DefD := ⟨("three_end", none), "three_end", "three_end", defArgs s_three_end, defBody s_three_end, defScope s_three_end, [], []⟩
theorem sc_three_told : FnScope ["three", "order"] ["three"] (defScope s_three_told) := ⟨rfl, rfl, rfl, by decide +kernel, rfl, by decide +kernel, by decide +kernel⟩
def D_three_told : He.DefD := ⟨("three_told", none), "three_told", "three_told", defArgs s_three_told, defBody s_three_told, defScope s_three_told, [], []⟩
theorem sc_three_bound : FnScope ["three", "found", "machine", "ahead", "behind", "load"] ["three"] (defScope s_three_bound) := ⟨rfl, rfl, rfl, by decide +kernel, rfl, by decide +kernel, by decide +kernel⟩
def D_three_bound : He.DefD := ⟨("three_bound", none), "three_bound", "three_bound", defArgs s_three_bound, defBody s_three_bound, defScope s_three_bound, [], []⟩
theorem sc_raw_pairs : FnScope ["three", "wash", "spin", "dry"] ["three"] (defScope s_raw_pairs) := ⟨rfl, rfl, rfl, by decide +kernel, rfl, by decide +kernel, by decide +kernel⟩
def D_raw_pairs : He.DefD := ⟨("raw_pairs", none), "raw_pairs", "raw_pairs", defArgs s_raw_pairs, defBody s_raw_pairs, defScope s_raw_pairs, [], []⟩
theorem sc_by_pairs : FnScope ["three"] ["three"] (defScope s_by_pairs) := ⟨rfl, rfl, rfl, by decide +kernel, rfl, by decide +kernel, by decide +kernel⟩
def D_by_pairs : He.DefD := ⟨("by_pairs", none), "by_pairs", "by_pairs", defArgs s_by_pairs, defBody s_by_pairs, defScope s_by_pairs, [], []⟩
theorem sc_is_easy : FnScope ["three", "most", "wash", "spin", "dry"] ["three"] (defScope s_is_easy) := ⟨rfl, rfl, rfl, by decide +kernel, rfl, by decide +kernel, by decide +kernel⟩
def D_is_easy : He.DefD := ⟨("is_easy", none), "is_easy", "is_easy", defArgs s_is_easy, defBody s_is_easy, defScope s_is_easy, [], []⟩
theorem sc__law_hand : FnScope ["script", "cells", "cell"] ["script"] (defScope s__law_hand) := ⟨rfl, rfl, rfl, by decide +kernel, rfl, by decide +kernel, by decide +kernel⟩
def D__law_hand : He.DefD := ⟨("_law_hand", none), "_law_hand", "_law_hand", defArgs s__law_hand, defBody s__law_hand, defScope s__law_hand, [], []⟩
theorem sc__law_draw : FnScope ["hand", "many", "number", "cell", "digit"] ["hand", "many"] (defScope s__law_draw) := ⟨rfl, rfl, rfl, by decide +kernel, rfl, by decide +kernel, by decide +kernel⟩
def D__law_draw : He.DefD := ⟨("_law_draw", none), "_law_draw", "_law_draw", defArgs s__law_draw, defBody s__law_draw, defScope s__law_draw, [], []⟩
theorem sc__law_any : FnScope ["hand", "some"] ["hand", "some"] (defScope s__law_any) := ⟨rfl, rfl, rfl, by decide +kernel, rfl, by decide +kernel, by decide +kernel⟩
def D__law_any : He.DefD := ⟨("_law_any", none), "_law_any", "_law_any", defArgs s__law_any, defBody s__law_any, defScope s__law_any, [], []⟩
theorem sc__law_rows : FnScope ["n", "found", "step", "longer", "row", "one"] ["n"] (defScope s__law_rows) := ⟨rfl, rfl, rfl, by decide +kernel, rfl, by decide +kernel, by decide +kernel⟩
def D__law_rows : He.DefD := ⟨("_law_rows", none), "_law_rows", "_law_rows", defArgs s__law_rows, defBody s__law_rows, defScope s__law_rows, [], []⟩
theorem sc__law_johnson : FnScope ["heap", "first", "last", "load", "many", "wash", "dry"] ["heap"] (defScope s__law_johnson) := ⟨rfl, rfl, rfl, by decide +kernel, rfl, by decide +kernel, by decide +kernel⟩
def D__law_johnson : He.DefD := ⟨("_law_johnson", none), "_law_johnson", "_law_johnson", defArgs s__law_johnson, defBody s__law_johnson, defScope s__law_johnson, [], []⟩
theorem sc__law_no_order : FnScope ["hand", "n"] ["hand", "n"] (defScope s__law_no_order) := ⟨rfl, rfl, rfl, by decide +kernel, rfl, by decide +kernel, by decide +kernel⟩
def D__law_no_order : He.DefD := ⟨("_law_no_order", none), "_law_no_order", "_law_no_order", defArgs s__law_no_order, defBody s__law_no_order, defScope s__law_no_order, [], []⟩
theorem sc__law_word : FnScope ["call", "word", "e", "flags", "names"] ["call"] (defScope s__law_word) := ⟨rfl, rfl, rfl, by decide +kernel, rfl, by decide +kernel, by decide +kernel⟩
def D__law_word : He.DefD := ⟨("_law_word", none), "_law_word", "_law_word", defArgs s__law_word, defBody s__law_word, defScope s__law_word, [], []⟩
theorem sc__law_three_end : FnScope ["three", "order", "load", "washed", "spun", "dried"] ["three", "order"] (defScope s__law_three_end) := ⟨rfl, rfl, rfl, by decide +kernel, rfl, by decide +kernel, by decide +kernel⟩
def D__law_three_end : He.DefD := ⟨("_law_three_end", none), "_law_three_end", "_law_three_end", defArgs s__law_three_end, defBody s__law_three_end, defScope s__law_three_end, [], []⟩
theorem sc_law : FnScope ["script", "hand", "turn", "top", "three", "load", "rows", "order", "best", "wash", "spin", "dry", "pairs", "most", "easy", "bad", "off", "words", "row", "one"] ["script"] (defScope s_law) := ⟨rfl, rfl, rfl, by decide +kernel, rfl, by decide +kernel, by decide +kernel⟩
def D_law : He.DefD := ⟨("law", none), "law", "law", defArgs s_law, defBody s_law, defScope s_law, [], []⟩
def fn : List He.DefD := [D_is_integer, D_is_within, D_is_sized, D_are_all, D_all_rows, D_are_times, D_raw_johnson, D_orders_of, D_check_three, D_raw_three, D_three_end, D_three_told, D_three_bound, D_raw_pairs, D_by_pairs, D_is_easy, D__law_hand, D__law_draw, D__law_any, D__law_rows, D__law_johnson, D__law_no_order, D__law_word, D__law_three_end, D_law]
def tf : List He.Defn := [("law", none)]
abbrev hk : PySem.W.Hook := He.hookX 5 [] fn [] tf (modB P tf)
abbrev R : PySem.W.OpenRow := PySem.W.OpenLaw.row PySem.Challenge.rw_washhouse_k14_whole_rows_of_three_machin
def ob (s : PySem.W.SharedT) : He.AlX := He.obsX 5 [] fn [] tf (modB P tf) (HandSHeadRun.getT s)
theorem ob_eq (s : PySem.W.SharedT) : ob s = hk.obs s.abs := He.obsX_eq (HandSHeadRun.getT_eq s)
def loose0 : List Str := ["is_integer", "is_within", "is_sized", "are_all", "all_rows", "WashError", "NoEnd", "NoHeap", "NoLoad", "NoOrder", "NoThree", "TooFew", "TooMany", "MOST_MINUTES", "MOST_THREE", "are_times", "raw_johnson", "orders_of", "check_three", "raw_three"]
def loose1 : List Str := ["three_end", "three_told", "three_bound", "raw_pairs", "by_pairs", "is_easy", "_law_hand", "_law_draw", "_law_any", "_law_rows", "_law_johnson", "_law_no_order", "_law_word", "_law_three_end"]
def loose : List Str := (loose0 ++ loose1)
theorem run (w : World) : HandSHeadRun.RunEq R (PySem.W.view R.prog [38]) hk ob 4000 loose w := by
  intro os
  kernel_rfl
open PySem.W in
theorem at_law {w : World} {mg : Str → Option Value} {f : Addr} {h : Heap} {K : PySem.W.Frag} (X : K.In h) (G : h.Ns mainGlobals mg) (S : He.SaysX [] fn [] tf (modB P tf) w h K) (hf : mg ("law" : Str) = some (.ref f)) (hp : Pays P 30 d_law 63) :
    LamX.LawAtS PySem.Challenge.rw_washhouse_k14_whole_rows_of_three_machin w K (L2.CX (PySem.Challenge.rw_washhouse_k14_whole_rows_of_three_machin).prog w) 30 63 "script" mg f h := by
  have hu := uniq_of S.more
  have gd : ∀ (i : Nat) (x : Str) (d : Df), P.defs[i]? = some (x, d) → mg x = some (.ref (He.ga K x)) := fun i x d hx => glos_ok X G (gloD_of S.more) (List.mem_of_getElem? hx)
  have gl : ∀ (i : Nat) (x : Str) (d : Df), P.lams[i]? = some (x, d) → mg x = some (.ref (He.ga K x)) := fun i x d hx => glos_ok X G (gloL_of S.more) (List.mem_of_getElem? hx)
  obtain ⟨e0, F0⟩ := He.SaysD.def_ S.t.d 0 (d := D_is_integer) rfl
  obtain ⟨e1, F1⟩ := He.SaysD.def_ S.t.d 1 (d := D_is_within) rfl
  obtain ⟨e2, F2⟩ := He.SaysD.def_ S.t.d 2 (d := D_is_sized) rfl
  obtain ⟨e3, F3⟩ := He.SaysD.def_ S.t.d 3 (d := D_are_all) rfl
  obtain ⟨e4, F4⟩ := He.SaysD.def_ S.t.d 4 (d := D_all_rows) rfl
  obtain ⟨e5, F5⟩ := He.SaysD.def_ S.t.d 5 (d := D_are_times) rfl
  obtain ⟨e6, F6⟩ := He.SaysD.def_ S.t.d 6 (d := D_raw_johnson) rfl
  obtain ⟨e7, F7⟩ := He.SaysD.def_ S.t.d 7 (d := D_orders_of) rfl
  obtain ⟨e8, F8⟩ := He.SaysD.def_ S.t.d 8 (d := D_check_three) rfl
  obtain ⟨e9, F9⟩ := He.SaysD.def_ S.t.d 9 (d := D_raw_three) rfl
  obtain ⟨e10, F10⟩ := He.SaysD.def_ S.t.d 10 (d := D_three_end) rfl
  obtain ⟨e11, F11⟩ := He.SaysD.def_ S.t.d 11 (d := D_three_told) rfl
  obtain ⟨e12, F12⟩ := He.SaysD.def_ S.t.d 12 (d := D_three_bound) rfl
  obtain ⟨e13, F13⟩ := He.SaysD.def_ S.t.d 13 (d := D_raw_pairs) rfl
  obtain ⟨e14, F14⟩ := He.SaysD.def_ S.t.d 14 (d := D_by_pairs) rfl
  obtain ⟨e15, F15⟩ := He.SaysD.def_ S.t.d 15 (d := D_is_easy) rfl
  obtain ⟨e16, F16⟩ := He.SaysD.def_ S.t.d 16 (d := D__law_hand) rfl
  obtain ⟨e17, F17⟩ := He.SaysD.def_ S.t.d 17 (d := D__law_draw) rfl
  obtain ⟨e18, F18⟩ := He.SaysD.def_ S.t.d 18 (d := D__law_any) rfl
  obtain ⟨e19, F19⟩ := He.SaysD.def_ S.t.d 19 (d := D__law_rows) rfl
  obtain ⟨e20, F20⟩ := He.SaysD.def_ S.t.d 20 (d := D__law_johnson) rfl
  obtain ⟨e21, F21⟩ := He.SaysD.def_ S.t.d 21 (d := D__law_no_order) rfl
  obtain ⟨e22, F22⟩ := He.SaysD.def_ S.t.d 22 (d := D__law_word) rfl
  obtain ⟨e23, F23⟩ := He.SaysD.def_ S.t.d 23 (d := D__law_three_end) rfl
  obtain ⟨e24, F24⟩ := He.SaysD.def_ S.t.d 24 (d := D_law) rfl
  have D24 : DefsOk K (ltOf K mg tf) (csOf K tf) mg [] := .nil
  have D23 := DefsOk.addF D24 (x := "law") (st := s_law) (N := ["script", "hand", "turn", "top", "three", "load", "rows", "order", "best", "wash", "spin", "dry", "pairs", "most", "easy", "bad", "off", "words", "row", "one"]) (br := [false]) (tab := true) hu (gd 23 "law" d_law rfl) F24 (fun _ => by decide) sc_law rfl (fun _ _ _ _ _ _ us hl => match us, hl with | [_], _ => by kernel_rfl)
  have D22 := DefsOk.addF D23 (x := "_law_three_end") (st := s__law_three_end) (N := ["three", "order", "load", "washed", "spun", "dried"]) (br := [false, false]) (tab := false) hu (gd 22 "_law_three_end" d__law_three_end rfl) F23 (fun z => by cases z) sc__law_three_end rfl (fun _ _ _ _ _ _ us hl => match us, hl with | [_, _], _ => by kernel_rfl)
  have D21 := DefsOk.addF D22 (x := "_law_no_order") (st := s__law_no_order) (N := ["hand", "n"]) (br := [true, false]) (tab := false) hu (gd 21 "_law_no_order" d__law_no_order rfl) F21 (fun z => by cases z) sc__law_no_order rfl (fun _ _ _ _ _ _ us hl => match us, hl with | [_, _], _ => by kernel_rfl)
  have D20 := DefsOk.addF D21 (x := "_law_johnson") (st := s__law_johnson) (N := ["heap", "first", "last", "load", "many", "wash", "dry"]) (br := [false]) (tab := false) hu (gd 20 "_law_johnson" d__law_johnson rfl) F20 (fun z => by cases z) sc__law_johnson rfl (fun _ _ _ _ _ _ us hl => match us, hl with | [_], _ => by kernel_rfl)
  have D19 := DefsOk.addF D20 (x := "_law_rows") (st := s__law_rows) (N := ["n", "found", "step", "longer", "row", "one"]) (br := [false]) (tab := false) hu (gd 19 "_law_rows" d__law_rows rfl) F19 (fun z => by cases z) sc__law_rows rfl (fun _ _ _ _ _ _ us hl => match us, hl with | [_], _ => by kernel_rfl)
  have D18 := DefsOk.addF D19 (x := "_law_any") (st := s__law_any) (N := ["hand", "some"]) (br := [true, false]) (tab := false) hu (gd 18 "_law_any" d__law_any rfl) F18 (fun z => by cases z) sc__law_any rfl (fun _ _ _ _ _ _ us hl => match us, hl with | [_, _], _ => by kernel_rfl)
  have D17 := DefsOk.addF D18 (x := "_law_draw") (st := s__law_draw) (N := ["hand", "many", "number", "cell", "digit"]) (br := [true, false]) (tab := false) hu (gd 17 "_law_draw" d__law_draw rfl) F17 (fun z => by cases z) sc__law_draw rfl (fun _ _ _ _ _ _ us hl => match us, hl with | [_, _], _ => by kernel_rfl)
  have D16 := DefsOk.addF D17 (x := "_law_hand") (st := s__law_hand) (N := ["script", "cells", "cell"]) (br := [false]) (tab := false) hu (gd 16 "_law_hand" d__law_hand rfl) F16 (fun z => by cases z) sc__law_hand rfl (fun _ _ _ _ _ _ us hl => match us, hl with | [_], _ => by kernel_rfl)
  have D15 := DefsOk.addF D16 (x := "is_easy") (st := s_is_easy) (N := ["three", "most", "wash", "spin", "dry"]) (br := [false]) (tab := false) hu (gd 15 "is_easy" d_is_easy rfl) F15 (fun z => by cases z) sc_is_easy rfl (fun _ _ _ _ _ _ us hl => match us, hl with | [_], _ => by kernel_rfl)
  have D14 := DefsOk.addF D15 (x := "by_pairs") (st := s_by_pairs) (N := ["three"]) (br := [false]) (tab := false) hu (gd 14 "by_pairs" d_by_pairs rfl) F14 (fun z => by cases z) sc_by_pairs rfl (fun _ _ _ _ _ _ us hl => match us, hl with | [_], _ => by kernel_rfl)
  have D13 := DefsOk.addF D14 (x := "raw_pairs") (st := s_raw_pairs) (N := ["three", "wash", "spin", "dry"]) (br := [false]) (tab := false) hu (gd 13 "raw_pairs" d_raw_pairs rfl) F13 (fun z => by cases z) sc_raw_pairs rfl (fun _ _ _ _ _ _ us hl => match us, hl with | [_], _ => by kernel_rfl)
  have D12 := DefsOk.addF D13 (x := "three_bound") (st := s_three_bound) (N := ["three", "found", "machine", "ahead", "behind", "load"]) (br := [false]) (tab := false) hu (gd 12 "three_bound" d_three_bound rfl) F12 (fun z => by cases z) sc_three_bound rfl (fun _ _ _ _ _ _ us hl => match us, hl with | [_], _ => by kernel_rfl)
  have D11 := DefsOk.addF D12 (x := "three_told") (st := s_three_told) (N := ["three", "order"]) (br := [false]) (tab := false) hu (gd 11 "three_told" d_three_told rfl) F11 (fun z => by cases z) sc_three_told rfl (fun _ _ _ _ _ _ us hl => match us, hl with | [_], _ => by kernel_rfl)
  have D10 := DefsOk.addF D11 (x := "three_end") (st := s_three_end) (N := ["three", "order"]) (br := [false, false]) (tab := false) hu (gd 10 "three_end" d_three_end rfl) F10 (fun z => by cases z) sc_three_end rfl (fun _ _ _ _ _ _ us hl => match us, hl with | [_, _], _ => by kernel_rfl)
  have D9 := DefsOk.addF D10 (x := "raw_three") (st := s_raw_three) (N := ["three", "order", "ends", "load", "ahead", "machine"]) (br := [false, false]) (tab := false) hu (gd 9 "raw_three" d_raw_three rfl) F9 (fun z => by cases z) sc_raw_three rfl (fun _ _ _ _ _ _ us hl => match us, hl with | [_, _], _ => by kernel_rfl)
  have D8 := DefsOk.addF D9 (x := "check_three") (st := s_check_three) (N := ["thing", "load"]) (br := [false]) (tab := false) hu (gd 8 "check_three" d_check_three rfl) F8 (fun z => by cases z) sc_check_three rfl (fun _ _ _ _ _ _ us hl => match us, hl with | [_], _ => by kernel_rfl)
  have D7 := DefsOk.addF D8 (x := "orders_of") (st := s_orders_of) (N := ["heap"]) (br := [false]) (tab := false) hu (gd 7 "orders_of" d_orders_of rfl) F7 (fun z => by cases z) sc_orders_of rfl (fun _ _ _ _ _ _ us hl => match us, hl with | [_], _ => by kernel_rfl)
  have D6 := DefsOk.addF D7 (x := "raw_johnson") (st := s_raw_johnson) (N := ["heap", "first", "last", "load", "minutes", "wash", "dry"]) (br := [false]) (tab := false) hu (gd 6 "raw_johnson" d_raw_johnson rfl) F6 (fun z => by cases z) sc_raw_johnson rfl (fun _ _ _ _ _ _ us hl => match us, hl with | [_], _ => by kernel_rfl)
  have D5 := DefsOk.addF D6 (x := "are_times") (st := s_are_times) (N := ["thing", "many", "one"]) (br := [false, false]) (tab := false) hu (gd 5 "are_times" d_are_times rfl) F5 (fun z => by cases z) sc_are_times rfl (fun _ _ _ _ _ _ us hl => match us, hl with | [_, _], _ => by kernel_rfl)
  have D4 := DefsOk.addF D5 (x := "all_rows") (st := s_all_rows) (N := ["some", "found", "turn", "longer", "row", "one"]) (br := [false]) (tab := false) hu (gd 4 "all_rows" d_all_rows rfl) F4 (fun z => by cases z) sc_all_rows rfl (fun _ _ _ _ _ _ us hl => match us, hl with | [_], _ => by kernel_rfl)
  have D3 := DefsOk.addF D4 (x := "are_all") (st := s_are_all) (N := ["thing", "many", "one"]) (br := [false, false]) (tab := false) hu (gd 3 "are_all" d_are_all rfl) F3 (fun z => by cases z) sc_are_all rfl (fun _ _ _ _ _ _ us hl => match us, hl with | [_, _], _ => by kernel_rfl)
  have D2 := DefsOk.addF D3 (x := "is_sized") (st := s_is_sized) (N := ["thing", "low", "high"]) (br := [false, false, false]) (tab := false) hu (gd 2 "is_sized" d_is_sized rfl) F2 (fun z => by cases z) sc_is_sized rfl (fun _ _ _ _ _ _ us hl => match us, hl with | [_, _, _], _ => by kernel_rfl)
  have D1 := DefsOk.addF D2 (x := "is_within") (st := s_is_within) (N := ["thing", "low", "high"]) (br := [false, false, false]) (tab := false) hu (gd 1 "is_within" d_is_within rfl) F1 (fun z => by cases z) sc_is_within rfl (fun _ _ _ _ _ _ us hl => match us, hl with | [_, _, _], _ => by kernel_rfl)
  have D0 := DefsOk.addF D1 (x := "is_integer") (st := s_is_integer) (N := ["thing"]) (br := [false]) (tab := false) hu (gd 0 "is_integer" d_is_integer rfl) F0 (fun z => by cases z) sc_is_integer rfl (fun _ _ _ _ _ _ us hl => match us, hl with | [_], _ => by kernel_rfl)
  have L1 : LamsOk K mg [] := .nil
  have L0 := LamsOk.addF L1 (x := "_law_word") (st := s__law_word) (N := ["call", "word", "e", "flags", "names"]) (br := [false]) (tab := false) (gl 0 "_law_word" d__law_word rfl) F22 sc__law_word rfl rfl (fun _ _ _ _ _ _ us hl => match us, hl with | [_], _ => by kernel_rfl)
  exact law_at (Pr := P) (st := s_law) (N := ["script", "hand", "turn", "top", "three", "load", "rows", "order", "best", "wash", "spin", "dry", "pairs", "most", "easy", "bad", "off", "words", "row", "one"]) (tab := true) X G S D0 L0 hf (gd 23 "law" d_law rfl) F24 (fun _ => by decide) sc_law (fun _ _ _ _ _ _ us hl => match us, hl with | [_], _ => by kernel_rfl) hp
end Lw
open PySem PySem.W PySem.Calls PyProof.Rows
set_option maxRecDepth 100000 in
set_option maxHeartbeats 0 in
theorem PySem.Challenge.cw_washhouse_k14_whole_rows_of_three_machin_holds : PySem.Challenge.rw_washhouse_k14_whole_rows_of_three_machin.Holds := by
  w_on; o_law
  refine HandSHeadRun.head_any (r := OpenLaw.row PySem.Challenge.rw_washhouse_k14_whole_rows_of_three_machin) (q := view (OpenLaw.row PySem.Challenge.rw_washhouse_k14_whole_rows_of_three_machin).prog [38]) (H := Lw.hk) (ob := Lw.ob) (M := 4000) (loose := Lw.loose) (d := HandSHeadRun.topDef (OpenLaw.row PySem.Challenge.rw_washhouse_k14_whole_rows_of_three_machin).prog 38) (kwd := []) Lw.ob_eq
    (by kernel_rfl) (fun s => by kernel_rfl) Lw.run (by kernel_rfl) (by kernel_rfl) (by kernel_rfl) (by rfl) (by first | assumption | decide +kernel) (by decide +kernel) ⟨rfl, rfl, rfl, rfl, rfl, by decide +kernel⟩ ?hw ?hc
  case hw => w_witness2
  case hc =>
    refine LamX.walk_ofTsE (l := PySem.Challenge.rw_washhouse_k14_whole_rows_of_three_machin) (n := 63) (k := 30) (x := "script") (CX := fun w => L2.CX (PySem.Challenge.rw_washhouse_k14_whole_rows_of_three_machin).prog w) rfl (by decide) (by kernel_rfl) ⟨rfl, by decide, by decide⟩ ?F (fun w H s e s' ⟨_, _, _, _, _, _, _, _, _, _, _, _, z⟩ => z)
    intro w mg fa h Y G hmg0
    obtain ⟨K, KX, c⟩ := Y
    have hmg : mg ("law" : PySem.Str) = some (.ref fa) := by
      have e : (HandSHeadRun.topDef (OpenLaw.row PySem.Challenge.rw_washhouse_k14_whole_rows_of_three_machin).prog 38).name = ("law" : PySem.Str) := by kernel_rfl
      rw [← e]
      exact hmg0
    exact ⟨K, KX, Lw.at_law KX G c hmg Lw.pays⟩
end
