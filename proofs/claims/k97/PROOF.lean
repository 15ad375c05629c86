import PyProof.Rows.All
import Wide.All
import OpenK.AllK
import Wide.FinOn
import HandS.Walk
import HandS.Zip
import KE.GoesMore
import PyProof.EnumMake
import PySem.Syntax
import PySem.Eval
import PySem.PyData
import PyProof.P3Statements
import KE.DataMinMax
import KE.DataFind
import KE.DataAny
import KE.SortData
import KE.KTupSum
import HandS.ForMost
import HandS.ForExc
import HandS.IsInst
import HandS.TupAny
import HandS.TupMul
import HandS.TryMany
import HandS.Deep
import HandS.Lambda
import HandS.TupLe
import PyProof.Rows.InDataRows
import HandS.RaiseMore
import HandS.ExcIs
import HandS.Ends
import HandS.Defaults
import HandS.Head0
import HandS.Head1
import HandS.Head2
import HandS.HeadHook1
import HandS.HeadHook2
import HandS.HeadHook3
import HandS.HeadHook4
import HandS.HeadWalk
import HandS.EndTab
import HandS.Words
import PySem.Challenge.RW_washhouse_k97_whole_starch
set_option Elab.async false
set_option linter.all false
set_option maxRecDepth 100000
section
set_option maxHeartbeats 2000000
/-! EvN: enumerate of a tuple. -/
namespace PySem
open Sem (wp)
open AutoSeq1 (wpAny_loadPart')
theorem ev_enum_newT (l : Addr) (items : Array Value) (n : Nat) (dct : Option Addr) (sl : Array (Option Value)) :
    Meets (Builtin.«enumerate.__new__» ⟨[.type "enumerate", .ref l], []⟩) (fun _ R s => s.heap.get? l = some { cls := .type "tuple", dict := dct, data := .seq items n, slots := sl } ∧
      R (.ok (.ret (.ref (s.heap.push { cls := .type "tuple_iterator", data := .fields #[.ref l, .int 0 0] }).objs.size)))
        { s with heap := (s.heap.push { cls := .type "tuple_iterator", data := .fields #[.ref l, .int 0 0] }).push { cls := .type "enumerate", data := .fields #[.none, .bool false, .ref s.heap.objs.size, rawInt 0, .none, .none] } }) :=
  .of_wp fun prog w A R s h => by
    obtain ⟨hp, g, d, tk, os⟩ := s; obtain ⟨hl, h⟩ := h
    have hsub := sub_enumerate
    have hL : Heap.IsTuple (Shared.heap ⟨hp, g, d, tk, os⟩) l items := ⟨_, hl, rfl, n, rfl⟩
    wp_walk using wpAny_loadPart' hl
    refine wpAny_stack_any fun st => wpAny_pure ?_
    split
    · rename_i c _ _ _ _ _
      cases (c == Value.type "enumerate")
      · wp_walk using wpAny_loadPart' hl, wpAny_pyIter_tuple hL
        exact ⟨_, rfl, h⟩
      · wp_walk using wpAny_loadPart' hl, wpAny_pyIter_tuple hL
        exact ⟨_, rfl, h⟩
    · wp_walk using wpAny_loadPart' hl, wpAny_pyIter_tuple hL
      exact ⟨_, rfl, h⟩
section
variable {prog : Program} {w : World} {A : Around} {E : Value → Shared → Prop} {s : Shared}
theorem ev_call_enumT {l : Addr} {items : Array Value} {Q : Value → Shared → Prop} (hL : s.heap.IsTuple l items)
    (h : ∀ h', IsEnum h' (s.heap.objs.size + 1) s.heap.objs.size 0 .none → h'.IsTupleIter s.heap.objs.size l 0 → h'.objs.size = s.heap.objs.size + 2 →
      (∀ b o, s.heap.get? b = some o → h'.get? b = some o) → Q (.ref (s.heap.objs.size + 1)) { s with heap := h' }) :
    wpAny (model prog w) A (call (.type "enumerate") [.ref l]) Q E s := by
  obtain ⟨⟨c, dct, dt, sl⟩, hl, hc, n, hd⟩ := hL
  replace hc : c = .type "tuple" := hc
  replace hd : dt = .seq items n := hd
  subst hc hd
  refine callType_new F.called_enumerate (by decide) (F.typeCall_enumerate_1 _) (F.newCall_enumerate_1 _) (fun obj => F.args_object_init_2 obj _) F.entry_enumerate_new
    (ev_enum_newT l items n dct sl) ⟨hl, ?_⟩
  have hz : (s.heap.push { cls := .type "tuple_iterator", data := .fields #[.ref l, .int 0 0] }).objs.size = s.heap.objs.size + 1 := Heap.size_push ..
  show _ ∧ _
  rw [hz]
  have he : IsEnum ((s.heap.push { cls := .type "tuple_iterator", data := .fields #[.ref l, .int 0 0] }).push
      { cls := .type "enumerate", data := .fields #[.none, .bool false, .ref s.heap.objs.size, rawInt 0, .none, .none] }) (s.heap.objs.size + 1) s.heap.objs.size 0 .none := by
    have := Heap.get?_push_size (s.heap.push { cls := .type "tuple_iterator", data := .fields #[.ref l, .int 0 0] })
      (o := { cls := .type "enumerate", data := .fields #[.none, .bool false, .ref s.heap.objs.size, rawInt 0, .none, .none] }) rfl
    rw [hz] at this; exact this
  refine ⟨⟨_, he, rfl⟩, h _ he ⟨_, Heap.get?_push_of_some _ (Heap.get?_push_size _ rfl), rfl, rfl⟩ (by rw [Heap.size_push, hz]) fun b o x => Heap.get?_push_of_some _ (Heap.get?_push_of_some _ x)⟩
end
end PySem
namespace Ev
open PySem PySem.Spec PyProof.Rows L2
/-- the tuple at a, each item in a new pair -/
def IteT (K : PySem.W.Frag) (a : Addr) : It :=
  ⟨fun i H => ∃ (xs : List V) (x : V), SqT K H a xs ∧ xs[i]? = some x, fun i H v H' => ∃ T x, v = .ref T ∧ H T = none ∧ H' = upd H T (.tup [.int (i : Nat), x]) ∧ ∀ xs, SqT K H a xs → xs[i]? = some x, fun i H => ∃ xs : List V, SqT K H a xs ∧ xs.length = i⟩
theorem turn_enumT {P : Program} {w : World} {K : PySem.W.Frag} {elts : List Expr} {kk : Nat} {tpos : Pos} (a e it : Addr) (hea : e ≠ a) (hia : it ≠ a) :
    Turn P w K (.Tuple elts kk tpos) (IteT K a) [e, it] e (fun i h => (∃ old, IsEnum h e it ((i : Nat) : Int) old) ∧ h.IsTupleIter it a i ∧ e ≠ it) where
  mem := by simp
  obj := fun i h st b hb => by
    obtain ⟨⟨old, he⟩, ⟨o, ho, hc, hd⟩, _⟩ := st
    have e' : b = e ∨ b = it := by simpa using hb
    rcases e' with z | z
    · rw [z]; exact ⟨_, he, fun v q => nomatch q⟩
    · rw [z]; exact ⟨o, ho, fun v q => by rw [hd] at q; cases q⟩
  keep := fun i h h' st k => let ⟨⟨old, he⟩, hi, hne⟩ := st; ⟨⟨old, k e (by simp) _ he⟩, hi.at fun o q => k it (by simp) o q, hne⟩
  item := by
    intro X hP hw hK hc i pins s σ H E I hf st hg
    subst hP hw hK
    obtain ⟨⟨old, he⟩, hit, hne⟩ := st
    obtain ⟨xs, x, hq, hx⟩ := hg
    obtain ⟨its, rv, p, hz⟩ := I.tuple hq
    obtain ⟨u, hu, ru⟩ := rv.get hx
    have hel : e < s.heap.objs.size := Heap.lt_size he
    have hil : it < s.heap.objs.size := by obtain ⟨_, q, _⟩ := hit; exact Heap.lt_size q
    have pt : s.heap.IsTuple a its.toArray := p
    have hlt : i < its.toArray.size := by
      have := (List.getElem?_eq_some_iff.mp hu).1
      simpa using this
    refine wpAny_pyNext_enum_itemD (PySem.Draws.tuple (A := X.A.in1) (I.ok.hd hc) it a (Ne.symm hia) its.toArray) he ⟨hit, pt⟩ hlt hne (by simp [hne, hea]) fun x' h' tk hPx ho hst' hT hsz hk => ?_
    have ex : x' = u := by
      have h2 : its.toArray[i]? = some u := by simpa using hu
      rw [h2] at hPx
      exact (Option.some.inj hPx).symm
    subst ex
    refine ⟨_, rfl, wpAny_letOwnedTupleGo_enum (s := { s with heap := h', toks := tk + 1 }) ho fun h'' he' sb => ?_⟩
    have hT2 : h''.get? s.heap.objs.size = some { cls := .type "tuple", data := .seq #[.int i tk, x'] } := (sb.2 _ (Nat.ne_of_gt hel)).trans hT
    have new : ObjOk X.prog X.w (upd H s.heap.objs.size (.tup [.int (i : Nat), x])) h'' s.heap.objs.size (.tup [.int (i : Nat), x]) :=
      ⟨by show 2 ≤ sizeLine; decide, [.int i tk, x'], .cons ⟨_, rfl⟩ (.cons ru .nil), ⟨_, hT2, rfl, _, rfl⟩⟩
    have I1 : Inv X pins σ (upd H s.heap.objs.size (.tup [.int (i : Nat), x])) { s with heap := h'', toks := tk + 1 } :=
      I.turnedNew (ch := [e, it]) (fun b ob hb q => (sb.2 b (fun z => hb (by simp [z]))).trans (hk b ob (fun z => hb (by simp [z])) (fun z => hb (by simp [z])) q)) hf (Nat.le_refl _) new
    refine ⟨.ref s.heap.objs.size, _, I1, rfl, ⟨_, x, rfl, I.hok.fresh (Nat.le_refl _), rfl, fun ys hy => by rw [I.tuple_inj hy hq]; exact hx⟩, ⟨⟨x', ?_⟩, hst'.1.at fun o q => (sb.2 it (Ne.symm hne)).trans q, hne⟩, fun b hb => ?_⟩
    · have e1 : ((i + 1 : Nat) : Int) = (i : Int) + 1 := by omega
      rw [e1]; exact he'
    · have hb' : b < s.heap.objs.size := by
        have e' : b = e ∨ b = it := by simpa using hb
        rcases e' with z | z
        · rw [z]; exact hel
        · rw [z]; exact hil
      rw [upd_ne (Nat.ne_of_lt hb')]
      exact (hf b hb).1
  done := by
    intro X hP hw hK hc i pins s σ H E I hf st hg
    subst hP hw hK
    obtain ⟨⟨old, he⟩, hit, hne⟩ := st
    obtain ⟨xs, hq, hx⟩ := hg
    obtain ⟨its, rv, p, hz⟩ := I.tuple hq
    obtain ⟨f0, f1, f2, f3, f4, f5⟩ := hf it (by simp)
    have pt : s.heap.IsTuple a its.toArray := p
    have hl : i = its.toArray.size := by rw [← hx, rv.length]; simp
    subst hl
    exact wpAny_pyNext_enum_endD (PySem.Draws.tuple (A := X.A.in1) (I.ok.hd hc) it a (Ne.symm hia) its.toArray) he ⟨hit, pt⟩ fun h' eb => ⟨rfl, I.turned (t' := s.toks) (fun b o hb q => eb b o hb q) f0 f1 f3 f4 f5⟩
  self := fun A i s Q E st h => let ⟨⟨_, he⟩, _⟩ := st; wpAny_pyIter_enum he h
theorem walk_enumT {K : PySem.W.Frag} {a : Addr} {xs : List V} : Walk (IteT K a) xs.length (fun H => SqT K H a xs) (YPair (fun i => some (.int (i : Nat))) (fun i => xs[i]?)) := by
  refine ⟨fun i _ hi q => ⟨xs, xs[i], q, by simp [hi]⟩, fun _ q => ⟨xs, q, rfl⟩, fun i H v H' _ q y => ?_⟩
  obtain ⟨T, x, h1, h2, h3, h4⟩ := y
  exact ⟨T, .int (i : Nat), x, h1, h2, h3, rfl, h4 xs q⟩
/-- enumerate of a list or of a tuple -/
def iEnumA (K : PySem.W.Frag) (ta : TA) : TI := fun σ H R => ta σ H fun vs H1 => ∃ a xs, vs = [.ref a] ∧ ((SqL K H1 a xs ∧ R (Ite K a) H1) ∨ (SqT K H1 a xs ∧ R (IteT K a) H1))
theorem pi_enumA {X : Cx} {e : Expr} {ta : TA} {p pos tpos : Pos} {elts : List Expr} {kk : Nat} (hg : Gl X "enumerate") (hm : X.mg "enumerate" = none) (ha : PA X [e] ta) (hs : starEach [e] X.env = [(false, eval e X.env)] := by rfl) :
    PI X (.Tuple elts kk tpos) (.Call (.Name "enumerate" p) [e] [] pos) (iEnumA X.K ta) := by
  refine ⟨fun pins s σ H R I h => ?_⟩
  refine Call_ (ld_blt I hg hm boot_enumerate (PyProof.Rows.callWith_type1 (thn (ha.run pos pins s σ H _ I h) fun us s1 ⟨vs, H1, I1, r1, q1⟩ => ?_) hs rfl))
  obtain ⟨a, xs, ex, q⟩ := q1
  subst ex
  cases r1 with
  | cons r rr =>
    cases rr
    cases r
    have fp : ∀ b ∈ [s1.heap.objs.size + 1, s1.heap.objs.size], FpOk X pins H1 b := fun b hb => by
      have e' : b = s1.heap.objs.size + 1 ∨ b = s1.heap.objs.size := by simpa using hb
      have hle : s1.heap.objs.size ≤ b := by
        rcases e' with z | z
        · rw [z]; exact Nat.le_add_right _ _
        · rw [z]; exact Nat.le_refl _
      exact I1.fpOk hle (I1.hok.fresh hle)
    rcases q with ⟨hq, q⟩ | ⟨hq, q⟩
    · obtain ⟨its, rv, p', hz⟩ := I1.list hq
      refine call_enumerate_list p'.isList fun h' he hit hsz hk => wpAny_pyIter_enum he ?_
      have I2 : Inv X pins σ H1 { s1 with heap := h' } := I1.kept (t' := s1.toks) hk
      exact ⟨s1.heap.objs.size + 1, [s1.heap.objs.size + 1, s1.heap.objs.size], _, _, H1, rfl, I2, turn_enum a (s1.heap.objs.size + 1) s1.heap.objs.size, ⟨⟨.none, he⟩, hit, Nat.succ_ne_self _⟩, fp, q⟩
    · obtain ⟨its, rv, p', hz⟩ := I1.tuple hq
      have pt : s1.heap.IsTuple a its.toArray := p'
      have hlt : a < s1.heap.objs.size := by obtain ⟨_, q, _⟩ := pt; exact Heap.lt_size q
      refine PySem.ev_call_enumT pt fun h' he hit hsz hk => wpAny_pyIter_enum he ?_
      have I2 : Inv X pins σ H1 { s1 with heap := h' } := I1.kept (t' := s1.toks) hk
      exact ⟨s1.heap.objs.size + 1, [s1.heap.objs.size + 1, s1.heap.objs.size], _, _, H1, rfl, I2, turn_enumT a (s1.heap.objs.size + 1) s1.heap.objs.size (Nat.ne_of_gt (Nat.lt_succ_of_lt hlt)) (Nat.ne_of_gt hlt), ⟨⟨.none, he⟩, hit, Nat.succ_ne_self _⟩, fp, q⟩
end Ev
end
section
/-! EvPure: an evaluator by values for the plain part of Python that the laws and the program use. -/
namespace Ev
open PySem

abbrev D := PyData
/-- what a slot holds: an unchanging value; an own list, an own dict; a caught exception -/
structure Exc where
  cls : Str
  arg : Option (Str × D)
inductive Sv where
  | im (d : D) | ol (xs : List D) | od (kvs : List (D × D)) | ex (x : Exc)
abbrev Sl := List (Option Sv)
/-- an operand: an unchanging value, a new list or dict, a slot that holds an own one -/
inductive Op where
  | im (d : D) | tl (xs : List D) | td (kvs : List (D × D)) | bor (i : Nat)
inductive Res (α : Type) where
  | ok (a : α) (e : Sl) | er (x : Exc) (e : Sl) | bad
def Res.bind {α β : Type} (r : Res α) (f : α → Sl → Res β) : Res β :=
  match r with
  | .ok a e => f a e
  | .er x e => .er x e
  | .bad => .bad
abbrev ME := Sl → Res Op
/-- a call's end: what is returned, what the arguments hold -/
inductive CRes where
  | ok (r : Op) (fin : Sl) | er (x : Exc) (fin : Sl) | bad
inductive LRes where
  | ok (d : D) | er (x : Exc)

def gt : Sl → Nat → Option Sv
  | [], _ => none
  | x :: _, 0 => x
  | _ :: r, i + 1 => gt r i
def pt : Sl → Nat → Option Sv → Sl
  | [], _, _ => []
  | _ :: r, 0, v => v :: r
  | x :: r, i + 1, v => x :: pt r i v

def vw : Op → Sl → Option D
  | .im d, _ => some d
  | .tl xs, _ => some (.list xs)
  | .td kvs, _ => some (.dict kvs)
  | .bor i, e => match gt e i with
    | some (.im d) => some d
    | some (.ol xs) => some (.list xs)
    | some (.od kvs) => some (.dict kvs)
    | _ => none
def vws : List Op → Sl → Option (List D)
  | [], _ => some []
  | o :: os, e => match vw o e, vws os e with
    | some d, some ds => some (d :: ds)
    | _, _ => none
/-- made unchanging -/
def fzO : Op → Sl → Option (D × Sl)
  | .im d, e => some (d, e)
  | .tl xs, e => some (.list xs, e)
  | .td kvs, e => some (.dict kvs, e)
  | .bor i, e => match gt e i with
    | some (.im d) => some (d, e)
    | some (.ol xs) => some (.list xs, pt e i (some (.im (.list xs))))
    | some (.od kvs) => some (.dict kvs, pt e i (some (.im (.dict kvs))))
    | _ => none

/-! ### expressions -/
def immE (d : D) : ME := fun e => .ok (.im d) e
def badE : ME := fun _ => .bad
def varE (i : Nat) : ME := fun e => match gt e i with
  | some (.im d) => .ok (.im d) e
  | some (.ex _) => .bad
  | some _ => .ok (.bor i) e
  | none => .bad
def lift (r : Option Op) (e : Sl) : Res Op := match r with
  | some o => .ok o e
  | none => .bad
def un1 (f : D → Option Op) (a : ME) : ME := fun e => (a e).bind fun x e1 => match vw x e1 with
  | some p => lift (f p) e1
  | none => .bad
def op2 (f : D → D → Option Op) (a b : ME) : ME := fun e => (a e).bind fun x e1 => (b e1).bind fun y e2 => match vw x e2, vw y e2 with
  | some p, some q => lift (f p q) e2
  | _, _ => .bad
def tru : Op → Option Bool
  | .im (.bool b) => some b
  | _ => none
def andE : List ME → ME
  | [] => badE
  | [a] => a
  | a :: r => fun e => (a e).bind fun o e1 => match tru o with
    | some true => andE r e1
    | some false => .ok (.im (.bool false)) e1
    | none => .bad
def orE : List ME → ME
  | [] => badE
  | [a] => a
  | a :: r => fun e => (a e).bind fun o e1 => match tru o with
    | some true => .ok (.im (.bool true)) e1
    | some false => orE r e1
    | none => .bad
def notE (a : ME) : ME := fun e => (a e).bind fun o e1 => match tru o with
  | some b => .ok (.im (.bool (!b))) e1
  | none => .bad
def ifE (t a b : ME) : ME := fun e => (t e).bind fun o e1 => match tru o with
  | some true => a e1
  | some false => b e1
  | none => .bad
/-- a < b < c -/
def chainE (f g : D → D → Option Bool) (a b c : ME) : ME := fun e => (a e).bind fun x e1 => (b e1).bind fun y e2 => match vw x e2, vw y e2 with
  | some p, some q => (match f p q with
    | some true => (c e2).bind fun z e3 => (match vw y e3, vw z e3 with
      | some q', some r => (match g q' r with
        | some k => .ok (.im (.bool k)) e3
        | none => .bad)
      | _, _ => .bad)
    | some false => .ok (.im (.bool false)) e2
    | none => .bad)
  | _, _ => .bad
/-- operands made unchanging, from the left -/
def argsD : List ME → Sl → Res (List D)
  | [], e => .ok [] e
  | a :: r, e => (a e).bind fun o e1 => match fzO o e1 with
    | some (d, e2) => (argsD r e2).bind fun ds e3 => .ok (d :: ds) e3
    | none => .bad
def tupE (ms : List ME) : ME := fun e => (argsD ms e).bind fun ds e1 => .ok (.im (.tuple ds)) e1
def lstE (ms : List ME) : ME := fun e => (argsD ms e).bind fun ds e1 => .ok (.tl ds) e1
def argsO : List ME → Sl → Res (List Op)
  | [], e => .ok [] e
  | a :: r, e => (a e).bind fun o e1 => (argsO r e1).bind fun os e2 => .ok (o :: os) e2
/-- operands handed to a def; br: which may be handed as they are -/
def toPar : List Op → List Bool → Sl → Option (Sl × Sl)
  | [], [], e => some ([], e)
  | [], _ :: _, _ => none
  | .bor i :: os, b :: bs, e => (match gt e i, b with
    | some (.ol xs), true => (toPar os bs (pt e i none)).map fun r => (some (.ol xs) :: r.1, r.2)
    | some (.od kvs), true => (toPar os bs (pt e i none)).map fun r => (some (.od kvs) :: r.1, r.2)
    | _, _ => (match fzO (.bor i) e with
      | some (d, e1) => (toPar os bs e1).map fun r => (some (.im d) :: r.1, r.2)
      | none => none))
  | .im d :: os, _ :: bs, e => (toPar os bs e).map fun r => (some (.im d) :: r.1, r.2)
  | .tl xs :: os, _ :: bs, e => (toPar os bs e).map fun r => (some (.ol xs) :: r.1, r.2)
  | .td kvs :: os, _ :: bs, e => (toPar os bs e).map fun r => (some (.od kvs) :: r.1, r.2)
  | _ :: _, [], _ => none
/-- the slots handed over get back what they hold -/
def backs : List Op → Sl → Sl → Sl
  | .bor i :: os, f :: fs, e => (match gt e i with
    | none => backs os fs (pt e i f)
    | some _ => backs os fs e)
  | _ :: os, _ :: fs, e => backs os fs e
  | _, _, e => e
def callE (br : List Bool) (F : Sl → CRes) (ms : List ME) : ME := fun e => (argsO ms e).bind fun os e1 => match toPar os br e1 with
  | some (ps, e2) => (match F ps with
    | .ok r fin => .ok r (backs os fin e2)
    | .er x fin => .er x (backs os fin e2)
    | .bad => .bad)
  | none => .bad
/-- the slots in fv made unchanging, where they are none of fx -/
def frzS (fx : List Nat) : List Nat → Sl → Sl
  | [], e => e
  | i :: r, e => if fx.contains i then frzS fx r e else match gt e i with
    | some (.ol xs) => frzS fx r (pt e i (some (.im (.list xs))))
    | some (.od kvs) => frzS fx r (pt e i (some (.im (.dict kvs))))
    | _ => frzS fx r e
/-- what does not change -/
def imS : Sl → Sl
  | [] => []
  | some (.im d) :: r => some (.im d) :: imS r
  | _ :: r => none :: imS r
/-- what comes of a lambda's body -/
def lres : Res Op → Option LRes
  | .ok o e => match fzO o e with
    | some (d, _) => some (.ok d)
    | none => none
  | .er x _ => some (.er x)
  | .bad => none
/-- a lambda without parameters handed to a def that calls it -/
def lamE (fx fv : List Nat) (G : LRes → CRes) (m : ME) : ME := fun e => match lres (m (imS (frzS fx fv e))) with
  | some r => (match G r with
    | .ok (.im d) _ => .ok (.im d) (frzS fx fv e)
    | _ => .bad)
  | none => .bad

/-! ### what is walked -/
structure Itm where
  items : List D
  hid : List (Nat × Sv)
abbrev MI := Sl → Res Itm
/-- what is walked stands still from now on; a parameter's own list stands still and is not read while it is walked -/
def hideO (fx : List Nat) (o : Op) (e : Sl) : Option (D × List (Nat × Sv) × Sl) := match o with
  | .bor i => if fx.contains i then (match gt e i with
    | some (.ol xs) => some (.list xs, [(i, .ol xs)], pt e i none)
    | some (.im d) => some (d, [], e)
    | _ => none) else (fzO (.bor i) e).map fun r => (r.1, [], r.2)
  | o => (fzO o e).map fun r => (r.1, [], r.2)
def argsI (fx : List Nat) : List ME → Sl → Res (List D × List (Nat × Sv))
  | [], e => .ok ([], []) e
  | a :: r, e => (a e).bind fun o e1 => match hideO fx o e1 with
    | some (d, hs, e2) => (argsI fx r e2).bind fun p e3 => .ok (d :: p.1, hs ++ p.2) e3
    | none => .bad
def unhS : List (Nat × Sv) → Sl → Sl
  | [], e => e
  | (i, sv) :: r, e => match gt (unhS r e) i with
    | none => pt (unhS r e) i (some sv)
    | some _ => unhS r e
def itE (fx : List Nat) (f : List D → Option (List D)) (ms : List ME) : MI := fun e => (argsI fx ms e).bind fun p e1 => match f p.1 with
  | some xs => .ok ⟨xs, p.2⟩ e1
  | none => .bad

abbrev MT := D → Sl → Option Sl
/-- a comprehension: own are the slots of its own names -/
def wipeS : Sl → List Nat → Sl
  | e, [] => e
  | e, i :: is => pt (wipeS e is) i none
/-- the slots in is as they stand in e0 -/
def restS (e0 : Sl) : Sl → List Nat → Sl
  | e, [] => e
  | e, i :: is => pt (restS e0 e is) i (gt e0 i)
def sizeMax : Nat := 16777216
/-- nothing may be raised within -/
def noer {α : Type} : Res α → Res α
  | .er _ _ => .bad
  | r => r
def condE : List ME → ME
  | [] => fun e => .ok (.im (.bool true)) e
  | t :: _ => t
def compL (own : List Nat) (tg : MT) (cond elt : ME) : List D → List D → Sl → Res (List D)
  | [], acc, e => .ok acc e
  | d :: ds, acc, e => match tg d e with
    | none => .bad
    | some e1 => (noer (cond e1)).bind fun o e2 => match tru o with
      | none => .bad
      | some false => compL own tg cond elt ds acc (wipeS e2 own)
      | some true => (noer (elt e2)).bind fun y e3 => match fzO y e3 with
        | none => .bad
        | some (z, e4) => if acc.length < sizeMax then compL own tg cond elt ds (acc ++ [z]) (wipeS e4 own) else .bad
/-- the block's own names stand for unchanging values, or for nothing, ahead of it -/
def imOnly (e : Sl) (own : List Nat) : Bool := own.all fun i => match gt e i with
  | none => true
  | some (.im _) => true
  | _ => false
def compE (own : List Nat) (it : MI) (tg : MT) (cond elt : ME) : ME := fun e => (it e).bind fun m e1 =>
  if imOnly e1 own then (compL own tg cond elt m.items [] (wipeS e1 own)).bind fun acc e2 => .ok (.tl acc) (unhS m.hid (restS e1 e2 own)) else .bad

/-! ### statements -/
inductive SR where
  | nx (e : Sl) | rt (o : Op) (e : Sl) | bk (e : Sl) | ct (e : Sl) | er (x : Exc) (e : Sl) | bad
abbrev MS := Sl → SR
def SR.bind (r : SR) (f : Sl → SR) : SR := match r with
  | .nx e => f e
  | r => r
def Res.st {α : Type} (r : Res α) (f : α → Sl → SR) : SR := match r with
  | .ok a e => f a e
  | .er x e => .er x e
  | .bad => .bad
def seqS : List MS → MS
  | [] => fun e => .nx e
  | [a] => a
  | a :: r => fun e => (a e).bind (seqS r)
def badS : MS := fun _ => .bad
def retS (a : ME) : MS := fun e => (a e).st fun o e1 => .rt o e1
def retN : MS := fun e => .rt (.im .none) e
def exprS (a : ME) : MS := fun e => (a e).st fun _ e1 => .nx e1
def ifS (t : ME) (a b : MS) : MS := fun e => (t e).st fun o e1 => match tru o with
  | some true => a e1
  | some false => b e1
  | none => .bad
abbrev MG := Op → Sl → Option Sl
/-- a slot stored: fx are those that may not be -/
def stS (fx : List Nat) (i : Nat) (v : Sv) (e : Sl) : Option Sl := if fx.contains i then none else some (pt e i (some v))
def nameG (fx : List Nat) (i : Nat) : MG := fun o e => match o with
  | .im d => stS fx i (.im d) e
  | .tl xs => stS fx i (.ol xs) e
  | .td kvs => stS fx i (.od kvs) e
  | .bor _ => (match fzO o e with
    | some (d, e1) => stS fx i (.im d) e1
    | none => none)
def nameT (fx : List Nat) (i : Nat) : MT := fun d e => stS fx i (.im d) e
def tupT : List MT → List D → Sl → Option Sl
  | [], [], e => some e
  | t :: ts, d :: ds, e => (match t d e with
    | some e1 => tupT ts ds e1
    | none => none)
  | _, _, _ => none
def unpT (ts : List MT) : MT := fun d e => match d with
  | .tuple ds => tupT ts ds e
  | _ => none
def asgS (g : MG) (a : ME) : MS := fun e => (a e).st fun o e1 => match g o e1 with
  | some e2 => .nx e2
  | none => .bad
/-- a value stored to a target that is no name -/
def asgT (t : MT) (a : ME) : MS := fun e => (a e).st fun o e1 => match fzO o e1 with
  | some (d, e2) => (match t d e2 with
    | some e3 => .nx e3
    | none => .bad)
  | none => .bad
/-- the last is stored first -/
def parG : List MG → List Op → Sl → Option Sl
  | [], [], e => some e
  | g :: gs, o :: os, e => (match parG gs os e with
    | some e1 => g o e1
    | none => none)
  | _, _, _ => none
/-- a, b = x, y; operands that are slots are made unchanging first -/
def argsP : List ME → Sl → Res (List Op)
  | [], e => .ok [] e
  | a :: r, e => (a e).bind fun o e1 => match o with
    | .bor i => (match fzO (.bor i) e1 with
      | some (d, e2) => (argsP r e2).bind fun os e3 => .ok (.im d :: os) e3
      | none => .bad)
    | o => (argsP r e1).bind fun os e3 => .ok (o :: os) e3
def parS (gs : List MG) (as : List ME) : MS := fun e => (argsP as e).st fun os e1 => match parG gs os e1 with
  | some e2 => .nx e2
  | none => .bad
def forL (tg : MT) (body : MS) : List D → MS
  | [], e => .nx e
  | d :: ds, e => match tg d e with
    | none => .bad
    | some e1 => (match body e1 with
      | .nx e2 => forL tg body ds e2
      | .ct e2 => forL tg body ds e2
      | r => r)
def endL (f : Sl → Sl) : SR → SR
  | .nx e => .nx (f e)
  | .bk e => .nx (f e)
  | .rt o e => .rt o (f e)
  | .er x e => .er x (f e)
  | r => r
def forS (it : MI) (tg : MT) (body : MS) : MS := fun e => (it e).st fun m e1 => endL (unhS m.hid) (forL tg body m.items e1)
def whL (t : ME) (body : MS) : Nat → MS
  | 0, _ => .bad
  | w + 1, e => (t e).st fun o e1 => match tru o with
    | some true => (match body e1 with
      | .nx e2 => whL t body w e2
      | .ct e2 => whL t body w e2
      | .bk e2 => .nx e2
      | r => r)
    | some false => .nx e1
    | none => .bad
/-- raise C(..) -/
def raiseS (C : Str) : MS := fun e => .er ⟨C, none⟩ e
def raiseS1 (C f : Str) (a : ME) : MS := fun e => (a e).st fun o e1 => match fzO o e1 with
  | some (d, e2) => .er ⟨C, some (f, d)⟩ e2
  | none => .bad
def endT (f : Sl → Sl) : SR → SR
  | .nx e => .nx (f e)
  | .bk e => .bk (f e)
  | .ct e => .ct (f e)
  | .rt o e => .rt o (f e)
  | .er x e => .er x (f e)
  | .bad => .bad
/-- what is held is let go -/
def noEx : Sl → Sl
  | [] => []
  | some (.ex _) :: r => none :: noEx r
  | x :: r => x :: noEx r
/-- the clauses: of which class, under which name, what then (nothing is known of the slots) -/
def tryH (sub : Str → Str → Option Bool) (x : Exc) (n : Nat) : List (Str × Nat × MS) → SR
  | [] => .bad
  | (C, j, m) :: r => match sub x.cls C with
    | some true => endT (fun e' => pt (noEx e') j none) (m (pt (List.replicate n none) j (some (.ex x))))
    | some false => tryH sub x n r
    | none => .bad
/-- try: call() or return call() -/
def tryS (n : Nat) (ret : Bool) (r : LRes) (sub : Str → Str → Option Bool) (hs : List (Str × Nat × MS)) : MS := fun e => match r with
  | .ok d => if ret then .rt (.im d) (imS e) else .nx (imS e)
  | .er x => tryH sub x n hs
/-- isinstance(e, C), e.f of what is held -/
def isxE (sub : Str → Str → Option Bool) (C : Str) (i : Nat) : ME := fun e => match gt e i with
  | some (.ex ⟨cl, none⟩) => (match sub cl C with
    | some b => .ok (.im (.bool b)) e
    | none => .bad)
  | _ => .bad
def fldE (f : Str) (i : Nat) : ME := fun e => match gt e i with
  | some (.ex ⟨_, some (g, d)⟩) => if f = g then .ok (.im d) e else .bad
  | _ => .bad
/-! ### stores into an own list or dict -/
def isOl : Option Sv → Bool
  | some (.ol _) => true
  | _ => false
def mutE (i : Nat) (f : List D → List D → Option (D × List D)) (ms : List ME) : ME := fun e => if isOl (gt e i) then (argsD ms e).bind fun ds e1 => match gt e1 i with
  | some (.ol xs) => (match f xs ds with
    | some (r, ys) => .ok (.im r) (pt e1 i (some (.ol ys)))
    | none => .bad)
  | _ => .bad else .bad
def setiS (i : Nat) (f : List D → D → D → Option (List D)) (ix v : ME) : MS := fun e => (v e).st fun o e1 => match fzO o e1 with
  | some (d, e2) => if isOl (gt e2 i) then (ix e2).st fun p e3 => (match vw p e3, gt e3 i with
    | some k, some (.ol xs) => (match f xs k d with
      | some ys => .nx (pt e3 i (some (.ol ys)))
      | none => .bad)
    | _, _ => .bad) else .bad
  | none => .bad
def keyB : D → Bool
  | .int _ => true
  | .str _ => true
  | _ => false
/-- {k: v} -/
def dct1E (k v : ME) : ME := fun e => (k e).bind fun o e1 => match fzO o e1 with
  | some (dk, e2) => (v e2).bind fun y e3 => (match fzO y e3 with
    | some (dv, e4) => if keyB dk then .ok (.td [(dk, dv)]) e4 else .bad
    | none => .bad)
  | none => .bad
/-- o.m(a) of a list -/
def metE (f : List D → D → Option Op) (a b : ME) : ME := fun e => (a e).bind fun x e1 => match vw x e1 with
  | some (.list _) => (b e1).bind fun y e2 => (match vw x e2, vw y e2 with
    | some (.list xs), some q => lift (f xs q) e2
    | _, _ => .bad)
  | _ => .bad
/-! ### what the built-ins do -/
def imB (b : Bool) : Option Op := some (.im (.bool b))
def imI (i : Int) : Option Op := some (.im (.int i))
def maxDepth : Nat := 60
def shp (d : D) : Bool := PyData.plain d && decide (PyData.depth d ≤ maxDepth)
def eqD (p q : D) : Option Bool := if shp p && shp q then some (PyData.eqv p q) else none
def isNone : D → Bool
  | .none => true
  | _ => false
def ltD (p q : D) : Option Bool := if PySem.W.alike p q && !isNone p && shp p && shp q then some (PySem.W.dataLt p q) else none
def leD (p q : D) : Option Bool := if PySem.W.alike p q && !isNone p && shp p && shp q then some (!PySem.W.dataLt q p) else none
def isD (p q : D) : Option Bool := match p, q with
  | p, .none => some (isNone p)
  | .bool a, .bool b => some (decide (a = b))
  | _, _ => none
def dictGet (k : D) : List (D × D) → Option D
  | [] => none
  | (a, v) :: r => if PyData.eqv a k then some v else dictGet k r
def dictPut (k v : D) : List (D × D) → List (D × D)
  | [] => [(k, v)]
  | (a, w) :: r => if PyData.eqv a k then (a, v) :: r else (a, w) :: dictPut k v r
def inD (x : D) : D → Option Bool
  | .list ds => if shp x && shp (.list ds) then some (ds.any fun z => PyData.eqv z x) else none
  | .tuple ds => if shp x && shp (.tuple ds) then some (ds.any fun z => PyData.eqv z x) else none
  | _ => none
def cmpD (op : CmpOp) (p q : D) : Option Bool := match op with
  | .Eq => eqD p q
  | .NotEq => (eqD p q).map (!·)
  | .Lt => ltD p q
  | .LtE => leD p q
  | .Gt => ltD q p
  | .GtE => leD q p
  | .Is => isD p q
  | .IsNot => (isD p q).map (!·)
  | .In => inD p q
  | .NotIn => (inD p q).map (!·)
def small64 (i : Int) : Bool := decide (-(2 ^ 64) < i) && decide (i < 2 ^ 64)
def binD (op : Operator) (p q : D) : Option Op := match op, p, q with
  | .Add, .int i, .int j => imI (i + j)
  | .Add, .tuple xs, .tuple ys => if xs.length + ys.length ≤ sizeMax then some (.im (.tuple (xs ++ ys))) else none
  | .Add, .list xs, .list ys => if xs.length + ys.length ≤ sizeMax then some (.tl (xs ++ ys)) else none
  | .Sub, .int i, .int j => imI (i - j)
  | .Mult, .int i, .int j => if small64 i || small64 j then imI (i * j) else none
  | .Mult, .tuple xs, .int k => if decide (0 ≤ k) && decide (k ≤ 1000) && decide (xs.length ≤ 1000) then some (.im (.tuple (List.replicate k.toNat xs).flatten)) else none
  | .Mult, .list xs, .int k => if decide (0 ≤ k) && decide (k ≤ 1000) && decide (xs.length ≤ 1000) then some (.tl (List.replicate k.toNat xs).flatten) else none
  | .FloorDiv, .int i, .int j => if decide (j ≠ 0) && decide (j.natAbs < 1073741824) then imI (i.fdiv j) else none
  | .Mod, .int i, .int j => if decide (j ≠ 0) then imI (i.fmod j) else none
  | .Pow, .int i, .int j => if decide (0 ≤ j) && decide (j ≤ 1000000) && decide (i.natAbs < 2 ^ 64) then imI (i ^ j.toNat) else none
  | .LShift, .int i, .int j => if decide (0 ≤ j) && decide (j ≤ 1000000) && decide (i.natAbs < 2 ^ 64) then imI (i * 2 ^ j.toNat) else none
  | _, _, _ => none
/-- op= at a name: numbers -/
def augD (op : Operator) (p q : D) : Option Op := match op, p, q with
  | .Add, .int i, .int j => imI (i + j)
  | .Sub, .int i, .int j => imI (i - j)
  | _, _, _ => none
def negD : D → Option Op
  | .int i => imI (-i)
  | _ => none
/-- the place that i names in n items -/
def ixD (n : Nat) (i : Int) : Option Nat := if 0 ≤ i then (if i < n then some i.toNat else none) else if -(n : Int) ≤ i then some (i + n).toNat else none
def subD (p q : D) : Option Op := match p, q with
  | .tuple xs, .int i => (match ixD xs.length i with
    | some j => (xs[j]?).map Op.im
    | none => none)
  | .list xs, .int i => (match ixD xs.length i with
    | some j => (xs[j]?).map Op.im
    | none => none)
  | _, _ => none
/-- an end of a slice -/
def cutI (n : Nat) (dflt : Nat) : Option Int → Nat
  | none => dflt
  | some v => if v < 0 then (v + (n : Int)).toNat else min v.toNat n
def cutL (xs : List D) (lo hi : Option Int) : List D := (xs.drop (cutI xs.length 0 lo)).take (cutI xs.length xs.length hi - cutI xs.length 0 lo)
def sliD (p : D) (lo hi : Option Int) : Option Op := match p with
  | .tuple xs => some (.im (.tuple (cutL xs lo hi)))
  | .list xs => some (.tl (cutL xs lo hi))
  | .dict [(.none, .list xs)] => some (.tl (cutL xs lo hi))
  | _ => none
def optE : Option ME → Sl → Res (Option Int)
  | none, e => .ok none e
  | some a, e => (a e).bind fun o e1 => match o with
    | .im (.int i) => .ok (some i) e1
    | _ => .bad
def sliE (a : ME) (lo hi : Option ME) : ME := fun e => (a e).bind fun o e1 => (optE lo e1).bind fun l e2 => (optE hi e2).bind fun h e3 =>
  match vw o e3 with
  | some p => lift (sliD p l h) e3
  | none => .bad
def intsD : List D → Option (List Int)
  | [] => some []
  | .int i :: r => (intsD r).map (i :: ·)
  | _ => none
def boolsD : List D → Option (List Bool)
  | [] => some []
  | .bool i :: r => (boolsD r).map (i :: ·)
  | _ => none
def seqD : D → Option (List D)
  | .list xs => some xs
  | .tuple xs => some xs
  | _ => none
/-- all of one kind, so that they can be ordered -/
def alikeB (xs : List D) : Bool := xs.all (fun x => xs.all fun y => PySem.W.alike x y) && xs.all (fun x => !isNone x)
def shps (xs : List D) : Bool := PyData.plainAll xs && decide (PyData.depthAll xs ≤ maxDepth)
def sortB (xs : List D) : Bool := xs.all (fun x => match x with | .tuple (_ :: _) => true | _ => false) || xs.all (fun x => match x with | .tuple _ => false | .none => false | _ => true)
def leB (x y : D) : Bool := !PySem.W.dataLt y x
inductive Bl where
  | len | sum | max | min | any | all | tuple | list | abs | int | sorted
def bltOf (f : Str) : Option Bl :=
  if f = "len" then some .len else if f = "sum" then some .sum else if f = "max" then some .max else if f = "min" then some .min else if f = "any" then some .any else if f = "all" then some .all
  else if f = "tuple" then some .tuple else if f = "list" then some .list else if f = "abs" then some .abs else if f = "int" then some .int else if f = "sorted" then some .sorted else none
def bltD : Bl → List D → Option Op
  | .len, [.tuple xs] => imI xs.length
  | .len, [.list xs] => imI xs.length
  | .sum, [p] => (match seqD p with
    | some xs => (match intsD xs with | some ns => imI ns.sum | none => none)
    | none => none)
  | .max, [p] => (match seqD p with
    | some (x :: xs) => if alikeB (x :: xs) && shps (x :: xs) then some (.im (PySem.W.maxD x xs)) else none
    | _ => none)
  | .min, [p] => (match seqD p with
    | some (x :: xs) => if alikeB (x :: xs) && shps (x :: xs) then some (.im (PySem.W.minD x xs)) else none
    | _ => none)
  | .sorted, [.list xs] => if alikeB xs && shps xs && sortB xs && decide (xs.length ≤ sizeMax) then some (.tl (xs.mergeSort leB)) else none
  | .max, [.int i, .int j] => imI (if j > i then j else i)
  | .min, [.int i, .int j] => imI (if j < i then j else i)
  | .any, [.list xs] => (match boolsD xs with | some bs => imB (bs.any id) | none => none)
  | .all, [.list xs] => (match boolsD xs with | some bs => imB (bs.all id) | none => none)
  | .tuple, [p] => (match seqD p with | some xs => some (.im (.tuple xs)) | none => none)
  | .list, [p] => (match seqD p with | some xs => some (.tl xs) | none => none)
  | .abs, [.int i] => imI (if i < 0 then -i else i)
  | .int, [.int i] => imI i
  | _, _ => none
def cntD (xs : List D) (q : D) : Option Op := if shps xs && shp q then imI (xs.countP fun y => PyData.eqv y q) else none
def idxD (xs : List D) (q : D) : Option Op := if shps xs && shp q && decide (xs.length ≤ sizeMax) then (match xs.findIdx? fun y => PyData.eqv y q with
  | some j => imI j
  | none => none) else none
def bltE (F : List D → Option Op) (ms : List ME) : ME := fun e => (argsO ms e).bind fun os e1 => match vws os e1 with
  | some ds => lift (F ds) e1
  | none => .bad
/-- of which built-in class a value is -/
inductive Ty where
  | int | bool | str | tuple | list | dict
  deriving DecidableEq
def tyOf (t : Str) : Option Ty :=
  if t = "int" then some .int else if t = "bool" then some .bool else if t = "str" then some .str else if t = "tuple" then some .tuple else if t = "list" then some .list else if t = "dict" then some .dict else none
def tyD : D → Ty → Option Bool
  | .none, _ => some false
  | .bool _, t => some (decide (t = .bool) || decide (t = .int))
  | .int _, t => some (decide (t = .int))
  | .str _, t => some (decide (t = .str))
  | .list _, t => some (decide (t = .list))
  | .tuple _, t => some (decide (t = .tuple))
  | .dict [(.none, _)], _ => none
  | .dict _, t => some (decide (t = .dict))
/-- of one of several -/
def tyDs (d : D) : List Ty → Option Bool
  | [] => some false
  | t :: r => match tyD d t with
    | some true => some true
    | some false => tyDs d r
    | none => none
def isiE (t : Ty) (a : ME) : ME := un1 (fun d => (tyD d t).bind imB) a
def isisE (ts : List Ty) (a : ME) : ME := un1 (fun d => (tyDs d ts).bind imB) a

/-! ### the evaluator: n bounds the syntax tree's depth; nothing where the text is not of the kind that is covered -/
structure Cfg where
  N : List Str
  fx : List Nat
  W : Nat
  fns : Str → Option (List Bool × (Sl → CRes))
  lam : Str → Option (LRes → CRes)
  clo : Option LRes
  cst : Str → Option D
  exs : Str → Bool
  sub : Str → Str → Option Bool
  calm : Bool
  hot : Bool
  tab : Bool
  fns2 : Str → Option (List Bool × (Sl → CRes))
def o1 {α β : Type} (f : α → β) : Option α → Option β
  | some a => some (f a)
  | none => none
def o2 {α β γ : Type} (f : α → β → γ) : Option α → Option β → Option γ
  | some a, some b => some (f a b)
  | _, _ => none
def o3 {α β γ δ : Type} (f : α → β → γ → δ) : Option α → Option β → Option γ → Option δ
  | some a, some b, some c => some (f a b c)
  | _, _, _ => none
def allO {α : Type} : List (Option α) → Option (List α)
  | [] => some []
  | a :: r => o2 (fun x xs => x :: xs) a (allO r)
/-- a part that may be left out -/
def oo {α : Type} : Option (Option α) → Option (Option α)
  | none => some none
  | some none => none
  | some (some a) => some (some a)
def iff {α : Type} (b : Bool) (r : Option α) : Option α := if b then r else none
def visB (sc : Scope) (x : Str) : Bool := match sc.names.lookup x with
  | some .local => true
  | some .cell => true
  | some .free => true
  | _ => false
def locB (sc : Scope) (x : Str) : Bool := match sc.names.lookup x with
  | some .local => true
  | some .cell => true
  | _ => false
def glB (sc : Scope) (x : Str) : Bool := (match sc.names.lookup x with
  | some .globalImplicit => true
  | _ => false) && !(x == ("__debug__" : Str)) && !(x == ("__name__" : Str))
def isStar : Expr → Bool
  | .Starred .. => true
  | _ => false
def noStar (es : List Expr) : Bool := es.all fun e => !isStar e
def ixN : List Str → Str → Option Nat
  | [], _ => none
  | x :: r, y => if x = y then some 0 else (ixN r y).map (· + 1)
def ixNs (N : List Str) : List Str → Option (List Nat)
  | [] => some []
  | x :: r => match ixN N x, ixNs N r with
    | some i, some is => some (i :: is)
    | _, _ => none
/-- the names of a target -/
def tgN : Nat → Expr → List Str
  | 0, _ => []
  | n + 1, .Name x _ => [x]
  | n + 1, .Tuple es _ _ => (es.map (tgN n)).flatten
  | _ + 1, _ => []
def tgE : Nat → Scope → Cfg → Expr → Option MT
  | 0, _, _, _ => none
  | n + 1, sc, c, e => match e with
    | .Name x _ => iff (locB sc x) (o1 (nameT c.fx) (ixN c.N x))
    | .Tuple es _ _ => iff (noStar es) (o1 unpT (allO (es.map (tgE n sc c))))
    | _ => none
def appF (xs : List D) (ds : List D) : Option (D × List D) := match ds with
  | [d] => if xs.length < sizeMax then some (.none, xs ++ [d]) else none
  | _ => none
def extF (xs : List D) (ds : List D) : Option (D × List D) := match ds with
  | [.list ys] => if xs.length + ys.length ≤ sizeMax then some (.none, xs ++ ys) else none
  | _ => none
inductive Mt where
  | append | extend
def mtOf (m : Str) : Option Mt := if m = "append" then some .append else if m = "extend" then some .extend else none
def mtF : Mt → List D → List D → Option (D × List D)
  | .append => appF
  | .extend => extF
def setF (xs : List D) (k d : D) : Option (List D) := match k with
  | .int i => (ixD xs.length i).map fun j => xs.set j d
  | _ => none
def enumI : Int → List D → List D
  | _, [] => []
  | i, d :: r => .tuple [.int i, d] :: enumI (i + 1) r
def zipI : List D → List D → List D
  | a :: as, b :: bs => .tuple [a, b] :: zipI as bs
  | _, _ => []
def rangeI (lo : Int) : Nat → List D
  | 0 => []
  | n + 1 => .int lo :: rangeI (lo + 1) n
def rngB (i : Int) : Bool := decide (-(2 ^ 62) ≤ i) && decide (i < 2 ^ 62)
def rangeF1 : List D → Option (List D)
  | [.int n] => if rngB n then some (rangeI 0 n.toNat) else none
  | _ => none
def rangeF2 : List D → Option (List D)
  | [.int a, .int b] => if rngB a && rngB b then some (rangeI a (b - a).toNat) else none
  | _ => none
def enumF : List D → Option (List D)
  | [.list xs] => some (enumI 0 xs)
  | [.tuple xs] => some (enumI 0 xs)
  | _ => none
def zipF : List D → Option (List D)
  | [.list xs, .list ys] => some (zipI xs ys)
  | [.tuple xs, .tuple ys] => some (zipI xs ys)
  | _ => none
def seqF : List D → Option (List D)
  | [p] => seqD p
  | _ => none
def isTup : Expr → Bool
  | .Tuple .. => true
  | _ => false
def isSet : Expr → Bool
  | .Set .. => true
  | _ => false
/-- what is walked; tup: the target is a tuple -/
def evI (sc : Scope) (fx : List Nat) (tup : Bool) (ev : Expr → Option ME) (it : Expr) : Option MI := match it with
  | .Call (.Name f _) as [] _ => if f = "range" then iff (glB sc f && noStar as) (match as with
    | [a] => o1 (fun m => itE fx rangeF1 [m]) (ev a)
    | [a, b] => o2 (fun m m' => itE fx rangeF2 [m, m']) (ev a) (ev b)
    | _ => none)
    else if f = "enumerate" then iff (glB sc f && noStar as && tup) (match as with
    | [a] => o1 (fun m => itE fx enumF [m]) (ev a)
    | _ => none)
    else if f = "zip" then iff (glB sc f && noStar as && tup) (match as with
    | [a, b] => o2 (fun m m' => itE fx zipF [m, m']) (ev a) (ev b)
    | _ => none) else o1 (fun m => itE fx seqF [m]) (ev it)
  | e => iff (!isSet e) (o1 (fun m => itE fx seqF [m]) (ev it))
/-- the names of a comprehension's block -/
def blkB (N : List Str) (sc scope : Scope) (own : List (Str × Nat)) : Bool :=
  (match scope.kind with | .function => true | _ => false) && (scope.names.all fun y => decide (scope.names.lookup y.1 = some y.2)) && (own.all fun p => decide (N[p.2]? = some p.1)) &&
    (scope.names.all fun y => match y.2 with
      | .free => (match sc.names.lookup y.1 with | some .cell => true | some .free => true | _ => false)
      | .local => decide (y.1 ∈ own.map (·.1)) || decide (y.1 ∉ N)
      | .cell => decide (y.1 ∈ own.map (·.1)) || decide (y.1 ∉ N)
      | _ => true)
/-- a block's scope as it runs: what is free there and a cell around is a cell -/
def relB (scope sc : Scope) : Scope :=
  { scope with names := scope.names.map fun (n, k) => if (k == .free && sc.kind == .function && sc.names.lookup n == some .cell) then (n, .cell) else (n, k) }
/-- the types that a tuple of names names -/
def tysOf : List Expr → Option (List Ty)
  | [] => some []
  | .Name t _ :: r => o2 (fun x xs => x :: xs) (tyOf t) (tysOf r)
  | _ :: _ => none
def glBs (sc : Scope) : List Expr → Bool
  | [] => true
  | .Name t _ :: r => glB sc t && glBs sc r
  | _ :: _ => false
/-- a lambda's names: captured ones and globals -/
def lamB (sc scope : Scope) : Bool :=
  decide (scope.kind = .function) && !scope.isCoroutine && !scope.isGenerator && scope.names.all fun y => !decide (y.2 = .local) && !decide (y.2 = .cell) && (!decide (y.2 = .free) || decide (sc.names.lookup y.1 = some .cell) || decide (sc.names.lookup y.1 = some .free))
def noPar (p : Arguments) : Bool := p.posonlyargs.isEmpty && p.args.isEmpty && p.vararg.isNone && p.kwonlyargs.isEmpty && p.kw_defaults.isEmpty && p.kwarg.isNone && p.defaults.isEmpty
def freesOf (N : List Str) (scope : Scope) : List Nat := scope.names.filterMap fun y => if y.2 = .free then ixN N y.1 else none
def isCall : Expr → Bool
  | .Call .. => true
  | _ => false
inductive Vm where
  | count | index
def vmOf (m : Str) : Option Vm := if m = "count" then some .count else if m = "index" then some .index else none
def vmF : Vm → List D → D → Option Op
  | .count => cntD
  | .index => idxD
def evE : Nat → Scope → Cfg → Expr → Option ME
  | 0, _, _, _ => none
  | n + 1, sc, c, e => match e with
    | .Constant (.int i) _ _ => some (immE (.int i))
    | .Constant (.bool b) _ _ => some (immE (.bool b))
    | .Constant .none _ _ => some (immE .none)
    | .Constant (.str s) _ _ => some (immE (.str s))
    | .Name x _ => iff (!(x == ("__debug__" : Str)) && !(x == ("__classdict__" : Str))) (match ixN c.N x with
      | some i => iff (visB sc x) (some (varE i))
      | none => iff (glB sc x) (o1 immE (c.cst x)))
    | .BinOp a op b _ => o2 (op2 (binD op)) (evE n sc c a) (evE n sc c b)
    | .UnaryOp .Not a _ => o1 notE (evE n sc c a)
    | .UnaryOp .USub a _ => o1 (un1 negD) (evE n sc c a)
    | .BoolOp .And es _ => o1 andE (allO (es.map (evE n sc c)))
    | .BoolOp .Or es _ => o1 orE (allO (es.map (evE n sc c)))
    | .IfExp t a b _ => o3 ifE (evE n sc c t) (evE n sc c a) (evE n sc c b)
    | .Compare a [op] [b] _ => iff (!behindInMarks op b) (o2 (op2 fun p q => (cmpD op p q).bind imB) (evE n sc c a) (evE n sc c b))
    | .Compare a [op, op'] [b, d] _ => iff (!lastMarks [op, op'] [b, d]) (o3 (chainE (cmpD op) (cmpD op')) (evE n sc c a) (evE n sc c b) (evE n sc c d))
    | .Tuple es _ _ => iff (noStar es && decide (es.length ≤ sizeMax)) (o1 tupE (allO (es.map (evE n sc c))))
    | .List es _ => iff (noStar es && decide (es.length ≤ sizeMax)) (o1 lstE (allO (es.map (evE n sc c))))
    | .Subscript a (.Slice lo hi none _) _ => o3 sliE (evE n sc c a) (oo (lo.map (evE n sc c))) (oo (hi.map (evE n sc c)))
    | .Subscript a i _ => o2 (op2 subD) (evE n sc c a) (evE n sc c i)
    | .ListComp elt [⟨tg, it, ifs, 0⟩] scope _ => (match ixNs c.N (tgN n tg) with
      | some own => iff (c.calm && blkB c.N sc scope ((tgN n tg).zip own) && !isSet it && decide (ifs.length ≤ 1)) (match evI sc c.fx (isTup tg) (evE n sc c) it, tgE n scope c tg, allO (ifs.map (evE n (relB scope sc) c)), evE n (relB scope sc) c elt with
        | some m, some t, some cs, some x => some (compE own m t (condE cs) x)
        | _, _, _, _ => none)
      | none => none)
    | .Dict [] [] _ => some fun e => .ok (.td []) e
    | .Dict [some x] [y] _ => o2 dct1E (evE n sc c x) (evE n sc c y)
    | .Attribute (.Name _ _) _ _ => iff c.hot (some badE)
    | .Call (.Name g _) [.Lambda params body scope _] [] _ => iff (c.calm && glB sc g && c.tab && noPar params && lamB sc scope) (o2 (lamE c.fx (freesOf c.N scope)) (c.lam g) (evE n scope { c with fns := c.fns2, fns2 := fun _ => none, lam := fun _ => none, tab := false, calm := true, hot := false } body))
    | .Call (.Name f _) as [] _ => iff (glB sc f && noStar as) (if f = "isinstance" then (match as with
      | [.Name x _, .Name t _] => (match tyOf t with
        | some ty => iff (glB sc t) (o1 (isiE ty) (evE n sc c (.Name x ⟨0, 0, 0, 0⟩)))
        | none => iff (c.hot && visB sc x && glB sc t && !(x == ("__debug__" : Str)) && !(x == ("__classdict__" : Str))) (o1 (isxE c.sub t) (ixN c.N x)))
      | [a, .Name t _] => iff (glB sc t) (o2 isiE (tyOf t) (evE n sc c a))
      | [a, .Tuple ts _ _] => iff (glBs sc ts && decide (ts ≠ []) && decide (ts.length ≤ sizeMax)) (o2 isisE (tysOf ts) (evE n sc c a))
      | _ => none) else (match bltOf f with
      | some b => iff (c.calm && decide (as ≠ [])) (o1 (bltE (bltD b)) (allO (as.map (evE n sc c))))
      | none => (match c.fns f with
        | some (br, F) => iff (c.calm && decide (as.length = br.length)) (o1 (callE br F) (allO (as.map (evE n sc c))))
        | none => none)))
    | .Call (.Attribute o m apos) [a] [] cpos => (match mtOf m with
      | some f => (match o with
        | .Name x _ => iff (visB sc x && !isStar a && (apos.endLine == cpos.line) && !(x == ("__debug__" : Str)) && !(x == ("__classdict__" : Str))) (o2 (fun i x => mutE i (mtF f) [x]) (ixN c.N x) (evE n sc c a))
        | _ => none)
      | none => (match vmOf m with
        | some f => iff (!isCall o && !isStar a && (apos.endLine == cpos.line)) (o2 (metE (vmF f)) (evE n sc c o) (evE n sc c a))
        | none => none))
    | _ => none
def nameOn (loc : Str → Bool) (line : Nat) : Expr → Option Str
  | .Name id pos => if loc id && pos.line == line then some id else none
  | _ => none
/-- is this a swap of plain local names (of which), as Python compiles it? -/
def swp (loc : Str → Bool) (ts es : List Expr) : Option (Option (List Str)) :=
  if !(ts.length == 2 || ts.length == 3) || es.length != ts.length then some none else
  if es.any isStar then some none else
  if (ts.filterMap (nameOn loc ((ts.head?.map (·.pos.line)).getD 0))).length != ts.length || (ts.filterMap (nameOn loc ((ts.head?.map (·.pos.line)).getD 0))).eraseDups.length != (ts.filterMap (nameOn loc ((ts.head?.map (·.pos.line)).getD 0))).length then some none else
  if es.all (foldedForSure 8) then some none else
  if es.all (constantsAlone 8) then none else some (some (ts.filterMap (nameOn loc ((ts.head?.map (·.pos.line)).getD 0))))
def locOnly (sc : Scope) (x : Str) : Bool := sc.names.lookup x == some .local
/-- targets that are names -/
def plainN : List Expr → Option (List Str)
  | [] => some []
  | .Name x _ :: r => (plainN r).map fun ns => x :: ns
  | _ :: _ => none
/-- names that are plain locals -/
def allLoc (sc : Scope) (ns : List Str) : Bool := ns.all (locOnly sc)
/-- the one statement of a try's body: call() or return call(), of the first parameter -/
def tryB (c : Cfg) : Stmt → Option Bool
  | .Expr (.Call (.Name a _) [] [] _) _ => iff (c.N.head? == some a) (some false)
  | .Return (some (.Call (.Name a _) [] [] _)) _ => iff (c.N.head? == some a) (some true)
  | _ => none
def evS : Nat → Scope → Cfg → Stmt → Option MS
  | 0, _, _, _ => none
  | n + 1, sc, c, s => match s with
    | .Return (some e) _ => o1 retS (evE n sc c e)
    | .Return none _ => some retN
    | .Expr e _ => iff (isCall e) (o1 exprS (evE n sc c e))
    | .If t a b _ => o3 ifS (evE n sc c t) (o1 seqS (allO (a.map (evS n sc c)))) (o1 seqS (allO (b.map (evS n sc c))))
    | .For tg it body [] _ => (match ixNs c.N (tgN n tg) with
      | some own => iff (c.calm && !isSet it) (o3 forS (evI sc c.fx (isTup tg) (evE n sc c) it) (tgE n sc c tg) (o1 seqS (allO (body.map (evS n sc c)))))
      | none => none)
    | .While t body [] _ => iff c.calm (o2 (fun t b e => whL t b c.W e) (evE n sc c t) (o1 seqS (allO (body.map (evS n sc c)))))
    | .Assign [.Name x _] e _ => iff (locB sc x) (o2 (fun i m => asgS (nameG c.fx i) m) (ixN c.N x) (evE n sc c e))
    | .Assign [.Tuple ts k p] e _ => (match e with
      | .Tuple es k2 p2 => (match swp (locOnly sc) ts es with
        | some (some ns) => iff (c.calm && noStar es && allLoc sc ns) (o2 (fun is ms => parS (is.map (nameG c.fx)) ms) (ixNs c.N ns) (allO (es.map (evE n sc c))))
        | some none => (match plainN ts with
          | some ns => (match ixNs c.N ns with
            | some is => iff (c.calm && noStar es && ns.all (locB sc) && decide is.Nodup && decide (is.length ≤ sizeMax)) (o1 (fun ms => parS (is.map (nameG c.fx)) ms) (allO (es.map (evE n sc c))))
            | none => none)
          | none => (match ixNs c.N (tgN n (.Tuple ts k p)) with
            | some own => iff c.calm (o2 asgT (tgE n sc c (.Tuple ts k p)) (evE n sc c (.Tuple es k2 p2)))
            | none => none))
        | none => none)
      | e => (match ixNs c.N (tgN n (.Tuple ts k p)) with
          | some own => iff c.calm (o2 asgT (tgE n sc c (.Tuple ts k p)) (evE n sc c e))
          | none => none))
    | .Assign [.Subscript (.Name x _) i _] e _ => iff (visB sc x && !(x == ("__debug__" : Str)) && !(x == ("__classdict__" : Str))) (o3 (fun j mi me => setiS j setF mi me) (ixN c.N x) (evE n sc c i) (evE n sc c e))
    | .AugAssign (.Name x _) op e _ => iff (locB sc x) (o2 (fun i m => asgS (nameG c.fx i) (op2 (augD op) (varE i) m)) (ixN c.N x) (evE n sc c e))
    | .Raise (some (.Call (.Name C _) [] [] _)) none _ => iff (c.calm && glB sc C && c.exs C) (some (raiseS C))
    | .Try [b] (h₀ :: hs) [] [] _ => iff c.calm (match c.clo with
      | some r => o2 (fun ret hs => tryS c.N.length ret r c.sub hs) (tryB c b) (allO ((h₀ :: hs).map fun h => match h with
        | .ExceptHandler (some (.Name C _)) (some y) (s₀ :: ss) _ => iff (glB sc C && locOnly sc y && (c.sub C C).isSome) (o2 (fun j ms => (C, j, seqS ms)) (ixN c.N y) (allO ((s₀ :: ss).map (evS n sc { c with fx := [], calm := false, hot := true, clo := none }))))
        | _ => none))
      | none => none)
    | .Pass _ => some fun e => .nx e
    | .Break _ => some fun e => .bk e
    | .Continue _ => some fun e => .ct e
    | _ => none

/-! ### defs -/
structure Df where
  N : List Str
  sc : Scope
  br : List Bool
  tab : Bool
  body : List Stmt
/-- the parameters that were handed as they are -/
def fxOf : Nat → List Bool → List Nat
  | _, [] => []
  | i, b :: bs => if b then i :: fxOf (i + 1) bs else fxOf (i + 1) bs
/-- what they hold at the end -/
def finsOf : List Bool → Sl → Sl
  | [], _ => []
  | _ :: bs, [] => none :: finsOf bs []
  | b :: bs, x :: r => (if b then x else none) :: finsOf bs r
/-- what leaves a def: an own list that a slot holds goes along, where it is no argument's -/
def outO (fx : List Nat) : Op → Sl → Option (Op × Sl)
  | .bor i, e => if fx.contains i then (fzO (.bor i) e).map fun r => (.im r.1, r.2) else (match gt e i with
    | some (.ol xs) => some (.tl xs, pt e i none)
    | some (.od kvs) => some (.td kvs, pt e i none)
    | some (.im d) => some (.im d, e)
    | _ => none)
  | o, e => some (o, e)
def endF (br : List Bool) : SR → CRes
  | .nx e => .ok (.im .none) (finsOf br e)
  | .rt o e => (match outO (fxOf 0 br) o e with
    | some (r, e1) => .ok r (finsOf br e1)
    | none => .bad)
  | .er x e => .er x (finsOf br e)
  | _ => .bad
def callDf (n : Nat) (c : Cfg) (d : Df) (ps : Sl) : CRes := match allO (d.body.map (evS n d.sc { c with N := d.N, fx := fxOf 0 d.br })) with
  | some ms => endF d.br (seqS ms (ps ++ List.replicate (d.N.length - d.br.length) none))
  | none => .bad
/-- a program: its defs by name, those that call a lambda, its constants, its own exceptions, which is of which class -/
structure Prg where
  defs : List (Str × Df)
  lams : List (Str × Df)
  tabs : List Str
  cst : List (Str × D)
  exs : List Str
  sub : List (Str × List (Str × Bool))
  W : Nat
def fuel : Nat := 40
def Prg.cfg (P : Prg) (tab : Bool) (G G2 : Df → Sl → CRes) (L : Df → LRes → CRes) : Cfg where
  N := []
  fx := []
  W := P.W
  fns := fun f => (P.defs.lookup f).map fun d => (d.br, G d)
  fns2 := fun f => (P.defs.lookup f).map fun d => (d.br, G2 d)
  lam := fun f => (P.lams.lookup f).map fun d => L d
  clo := none
  cst := fun x => P.cst.lookup x
  exs := fun x => P.exs.contains x
  sub := fun x y => (P.sub.lookup x).bind fun r => r.lookup y
  calm := true
  hot := false
  tab := tab
/-- what a def that calls a lambda makes of what comes of it -/
def isTry : Stmt → Bool
  | .Try .. => true
  | _ => false
def splitT : List Stmt → List Stmt × List Stmt
  | [] => ([], [])
  | s :: r => if isTry s then ([], s :: r) else ((s :: (splitT r).1), (splitT r).2)
/-- no def is called there -/
def lmCfg (c : Cfg) (d : Df) : Cfg := { c with N := d.N, fx := [], fns := fun _ => none, fns2 := fun _ => none, lam := fun _ => none, exs := fun _ => false, clo := none, tab := false, calm := true, hot := false }
def callLm (n : Nat) (c : Cfg) (d : Df) (r : LRes) : CRes := match splitT d.body with
  | (pre, t :: post) => (match allO (pre.map (evS n d.sc { lmCfg c d with fx := [0] })), evS n d.sc { lmCfg c d with clo := some r } t, allO (post.map (evS n d.sc (lmCfg c d))) with
    | some a, some m, some b => endF [] ((seqS a (List.replicate d.N.length none)).bind fun e => (m e).bind (seqS b))
    | _, _, _ => .bad)
  | _ => .bad
def Prg.run (P : Prg) : Nat → Df → Sl → CRes
  | k + 3, d, ps => callDf fuel (P.cfg d.tab (P.run (k + 2)) (P.run k) (callLm fuel (P.cfg false (P.run k) (fun _ _ => .bad) fun _ _ => .bad))) d ps
  | _, _, _ => .bad
end Ev
end
section
set_option maxHeartbeats 2000000
/-! EvRel: how the evaluator's values stand in the abstract heap; readings that speak of the evaluator. -/
namespace Ev
open PySem PySem.Spec PyProof.Rows L2
/-- what stands around: tables of code objects; what names stand for; the exception that is held: where, its class, its dict -/
structure LT where
  tabs : List (Addr × Str)
  mg : Str → Option Value
  exc : Option (Addr × Value × Option Addr)
variable {T : LT}

/-- a list, a dict -/
def Md : HO → Prop
  | .lst _ => True
  | .dK _ => True
  | .dT _ => True
  | _ => False
/-! ### values that never change -/
/-- a list that is known to the object, or one of the module's own: the script -/
def ScrAt (K : PySem.W.Frag) (Z : Addr → Prop) (H : Hp) (a : Addr) (xs : List V) : Prop :=
  (Z a ∧ H a = some (.lst xs)) ∨ (∃ o, H a = some (.frz o (.lst xs))) ∨
    ∃ (o : Obj) (its : Array Value) (n : Nat), K.lookup a = some o ∧ o.cls = .type "list" ∧ o.dict = none ∧ o.data = .seq its n ∧ its.size ≤ sizeLine ∧ Vals xs its.toList
def keyD : Key → D
  | .inl i => .int i
  | .inr x => .str x
mutual
inductive EncD (K : PySem.W.Frag) (Z : Addr → Prop) (H : Hp) : V → D → Prop
  | non : EncD K Z H .non .none
  | bl (b : Bool) : EncD K Z H (.bl b) (.bool b)
  | int (i : Int) : EncD K Z H (.int i) (.int i)
  | str (x : Str) : EncD K Z H (.str x) (.str x)
  | lst {a : Addr} {xs : List V} {ds : List D} : Z a → H a = some (.lst xs) → EncDs K Z H xs ds → EncD K Z H (.ref a) (.list ds)
  | tup {a : Addr} {xs : List V} {ds : List D} : SqT K H a xs → EncDs K Z H xs ds → EncD K Z H (.ref a) (.tuple ds)
  | scr {a : Addr} {xs : List V} {ds : List D} : ScrAt K Z H a xs → EncDs K Z H xs ds → EncD K Z H (.ref a) (.dict [(.none, .list ds)])
  | dK {a : Addr} {kvs : List (Key × V)} {ds : List (D × D)} : Z a → H a = some (.dK kvs) → EncK K Z H kvs ds → EncD K Z H (.ref a) (.dict ds)
  | dT {a : Addr} {kvs : List (List Key × V)} {ds : List (D × D)} : Z a → H a = some (.dT kvs) → EncT K Z H kvs ds → EncD K Z H (.ref a) (.dict ds)
inductive EncDs (K : PySem.W.Frag) (Z : Addr → Prop) (H : Hp) : List V → List D → Prop
  | nil : EncDs K Z H [] []
  | cons {v : V} {vs : List V} {d : D} {ds : List D} : EncD K Z H v d → EncDs K Z H vs ds → EncDs K Z H (v :: vs) (d :: ds)
inductive EncK (K : PySem.W.Frag) (Z : Addr → Prop) (H : Hp) : List (Key × V) → List (D × D) → Prop
  | nil : EncK K Z H [] []
  | cons {k : Key} {v : V} {d : D} {r : List (Key × V)} {r' : List (D × D)} : EncD K Z H v d → EncK K Z H r r' → EncK K Z H ((k, v) :: r) ((keyD k, d) :: r')
inductive EncT (K : PySem.W.Frag) (Z : Addr → Prop) (H : Hp) : List (List Key × V) → List (D × D) → Prop
  | nil : EncT K Z H [] []
  | cons {k : List Key} {v : V} {d : D} {r : List (List Key × V)} {r' : List (D × D)} : EncD K Z H v d → EncT K Z H r r' → EncT K Z H ((k, v) :: r) ((.tuple (k.map keyD), d) :: r')
end
def DctAt (K : PySem.W.Frag) (Z : Addr → Prop) (H : Hp) (a : Addr) (kvs : List (D × D)) : Prop :=
  (∃ l, H a = some (.dK l) ∧ EncK K Z H l kvs) ∨ ∃ l, H a = some (.dT l) ∧ EncT K Z H l kvs
structure Le (Z : Addr → Prop) (H : Hp) (Z' : Addr → Prop) (H' : Hp) : Prop where
  z : ∀ a, Z a → Z' a
  keep : ∀ a, Z a → H' a = H a
  tup : ∀ a xs, H a = some (.tup xs) → H' a = some (.tup xs)
  frz : ∀ a o u, H a = some (.frz o u) → H' a = some (.frz o u)
theorem Le.refl {Z H} : Le Z H Z H := ⟨fun _ h => h, fun _ _ => rfl, fun _ _ h => h, fun _ _ _ h => h⟩
theorem Le.trans {Z H Z1 H1 Z2 H2} (a : Le Z H Z1 H1) (b : Le Z1 H1 Z2 H2) : Le Z H Z2 H2 :=
  ⟨fun x h => b.z x (a.z x h), fun x h => (b.keep x (a.z x h)).trans (a.keep x h), fun x xs h => b.tup x xs (a.tup x xs h), fun x o u h => b.frz x o u (a.frz x o u h)⟩
theorem ScrAt.mono {K : PySem.W.Frag} {Z Z' : Addr → Prop} {H H' : Hp} {a xs} (l : Le Z H Z' H') (h : ScrAt K Z H a xs) : ScrAt K Z' H' a xs := by
  rcases h with ⟨z, h⟩ | ⟨o, h⟩ | h
  · exact .inl ⟨l.z _ z, by rw [l.keep _ z]; exact h⟩
  · exact .inr (.inl ⟨o, l.frz _ _ _ h⟩)
  · exact .inr (.inr h)
theorem SqT.mono' {K : PySem.W.Frag} {Z Z' : Addr → Prop} {H H' : Hp} {a xs} (l : Le Z H Z' H') (h : SqT K H a xs) : SqT K H' a xs := by
  rcases h with (h | ⟨o, h⟩) | h
  · exact .inl (.inl (l.tup _ _ h))
  · exact .inl (.inr ⟨o, l.frz _ _ _ h⟩)
  · exact .inr h
mutual
theorem EncD.mono {K Z H Z' H'} (l : Le Z H Z' H') : ∀ {v d}, EncD K Z H v d → EncD K Z' H' v d
  | _, _, .non => .non
  | _, _, .bl b => .bl b
  | _, _, .int i => .int i
  | _, _, .str x => .str x
  | _, _, .lst z h hs => .lst (l.z _ z) (by rw [l.keep _ z]; exact h) (EncDs.mono l hs)
  | _, _, .tup h hs => .tup (SqT.mono' l h) (EncDs.mono l hs)
  | _, _, .scr h hs => .scr (h.mono l) (EncDs.mono l hs)
  | _, _, .dK z h q => .dK (l.z _ z) (by rw [l.keep _ z]; exact h) (EncK.mono l q)
  | _, _, .dT z h q => .dT (l.z _ z) (by rw [l.keep _ z]; exact h) (EncT.mono l q)
theorem EncDs.mono {K Z H Z' H'} (l : Le Z H Z' H') : ∀ {vs ds}, EncDs K Z H vs ds → EncDs K Z' H' vs ds
  | _, _, .nil => .nil
  | _, _, .cons h hs => .cons (EncD.mono l h) (EncDs.mono l hs)
theorem EncK.mono {K Z H Z' H'} (l : Le Z H Z' H') : ∀ {vs ds}, EncK K Z H vs ds → EncK K Z' H' vs ds
  | _, _, .nil => .nil
  | _, _, .cons h hs => .cons (EncD.mono l h) (EncK.mono l hs)
theorem EncT.mono {K Z H Z' H'} (l : Le Z H Z' H') : ∀ {vs ds}, EncT K Z H vs ds → EncT K Z' H' vs ds
  | _, _, .nil => .nil
  | _, _, .cons h hs => .cons (EncD.mono l h) (EncT.mono l hs)
end
theorem DctAt.mono {K Z H Z' H' a kvs} (l : Le Z H Z' H') (h : DctAt K Z H a kvs) (e : H' a = H a) : DctAt K Z' H' a kvs := by
  rcases h with ⟨m, h, q⟩ | ⟨m, h, q⟩
  · exact .inl ⟨m, e.trans h, q.mono l⟩
  · exact .inr ⟨m, e.trans h, q.mono l⟩
theorem DctAt.some {K Z H a kvs} (h : DctAt K Z H a kvs) : ∃ u, H a = some u ∧ Md u := by
  rcases h with ⟨m, h, q⟩ | ⟨m, h, q⟩
  · exact ⟨_, h, trivial⟩
  · exact ⟨_, h, trivial⟩
theorem DctAt.enc {K Z H a kvs} (h : DctAt K Z H a kvs) (z : Z a) : EncD K Z H (.ref a) (.dict kvs) := by
  rcases h with ⟨m, h, q⟩ | ⟨m, h, q⟩
  · exact .dK z h q
  · exact .dT z h q
theorem EncDs.length {K Z H} : ∀ {vs ds}, EncDs K Z H vs ds → vs.length = ds.length
  | _, _, .nil => rfl
  | _, _, .cons _ h => by rw [List.length_cons, List.length_cons, EncDs.length h]
theorem EncDs.get {K Z H} : ∀ {vs ds} {i : Nat} {d : D}, EncDs K Z H vs ds → ds[i]? = some d → ∃ v, vs[i]? = some v ∧ EncD K Z H v d
  | _, _, _, _, .nil, e => by simp at e
  | _, _, 0, _, .cons h _, e => by simp at e; subst e; exact ⟨_, rfl, h⟩
  | _, _, i + 1, _, .cons _ t, e => by
    obtain ⟨v, h1, h2⟩ := EncDs.get (i := i) t (by simpa using e)
    exact ⟨v, by simpa using h1, h2⟩
theorem EncDs.append {K Z H} : ∀ {vs ds ws es}, EncDs K Z H vs ds → EncDs K Z H ws es → EncDs K Z H (vs ++ ws) (ds ++ es)
  | _, _, _, _, .nil, h => h
  | _, _, _, _, .cons a b, h => .cons a (EncDs.append b h)
theorem EncDs.set {K Z H} {v : V} {d : D} (h : EncD K Z H v d) : ∀ {vs ds} (i : Nat), EncDs K Z H vs ds → EncDs K Z H (vs.set i v) (ds.set i d)
  | _, _, _, .nil => .nil
  | _, _, 0, .cons _ t => .cons h t
  | _, _, i + 1, .cons a t => .cons a (EncDs.set h i t)
theorem EncDs.take {K Z H} : ∀ {vs ds} (n : Nat), EncDs K Z H vs ds → EncDs K Z H (vs.take n) (ds.take n)
  | _, _, 0, _ => by simp; exact .nil
  | _, _, _ + 1, .nil => .nil
  | _, _, n + 1, .cons a t => .cons a (EncDs.take n t)
theorem EncDs.drop {K Z H} : ∀ {vs ds} (n : Nat), EncDs K Z H vs ds → EncDs K Z H (vs.drop n) (ds.drop n)
  | _, _, 0, h => h
  | _, _, _ + 1, .nil => .nil
  | _, _, n + 1, .cons _ t => EncDs.drop n t

/-! ### what may be read -/
inductive Vw (K : PySem.W.Frag) (Z : Addr → Prop) (H : Hp) : V → D → Prop
  | im {v d} : EncD K Z H v d → Vw K Z H v d
  | lst {a vs xs} : H a = some (.lst vs) → EncDs K Z H vs xs → Vw K Z H (.ref a) (.list xs)
  | dct {a kvs} : DctAt K Z H a kvs → Vw K Z H (.ref a) (.dict kvs)
theorem Vw.list {K Z H v xs} (h : Vw K Z H v (.list xs)) : ∃ a vs, v = .ref a ∧ H a = some (.lst vs) ∧ EncDs K Z H vs xs := by
  cases h with
  | im h => cases h with | lst z h hs => exact ⟨_, _, rfl, h, hs⟩
  | lst h hs => exact ⟨_, _, rfl, h, hs⟩
/-- a dict, or the script -/
theorem Vw.dict {K Z H v xs} (h : Vw K Z H v (.dict xs)) : ∃ a, v = .ref a ∧ (DctAt K Z H a xs ∨ ∃ ds vs, xs = [(.none, .list ds)] ∧ ScrAt K Z H a vs ∧ EncDs K Z H vs ds) := by
  cases h with
  | im h => cases h with
    | scr h hs => exact ⟨_, rfl, .inr ⟨_, _, rfl, h, hs⟩⟩
    | dK z h hs => exact ⟨_, rfl, .inl (.inl ⟨_, h, hs⟩)⟩
    | dT z h hs => exact ⟨_, rfl, .inl (.inr ⟨_, h, hs⟩)⟩
  | dct h => exact ⟨_, rfl, .inl h⟩
theorem Vw.tuple {K Z H v xs} (h : Vw K Z H v (.tuple xs)) : ∃ a vs, v = .ref a ∧ SqT K H a vs ∧ EncDs K Z H vs xs := by
  cases h with
  | im h => cases h with | tup h hs => exact ⟨_, _, rfl, h, hs⟩
theorem Vw.int {K Z H v i} (h : Vw K Z H v (.int i)) : v = .int i := by
  cases h with | im h => cases h; rfl
theorem Vw.bool {K Z H v b} (h : Vw K Z H v (.bool b)) : v = .bl b := by
  cases h with | im h => cases h; rfl
theorem Vw.str {K Z H v b} (h : Vw K Z H v (.str b)) : v = .str b := by
  cases h with | im h => cases h; rfl
theorem Vw.none {K Z H v} (h : Vw K Z H v .none) : v = .non := by
  cases h with | im h => cases h; rfl
inductive Vws (K : PySem.W.Frag) (Z : Addr → Prop) (H : Hp) : List V → List D → Prop
  | nil : Vws K Z H [] []
  | cons {v vs d ds} : Vw K Z H v d → Vws K Z H vs ds → Vws K Z H (v :: vs) (d :: ds)

/-- an exception of the class that a name stands for, with its one field, which is kept -/
def ExOk (K : PySem.W.Frag) (mg : Str → Option Value) (Z : Addr → Prop) (x : Exc) (cls : Value) (d : Option Addr) (H : Hp) : Prop :=
  ∃ C, mg x.cls = some (.ref C) ∧ cls = .ref C ∧ match x.arg with
    | none => d = none
    | some (f, a) => ∃ p v, d = some p ∧ Z p ∧ H p = some (.xd [(f, v)]) ∧ EncD K Z H v a
theorem ExOk.mono {K : PySem.W.Frag} {mg : Str → Option Value} {Z Z' : Addr → Prop} {x : Exc} {cls : Value} {d : Option Addr} {H H' : Hp} (h : ExOk K mg Z x cls d H) (l : Le Z H Z' H') : ExOk K mg Z' x cls d H' := by
  obtain ⟨C, h1, h2, h3⟩ := h
  refine ⟨C, h1, h2, ?_⟩
  split
  · rename_i e; rw [e] at h3; exact h3
  · rename_i f a e
    rw [e] at h3
    obtain ⟨p, v, e1, z, e2, e3⟩ := h3
    exact ⟨p, v, e1, l.z _ z, by rw [l.keep _ z]; exact e2, e3.mono l⟩
/-! ### slots -/
def Sv.own : Sv → Bool
  | .im _ => false
  | .ex _ => false
  | _ => true
def SvOk (K : PySem.W.Frag) (T : LT) (Z G : Addr → Prop) (H : Hp) (v : V) : Sv → Prop
  | .im d => EncD K Z H v d
  | .ol xs => ∃ a vs, v = .ref a ∧ H a = some (.lst vs) ∧ EncDs K Z H vs xs ∧ ¬ Z a ∧ ¬ G a
  | .od kvs => ∃ a, v = .ref a ∧ DctAt K Z H a kvs ∧ ¬ Z a ∧ ¬ G a
  | .ex x => ∃ a cls d, T.exc = some (a, cls, d) ∧ v = .ref a ∧ ExOk K T.mg Z x cls d H
/-- the tables of code objects stand; they are none of ours -/
def TbOk (T : LT) (H : Hp) (Z G : Addr → Prop) : Prop := LamX.Tabs T.tabs H ∧ (∀ a, Z a → ∀ ps, H a ≠ some (.tbl ps)) ∧ ∀ a, G a → ∃ u, H a = some u ∧ Md u
theorem TbOk.less {H : Hp} {Z G G' : Addr → Prop} (t : TbOk T H Z G) (h : ∀ a, G' a → G a) : TbOk T H Z G' := ⟨t.1, t.2.1, fun a z => t.2.2 a (h a z)⟩
structure StOk (K : PySem.W.Frag) (T : LT) (e : Sl) (σ : L2.St) (H : Hp) (Z G : Addr → Prop) : Prop where
  tb : TbOk T H Z G
  zs : ∀ a, Z a → H a ≠ none
  gs : ∀ a, G a → H a ≠ none ∧ ¬ Z a
  sl : ∀ i sv, gt e i = some sv → ∃ v, σ[i]? = some (some v) ∧ SvOk K T Z G H v sv
  inj : ∀ i j si sj v, gt e i = some si → gt e j = some sj → si.own = true → sj.own = true → σ[i]? = some (some v) → σ[j]? = some (some v) → i = j
theorem SvOk.addr {K Z G H v sv} (h : SvOk K T Z G H v sv) (o : sv.own = true) : ∃ a u, v = .ref a ∧ H a = some u ∧ Md u ∧ ¬ Z a ∧ ¬ G a := by
  cases sv with
  | im d => cases o
  | ex x => cases o
  | ol xs => obtain ⟨a, vs, e, h1, _, h2, h3⟩ := h; exact ⟨a, _, e, h1, trivial, h2, h3⟩
  | od xs => obtain ⟨a, e, h1, h2, h3⟩ := h; obtain ⟨u, h1, m⟩ := h1.some; exact ⟨a, _, e, h1, m, h2, h3⟩
/-- from a state to another in which the own ones stand -/
theorem SvOk.mono {K Z G H Z' G' H' v sv} (h : SvOk K T Z G H v sv) (l : Le Z H Z' H') (k : sv.own = true → ∀ a, v = .ref a → H' a = H a ∧ ¬ Z' a ∧ ¬ G' a) : SvOk K T Z' G' H' v sv := by
  cases sv with
  | im d => exact EncD.mono l h
  | ex x =>
    obtain ⟨a, cls, d, e1, e2, e3⟩ := h
    exact ⟨a, cls, d, e1, e2, e3.mono l⟩
  | ol xs =>
    obtain ⟨a, vs, e, h1, hs, _, _⟩ := h
    obtain ⟨k1, k2, k3⟩ := k rfl a e
    exact ⟨a, vs, e, by rw [k1]; exact h1, hs.mono l, k2, k3⟩
  | od kvs =>
    obtain ⟨a, e, h1, _, _⟩ := h
    obtain ⟨k1, k2, k3⟩ := k rfl a e
    exact ⟨a, e, h1.mono l k1, k2, k3⟩
/-- fewer things are kept -/
theorem StOk.less {K e σ H Z G G'} (s : StOk K T e σ H Z G) (h : ∀ a, G' a → G a) : StOk K T e σ H Z G' :=
  ⟨s.tb.less h, s.zs, fun a g => s.gs a (h a g), fun i sv q => by
    obtain ⟨v, h1, h2⟩ := s.sl i sv q
    refine ⟨v, h1, h2.mono Le.refl fun o a e => ?_⟩
    obtain ⟨a', u, e', _, _, n1, n2⟩ := h2.addr o
    rw [e] at e'; cases e'
    exact ⟨rfl, n1, fun z => n2 (h a z)⟩, s.inj⟩
/-- new objects alone -/
theorem Same.le {Z : Addr → Prop} {H H' : Hp} (s : Same H H') (zs : ∀ a, Z a → H a ≠ none) : Le Z H Z H' :=
  ⟨fun _ h => h, fun a h => by
    cases q : H a with
    | none => exact absurd q (zs a h)
    | some o => exact s a o q, fun a xs h => s a _ h, fun a o u h => s a _ h⟩
theorem TbOk.same {H H' : Hp} {Z G : Addr → Prop} (t : TbOk T H Z G) (x : Same H H') (zs : ∀ a, Z a → H a ≠ none) : TbOk T H' Z G := ⟨t.1.ext x, fun a z ps e => by
  cases q : H a with
  | none => exact zs a z q
  | some o =>
    have := x a o q
    rw [e] at this
    cases this
    exact t.2.1 a z ps q, fun a g => by
  obtain ⟨u, h1, h2⟩ := t.2.2 a g
  exact ⟨u, x a u h1, h2⟩⟩
theorem StOk.same {K e σ H H' Z G} (s : StOk K T e σ H Z G) (x : Same H H') : StOk K T e σ H' Z G :=
  ⟨s.tb.same x s.zs, fun a h q => s.zs a h (x.free q), fun a h => ⟨fun q => (s.gs a h).1 (x.free q), (s.gs a h).2⟩, fun i sv q => by
    obtain ⟨v, h1, h2⟩ := s.sl i sv q
    refine ⟨v, h1, h2.mono (Same.le x s.zs) fun o a e => ?_⟩
    obtain ⟨a', u, e', h3, _, n1, n2⟩ := h2.addr o
    rw [e] at e'; cases e'
    exact ⟨by rw [h3]; exact x _ _ h3, n1, n2⟩, s.inj⟩
theorem same_new {H : Hp} {p : Addr} {o : HO} (h : H p = none) : Same H (upd H p o) := fun b x e => by
  rw [upd_ne (ne_of_none e h)]
  exact e

/-! ### operands -/
def OwnA (v : V) : Op → Addr → Prop
  | .tl _, a => v = .ref a
  | .td _, a => v = .ref a
  | _, _ => False
def OpOk (K : PySem.W.Frag) (Z : Addr → Prop) (H : Hp) (σ : L2.St) (v : V) : Op → Prop
  | .im d => EncD K Z H v d
  | .tl xs => ∃ a vs, v = .ref a ∧ H a = some (.lst vs) ∧ EncDs K Z H vs xs
  | .td kvs => ∃ a, v = .ref a ∧ DctAt K Z H a kvs
  | .bor i => σ[i]? = some (some v)
/-- G and one more operand -/
def Gx (G : Addr → Prop) (v : V) (o : Op) : Addr → Prop := fun a => G a ∨ OwnA v o a
def KeepG (G : Addr → Prop) (H H' : Hp) : Prop := ∀ a, G a → H' a = H a
theorem KeepG.refl {G H} : KeepG G H H := fun _ _ => rfl
theorem KeepG.trans {G H H1 H2} (a : KeepG G H H1) (b : KeepG G H1 H2) : KeepG G H H2 := fun x h => (b x h).trans (a x h)
theorem KeepG.less {G G' : Addr → Prop} {H H'} (a : KeepG G H H') (h : ∀ a, G' a → G a) : KeepG G' H H' := fun x g => a x (h x g)
theorem KeepG.of_same {G H H'} (s : Same H H') (gs : ∀ a, G a → H a ≠ none) : KeepG G H H' := fun a h => by
  cases q : H a with
  | none => exact absurd q (gs a h)
  | some o => exact s a o q
/-- an operand ahead of code that keeps it -/
theorem OpOk.mono {K Z H σ v o Z' H'} (h : OpOk K Z H σ v o) (l : Le Z H Z' H') (k : ∀ a, OwnA v o a → H' a = H a) : OpOk K Z' H' σ v o := by
  cases o with
  | im d => exact EncD.mono l h
  | tl xs => obtain ⟨a, vs, e, h1, hs⟩ := h; exact ⟨a, vs, e, by rw [k a e]; exact h1, hs.mono l⟩
  | td xs => obtain ⟨a, e, h1⟩ := h; exact ⟨a, e, h1.mono l (k a e)⟩
  | bor i => exact h
theorem OpOk.vw {K e σ H Z G v o d} (h : OpOk K Z H σ v o) (s : StOk K T e σ H Z G) (q : vw o e = some d) : Vw K Z H v d := by
  cases o with
  | im d' =>
    have : d' = d := Option.some.inj q
    subst this
    exact .im h
  | tl xs =>
    have : PyData.list xs = d := Option.some.inj q
    subst this
    obtain ⟨a, vs, rfl, h1, hs⟩ := h
    exact .lst h1 hs
  | td kvs =>
    have : PyData.dict kvs = d := Option.some.inj q
    subst this
    obtain ⟨a, rfl, h1⟩ := h
    exact .dct h1
  | bor i =>
    simp only [Ev.vw] at q
    have h : σ[i]? = some (some v) := h
    split at q <;> (try (cases q; done))
    all_goals
      rename_i hg
      obtain ⟨v', h1, h2⟩ := s.sl i _ hg
      rw [h] at h1; cases h1
      cases q
    · exact .im h2
    · obtain ⟨a, vs, rfl, h3, hs, _⟩ := h2; exact .lst h3 hs
    · obtain ⟨a, rfl, h3, _⟩ := h2; exact .dct h3
/-- a new result -/
def NewOk (K : PySem.W.Frag) (Z : Addr → Prop) (H H' : Hp) (w : V) : Op → Prop
  | .im d => EncD K Z H' w d
  | .tl xs => ∃ a vs, w = .ref a ∧ H a = none ∧ H' a = some (.lst vs) ∧ EncDs K Z H' vs xs
  | .td kvs => ∃ a, w = .ref a ∧ H a = none ∧ DctAt K Z H' a kvs
  | .bor _ => False
theorem NewOk.op {K Z H H' w o σ} (h : NewOk K Z H H' w o) : OpOk K Z H' σ w o := by
  cases o with
  | im d => exact h
  | tl xs => obtain ⟨a, vs, e, _, h1, hs⟩ := h; exact ⟨a, vs, e, h1, hs⟩
  | td xs => obtain ⟨a, e, _, h1⟩ := h; exact ⟨a, e, h1⟩
  | bor i => exact h.elim
/-- what a slot owns, is not the new one -/
theorem StOk.notOwn {K e σ H Z G} (s : StOk K T e σ H Z G) {i sv a} (h : gt e i = some sv) (o : sv.own = true) (e' : σ[i]? = some (some (V.ref a))) : ∃ u, H a = some u ∧ Md u ∧ ¬ Z a ∧ ¬ G a := by
  obtain ⟨v, h1, h2⟩ := s.sl i sv h
  rw [e'] at h1; cases h1
  obtain ⟨b, u, eb, h3, h4, h5, h6⟩ := h2.addr o
  cases eb
  exact ⟨u, h3, h4, h5, h6⟩
theorem NewOk.st {K e σ H H' Z G w o} (h : NewOk K Z H H' w o) (s : StOk K T e σ H Z G) (x : Same H H') : StOk K T e σ H' Z (Gx G w o) := by
  have s' := s.same x
  have new : ∀ a, OwnA w o a → H a = none ∧ H' a ≠ none := fun a ha => by
    cases o with
    | im d => exact ha.elim
    | tl xs => obtain ⟨b, vs, e, hn, h1, _⟩ := h; have e2 : w = .ref a := ha; rw [e] at e2; cases e2; exact ⟨hn, by rw [h1]; simp⟩
    | td xs => obtain ⟨b, e, hn, h1⟩ := h; have e2 : w = .ref a := ha; rw [e] at e2; cases e2; obtain ⟨u, h1, _⟩ := h1.some; exact ⟨hn, by rw [h1]; simp⟩
    | bor i => exact ha.elim
  refine ⟨⟨s'.tb.1, s'.tb.2.1, fun a z => ?_⟩, s'.zs, fun a g => ?_, fun i sv q => ?_, s'.inj⟩
  · rcases z with z | z
    · exact s'.tb.2.2 a z
    · cases o with
      | im d => exact z.elim
      | tl xs => obtain ⟨b, vs, eb, _, h1, _⟩ := h; have e2 : w = .ref a := z; rw [eb] at e2; cases e2; exact ⟨_, h1, trivial⟩
      | td xs => obtain ⟨b, eb, _, h1⟩ := h; have e2 : w = .ref a := z; rw [eb] at e2; cases e2; exact h1.some
      | bor i => exact z.elim
  · rcases g with g | g
    · exact s'.gs a g
    · exact ⟨(new a g).2, fun z => s.zs a z (new a g).1⟩
  · obtain ⟨v, h1, h2⟩ := s'.sl i sv q
    refine ⟨v, h1, h2.mono Le.refl fun ow a ea => ?_⟩
    subst ea
    obtain ⟨u, h3, _, h4, h5⟩ := s.notOwn q ow h1
    exact ⟨rfl, h4, fun z => z.elim h5 fun z => by rw [(new a z).1] at h3; cases h3⟩

/-- an operand as it comes out of an expression -/
structure Out (K : PySem.W.Frag) (T : LT) (e : Sl) (σ : L2.St) (H : Hp) (Z G : Addr → Prop) (v : V) (o : Op) : Prop where
  st : StOk K T e σ H Z (Gx G v o)
  ok : OpOk K Z H σ v o
  ne : ∀ a, OwnA v o a → ¬ G a
theorem Out.st0 {K e σ H Z G v o} (x : Out K T e σ H Z G v o) : StOk K T e σ H Z G := x.st.less fun _ z => .inl z
theorem NewOk.out {K e σ H H' Z G w o} (h : NewOk K Z H H' w o) (s : StOk K T e σ H Z G) (x : Same H H') : Out K T e σ H' Z G w o := by
  refine ⟨h.st s x, h.op, fun a ha g => ?_⟩
  cases o with
  | im d => exact ha.elim
  | tl xs => obtain ⟨b, vs, e, hn, h1, _⟩ := h; have e2 : w = .ref a := ha; rw [e] at e2; cases e2; exact (s.gs _ g).1 hn
  | td xs => obtain ⟨b, e, hn, h1⟩ := h; have e2 : w = .ref a := ha; rw [e] at e2; cases e2; exact (s.gs _ g).1 hn
  | bor i => exact ha.elim

/-! ### exceptions, readings -/
/-- what is wanted of a result: C of what comes, W of what is raised -/
def PostC (K : PySem.W.Frag) (T : LT) (mg : Str → Option Value) (W : WX) (σ : L2.St) (Z G : Addr → Prop) (H : Hp) {α : Type} (C : α → Sl → (Addr → Prop) → Hp → Prop) : Res α → Prop
  | .ok a e' => ∀ H' Z', Le Z H Z' H' → KeepG G H H' → C a e' Z' H'
  | .er x e' => ∀ cls d H' Z', Le Z H Z' H' → KeepG G H H' → StOk K T e' σ H' Z' G → ExOk K mg Z' x cls d H' → W cls d σ H'
  | .bad => False
section
variable {K : PySem.W.Frag} {mg : Str → Option Value} {W : WX} {σ : L2.St} {Z G Z1 G1 : Addr → Prop} {H H1 : Hp} {α β : Type}
theorem PostC.trans {C : α → Sl → (Addr → Prop) → Hp → Prop} {r : Res α} (l : Le Z H Z1 H1) (k : KeepG G H H1) (h : PostC K T mg W σ Z G H C r) : PostC K T mg W σ Z1 G H1 C r := by
  cases r with
  | ok a e => exact fun H' Z' l' k' => h H' Z' (l.trans l') (k.trans k')
  | er x e => exact fun cls d H' Z' l' k' s x => h cls d H' Z' (l.trans l') (k.trans k') s x
  | bad => exact h
theorem PostC.imp {C C' : α → Sl → (Addr → Prop) → Hp → Prop} {r : Res α} (h : PostC K T mg W σ Z G H C r) (f : ∀ a e' Z' H', Le Z H Z' H' → KeepG G H H' → C a e' Z' H' → C' a e' Z' H') : PostC K T mg W σ Z G H C' r := by
  cases r with
  | ok a e => exact fun H' Z' l' k' => f a e Z' H' l' k' (h H' Z' l' k')
  | er x e => exact h
  | bad => exact h
theorem PostC.bind {C : β → Sl → (Addr → Prop) → Hp → Prop} {r : Res α} {f : α → Sl → Res β} (hG : ∀ a, G a → G1 a) (h : PostC K T mg W σ Z G H C (r.bind f)) :
    PostC K T mg W σ Z G1 H (fun a e1 Z1 H1 => PostC K T mg W σ Z1 G H1 C (f a e1)) r := by
  cases r with
  | ok a e => exact fun H' Z' l' k' => PostC.trans l' (k'.less hG) h
  | er x e => exact fun cls d H' Z' l' k' s x => h cls d H' Z' l' (k'.less hG) (s.less hG) x
  | bad => exact h
theorem PostC.ret {C : α → Sl → (Addr → Prop) → Hp → Prop} {a : α} {e : Sl} (h : PostC K T mg W σ Z G H C (.ok a e)) : C a e Z H := h H Z Le.refl KeepG.refl
end
/-- an expression's reading by the evaluator -/
def CE' (K : PySem.W.Frag) (T : LT) (σ : L2.St) (G : Addr → Prop) (Q : VK) : Op → Sl → (Addr → Prop) → Hp → Prop := fun o e' Z' H' => ∀ v, Out K T e' σ H' Z' G v o → Q v H'
def RdE (K : PySem.W.Frag) (T : LT) (mg : Str → Option Value) (m : ME) (W : WX) : TE := fun σ H Q => ∃ e Z G, StOk K T e σ H Z G ∧ PostC K T mg W σ Z G H (CE' K T σ G Q) (m e)
theorem _root_.L2.PE.weaken {X : Cx} {e : Expr} {t t' : TE} (h : PE X e t) (w : ∀ σ H Q, t' σ H Q → t σ H Q) : PE X e t' := ⟨fun pins s σ H Q I q => h.run pins s σ H Q I (w σ H Q q)⟩
theorem _root_.L2.PT.weaken {X : Cx} {e : Expr} {t t' : TT} (h : PT X e t) (w : ∀ σ H Q, t' σ H Q → t σ H Q) : PT X e t' := ⟨fun pins s σ H Q I q => h.run pins s σ H Q I (w σ H Q q)⟩
theorem _root_.L2.PW.weaken {X : Cx} {e : Expr} {t t' : TT} (h : PW X e t) (w : ∀ σ H Q, t' σ H Q → t σ H Q) : PW X e t' := ⟨fun wh pins s σ H Q I q => h.run wh pins s σ H Q I (w σ H Q q)⟩
theorem _root_.L2.PS.weaken {X : Cx} {e : Stmt} {t t' : TS} (h : PS X e t) (w : ∀ D σ H, t' D σ H → t D σ H) : PS X e t' := ⟨fun pins s σ H D I q => h.run pins s σ H D I (w D σ H q)⟩
theorem _root_.L2.PSs.weaken {X : Cx} {e : List Stmt} {t t' : TS} (h : PSs X e t) (w : ∀ D σ H, t' D σ H → t D σ H) : PSs X e t' := ⟨fun pins s σ H D I q => h.run pins s σ H D I (w D σ H q)⟩
theorem _root_.L2.PA.weaken {X : Cx} {e : List Expr} {t t' : TA} (h : PA X e t) (w : ∀ σ H Q, t' σ H Q → t σ H Q) : PA X e t' := ⟨fun p pins s σ H Q I q => h.run p pins s σ H Q I (w σ H Q q)⟩
theorem _root_.L2.PI.weaken {X : Cx} {tg e : Expr} {t t' : TI} (h : PI X tg e t) (w : ∀ σ H Q, t' σ H Q → t σ H Q) : PI X tg e t' := ⟨fun pins s σ H Q I q => h.run pins s σ H Q I (w σ H Q q)⟩

/-- a two-place operation by a function on values -/
def rF (K : PySem.W.Frag) (f : D → D → Option Op) : R2 := fun v u H Q => ∃ Z p q o, (∀ a, Z a → H a ≠ none) ∧ f p q = some o ∧ Vw K Z H v p ∧ Vw K Z H u q ∧ ∀ w H', Same H H' → NewOk K Z H H' w o → Q w H'
section
variable {K : PySem.W.Frag} {mg : Str → Option Value} {W : WX} {ma mb mc : ME} {σ : L2.St} {H H1 : Hp} {Q : VK} {Z Z1 G : Addr → Prop}
/-- at a value's end -/
theorem PostC.fin {o : Op} {e1 : Sl} {w : V} (h : PostC K T mg W σ Z G H (CE' K T σ G Q) (.ok o e1)) (s : StOk K T e1 σ H Z G) (sm : Same H H1) (nw : NewOk K Z H H1 w o) : Q w H1 :=
  h H1 Z (Same.le sm s.zs) (KeepG.of_same sm fun a g => (s.gs a g).1) w (nw.out s sm)
theorem rd_op2 {f : D → D → Option Op} (h : RdE K T mg (op2 f ma mb) W σ H Q) : tOp (rF K f) (RdE K T mg ma W) (RdE K T mg mb W) σ H Q := by
  obtain ⟨e, Z, G, s, h⟩ := h
  refine ⟨e, Z, G, s, (h.bind fun _ z => z).imp fun o1 e1 Z1 H1 l1 k1 h v ox => ?_⟩
  refine ⟨e1, Z1, Gx G v o1, ox.st, (h.bind fun _ z => .inl z).imp fun o2 e2 Z2 H2 l2 k2 h u oy => ?_⟩
  have s2 := oy.st
  cases q1 : vw o1 e2 with
  | none => rw [q1] at h; exact h.elim
  | some p =>
    cases q2 : vw o2 e2 with
    | none => rw [q1, q2] at h; exact h.elim
    | some q =>
      rw [q1, q2] at h
      simp only [lift] at h
      cases q3 : f p q with
      | none => rw [q3] at h; exact h.elim
      | some o =>
        rw [q3] at h
        have ox2 : OpOk K Z2 H2 σ v o1 := ox.ok.mono l2 fun a z => k2 a (.inr z)
        exact ⟨Z2, p, q, o, s2.zs, q3, ox2.vw s2 q1, oy.ok.vw s2 q2, fun w H3 sm nw => h.fin (s2.less fun a z => .inl (.inl z)) sm nw⟩
end
end Ev
end
section
set_option maxHeartbeats 2000000
/-! EvS1: constants, names, operators, tests, displays. -/
namespace Ev
open PySem PySem.Spec PyProof.Rows L2
variable {T : LT}

theorem gt_nil {i : Nat} : gt [] i = none := by cases i <;> rfl
theorem gt_pt_same : ∀ {e : Sl} {i : Nat} {v w : Option Sv}, gt e i = some w' → gt (pt e i v) i = v
  | [], i, _, _, h => by rw [gt_nil] at h; cases h
  | _ :: _, 0, _, _, _ => rfl
  | _ :: r, i + 1, v, w, h => gt_pt_same (e := r) (i := i) (v := v) (w := w) h
theorem gt_pt_ne : ∀ {e : Sl} {i j : Nat} {v : Option Sv}, i ≠ j → gt (pt e i v) j = gt e j
  | [], _, _, _, _ => rfl
  | _ :: _, 0, 0, _, h => absurd rfl h
  | _ :: _, 0, _ + 1, _, _ => rfl
  | _ :: _, _ + 1, 0, _, _ => rfl
  | _ :: r, i + 1, j + 1, v, h => gt_pt_ne (e := r) (fun z => h (by rw [z]))
/-- behind a store at i a slot is the new one or as it was -/
theorem gt_pt {e : Sl} {i j : Nat} {v : Option Sv} {sv : Sv} (h : gt (pt e i v) j = some sv) : (j = i ∧ v = some sv) ∨ (j ≠ i ∧ gt e j = some sv) := by
  by_cases hj : j = i
  · subst hj
    left
    refine ⟨rfl, ?_⟩
    induction e generalizing j with
    | nil => rw [show pt [] j v = [] from by cases j <;> rfl, gt_nil] at h; cases h
    | cons x r ih =>
      cases j with
      | zero => exact h
      | succ j => exact ih (j := j) h
  · exact .inr ⟨hj, by rw [gt_pt_ne (Ne.symm hj)] at h; exact h⟩
theorem pt_length : ∀ {e : Sl} {i : Nat} {v : Option Sv}, (pt e i v).length = e.length
  | [], _, _ => rfl
  | _ :: _, 0, _ => rfl
  | _ :: r, i + 1, v => by show (pt r i v).length + 1 = r.length + 1; rw [pt_length]

theorem pt_pt : ∀ {e : Sl} {i : Nat} {v w : Option Sv}, pt (pt e i v) i w = pt e i w
  | [], i, _, _ => by cases i <;> rfl
  | _ :: _, 0, _, _ => rfl
  | _ :: r, i + 1, v, w => by show _ :: pt (pt r i v) i w = _ :: pt r i w; rw [pt_pt]
section
variable {K : PySem.W.Frag} {e : Sl} {σ : L2.St} {H : Hp} {Z G : Addr → Prop}
/-- a slot is emptied -/
theorem StOk.drop (s : StOk K T e σ H Z G) (i : Nat) : StOk K T (pt e i none) σ H Z G := by
  refine ⟨s.tb, s.zs, s.gs, fun j sv q => ?_, fun j k sj sk v q1 q2 o1 o2 => ?_⟩
  · rcases gt_pt q with ⟨_, z⟩ | ⟨_, z⟩
    · cases z
    · exact s.sl j sv z
  · rcases gt_pt q1 with ⟨_, z⟩ | ⟨_, z1⟩
    · cases z
    · rcases gt_pt q2 with ⟨_, z⟩ | ⟨_, z2⟩
      · cases z
      · exact s.inj j k sj sk v z1 z2 o1 o2
/-- a slot holds an unchanging value from now on (its V is the same) -/
theorem StOk.imm (s : StOk K T e σ H Z G) {i : Nat} {v : V} {d : D} (hv : σ[i]? = some (some v)) (h : EncD K Z H v d) : StOk K T (pt e i (some (.im d))) σ H Z G := by
  refine ⟨s.tb, s.zs, s.gs, fun j sv q => ?_, fun j k sj sk w q1 q2 o1 o2 => ?_⟩
  · rcases gt_pt q with ⟨rfl, z⟩ | ⟨_, z⟩
    · cases z; exact ⟨v, hv, h⟩
    · exact s.sl j sv z
  · rcases gt_pt q1 with ⟨_, z⟩ | ⟨_, z1⟩
    · cases z; cases o1
    · rcases gt_pt q2 with ⟨_, z⟩ | ⟨_, z2⟩
      · cases z; cases o2
      · exact s.inj j k sj sk w z1 z2 o1 o2
/-- an object that nothing owns stands still from now on -/
theorem StOk.zadd (s : StOk K T e σ H Z G) {a : Addr} (hm : ∃ u, H a = some u ∧ Md u) (hg : ¬ G a) (ho : ∀ i sv, gt e i = some sv → sv.own = true → σ[i]? ≠ some (some (.ref a))) : StOk K T e σ H (fun b => Z b ∨ b = a) G := by
  have l : Le Z H (fun b => Z b ∨ b = a) H := ⟨fun _ h => .inl h, fun _ _ => rfl, fun _ _ h => h, fun _ _ _ h => h⟩
  have ha : H a ≠ none := by obtain ⟨u, e, _⟩ := hm; rw [e]; simp
  refine ⟨⟨s.tb.1, fun b z ps e => ?_, s.tb.2.2⟩, fun b h => h.elim (s.zs b) fun z => z ▸ ha, fun b g => ⟨(s.gs b g).1, fun z => z.elim (s.gs b g).2 fun z => hg (z ▸ g)⟩, fun i sv q => ?_, s.inj⟩
  · rcases z with z | rfl
    · exact s.tb.2.1 b z ps e
    · obtain ⟨u, e2, m⟩ := hm; rw [e] at e2; cases e2; exact m
  obtain ⟨v, h1, h2⟩ := s.sl i sv q
  refine ⟨v, h1, h2.mono l fun o b eb => ?_⟩
  obtain ⟨b', u, eb', _, _, n1, n2⟩ := h2.addr o
  rw [eb] at eb'; cases eb'
  exact ⟨rfl, fun z => z.elim n1 fun z => ho i sv q o (by rw [h1, eb, z]), n2⟩
theorem le_zadd {a : Addr} : Le Z H (fun b => Z b ∨ b = a) H := ⟨fun _ h => .inl h, fun _ _ => rfl, fun _ _ h => h, fun _ _ _ h => h⟩
/-- an operand made unchanging -/
theorem fz_ok {v : V} {o : Op} {d : D} {e1 : Sl} (x : Out K T e σ H Z G v o) (h : fzO o e = some (d, e1)) : ∃ Z1, Le Z H Z1 H ∧ StOk K T e1 σ H Z1 G ∧ EncD K Z1 H v d := by
  have s := x.st
  have ok := x.ok
  cases o with
  | im d' =>
    simp only [fzO, Option.some.injEq, Prod.mk.injEq] at h
    obtain ⟨rfl, rfl⟩ := h
    exact ⟨Z, Le.refl, x.st0, ok⟩
  | tl xs =>
    simp only [fzO, Option.some.injEq, Prod.mk.injEq] at h
    obtain ⟨rfl, rfl⟩ := h
    obtain ⟨a, vs, rfl, h1, hs⟩ := ok
    refine ⟨_, le_zadd (a := a), x.st0.zadd ⟨_, h1, trivial⟩ (x.ne a rfl) (fun i sv q ow q' => ?_), .lst (.inr rfl) h1 (hs.mono le_zadd)⟩
    obtain ⟨_, _, _, _, n⟩ := s.notOwn q ow q'
    exact n (.inr rfl)
  | td kvs =>
    simp only [fzO, Option.some.injEq, Prod.mk.injEq] at h
    obtain ⟨rfl, rfl⟩ := h
    obtain ⟨a, rfl, h1⟩ := ok
    obtain ⟨u, hu, hmu⟩ := h1.some
    refine ⟨_, le_zadd (a := a), x.st0.zadd ⟨_, hu, hmu⟩ (x.ne a rfl) (fun i sv q ow q' => ?_), (h1.mono le_zadd rfl).enc (.inr rfl)⟩
    obtain ⟨_, _, _, _, n⟩ := s.notOwn q ow q'
    exact n (.inr rfl)
  | bor i =>
    have hv : σ[i]? = some (some v) := ok
    have s0 := x.st0
    simp only [fzO] at h
    split at h <;> (try (cases h; done))
    all_goals
      rename_i hg
      simp only [Option.some.injEq, Prod.mk.injEq] at h
      obtain ⟨rfl, rfl⟩ := h
      obtain ⟨v', h1, h2⟩ := s0.sl i _ hg
      rw [hv] at h1; cases h1
    · exact ⟨Z, Le.refl, s0, h2⟩
    · obtain ⟨a, vs, rfl, h3, hs, nz, ng⟩ := h2
      have z := (s0.drop i).zadd (a := a) ⟨_, h3, trivial⟩ ng (fun j sv q ow q' => by
        rcases gt_pt q with ⟨_, z⟩ | ⟨hj, z⟩
        · cases z
        · exact hj (s0.inj j i sv _ _ z hg ow rfl q' hv))
      have := z.imm (i := i) (v := .ref a) (d := .list _) hv (.lst (.inr rfl) h3 (hs.mono le_zadd))
      rw [pt_pt] at this
      exact ⟨_, le_zadd (a := a), this, .lst (.inr rfl) h3 (hs.mono le_zadd)⟩
    · obtain ⟨a, rfl, h3, nz, ng⟩ := h2
      obtain ⟨u, hu, hmu⟩ := h3.some
      have z := (s0.drop i).zadd (a := a) ⟨_, hu, hmu⟩ ng (fun j sv q ow q' => by
        rcases gt_pt q with ⟨_, z⟩ | ⟨hj, z⟩
        · cases z
        · exact hj (s0.inj j i sv _ _ z hg ow rfl q' hv))
      have := z.imm (i := i) (v := .ref a) (d := .dict _) hv ((h3.mono le_zadd rfl).enc (.inr rfl))
      rw [pt_pt] at this
      exact ⟨_, le_zadd (a := a), this, (h3.mono le_zadd rfl).enc (.inr rfl)⟩
end

/-! ### tests -/
def CT' (K : PySem.W.Frag) (T : LT) (σ : L2.St) (G : Addr → Prop) (Q : Bool → Hp → Prop) : Op → Sl → (Addr → Prop) → Hp → Prop := fun o e' Z' H' => ∃ b, tru o = some b ∧ (StOk K T e' σ H' Z' G → Q b H')
def RdT (K : PySem.W.Frag) (T : LT) (mg : Str → Option Value) (m : ME) (W : WX) : TT := fun σ H Q => ∃ e Z G, StOk K T e σ H Z G ∧ PostC K T mg W σ Z G H (CT' K T σ G Q) (m e)
section
variable {K : PySem.W.Frag} {mg : Str → Option Value} {W : WX} {m ma mb mc : ME} {σ : L2.St} {H : Hp}
theorem tru_im {o : Op} {b : Bool} (h : tru o = some b) : o = .im (.bool b) := by
  unfold tru at h
  split at h
  · cases h; rfl
  · cases h
theorem Out.tru {e Z G v o b} (x : Out K T e σ H Z G v o) (h : tru o = some b) : v = .bl b := by
  have e := tru_im h
  subst e
  have := x.ok
  cases (show EncD K Z H v (.bool b) from this)
  rfl
theorem StOk.im {e Z G v d} (s : StOk K T e σ H Z G) (h : EncD K Z H v d) : Out K T e σ H Z G v (.im d) := ⟨s.less fun a z => z.elim id False.elim, h, fun a z => z.elim⟩
theorem rd_T {Q : Bool → Hp → Prop} (h : RdT K T mg m W σ H Q) : tTest (RdE K T mg m W) σ H Q := by
  obtain ⟨e, Z, G, s, h⟩ := h
  exact ⟨e, Z, G, s, h.imp fun o e1 Z1 H1 l k ⟨b, q, h⟩ v x => ⟨b, x.tru q, h x.st0⟩⟩
theorem pt_of {X : Cx} {e : Expr} (h : PE X e (RdE K T mg m W)) (he : ∀ whole, isTrue e X.env whole = (do let v ← whole; standAt e.pos; holding [v] (truthy v))) : PT X e (RdT K T mg m W) :=
  (pt_val h he).weaken fun _ _ _ q => rd_T q

/-! ### constants, names -/
theorem se_imm {X : Cx} {e : Expr} {v : V} {d : D} (h : PE X e (tC v)) (hd : ∀ Z H, EncD K Z H v d) : PE X e (RdE K T mg (immE d) W) :=
  h.weaken fun σ H Q ⟨e, Z, G, s, h⟩ => h.ret v (s.im (hd Z H))
theorem se_bad {X : Cx} {e : Expr} : PE X e (RdE K T mg badE W) := ⟨fun _ _ _ _ _ _ ⟨_, _, _, _, h⟩ => h.elim⟩
theorem se_var {X : Cx} {x : Str} {pos : Pos} {i : Nat} (hN : X.N[i]? = some x) (hv : Vis X.env.scope x) (hd : (x == ("__debug__" : Str)) = false) (hcd : (x == ("__classdict__" : Str)) = false) : PE X (.Name x pos) (RdE K T mg (varE i) W) :=
  (pe_var hN hv hd hcd).weaken fun σ H Q q => by
    obtain ⟨e, Z, G, s, h⟩ := q
    cases qg : gt e i with
    | none => simp only [varE, qg] at h; exact h.elim
    | some sv =>
      obtain ⟨v, h1, h2⟩ := s.sl i sv qg
      have bor : PostC K T mg W σ Z G H (CE' K T σ G Q) (.ok (.bor i) e) → tVar i σ H Q := fun h => ⟨v, h1, h.ret v ⟨s.less fun a z => z.elim id False.elim, h1, fun a z => z.elim⟩⟩
      cases sv with
      | im d =>
        simp only [varE, qg] at h
        exact ⟨v, h1, h.ret v (s.im h2)⟩
      | ex x => simp only [varE, qg] at h; exact h.elim
      | ol xs => simp only [varE, qg] at h; exact bor h
      | od xs => simp only [varE, qg] at h; exact bor h

/-! ### and, or, not, if -/
theorem rd_not {Q : Bool → Hp → Prop} (h : RdT K T mg (notE m) W σ H Q) : tNot (RdT K T mg m W) σ H Q := by
  obtain ⟨e, Z, G, s, h⟩ := h
  refine ⟨e, Z, G, s, (h.bind fun _ z => z).imp fun o e1 Z1 H1 l k h => ?_⟩
  cases qt : tru o with
  | none => rw [qt] at h; exact h.elim
  | some b =>
    rw [qt] at h
    obtain ⟨b', q, h⟩ := h.ret
    cases q
    exact ⟨b, qt, h⟩
theorem rd_notV {Q : VK} (h : RdE K T mg (notE m) W σ H Q) : tNotV (RdE K T mg m W) σ H Q := by
  obtain ⟨e, Z, G, s, h⟩ := h
  refine ⟨e, Z, G, s, (h.bind fun _ z => z).imp fun o e1 Z1 H1 l k h v x => ?_⟩
  cases qt : tru o with
  | none => rw [qt] at h; exact h.elim
  | some b =>
    rw [qt] at h
    exact ⟨b, x.tru qt, h.ret _ (x.st0.im (.bl _))⟩
theorem PostC.tru {α : Type} {Z G : Addr → Prop} {C : α → Sl → (Addr → Prop) → Hp → Prop} {o : Op} {f : Bool → Res α} (h : PostC K T mg W σ Z G H C (match Ev.tru o with | some true => f true | some false => f false | none => .bad)) :
    ∃ b, Ev.tru o = some b ∧ PostC K T mg W σ Z G H C (f b) := by
  cases qt : Ev.tru o with
  | none => rw [qt] at h; exact h.elim
  | some b =>
    rw [qt] at h
    cases b with
    | true => exact ⟨true, rfl, h⟩
    | false => exact ⟨false, rfl, h⟩
theorem rd_andT {r : List ME} {Q : Bool → Hp → Prop} (h : RdT K T mg (andE (ma :: mb :: r)) W σ H Q) : tAnd (RdT K T mg ma W) (RdT K T mg (andE (mb :: r)) W) σ H Q := by
  obtain ⟨e, Z, G, s, h⟩ := h
  refine ⟨e, Z, G, s, (PostC.bind (f := fun o e1 => match tru o with | some true => andE (mb :: r) e1 | some false => .ok (.im (.bool false)) e1 | none => .bad) (fun _ z => z) h).imp fun o e1 Z1 H1 l k h => ?_⟩
  obtain ⟨b, qt, h⟩ := PostC.tru (f := fun b => if b then andE (mb :: r) e1 else .ok (.im (.bool false)) e1) h
  refine ⟨b, qt, fun s1 => ?_⟩
  cases b with
  | false =>
    obtain ⟨b', q, h⟩ := PostC.ret h
    cases q
    exact iteF (h s1)
  | true => exact iteT ⟨e1, Z1, G, s1, h⟩
theorem rd_orT {r : List ME} {Q : Bool → Hp → Prop} (h : RdT K T mg (orE (ma :: mb :: r)) W σ H Q) : tOr (RdT K T mg ma W) (RdT K T mg (orE (mb :: r)) W) σ H Q := by
  obtain ⟨e, Z, G, s, h⟩ := h
  refine ⟨e, Z, G, s, (PostC.bind (f := fun o e1 => match tru o with | some true => .ok (.im (.bool true)) e1 | some false => orE (mb :: r) e1 | none => .bad) (fun _ z => z) h).imp fun o e1 Z1 H1 l k h => ?_⟩
  obtain ⟨b, qt, h⟩ := PostC.tru (f := fun b => if b then .ok (.im (.bool true)) e1 else orE (mb :: r) e1) h
  refine ⟨b, qt, fun s1 => ?_⟩
  cases b with
  | true =>
    obtain ⟨b', q, h⟩ := PostC.ret h
    cases q
    exact iteT (h s1)
  | false => exact iteF ⟨e1, Z1, G, s1, h⟩
theorem rd_andV {r : List ME} {Q : VK} (h : RdE K T mg (andE (ma :: mb :: r)) W σ H Q) : tAndV (RdE K T mg ma W) (RdE K T mg (andE (mb :: r)) W) σ H Q := by
  obtain ⟨e, Z, G, s, h⟩ := h
  refine ⟨e, Z, G, s, (PostC.bind (f := fun o e1 => match tru o with | some true => andE (mb :: r) e1 | some false => .ok (.im (.bool false)) e1 | none => .bad) (fun _ z => z) h).imp fun o e1 Z1 H1 l k h v x => ?_⟩
  obtain ⟨b, qt, h⟩ := PostC.tru (f := fun b => if b then andE (mb :: r) e1 else .ok (.im (.bool false)) e1) h
  refine ⟨b, x.tru qt, ?_⟩
  cases b with
  | false => exact iteF (PostC.ret h _ (x.st0.im (.bl _)))
  | true => exact iteT ⟨e1, Z1, G, x.st0, h⟩
theorem rd_orV {r : List ME} {Q : VK} (h : RdE K T mg (orE (ma :: mb :: r)) W σ H Q) : tOrV (RdE K T mg ma W) (RdE K T mg (orE (mb :: r)) W) σ H Q := by
  obtain ⟨e, Z, G, s, h⟩ := h
  refine ⟨e, Z, G, s, (PostC.bind (f := fun o e1 => match tru o with | some true => .ok (.im (.bool true)) e1 | some false => orE (mb :: r) e1 | none => .bad) (fun _ z => z) h).imp fun o e1 Z1 H1 l k h v x => ?_⟩
  obtain ⟨b, qt, h⟩ := PostC.tru (f := fun b => if b then .ok (.im (.bool true)) e1 else orE (mb :: r) e1) h
  refine ⟨b, x.tru qt, ?_⟩
  cases b with
  | true => exact iteT (PostC.ret h _ (x.st0.im (.bl _)))
  | false => exact iteF ⟨e1, Z1, G, x.st0, h⟩
theorem rd_if {Q : VK} (h : RdE K T mg (ifE mc ma mb) W σ H Q) : tIf (RdT K T mg mc W) (RdE K T mg ma W) (RdE K T mg mb W) σ H Q := by
  obtain ⟨e, Z, G, s, h⟩ := h
  refine ⟨e, Z, G, s, (PostC.bind (f := fun o e1 => match tru o with | some true => ma e1 | some false => mb e1 | none => .bad) (fun _ z => z) h).imp fun o e1 Z1 H1 l k h => ?_⟩
  obtain ⟨b, qt, h⟩ := PostC.tru (f := fun b => if b then ma e1 else mb e1) h
  refine ⟨b, qt, fun s1 => ?_⟩
  cases b with
  | true => exact iteT ⟨e1, Z1, G, s1, h⟩
  | false => exact iteF ⟨e1, Z1, G, s1, h⟩
end

/-! ### one-place operations -/
def rF1 (K : PySem.W.Frag) (f : D → Option Op) : V → Hp → VK → Prop := fun v H Q => ∃ Z p o, (∀ a, Z a → H a ≠ none) ∧ f p = some o ∧ Vw K Z H v p ∧ ∀ w H', Same H H' → NewOk K Z H H' w o → Q w H'
section
variable {K : PySem.W.Frag} {mg : Str → Option Value} {W : WX} {m ma mb mc : ME} {σ : L2.St} {H : Hp}
theorem rd_un1 {f : D → Option Op} {Q : VK} (h : RdE K T mg (un1 f m) W σ H Q) : tUn (rF1 K f) (RdE K T mg m W) σ H Q := by
  obtain ⟨e, Z, G, s, h⟩ := h
  refine ⟨e, Z, G, s, (h.bind fun _ z => z).imp fun o e1 Z1 H1 l k h v x => ?_⟩
  cases q1 : vw o e1 with
  | none => rw [q1] at h; exact h.elim
  | some p =>
    rw [q1] at h
    simp only [lift] at h
    cases q3 : f p with
    | none => rw [q3] at h; exact h.elim
    | some r =>
      rw [q3] at h
      exact ⟨Z1, p, r, x.st.zs, q3, x.ok.vw x.st q1, fun w H3 sm nw => h.fin x.st0 sm nw⟩
end

/-! ### lists of operands -/
def RdAD (K : PySem.W.Frag) (T : LT) (mg : Str → Option Value) (ms : List ME) (W : WX) : TA := fun σ H Q => ∃ e Z G, StOk K T e σ H Z G ∧ PostC K T mg W σ Z G H (fun ds e' Z' H' => ∀ vs, StOk K T e' σ H' Z' G → EncDs K Z' H' vs ds → vs.length = ms.length → Q vs H') (argsD ms e)
section
variable {K : PySem.W.Frag} {mg : Str → Option Value} {W : WX} {m ma mb mc : ME} {ms : List ME} {σ : L2.St} {H : Hp}
theorem rd_nil {Q : List V → Hp → Prop} (h : RdAD K T mg [] W σ H Q) : tNil σ H Q := by
  obtain ⟨e, Z, G, s, h⟩ := h
  exact h.ret [] s .nil rfl
theorem rd_cons {Q : List V → Hp → Prop} (h : RdAD K T mg (m :: ms) W σ H Q) : tCons (RdE K T mg m W) (RdAD K T mg ms W) σ H Q := by
  obtain ⟨e, Z, G, s, h⟩ := h
  refine ⟨e, Z, G, s, (h.bind fun _ z => z).imp fun o e1 Z1 H1 l k h v x => ?_⟩
  cases q1 : fzO o e1 with
  | none => rw [q1] at h; exact h.elim
  | some p =>
    rw [q1] at h
    obtain ⟨d, e2⟩ := p
    obtain ⟨Z2, l2, s2, enc⟩ := fz_ok x q1
    have h := PostC.trans l2 KeepG.refl h
    refine ⟨e2, Z2, G, s2, (h.bind fun _ z => z).imp fun ds e3 Z3 H3 l3 k3 h vs s3 encs le => ?_⟩
    exact h.ret (v :: vs) s3 (.cons (enc.mono l3) encs) (by rw [List.length_cons, List.length_cons, le])
theorem rd_tup {Q : VK} (hl : ms.length ≤ sizeLine) (h : RdE K T mg (tupE ms) W σ H Q) : tTup (RdAD K T mg ms W) σ H Q := by
  obtain ⟨e, Z, G, s, h⟩ := h
  refine ⟨e, Z, G, s, (h.bind fun _ z => z).imp fun ds e1 Z1 H1 l k h vs s1 encs le => ⟨by rw [le]; exact hl, fun p np => ?_⟩⟩
  · have sm : Same H1 (upd H1 p (.tup vs)) := same_new np
    exact h.fin s1 sm (show EncD K Z1 _ _ _ from .tup (.inl (.inl upd_same)) (encs.mono (Same.le sm s1.zs)))
theorem rd_lst {Q : VK} (hl : ms.length ≤ sizeLine) (h : RdE K T mg (lstE ms) W σ H Q) : tLst (RdAD K T mg ms W) σ H Q := by
  obtain ⟨e, Z, G, s, h⟩ := h
  refine ⟨e, Z, G, s, (h.bind fun _ z => z).imp fun ds e1 Z1 H1 l k h vs s1 encs le => ⟨by rw [le]; exact hl, fun p np => ?_⟩⟩
  · have sm : Same H1 (upd H1 p (.lst vs)) := same_new np
    exact h.fin s1 sm ⟨p, vs, rfl, np, upd_same, encs.mono (Same.le sm s1.zs)⟩
end
end Ev
end
section
set_option maxHeartbeats 4000000
/-! EvS2: what operators do with values. -/
namespace Ev
open PySem PySem.Spec PyProof.Rows L2
variable {T : LT}

/-! ### tuple * k for k up to 1, or nothing -/
theorem tuple_mul_same (l : Addr) (items : Array Value) (n : Nat) (dd : Option Addr) (sl : Array (Option Value)) (x : Int) (u : Tok) (c0 : (decide (x < -(2 ^ 63)) || decide (x ≥ 2 ^ 63)) = false) (c1 : (items.isEmpty || x == 1) = true) :
    Meets (Builtin.«tuple.__mul__» ⟨[.ref l, .int x u], []⟩) (fun _ R s => s.heap.get? l = some { cls := .type "tuple", dict := dd, data := .seq items n, slots := sl } ∧
      R (.ok (.ret (Value.ref l))) s) :=
  .of_wp fun prog w A R s h => by
    obtain ⟨hp, g, d, tk, os⟩ := s
    obtain ⟨hl, h⟩ := h
    have f1 := AutoSeq1.idx_int
    wp_walk using wpAny_loadPart' hl
    repeat (first
      | (refine wpAny_ite_false (decide_eq_false (by rw [c0]; exact Bool.false_ne_true)) ?_; wp_walk using wpAny_loadPart' hl)
      | (refine wpAny_ite_true (decide_eq_true (by rw [c1])) ?_; wp_walk using wpAny_loadPart' hl))
    exact ⟨_, rfl, h⟩
theorem tuple_mul_zero (l : Addr) (items : Array Value) (n : Nat) (dd : Option Addr) (sl : Array (Option Value)) (x : Int) (u : Tok) (c0 : (decide (x < -(2 ^ 63)) || decide (x ≥ 2 ^ 63)) = false) (c1 : (items.isEmpty || x == 1) = false) (c2 : (decide (x ≤ 0) || items.isEmpty) = true) :
    Meets (Builtin.«tuple.__mul__» ⟨[.ref l, .int x u], []⟩) (fun _ R s => s.heap.get? l = some { cls := .type "tuple", dict := dd, data := .seq items n, slots := sl } ∧
      R (.ok (.ret (Value.ref s.heap.objs.size))) { s with heap := s.heap.push { cls := Value.type "tuple", data := Data.seq #[] }, toks := s.toks }) :=
  .of_wp fun prog w A R s h => by
    obtain ⟨hp, g, d, tk, os⟩ := s
    obtain ⟨hl, h⟩ := h
    have f1 := AutoSeq1.idx_int
    have hsz : (#[] : Array Value).size ≤ sizeLine := Nat.zero_le _
    wp_walk using wpAny_loadPart' hl
    repeat (first
      | (refine wpAny_ite_false (decide_eq_false (by rw [c0]; exact Bool.false_ne_true)) ?_; wp_walk using wpAny_loadPart' hl)
      | (refine wpAny_ite_false (decide_eq_false (by rw [c1]; exact Bool.false_ne_true)) ?_; wp_walk using wpAny_loadPart' hl)
      | (refine wpAny_ite_true (decide_eq_true (by rw [c2])) ?_; wp_walk using wpAny_loadPart' hl)
      | (refine wpAny_ite_false (decide_eq_false (Nat.not_lt.mpr hsz)) ?_; wp_walk using wpAny_loadPart' hl))
    exact ⟨_, rfl, h⟩
section
variable {X : Cx}
/-- tuple * k: few, or the same, or nothing -/
theorem op_repAny {pins : List (Addr × Obj)} {s : Shared} {σ : L2.St} {H : Hp} {v u : Value} {Q : VK} {l : Addr} {k : Int} {xs : List V} (I : Inv X pins σ H s) (rx : RelV (.ref l) v) (ry : RelV (.int k) u) (hT : SqT X.K H l xs)
    (h0 : 0 ≤ k) (h1 : k ≤ 1000) (h2 : xs.length ≤ 1000) (q : ∀ w H', Same H H' → (∃ p, w = .ref p ∧ SqT X.K H' p (List.replicate k.toNat xs).flatten) → Q w H') :
    wpAny (model X.prog X.w) X.A (binaryOp .Mult v u) (EP X pins σ Q) X.xe s := by
  by_cases hb : xs ≠ [] ∧ 2 ≤ k
  · refine op_repT pins s σ H _ _ v u Q I rx ry ⟨l, k, xs, rfl, rfl, hT, hb.1, hb.2, h1, h2, fun p np => q _ _ (same_new np) ⟨p, rfl, .inl (.inl upd_same)⟩⟩
  · cases rx
    obtain ⟨t, rfl⟩ := ry
    obtain ⟨its, r, ⟨⟨cls, dd, data, sl⟩, ho, hc, n, hd⟩, hs⟩ := I.tuple hT
    simp only at hc hd
    subst hc hd
    have c0 : (decide (k < -(2 ^ 63)) || decide (k ≥ 2 ^ 63)) = false := by
      rw [decide_eq_false (by omega), decide_eq_false (by omega)] <;> rfl
    by_cases c1 : (its.toArray.isEmpty || k == 1) = true
    · refine wpAny_binaryOp_repeat_ref (T := "tuple") (U := "int") (by decide) ⟨_, ho, rfl⟩ (fun s' => typeIs_int s' k t) noFill_tuple_mul F.fills_int_mul F.slot_int_rmul repeat_tuple F.slot_int_index.lookup
        (call_meets F.slot_int_rmul (typeIs_int s k t) F.entry_int_rmul (F.args_int_rmul_2 _ _) (int_rmul_tuple k t l its.toArray n dd sl)
          ⟨ho, rfl, ⟨_, ho, rfl⟩, call_meets F.slot_tuple_mul ⟨_, ho, rfl⟩ F.entry_tuple_mul (F.args_tuple_mul_2 _ _) (tuple_mul_same l its.toArray n dd sl k t c0 c1) ⟨ho, ?_⟩⟩)
      refine ⟨.ref l, H, I, rfl, q _ _ (Same.refl H) ⟨l, rfl, ?_⟩⟩
      have e : (List.replicate k.toNat xs).flatten = xs := by
        rw [Bool.or_eq_true] at c1
        rcases c1 with c | c
        · have : its = [] := by cases its with | nil => rfl | cons a b => simp at c
          subst this
          cases r
          simp
        · have : k = 1 := by simpa using c
          subst this
          simp
      rw [e]
      exact hT
    · have c1 : (its.toArray.isEmpty || k == 1) = false := by simpa using c1
      have hk : k ≤ 0 := by
        rw [Bool.or_eq_false_iff] at c1
        have h3 : k ≠ 1 := by simpa using c1.2
        have h4 : xs ≠ [] := fun z => by subst z; cases r; simp at c1
        by_cases h5 : 2 ≤ k
        · exact absurd ⟨h4, h5⟩ hb
        · omega
      have c2 : (decide (k ≤ 0) || its.toArray.isEmpty) = true := by rw [decide_eq_true hk]; rfl
      refine wpAny_binaryOp_repeat_ref (T := "tuple") (U := "int") (by decide) ⟨_, ho, rfl⟩ (fun s' => typeIs_int s' k t) noFill_tuple_mul F.fills_int_mul F.slot_int_rmul repeat_tuple F.slot_int_index.lookup
        (call_meets F.slot_int_rmul (typeIs_int s k t) F.entry_int_rmul (F.args_int_rmul_2 _ _) (int_rmul_tuple k t l its.toArray n dd sl)
          ⟨ho, rfl, ⟨_, ho, rfl⟩, call_meets F.slot_tuple_mul ⟨_, ho, rfl⟩ F.entry_tuple_mul (F.args_tuple_mul_2 _ _) (tuple_mul_zero l its.toArray n dd sl k t c0 c1 c2) ⟨ho, ?_⟩⟩)
      have e : (List.replicate k.toNat xs).flatten = [] := by rw [show k.toNat = 0 by omega]; rfl
      refine ⟨.ref s.heap.objs.size, _, I.laid (t' := s.toks) (o := .tup []) (fun b ob q => Heap.get?_push_of_some _ q) (Nat.le_refl _) ?_, rfl, q _ _ (same_new (I.hok.fresh (Nat.le_refl _))) ⟨_, rfl, ?_⟩⟩
      · exact ⟨Nat.zero_le _, [], .nil, IsTup.new _ _⟩
      · rw [e]; exact .inl (.inl upd_same)

theorem EncDs.rep {K : PySem.W.Frag} {Z : Addr → Prop} {H : Hp} {vs : List V} {ds : List D} (h : EncDs K Z H vs ds) : ∀ n : Nat, EncDs K Z H (List.replicate n vs).flatten (List.replicate n ds).flatten
  | 0 => .nil
  | n + 1 => by
    rw [List.replicate_succ, List.replicate_succ, List.flatten_cons, List.flatten_cons]
    exact h.append (EncDs.rep h n)
theorem sizeMax_eq : sizeMax = sizeLine := by rw [sizeLine_eq]; rfl
theorem imB_some {b : Bool} {o : Op} (h : imB b = some o) : o = .im (.bool b) := (Option.some.inj h).symm
theorem imI_some {b : Int} {o : Op} (h : imI b = some o) : o = .im (.int b) := (Option.some.inj h).symm
theorem small64_ok {i : Int} (h : small64 i = true) : -(2 ^ 64) < i ∧ i < 2 ^ 64 := by
  unfold small64 at h
  rw [Bool.and_eq_true] at h
  exact ⟨of_decide_eq_true h.1, of_decide_eq_true h.2⟩
theorem opR_bin {op : Operator} : OpR X (binaryOp op) (rF X.K (binD op)) := by
  intro pins s σ H x y v u Q I rx ry h
  obtain ⟨Z, p, q, o, zs, hf, vx, vy, fin⟩ := h
  have int : ∀ {i : Int}, o = .im (.int i) → Q (.int i) H := fun {i} e => fin _ H (Same.refl H) (by subst e; exact EncD.int i)
  unfold binD at hf
  split at hf
  · exact op_add pins s σ H x y v u Q I rx ry ⟨_, _, vx.int, vy.int, int (imI_some hf)⟩
  · split at hf
    · rename_i xs ys hz
      have e := (Option.some.inj hf).symm
      subst e
      obtain ⟨a, vs, rfl, ha, es⟩ := vx.tuple
      obtain ⟨b, us, rfl, hb, fs⟩ := vy.tuple
      have hz : vs.length + us.length ≤ sizeLine := by rw [es.length, fs.length, ← sizeMax_eq]; exact hz
      refine op_catA pins s σ H _ _ v u Q I rx ry ⟨a, b, vs, us, rfl, rfl, ha, hb, hz, fun e => ?_, fun e1 e2 => ?_, fun e1 e2 p np => ?_⟩
      · subst e
        have := es.length
        have e : xs = [] := List.eq_nil_of_length_eq_zero (by simpa using this.symm)
        subst e
        exact fin _ H (Same.refl H) (EncD.tup hb fs)
      · subst e2
        have := fs.length
        have e : ys = [] := List.eq_nil_of_length_eq_zero (by simpa using this.symm)
        subst e
        rw [List.append_nil] at fin
        exact fin _ H (Same.refl H) (EncD.tup ha es)
      · have sm : Same H (upd H p (.tup (vs ++ us))) := same_new np
        exact fin _ _ sm (EncD.tup (.inl (.inl upd_same)) ((es.append fs).mono (Same.le sm zs)))
    · cases hf
  · split at hf
    · rename_i xs ys hz
      have e := (Option.some.inj hf).symm
      subst e
      obtain ⟨a, vs, rfl, ha, es⟩ := vx.list
      obtain ⟨b, us, rfl, hb, fs⟩ := vy.list
      refine op_cat pins s σ H _ _ v u Q I rx ry ⟨a, b, vs, us, rfl, rfl, ha, hb, by rw [es.length, fs.length, ← sizeMax_eq]; exact hz, fun p np => ?_⟩
      have sm : Same H (upd H p (.lst (vs ++ us))) := same_new np
      exact fin _ _ sm ⟨p, _, rfl, np, upd_same, (es.append fs).mono (Same.le sm zs)⟩
    · cases hf
  · exact op_sub pins s σ H x y v u Q I rx ry ⟨_, _, vx.int, vy.int, int (imI_some hf)⟩
  · split at hf
    · rename_i hc
      refine op_mul pins s σ H x y v u Q I rx ry ⟨_, _, vx.int, vy.int, ?_, int (imI_some hf)⟩
      rw [Bool.or_eq_true] at hc
      exact hc.imp small64_ok small64_ok
    · cases hf
  · split at hf
    · rename_i xs k hc
      have e := (Option.some.inj hf).symm
      subst e
      simp only [Bool.and_eq_true, decide_eq_true_eq] at hc
      obtain ⟨a, vs, rfl, ha, es⟩ := vx.tuple
      have := vy.int
      subst this
      refine op_repAny I rx ry ha hc.1.1 hc.1.2 (by rw [es.length]; exact hc.2) fun w H' sm ⟨p, e, hp⟩ => fin w H' sm ?_
      subst e
      exact EncD.tup hp ((es.rep _).mono (Same.le sm zs))
    · cases hf
  · split at hf
    · rename_i xs k hc
      have e := (Option.some.inj hf).symm
      subst e
      simp only [Bool.and_eq_true, decide_eq_true_eq] at hc
      obtain ⟨a, vs, rfl, ha, es⟩ := vx.list
      have hl := es.length
      refine op_rep pins s σ H _ y v u Q I rx ry ⟨a, k, vs, rfl, vy.int, ha, by omega, by omega, ?_, fun p np => ?_⟩
      · rw [hl, sizeLine_eq]
        have : xs.length * k.toNat ≤ 1000 * 1000 := Nat.mul_le_mul hc.2 (by omega)
        omega
      · have sm : Same H (upd H p (.lst (List.replicate k.toNat vs).flatten)) := same_new np
        exact fin _ _ sm ⟨p, _, rfl, np, upd_same, (es.rep _).mono (Same.le sm zs)⟩
    · cases hf
  · split at hf
    · rename_i hc
      simp only [Bool.and_eq_true, decide_eq_true_eq] at hc
      exact op_fdivN pins s σ H x y v u Q I rx ry ⟨_, _, vx.int, vy.int, hc, int (imI_some hf)⟩
    · cases hf
  · split at hf
    · rename_i hc
      exact op_modN pins s σ H x y v u Q I rx ry ⟨_, _, vx.int, vy.int, of_decide_eq_true hc, int (imI_some hf)⟩
    · cases hf
  · split at hf
    · rename_i hc
      simp only [Bool.and_eq_true, decide_eq_true_eq] at hc
      exact op_pow pins s σ H x y v u Q I rx ry ⟨_, _, vx.int, vy.int, ⟨hc.1.1, hc.1.2, hc.2⟩, int (imI_some hf)⟩
    · cases hf
  · split at hf
    · rename_i hc
      simp only [Bool.and_eq_true, decide_eq_true_eq] at hc
      exact op_shl pins s σ H x y v u Q I rx ry ⟨_, _, vx.int, vy.int, ⟨hc.1.1, hc.1.2, hc.2⟩, int (imI_some hf)⟩
    · cases hf
  · cases hf
theorem unR_neg : UnR X (unaryOp .USub) (rF1 X.K negD) := by
  intro pins s σ H x v Q I rx h
  obtain ⟨Z, p, o, zs, hf, vx, fin⟩ := h
  unfold negD at hf
  split at hf
  · exact un_neg pins s σ H x v Q I rx ⟨_, vx.int, fin _ H (Same.refl H) (by have e := imI_some hf; subst e; exact EncD.int _)⟩
  · cases hf

/-! ### comparisons -/
mutual
theorem EncD.dp {K : PySem.W.Frag} {Z : Addr → Prop} {H : Hp} : ∀ {v : V} {d : D}, EncD K Z H v d → PyData.plain d = true → Dp K H v d
  | _, _, .non, _ => .non
  | _, _, .bl b, _ => .bl b
  | _, _, .int i, _ => .int i
  | _, _, .str x, _ => .str x
  | _, _, .lst z h hs, c => .lst (.inl (.inl h)) (EncDs.dp hs (by simpa [PyData.plain] using c))
  | _, _, .tup h hs, c => .tup h (EncDs.dp hs (by simpa [PyData.plain] using c))
  | _, _, .scr h hs, c => by simp [PyData.plain] at c
  | _, _, .dK _ _ _, c => by simp [PyData.plain] at c
  | _, _, .dT _ _ _, c => by simp [PyData.plain] at c
theorem EncDs.dp {K : PySem.W.Frag} {Z : Addr → Prop} {H : Hp} : ∀ {v : List V} {d : List D}, EncDs K Z H v d → PyData.plainAll d = true → DpAll K H v d
  | _, _, .nil, _ => .nil
  | _, _, .cons h hs, c => by
    rw [PyData.plainAll, Bool.and_eq_true] at c
    exact .cons (EncD.dp h c.1) (EncDs.dp hs c.2)
end
theorem Vw.dp {K : PySem.W.Frag} {Z : Addr → Prop} {H : Hp} {v : V} {d : D} (h : Vw K Z H v d) (c : PyData.plain d = true) : Dp K H v d := by
  cases h with
  | im h => exact h.dp c
  | lst h hs => exact .lst (.inl (.inl h)) (hs.dp (by simpa [PyData.plain] using c))
  | dct h => simp [PyData.plain] at c
theorem shp_ok {d : D} (h : shp d = true) : PyData.plain d = true ∧ PyData.depth d ≤ 60 := by
  unfold shp at h
  rw [Bool.and_eq_true] at h
  exact ⟨h.1, of_decide_eq_true h.2⟩
theorem Vw.reads {pins : List (Addr × Obj)} {s : Shared} {σ : L2.St} {H : Hp} {v : V} {u : Value} {Z : Addr → Prop} {d : D} (h : Vw X.K Z H v d) (I : Inv X pins σ H s) (r : RelV v u) (c : PyData.plain d = true) : ∃ as, Reads s.heap u d as := Dp.reads I d v u (h.dp c) r
theorem room60 {A : Around} {m k : Nat} (hu : A.units + 64 < cLine) (h : m ≤ 60) : A.units + min m k < cLine := by
  have := Nat.min_le_left m k
  omega
theorem op_eqB (hu : X.A.units + 64 < cLine) {pins : List (Addr × Obj)} {s : Shared} {σ : L2.St} {H : Hp} {x y : V} {v u : Value} {Q : VK} {Z : Addr → Prop} {p q : D} {b : Bool} (I : Inv X pins σ H s) (rx : RelV x v) (ry : RelV y u) (vx : Vw X.K Z H x p) (vy : Vw X.K Z H y q)
    (h : eqD p q = some b) : (Q (.bl b) H → wpAny (model X.prog X.w) X.A (compareOp .Eq v u) (EP X pins σ Q) X.xe s) ∧ (Q (.bl (!b)) H → wpAny (model X.prog X.w) X.A (compareOp .NotEq v u) (EP X pins σ Q) X.xe s) := by
  unfold eqD at h
  split at h
  · rename_i hc
    rw [Bool.and_eq_true] at hc
    have e := Option.some.inj h
    subst e
    obtain ⟨c1, d1⟩ := shp_ok hc.1
    obtain ⟨c2, _⟩ := shp_ok hc.2
    obtain ⟨as, r1⟩ := vx.reads I rx c1
    obtain ⟨bs, r2⟩ := vy.reads I ry c2
    exact ⟨fun fin => SeqAt.eq_plain r1 r2 c1 c2 (room60 hu d1) ⟨.bl _, H, I, rfl, fin⟩, fun fin => SeqAt.ne_plain r1 r2 c1 c2 (room60 hu d1) ⟨.bl _, H, I, rfl, fin⟩⟩
  · cases h
theorem op_ltB (hu : X.A.units + 64 < cLine) {pins : List (Addr × Obj)} {s : Shared} {σ : L2.St} {H : Hp} {x y : V} {v u : Value} {Q : VK} {Z : Addr → Prop} {p q : D} {b : Bool} (I : Inv X pins σ H s) (rx : RelV x v) (ry : RelV y u) (vx : Vw X.K Z H x p) (vy : Vw X.K Z H y q)
    (h : ltD p q = some b) (fin : Q (.bl b) H) : wpAny (model X.prog X.w) X.A (compareOp .Lt v u) (EP X pins σ Q) X.xe s ∧ wpAny (model X.prog X.w) X.A (compareOp .Gt u v) (EP X pins σ Q) X.xe s := by
  unfold ltD at h
  split at h
  · rename_i hc
    simp only [Bool.and_eq_true] at hc
    obtain ⟨⟨⟨al, nn⟩, h1⟩, h2⟩ := hc
    have e := Option.some.inj h
    subst e
    obtain ⟨c1, d1⟩ := shp_ok h1
    obtain ⟨c2, d2⟩ := shp_ok h2
    obtain ⟨as, r1⟩ := vx.reads I rx c1
    obtain ⟨bs, r2⟩ := vy.reads I ry c2
    have n1 : p ≠ .none := fun z => by subst z; simp [isNone] at nn
    have n2 : q ≠ .none := PySem.W.ne_none_both al n1
    exact ⟨PySem.W.lt_data r1 r2 al n1 (room60 hu d1) ⟨.bl _, H, I, rfl, fin⟩, PySem.W.gt_data r2 r1 (by rw [PySem.W.alike_comm]; exact al) n2 (room60 hu d2) ⟨.bl _, H, I, rfl, fin⟩⟩
  · cases h
theorem op_leB (hu : X.A.units + 64 < cLine) {pins : List (Addr × Obj)} {s : Shared} {σ : L2.St} {H : Hp} {x y : V} {v u : Value} {Q : VK} {Z : Addr → Prop} {p q : D} {b : Bool} (I : Inv X pins σ H s) (rx : RelV x v) (ry : RelV y u) (vx : Vw X.K Z H x p) (vy : Vw X.K Z H y q)
    (h : leD p q = some b) (fin : Q (.bl b) H) : wpAny (model X.prog X.w) X.A (compareOp .LtE v u) (EP X pins σ Q) X.xe s ∧ wpAny (model X.prog X.w) X.A (compareOp .GtE u v) (EP X pins σ Q) X.xe s := by
  unfold leD at h
  split at h
  · rename_i hc
    simp only [Bool.and_eq_true] at hc
    obtain ⟨⟨⟨al, nn⟩, h1⟩, h2⟩ := hc
    have e := Option.some.inj h
    subst e
    obtain ⟨c1, d1⟩ := shp_ok h1
    obtain ⟨c2, d2⟩ := shp_ok h2
    obtain ⟨as, r1⟩ := vx.reads I rx c1
    obtain ⟨bs, r2⟩ := vy.reads I ry c2
    have n1 : p ≠ .none := fun z => by subst z; simp [isNone] at nn
    have n2 : q ≠ .none := PySem.W.ne_none_both al n1
    exact ⟨PySem.W.le_data r1 r2 al n1 (room60 hu d1) ⟨.bl _, H, I, rfl, fin⟩, PySem.W.ge_data r2 r1 (by rw [PySem.W.alike_comm]; exact al) n2 (room60 hu d2) ⟨.bl _, H, I, rfl, fin⟩⟩
  · cases h
theorem op_inB (hu : X.A.units + 65 < cLine) {pins : List (Addr × Obj)} {s : Shared} {σ : L2.St} {H : Hp} {x y : V} {v u : Value} {Q : VK} {Z : Addr → Prop} {p q : D} {b : Bool} (I : Inv X pins σ H s) (rx : RelV x v) (ry : RelV y u) (vx : Vw X.K Z H x p) (vy : Vw X.K Z H y q)
    (h : inD p q = some b) : (Q (.bl b) H → wpAny (model X.prog X.w) X.A (compareOp .In v u) (EP X pins σ Q) X.xe s) ∧ (Q (.bl (!b)) H → wpAny (model X.prog X.w) X.A (compareOp .NotIn v u) (EP X pins σ Q) X.xe s) := by
  have room : ∀ {ds : List D}, PyData.depth p ≤ 60 → X.A.units + 1 + min (PyData.depthAll ds) p.depth < cLine := fun {ds} h => by
    have := Nat.min_le_right (PyData.depthAll ds) p.depth
    omega
  unfold inD at h
  split at h
  · split at h
    · rename_i ds hc
      rw [Bool.and_eq_true] at hc
      have e := Option.some.inj h
      subst e
      obtain ⟨c1, d1⟩ := shp_ok hc.1
      obtain ⟨c2, _⟩ := shp_ok hc.2
      obtain ⟨as, r1⟩ := vx.reads I rx c1
      obtain ⟨bs, r2⟩ := vy.reads I ry c2
      have c3 : PyData.plainAll ds = true := by simpa [PyData.plain] using c2
      exact ⟨fun fin => SeqAt.in_list_data r2 r1 c3 c1 (room d1) ⟨.bl _, H, I, rfl, fin⟩, fun fin => SeqAt.notIn_list_data r2 r1 c3 c1 (room d1) ⟨.bl _, H, I, rfl, fin⟩⟩
    · cases h
  · split at h
    · rename_i ds hc
      rw [Bool.and_eq_true] at hc
      have e := Option.some.inj h
      subst e
      obtain ⟨c1, d1⟩ := shp_ok hc.1
      obtain ⟨c2, _⟩ := shp_ok hc.2
      obtain ⟨as, r1⟩ := vx.reads I rx c1
      obtain ⟨bs, r2⟩ := vy.reads I ry c2
      have c3 : PyData.plainAll ds = true := by simpa [PyData.plain] using c2
      exact ⟨fun fin => SeqAt.in_tuple_data r2 r1 c3 c1 (room d1) ⟨.bl _, H, I, rfl, fin⟩, fun fin => SeqAt.notIn_tuple_data r2 r1 c3 c1 (room d1) ⟨.bl _, H, I, rfl, fin⟩⟩
    · cases h
  · cases h
theorem enc_none {K : PySem.W.Frag} {Z : Addr → Prop} {H : Hp} {x : V} {p : D} (h : Vw K Z H x p) : decide (x = .non) = isNone p := by
  cases h with
  | im h => cases h <;> rfl
  | lst _ _ => rfl
  | dct _ => rfl
theorem op_isB {pins : List (Addr × Obj)} {s : Shared} {σ : L2.St} {H : Hp} {x y : V} {v u : Value} {Q : VK} {Z : Addr → Prop} {p q : D} {b : Bool} (I : Inv X pins σ H s) (rx : RelV x v) (ry : RelV y u) (vx : Vw X.K Z H x p) (vy : Vw X.K Z H y q)
    (h : isD p q = some b) : ((Q (.bl b) H → wpAny (model X.prog X.w) X.A (compareOp .Is v u) (EP X pins σ Q) X.xe s) ∧ (Q (.bl (!b)) H → wpAny (model X.prog X.w) X.A (compareOp .IsNot v u) (EP X pins σ Q) X.xe s)) := by
  unfold isD at h
  split at h
  · have e := Option.some.inj h
    subst e
    rw [← enc_none vx]
    exact ⟨fun fin => op_isN pins s σ H x y v u Q I rx ry ⟨vy.none, fin⟩, fun fin => op_notN pins s σ H x y v u Q I rx ry ⟨vy.none, fin⟩⟩
  · have e := Option.some.inj h
    subst e
    exact ⟨fun fin => op_is_bl pins s σ H x y v u Q I rx ry ⟨_, _, vx.bool, vy.bool, fin⟩, fun fin => op_isnot_bl pins s σ H x y v u Q I rx ry ⟨_, _, vx.bool, vy.bool, fin⟩⟩
  · cases h
theorem map_not {r : Option Bool} {o : Op} (h : (r.map (!·)).bind imB = some o) : ∃ b, r = some b ∧ o = .im (.bool (!b)) := by
  cases r with
  | none => cases h
  | some b => exact ⟨b, rfl, imB_some h⟩
theorem bind_imB {r : Option Bool} {o : Op} (h : r.bind imB = some o) : ∃ b, r = some b ∧ o = .im (.bool b) := by
  cases r with
  | none => cases h
  | some b => exact ⟨b, rfl, imB_some h⟩
theorem opR_cmp {op : CmpOp} (hu : X.A.units + 65 < cLine) : OpR X (compareOp op) (rF X.K fun p q => (cmpD op p q).bind imB) := by
  intro pins s σ H x y v u Q I rx ry h
  obtain ⟨Z, p, q, o, zs, hf, vx, vy, fin⟩ := h
  have bl : ∀ {b : Bool}, o = .im (.bool b) → Q (.bl b) H := fun {b} e => fin _ H (Same.refl H) (by subst e; exact EncD.bl b)
  cases op with
  | Eq => obtain ⟨b, e, e2⟩ := bind_imB hf; exact (op_eqB (by omega) I rx ry vx vy e).1 (bl e2)
  | NotEq => obtain ⟨b, e, e2⟩ := map_not hf; exact (op_eqB (by omega) I rx ry vx vy e).2 (bl e2)
  | In => obtain ⟨b, e, e2⟩ := bind_imB hf; exact (op_inB hu I rx ry vx vy e).1 (bl e2)
  | NotIn => obtain ⟨b, e, e2⟩ := map_not hf; exact (op_inB hu I rx ry vx vy e).2 (bl e2)
  | Is => obtain ⟨b, e, e2⟩ := bind_imB hf; exact (op_isB I rx ry vx vy e).1 (bl e2)
  | IsNot => obtain ⟨b, e, e2⟩ := map_not hf; exact (op_isB I rx ry vx vy e).2 (bl e2)
  | Lt => obtain ⟨b, e, e2⟩ := bind_imB hf; exact (op_ltB (by omega) I rx ry vx vy e (bl e2)).1
  | LtE => obtain ⟨b, e, e2⟩ := bind_imB hf; exact (op_leB (by omega) I rx ry vx vy e (bl e2)).1
  | Gt => obtain ⟨b, e, e2⟩ := bind_imB hf; exact (op_ltB (by omega) I ry rx vy vx e (bl e2)).2
  | GtE => obtain ⟨b, e, e2⟩ := bind_imB hf; exact (op_leB (by omega) I ry rx vy vx e (bl e2)).2
/-- a < b < c -/
theorem rd_chain {K : PySem.W.Frag} {mg : Str → Option Value} {W : WX} {f g : D → D → Option Bool} {ma mb mc : ME} {σ : L2.St} {H : Hp} {Q : VK} (h : RdE K T mg (chainE f g ma mb mc) W σ H Q) :
    tChain (rF K fun p q => (f p q).bind imB) (rF K fun p q => (g p q).bind imB) (RdE K T mg ma W) (RdE K T mg mb W) (RdE K T mg mc W) σ H Q := by
  obtain ⟨e, Z, G, s, h⟩ := h
  refine ⟨e, Z, G, s, (h.bind fun _ z => z).imp fun o1 e1 Z1 H1 l1 k1 h v ox => ?_⟩
  refine ⟨e1, Z1, Gx G v o1, ox.st, (PostC.bind (f := _) (fun _ z => .inl z) h).imp fun o2 e2 Z2 H2 l2 k2 h u oy => ?_⟩
  have s2 := oy.st
  cases q1 : vw o1 e2 with
  | none => rw [q1] at h; exact h.elim
  | some p =>
    cases q2 : vw o2 e2 with
    | none => rw [q1, q2] at h; exact h.elim
    | some q =>
      rw [q1, q2] at h
      dsimp only at h
      cases q3 : f p q with
      | none => rw [q3] at h; exact h.elim
      | some b =>
        rw [q3] at h
        have ox2 : OpOk K Z2 H2 σ v o1 := ox.ok.mono l2 fun a z => k2 a (.inr z)
        refine ⟨Z2, p, q, .im (.bool b), s2.zs, by show (f p q).bind imB = _; rw [q3]; rfl, ox2.vw s2 q1, oy.ok.vw s2 q2, fun w H3 sm nw => ?_⟩
        have nw : EncD K Z2 H3 w (.bool b) := nw
        cases nw
        refine ⟨b, rfl, ?_⟩
        have s20 : StOk K T e2 σ H2 Z2 G := s2.less fun a z => .inl (.inl z)
        have l3 := Same.le sm s2.zs
        cases b with
        | false =>
          exact iteF (PostC.fin h s20 sm (EncD.bl false))
        | true =>
          refine iteT ?_
          have k3 : KeepG (Gx (Gx G v o1) u o2) H2 H3 := KeepG.of_same sm fun a g => (s2.gs a g).1
          have s3 := s2.same sm
          have h := PostC.trans l3 (k3.less fun a z => .inl (.inl z)) h
          refine ⟨e2, Z2, Gx (Gx G v o1) u o2, s3, (PostC.bind (fun a z => .inl (.inl z)) h).imp fun o3 e3 Z4 H4 l4 k4 h w oz => ?_⟩
          have s4 := oz.st
          cases q5 : vw o2 e3 with
          | none => rw [q5] at h; exact h.elim
          | some q' =>
            cases q6 : vw o3 e3 with
            | none => rw [q5, q6] at h; exact h.elim
            | some r =>
              rw [q5, q6] at h
              dsimp only at h
              cases q7 : g q' r with
              | none => rw [q7] at h; exact h.elim
              | some k =>
                rw [q7] at h
                have oy2 : OpOk K Z4 H4 σ u o2 := (oy.ok.mono l3 fun a z => k3 a (.inr z)).mono l4 fun a z => k4 a (.inr z)
                refine ⟨Z4, q', r, .im (.bool k), s4.zs, by show (g q' r).bind imB = _; rw [q7]; rfl, oy2.vw s4 q5, oz.ok.vw s4 q6, fun w5 H5 sm5 nw5 => ?_⟩
                exact PostC.fin h (s4.less fun a z => .inl (.inl (.inl z))) sm5 nw5
end
end Ev
end
section
set_option maxHeartbeats 4000000
/-! EvS3: subscripts, slices, calls of built-ins. -/
namespace Ev
open PySem PySem.Spec PyProof.Rows L2
variable {T : LT}

theorem EncK.noscr {K Z H} {m : List (Key × V)} {kvs : List (D × D)} {d : D} (h : EncK K Z H m kvs) (e : kvs = [(.none, d)]) : False := by
  cases h with
  | nil => cases e
  | @cons k v d r r' _ _ =>
    have e2 := (Prod.mk.inj (List.cons.inj e).1).1
    cases k <;> cases e2
theorem EncT.noscr {K Z H} {m : List (List Key × V)} {kvs : List (D × D)} {d : D} (h : EncT K Z H m kvs) (e : kvs = [(.none, d)]) : False := by
  cases h with
  | nil => cases e
  | cons _ _ => cases (Prod.mk.inj (List.cons.inj e).1).1
theorem DctAt.noscr {K Z H a} {kvs : List (D × D)} {d : D} (h : DctAt K Z H a kvs) (e : kvs = [(.none, d)]) : False := by
  rcases h with ⟨_, _, h⟩ | ⟨_, _, h⟩
  · exact h.noscr e
  · exact h.noscr e
theorem ixD_eq (n : Nat) (i : Int) : ixD n i = L2.ixN n i := rfl
theorem cutI_eq (n d : Nat) (o : Option Int) : cutI n d o = HT.sIx n d o := rfl
section
variable {X : Cx}
theorem EncDs.atI {K : PySem.W.Frag} {Z : Addr → Prop} {H : Hp} {vs : List V} {ds : List D} {i : Int} {j : Nat} {d : D} (h : EncDs K Z H vs ds) (e1 : ixD ds.length i = some j) (e2 : ds[j]? = some d) : ∃ v, L2.atI vs i = some v ∧ EncD K Z H v d := by
  obtain ⟨v, h1, h2⟩ := h.get e2
  refine ⟨v, ?_, h2⟩
  unfold L2.atI
  rw [h.length, ← ixD_eq, e1]
  exact h1
theorem ixR_sub (hu : X.A.units + 65 < cLine) : IxR X (rF X.K subD) := by
  intro value slice pins s σ H x y v u Q I rx ry h hs
  obtain ⟨Z, p, q, o, zs, hf, vx, vy, fin⟩ := h
  unfold subD at hf
  split at hf
  · rename_i xs i
    cases q1 : ixD xs.length i with
    | none => rw [q1] at hf; cases hf
    | some j =>
      rw [q1] at hf
      cases q2 : xs[j]? with
      | none => simp [q2] at hf
      | some d =>
        simp only [q2, Option.map_some, Option.some.injEq] at hf
        subst hf
        obtain ⟨a, vs, rfl, ha, es⟩ := vx.tuple
        obtain ⟨w, h1, h2⟩ := es.atI q1 q2
        exact ix_tup value slice pins s σ H _ y v u Q I rx ry ⟨a, vs, i, w, rfl, vy.int, ha, h1, fin w H (Same.refl H) h2⟩ hs
  · rename_i xs i
    cases q1 : ixD xs.length i with
    | none => rw [q1] at hf; cases hf
    | some j =>
      rw [q1] at hf
      cases q2 : xs[j]? with
      | none => simp [q2] at hf
      | some d =>
        simp only [q2, Option.map_some, Option.some.injEq] at hf
        subst hf
        obtain ⟨a, vs, rfl, ha, es⟩ := vx.list
        obtain ⟨w, h1, h2⟩ := es.atI q1 q2
        exact ix_list value slice pins s σ H _ y v u Q I rx ry ⟨a, vs, i, w, rfl, vy.int, .inl (.inl ha), h1, fin w H (Same.refl H) h2⟩ hs
  · cases hf

/-! ### slices -/
/-- a slice by values; the ends are ints that stand for what the evaluator has -/
def rSl (K : PySem.W.Frag) : V → Option Int → Option Int → Hp → VK → Prop := fun x lo hi H Q => ∃ Z p o, (∀ a, Z a → H a ≠ none) ∧ sliD p lo hi = some o ∧ Vw K Z H x p ∧ ∀ w H', Same H H' → NewOk K Z H H' w o → Q w H'
theorem EncDs.cut {K : PySem.W.Frag} {Z : Addr → Prop} {H : Hp} {vs : List V} {ds : List D} {lo hi : Option Int} (h : EncDs K Z H vs ds) : EncDs K Z H (cutV vs lo hi) (cutL ds lo hi) := by
  unfold cutV cutL
  rw [cutI_eq, cutI_eq, h.length]
  exact (h.drop _).take _
theorem slR_cut : SlR X (rSl X.K) := by
  intro pins s σ H x v vl vu lo hi sl Q I rx hs pl pu h
  obtain ⟨Z, p, o, zs, hp, vx, fin⟩ := h
  unfold sliD at hp
  split at hp <;> (try (cases hp; done)) <;> (have e := (Option.some.inj hp).symm; subst e; clear hp)
  · rename_i xs
    obtain ⟨a, vs, rfl, ha, es⟩ := vx.tuple
    refine sl_tupA pins s σ H _ v vl vu lo hi sl Q I rx hs pl pu ⟨a, vs, rfl, ha, fun ⟨e1, e2⟩ => ?_, fun ne p np => ?_⟩
    · have e : cutL xs lo hi = xs := by
        unfold cutL
        rw [cutI_eq, cutI_eq, ← es.length, e1, e2, es.length]
        simp
      rw [e] at fin
      exact fin _ H (Same.refl H) (EncD.tup ha es)
    · have sm : Same H (upd H p (.tup (cutV vs lo hi))) := same_new np
      exact fin _ _ sm (EncD.tup (.inl (.inl upd_same)) (es.cut.mono (Same.le sm zs)))
  · rename_i xs
    obtain ⟨a, vs, rfl, ha, es⟩ := vx.list
    refine sl_list pins s σ H _ v vl vu lo hi sl Q I rx hs pl pu ⟨a, vs, rfl, .inl (.inl ha), fun p np => ?_⟩
    have sm : Same H (upd H p (.lst (cutV vs lo hi))) := same_new np
    exact fin _ _ sm ⟨p, _, rfl, np, upd_same, es.cut.mono (Same.le sm zs)⟩
  · rename_i xs
    obtain ⟨a, rfl, ha⟩ := vx.dict
    rcases ha with ha | ⟨ds, vs, e, ha, es⟩
    · exact (ha.noscr rfl).elim
    · cases e
      refine sl_list pins s σ H _ v vl vu lo hi sl Q I rx hs pl pu ⟨a, vs, rfl, ?_, fun p np => ?_⟩
      · rcases ha with ⟨_, ha⟩ | ⟨o, ha⟩ | ha
        · exact .inl (.inl ha)
        · exact .inl (.inr ⟨o, ha⟩)
        · exact .inr ha
      · have sm : Same H (upd H p (.lst (cutV vs lo hi))) := same_new np
        exact fin _ _ sm ⟨p, _, rfl, np, upd_same, es.cut.mono (Same.le sm zs)⟩

/-- the ends of a slice: one that is left out, or an int -/
def OptT (K : PySem.W.Frag) (T : LT) (mg : Str → Option Value) (W : WX) (lo : Option ME) (tl : TO) : Prop := (lo = none ∧ tl = tNoPart) ∨ ∃ a, lo = some a ∧ tl = tPart (RdE K T mg a W)
theorem opt_part {K : PySem.W.Frag} {mg : Str → Option Value} {W : WX} {σ : L2.St} {lo : Option ME} {tl : TO} {e1 : Sl} {Z1 G G1 : Addr → Prop} {H1 : Hp} {C : Op → Sl → (Addr → Prop) → Hp → Prop} {f : Option Int → Sl → Res Op} {R : Option Int → Hp → Prop}
    (hl : OptT K T mg W lo tl) (hG : ∀ a, G a → G1 a) (s : StOk K T e1 σ H1 Z1 G1) (h : PostC K T mg W σ Z1 G H1 C ((optE lo e1).bind f))
    (k : ∀ i e2 Z2 H2, Le Z1 H1 Z2 H2 → KeepG G1 H1 H2 → StOk K T e2 σ H2 Z2 G1 → PostC K T mg W σ Z2 G H2 C (f i e2) → R i H2) : tl σ H1 R := by
  rcases hl with ⟨rfl, rfl⟩ | ⟨a, rfl, rfl⟩
  · exact k none e1 Z1 H1 Le.refl KeepG.refl s h
  · have h2 := PostC.bind hG h
    refine ⟨e1, Z1, G1, s, (PostC.bind (fun _ z => z) h2).imp fun o e2 Z2 H2 l2 k2 h v x => ?_⟩
    split at h
    · rename_i i
      have := x.ok
      cases (show EncD K Z2 H2 v (.int i) from this)
      exact ⟨i, rfl, k (some i) e2 Z2 H2 l2 k2 x.st0 (PostC.ret h)⟩
    · exact h.elim
theorem rd_slice {K : PySem.W.Frag} {mg : Str → Option Value} {W : WX} {m : ME} {σ : L2.St} {H : Hp} {Q : VK} {lo hi : Option ME} {tl th : TO} (h : RdE K T mg (sliE m lo hi) W σ H Q)
    (hl : OptT K T mg W lo tl) (hh : OptT K T mg W hi th) : tSl (rSl K) (RdE K T mg m W) tl th σ H Q := by
  obtain ⟨e, Z, G, s, h⟩ := h
  refine ⟨e, Z, G, s, (h.bind fun _ z => z).imp fun o1 e1 Z1 H1 l1 k1 h v ox => ?_⟩
  refine opt_part hl (fun _ z => .inl z) ox.st h fun i e2 Z2 H2 l2 k2 s2 h => ?_
  refine opt_part hh (fun _ z => .inl z) s2 h fun j e3 Z3 H3 l3 k3 s3 h => ?_
  have ox3 : OpOk K Z3 H3 σ v o1 := (ox.ok.mono l2 fun a z => k2 a (.inr z)).mono l3 fun a z => k3 a (.inr z)
  cases q1 : vw o1 e3 with
  | none => rw [q1] at h; exact h.elim
  | some p =>
    rw [q1] at h
    simp only [lift] at h
    cases q2 : sliD p i j with
    | none => rw [q2] at h; exact h.elim
    | some o =>
      rw [q2] at h
      exact ⟨Z3, p, o, s3.zs, q2, ox3.vw s3 q1, fun w H4 sm nw => PostC.fin h (s3.less fun a z => .inl z) sm nw⟩
end
end Ev
end
section
set_option maxHeartbeats 4000000
/-! EvS4: arguments as operands; the built-ins called. -/
namespace Ev
open PySem PySem.Spec PyProof.Rows L2
variable {T : LT}

def Gxs : (Addr → Prop) → List V → List Op → Addr → Prop
  | G, v :: vs, o :: os => Gxs (Gx G v o) vs os
  | G, _, _ => G
/-- operands as they come, from the left -/
def Outs (K : PySem.W.Frag) (T : LT) (e : Sl) (σ : L2.St) (H : Hp) (Z : Addr → Prop) : (Addr → Prop) → List V → List Op → Prop
  | G, [], [] => StOk K T e σ H Z G
  | G, v :: vs, o :: os => OpOk K Z H σ v o ∧ (∀ a, OwnA v o a → ¬ G a) ∧ Outs K T e σ H Z (Gx G v o) vs os
  | _, _, _ => False
def RdAO (K : PySem.W.Frag) (T : LT) (mg : Str → Option Value) (ms : List ME) (W : WX) : TA := fun σ H Q => ∃ e Z G, StOk K T e σ H Z G ∧ PostC K T mg W σ Z G H (fun os e' Z' H' => ∀ vs, Outs K T e' σ H' Z' G vs os → Q vs H') (argsO ms e)
section
variable {K : PySem.W.Frag} {mg : Str → Option Value} {W : WX} {m : ME} {ms : List ME} {σ : L2.St} {H : Hp} {e : Sl} {Z : Addr → Prop}
theorem Outs.st : ∀ {G : Addr → Prop} {vs : List V} {os : List Op}, Outs K T e σ H Z G vs os → StOk K T e σ H Z G
  | _, [], [], h => h
  | _, _ :: _, _ :: _, h => (Outs.st h.2.2).less fun _ z => .inl z
  | _, [], _ :: _, h => h.elim
  | _, _ :: _, [], h => h.elim
theorem Outs.views : ∀ {G : Addr → Prop} {vs : List V} {os : List Op} {ds : List D}, Outs K T e σ H Z G vs os → vws os e = some ds → Vws K Z H vs ds
  | _, [], [], ds, h, q => by cases q; exact .nil
  | _, v :: vs, o :: os, ds, h, q => by
    obtain ⟨h1, h2, h3⟩ := h
    simp only [vws] at q
    cases q1 : vw o e with
    | none => rw [q1] at q; cases q
    | some d =>
      cases q2 : vws os e with
      | none => rw [q1, q2] at q; cases q
      | some ds' =>
        rw [q1, q2] at q
        cases q
        exact .cons (h1.vw (Outs.st h3) q1) (Outs.views h3 q2)
  | _, [], _ :: _, _, h, _ => h.elim
  | _, _ :: _, [], _, h, _ => h.elim
theorem rd_onil {Q : List V → Hp → Prop} (h : RdAO K T mg [] W σ H Q) : tNil σ H Q := by
  obtain ⟨e, Z, G, s, h⟩ := h
  exact h.ret [] s
theorem rd_ocons {Q : List V → Hp → Prop} (h : RdAO K T mg (m :: ms) W σ H Q) : tCons (RdE K T mg m W) (RdAO K T mg ms W) σ H Q := by
  obtain ⟨e, Z, G, s, h⟩ := h
  refine ⟨e, Z, G, s, (h.bind fun _ z => z).imp fun o e1 Z1 H1 l k h v x => ?_⟩
  refine ⟨e1, Z1, Gx G v o, x.st, (PostC.bind (fun _ z => .inl z) h).imp fun os e2 Z2 H2 l2 k2 h vs xs => ?_⟩
  exact PostC.ret h (v :: vs) ⟨x.ok.mono l2 fun a z => k2 a (.inr z), x.ne, xs⟩
end

/-! ### calls of built-ins -/
def rB (K : PySem.W.Frag) (F : List D → Option Op) : List V → Hp → VK → Prop := fun vs H Q => ∃ Z ds o, (∀ a, Z a → H a ≠ none) ∧ F ds = some o ∧ Vws K Z H vs ds ∧ ∀ w H', Same H H' → NewOk K Z H H' w o → Q w H'
theorem rd_blt {K : PySem.W.Frag} {mg : Str → Option Value} {W : WX} {ms : List ME} {σ : L2.St} {H : Hp} {Q : VK} {F : List D → Option Op} (h : RdE K T mg (bltE F ms) W σ H Q) : tCB (rB K F) (RdAO K T mg ms W) σ H Q := by
  obtain ⟨e, Z, G, s, h⟩ := h
  refine ⟨e, Z, G, s, (h.bind fun _ z => z).imp fun os e1 Z1 H1 l k h vs xs => ?_⟩
  cases q1 : vws os e1 with
  | none => rw [q1] at h; exact h.elim
  | some ds =>
    rw [q1] at h
    simp only [lift] at h
    cases q2 : F ds with
    | none => rw [q2] at h; exact h.elim
    | some o =>
      rw [q2] at h
      exact ⟨Z1, ds, o, xs.st.zs, q2, xs.views q1, fun w H2 sm nw => PostC.fin h xs.st sm nw⟩
theorem Vws.one {K Z H vs d} (h : Vws K Z H vs [d]) : ∃ v, vs = [v] ∧ Vw K Z H v d := by
  cases h with
  | cons h t => cases t; exact ⟨_, rfl, h⟩
theorem Vws.two {K Z H vs d d'} (h : Vws K Z H vs [d, d']) : ∃ v v', vs = [v, v'] ∧ Vw K Z H v d ∧ Vw K Z H v' d' := by
  cases h with
  | cons h t => cases t with
    | cons h' t => cases t; exact ⟨_, _, rfl, h, h'⟩
theorem ints_of {K Z H} : ∀ {vs : List V} {ds : List D} {ns : List Int}, EncDs K Z H vs ds → intsD ds = some ns → vs = ns.map V.int
  | _, _, _, .nil, q => by cases q; rfl
  | v :: vs, d :: ds, ns, .cons h hs, q => by
    cases d with
    | int i =>
      cases h
      simp only [intsD] at q
      cases q2 : intsD ds with
      | none => rw [q2] at q; cases q
      | some ms =>
        rw [q2] at q
        cases q
        rw [ints_of hs q2]
        rfl
    | _ => cases q
theorem bools_of {K Z H} : ∀ {vs : List V} {ds : List D} {ns : List Bool}, EncDs K Z H vs ds → boolsD ds = some ns → vs = ns.map V.bl
  | _, _, _, .nil, q => by cases q; rfl
  | v :: vs, d :: ds, ns, .cons h hs, q => by
    cases d with
    | bool i =>
      cases h
      simp only [boolsD] at q
      cases q2 : boolsD ds with
      | none => rw [q2] at q; cases q
      | some ms =>
        rw [q2] at q
        cases q
        rw [bools_of hs q2]
        rfl
    | _ => cases q
section
variable {X : Cx}
theorem seq_cases {p : D} {xs : List D} (h : seqD p = some xs) : p = .list xs ∨ p = .tuple xs := by
  unfold seqD at h
  split at h
  · cases h; exact .inl rfl
  · cases h; exact .inr rfl
  · cases h
theorem sum_tup {prog : Program} {w : World} {A : Around} {E : Value → Shared → Prop} {s : Shared} {l : Addr} {its : List Value} {ns : List Int} {Q : Value → Shared → Prop} (hh : A.handled = none) (hl : s.heap.IsTuple l its.toArray) (hi : IntsAre its ns)
    (h : ∀ h' tk t', (∀ b o, s.heap.get? b = some o → h'.get? b = some o) → Q (.int ns.sum t') { s with heap := h', toks := tk }) : wpAny (model prog w) A (call (.builtin "sum") [.ref l]) Q E s := by
  obtain ⟨xs, e⟩ := hi.allInts.items
  have hn : numsOf (intItems xs).toList = ns := by rw [← e]; exact hi.numsOf
  rw [nums_intItems] at hn
  rw [e] at hl
  refine PySem.W.ktm_sumG hh hl fun h' tk t' hk => ?_
  have := h h' tk t' hk
  rw [preSum_eq, List.take_of_length_le (by simp), hn]; exact this
theorem alike_all {xs : List D} (h : alikeB xs = true) : PySem.W.AlikeAll xs := by
  unfold alikeB at h
  rw [Bool.and_eq_true, List.all_eq_true, List.all_eq_true] at h
  refine ⟨fun x hx y hy => ?_, fun x hx e => ?_⟩
  · have := h.1 x hx
    rw [List.all_eq_true] at this
    exact this y hy
  · have := h.2 x hx
    subst e
    simp [isNone] at this
theorem shps_ok {d : List D} (h : shps d = true) : PyData.plainAll d = true ∧ PyData.depthAll d ≤ 60 := by
  unfold shps at h
  rw [Bool.and_eq_true] at h
  exact ⟨h.1, of_decide_eq_true h.2⟩
theorem fold_mem {f : D → D → Bool} : ∀ (xs : List D) (x : D), xs.foldl (fun a y => if f y a then y else a) x ∈ x :: xs
  | [], x => by simp
  | y :: xs, x => by
    rw [List.foldl_cons]
    by_cases h : f y x = true
    · rw [if_pos h]
      exact List.mem_cons_of_mem _ (fold_mem xs y)
    · rw [if_neg h]
      have := fold_mem (f := f) xs x
      rcases List.mem_cons.mp this with e | e
      · rw [e]; exact List.mem_cons_self
      · exact List.mem_cons_of_mem _ (List.mem_cons_of_mem _ e)
theorem minD_mem (x : D) (xs : List D) : PySem.W.minD x xs ∈ x :: xs := fold_mem (f := fun y a => PySem.W.dataLt y a) xs x
theorem maxD_mem (x : D) (xs : List D) : PySem.W.maxD x xs ∈ x :: xs := fold_mem (f := fun y a => PySem.W.dataLt a y) xs x
theorem depth_mem : ∀ {xs : List D} {x : D}, x ∈ xs → PyData.depth x ≤ PyData.depthAll xs
  | y :: ys, x, h => by
    rw [PyData.depthAll]
    rcases List.mem_cons.mp h with rfl | h
    · exact Nat.le_max_left _ _
    · exact Nat.le_trans (depth_mem h) (Nat.le_max_right _ _)
/-- the least, the greatest of a list or a tuple -/
theorem best_of {f : String} {best : D → List D → D} (hb : (f = "min" ∧ best = PySem.W.minD) ∨ (f = "max" ∧ best = PySem.W.maxD)) (hc : X.calm = true) (hu : X.A.units + 64 < cLine) {pins : List (Addr × Obj)} {s : Shared} {σ : L2.St} {H : Hp} {v : V} {u : Value} {Q : VK} {Z : Addr → Prop} {p x : D} {xs : List D}
    (I : Inv X pins σ H s) (r : RelV v u) (hv : Vw X.K Z H v p) (hs : seqD p = some (x :: xs)) (ha : alikeB (x :: xs) = true) (hd : shps (x :: xs) = true) (fin : ∀ w, EncD X.K Z H w (best x xs) → Q w H) :
    wpAny (model X.prog X.w) X.A (call (.builtin f) [u]) (EP X pins σ Q) X.xe s := by
  obtain ⟨c1, d1⟩ := shps_ok hd
  have hal := alike_all ha
  have hr : X.A.units + 1 + PyData.depthAll (x :: xs) < cLine := by omega
  have close : ∀ {its : List Value} {vs : List V} {as : List Addr}, Vals vs its → EncDs X.K Z H vs (x :: xs) → ReadsAll s.heap its (x :: xs) as → ∀ (i : Nat) (w : Value) (h' : Heap) (tk : Nat) (bs : List Addr), its.toArray[i]? = some w → Reads h' w (best x xs) bs → (∀ b o, s.heap.get? b = some o → h'.get? b = some o) →
      EP X pins σ Q w { s with heap := h', toks := tk } := by
    intro its vs as rv es hr i w h' tk bs hi hw hk
    have hi : its[i]? = some w := by simpa using hi
    have hlt : i < (x :: xs).length := by
      have := (List.getElem?_eq_some_iff.mp hi).1
      rw [← es.length, rv.length]
      exact this
    obtain ⟨z, hz, ez⟩ := es.get (i := i) (d := (x :: xs)[i]) (by simp [hlt])
    obtain ⟨w', hw', rz⟩ := rv.get hz
    rw [hi] at hw'; cases hw'
    -- the item reads as best: it is that item
    have pl : ∀ y, y ∈ x :: xs → PyData.plain y = true := fun y hy => PySem.W.plain_mem c1 hy
    have mem : best x xs ∈ x :: xs := by
      rcases hb with ⟨_, rfl⟩ | ⟨_, rfl⟩
      · exact minD_mem x xs
      · exact maxD_mem x xs
    have e : (x :: xs)[i] = best x xs := by
      obtain ⟨as2, r2⟩ := (Vw.im ez : Vw X.K Z H z _).reads I rz (pl _ (List.getElem_mem hlt))
      exact PySem.SeqAt.plain_unique _ _ _ _ _ (pl _ (List.getElem_mem hlt)) (PyProof.Rows.Reads.keeps hk r2) hw
    rw [e] at ez
    exact ⟨z, H, I.kept (t' := tk) hk, rz, fin z ez⟩
  rcases seq_cases hs with rfl | rfl
  · obtain ⟨a, vs, rfl, h1, es⟩ := hv.list
    cases (show u = Value.ref a from r)
    obtain ⟨its, rv, pl, _⟩ := I.list (SqL.of h1)
    obtain ⟨as, hr'⟩ := Dp.readsAll I _ vs its (es.dp c1) rv
    rcases hb with ⟨rfl, rfl⟩ | ⟨rfl, rfl⟩
    · exact PySem.W.min_list_data (I.ok.hd hc) pl.isList (by simpa using hr') hal hr fun i w h' tk bs h1 h2 h3 => close rv es hr' i w h' tk bs h1 h2 h3
    · exact PySem.W.max_list_data (I.ok.hd hc) pl.isList (by simpa using hr') hal hr fun i w h' tk bs h1 h2 h3 => close rv es hr' i w h' tk bs h1 h2 h3
  · obtain ⟨a, vs, rfl, h1, es⟩ := hv.tuple
    cases (show u = Value.ref a from r)
    obtain ⟨its, rv, pl, _⟩ := I.tuple h1
    obtain ⟨as, hr'⟩ := Dp.readsAll I _ vs its (es.dp c1) rv
    rcases hb with ⟨rfl, rfl⟩ | ⟨rfl, rfl⟩
    · exact PySem.W.min_tuple_data (I.ok.hd hc) pl (by simpa using hr') hal hr fun i w h' tk bs h1 h2 h3 => close rv es hr' i w h' tk bs h1 h2 h3
    · exact PySem.W.max_tuple_data (I.ok.hd hc) pl (by simpa using hr') hal hr fun i w h' tk bs h1 h2 h3 => close rv es hr' i w h' tk bs h1 h2 h3

/-- sorted of a list of data of one kind -/
theorem sorted_of (hu : X.A.units + 66 < cLine) {pins : List (Addr × Obj)} {s : Shared} {σ : L2.St} {H : Hp} {v : V} {u : Value} {Q : VK} {Z : Addr → Prop} {xs : List D} (zs : ∀ a, Z a → H a ≠ none)
    (I : Inv X pins σ H s) (r : RelV v u) (hv : Vw X.K Z H v (.list xs)) (ha : alikeB xs = true) (hd : shps xs = true) (hs : sortB xs = true) (hl : xs.length ≤ sizeMax) (fin : ∀ w H', Same H H' → NewOk X.K Z H H' w (.tl (xs.mergeSort leB)) → Q w H') :
    wpAny (model X.prog X.w) X.A (call (.builtin "sorted") [u]) (EP X pins σ Q) X.xe s := by
  obtain ⟨c1, d1⟩ := shps_ok hd
  obtain ⟨a, vs, rfl, h1, es⟩ := hv.list
  cases (show u = Value.ref a from r)
  obtain ⟨its, rv, pl, _⟩ := I.list (SqL.of h1)
  have each : ∀ {vs : List V} {ds : List D} {its : List Value}, EncDs X.K Z H vs ds → Vals vs its → PySem.W.EachIs (fun u d => ∃ v, RelV v u ∧ EncD X.K Z H v d) its ds := by
    intro vs ds its h
    induction vs generalizing ds its with
    | nil => intro rv; cases h; cases rv; exact .nil
    | cons v vs ih =>
      intro rv
      cases h with
      | cons h1 h2 =>
        cases rv with
        | cons r1 r2 => exact .cons ⟨v, r1, h1⟩ (ih h2 r2)
  have e := each es rv
  have er : PySem.W.EachIs (fun u d => ∃ as, Reads s.heap u (id d) as) its xs := by
    have := PySem.W.each_mem e
    refine this.mono fun u d ⟨⟨v, r, en⟩, hm⟩ => ?_
    exact (Vw.im en : Vw X.K Z H v d).reads I r (PySem.W.plain_mem c1 hm)
  have hal : PySem.W.AllAlike (xs.map id) := by
    rw [List.map_id]
    exact fun d hd d' hd' => (alike_all ha).1 d hd d' hd'
  have hso : PySem.W.Sortable (xs.map id) := by
    rw [List.map_id]
    unfold sortB at hs
    rw [Bool.or_eq_true, List.all_eq_true, List.all_eq_true] at hs
    rcases hs with hs | hs
    · refine .inl fun d hd => ?_
      have := hs d hd
      split at this
      · exact ⟨_, _, rfl⟩
      · cases this
    · refine .inr fun d hd => ?_
      have := hs d hd
      split at this
      · cases this
      · cases this
      · rename_i n1 n2
        exact ⟨n2, n1⟩
  have depth : ∀ b, b ∈ xs → X.A.units + 2 + PyData.depth (id b) < cLine := fun b hb => by
    have : PyData.depth b ≤ PyData.depthAll xs := depth_mem hb
    show X.A.units + 2 + PyData.depth b < cLine
    omega
  refine PySem.W.sorted_data (R := fun u d => ∃ v, RelV v u ∧ EncD X.K Z H v d) (enc := id) pl.isList e er hal hso (by rw [← sizeMax_eq]; exact hl) depth fun out hlen eo => ?_
  have back : ∀ {out : List Value} {ds : List D}, PySem.W.EachIs (fun u d => ∃ v, RelV v u ∧ EncD X.K Z H v d) out ds → ∃ vs, Vals vs out ∧ EncDs X.K Z H vs ds := by
    intro out ds h
    induction h with
    | nil => exact ⟨[], .nil, .nil⟩
    | cons h _ ih =>
      obtain ⟨v, r, en⟩ := h
      obtain ⟨vs, rv, es⟩ := ih
      exact ⟨v :: vs, .cons r rv, .cons en es⟩
  obtain ⟨ws, rw', ew⟩ := back eo
  have e1 : PySem.W.dataLe false (id : D → D) = leB := by
    funext x y
    rfl
  rw [e1] at ew
  obtain ⟨en, hat⟩ := sortedAll_at s.heap its out.toArray
  have hfr : H (s.heap.objs.size + 1) = none := I.hok.fresh (Nat.le_succ _)
  have sm : Same H (upd H (s.heap.objs.size + 1) (.lst ws)) := same_new hfr
  have I2 := I.kept (t' := s.toks) (h' := sortedAll s.heap its out.toArray) fun b o hb => sortedAll_old hb
  have hz : ws.length ≤ sizeLine := by
    rw [rw'.length, hlen, ← sizeMax_eq]
    exact hl
  have I3 := I.laid (t' := s.toks) (a := s.heap.objs.size + 1) (o := .lst ws) (h' := sortedAll s.heap its out.toArray) (fun b o hb => sortedAll_old hb) (Nat.le_succ _) ⟨hz, out, en, rw', hat⟩
  exact ⟨.ref (s.heap.objs.size + 1), _, I3, rfl, fin _ _ sm ⟨_, ws, rfl, hfr, upd_same, ew.mono (Same.le sm zs)⟩⟩

def bltVal : Bl → Value
  | .len => .builtin "len" | .sum => .builtin "sum" | .max => .builtin "max" | .min => .builtin "min" | .any => .builtin "any" | .all => .builtin "all" | .sorted => .builtin "sorted" | .abs => .builtin "abs"
  | .tuple => .type "tuple" | .list => .type "list" | .int => .type "int"
theorem callR_blt {b : Bl} (hc : X.calm = true) (hu : X.A.units + 66 < cLine) : CallR X (bltVal b) (rB X.K (bltD b)) := by
  intro pins s σ H vs us Q I r h
  obtain ⟨Z, ds, o, zs, hf, hv, fin⟩ := h
  have int : ∀ {i : Int}, o = .im (.int i) → Q (.int i) H := fun {i} e => fin _ H (Same.refl H) (by subst e; exact EncD.int i)
  have bl : ∀ {i : Bool}, o = .im (.bool i) → Q (.bl i) H := fun {i} e => fin _ H (Same.refl H) (by subst e; exact EncD.bl i)
  unfold bltD at hf
  split at hf
  · obtain ⟨v, rfl, hw⟩ := hv.one
    obtain ⟨a, vs, rfl, h1, es⟩ := hw.tuple
    exact call_len_seq pins s σ H _ us Q I r ⟨a, vs, rfl, .inr h1, int (by rw [es.length]; exact imI_some hf)⟩
  · obtain ⟨v, rfl, hw⟩ := hv.one
    obtain ⟨a, vs, rfl, h1, es⟩ := hw.list
    exact call_len_seq pins s σ H _ us Q I r ⟨a, vs, rfl, .inl (SqL.of h1), int (by rw [es.length]; exact imI_some hf)⟩
  · obtain ⟨v, rfl, hw⟩ := hv.one
    split at hf
    · rename_i xs q1
      split at hf
      · rename_i ns q2
        rcases seq_cases q1 with rfl | rfl
        · obtain ⟨a, vs, rfl, h1, es⟩ := hw.list
          have e := ints_of es q2
          subst e
          exact cr_sum hc pins s σ H _ us Q I r ⟨a, ns, rfl, SqL.of h1, int (imI_some hf)⟩
        · obtain ⟨a, vs, rfl, h1, es⟩ := hw.tuple
          have e := ints_of es q2
          subst e
          obtain ⟨its, rv, pl, _⟩ := I.tuple h1
          rw [Vals.ref1 r]
          exact sum_tup (I.ok.hd hc) pl rv.ints fun h' tk t' hk => ⟨.int _, H, I.kept hk, ⟨_, rfl⟩, int (imI_some hf)⟩
      · cases hf
    · cases hf
  · obtain ⟨v, rfl, hw⟩ := hv.one
    obtain ⟨u, rfl, r1⟩ := Vals.one r
    split at hf
    · rename_i x xs q1
      split at hf
      · rename_i hc2
        rw [Bool.and_eq_true] at hc2
        have e := (Option.some.inj hf).symm
        subst e
        exact best_of (.inr ⟨rfl, rfl⟩) hc (by omega) I r1 hw q1 hc2.1 hc2.2 fun w hw => fin w H (Same.refl H) hw
      · cases hf
    · cases hf
  · obtain ⟨v, rfl, hw⟩ := hv.one
    obtain ⟨u, rfl, r1⟩ := Vals.one r
    split at hf
    · rename_i x xs q1
      split at hf
      · rename_i hc2
        rw [Bool.and_eq_true] at hc2
        have e := (Option.some.inj hf).symm
        subst e
        exact best_of (.inl ⟨rfl, rfl⟩) hc (by omega) I r1 hw q1 hc2.1 hc2.2 fun w hw => fin w H (Same.refl H) hw
      · cases hf
    · cases hf
  · obtain ⟨v, rfl, hw⟩ := hv.one
    obtain ⟨u, rfl, r1⟩ := Vals.one r
    split at hf
    · rename_i xs hc2
      simp only [Bool.and_eq_true, decide_eq_true_eq] at hc2
      have e := (Option.some.inj hf).symm
      subst e
      exact sorted_of hu zs I r1 hw hc2.1.1.1 hc2.1.1.2 hc2.1.2 hc2.2 fin
    · cases hf
  · obtain ⟨v, v', rfl, h1, h2⟩ := hv.two
    exact call_max2 hc pins s σ H _ us Q I r ⟨_, _, by rw [h1.int, h2.int], int (imI_some hf)⟩
  · obtain ⟨v, v', rfl, h1, h2⟩ := hv.two
    exact call_min2 hc pins s σ H _ us Q I r ⟨_, _, by rw [h1.int, h2.int], int (imI_some hf)⟩
  · obtain ⟨v, rfl, hw⟩ := hv.one
    split at hf
    · rename_i bs q2
      obtain ⟨a, vs, rfl, h1, es⟩ := hw.list
      have e := bools_of es q2
      subst e
      exact cr_any hc pins s σ H _ us Q I r ⟨a, bs, rfl, SqL.of h1, bl (imB_some hf)⟩
    · cases hf
  · obtain ⟨v, rfl, hw⟩ := hv.one
    split at hf
    · rename_i bs q2
      obtain ⟨a, vs, rfl, h1, es⟩ := hw.list
      have e := bools_of es q2
      subst e
      exact cr_all hc pins s σ H _ us Q I r ⟨a, bs, rfl, SqL.of h1, bl (imB_some hf)⟩
    · cases hf
  · obtain ⟨v, rfl, hw⟩ := hv.one
    split at hf
    · rename_i xs q1
      have e := (Option.some.inj hf).symm
      subst e
      rcases seq_cases q1 with rfl | rfl
      · obtain ⟨a, vs, rfl, h1, es⟩ := hw.list
        refine call_tuple_of pins s σ H _ us Q I r ⟨a, vs, rfl, .inl ⟨SqL.of h1, fun p np => ?_⟩⟩
        have sm : Same H (upd H p (.tup vs)) := same_new np
        exact fin _ _ sm (EncD.tup (.inl (.inl upd_same)) (es.mono (Same.le sm zs)))
      · obtain ⟨a, vs, rfl, h1, es⟩ := hw.tuple
        exact call_tuple_of pins s σ H _ us Q I r ⟨a, vs, rfl, .inr ⟨h1, fin _ H (Same.refl H) (EncD.tup h1 es)⟩⟩
    · cases hf
  · obtain ⟨v, rfl, hw⟩ := hv.one
    split at hf
    · rename_i xs q1
      have e := (Option.some.inj hf).symm
      subst e
      have go : ∀ {a : Addr} {vs : List V}, v = .ref a → (SqL X.K H a vs ∨ SqT X.K H a vs) → EncDs X.K Z H vs xs → wpAny (model X.prog X.w) X.A (call (bltVal .list) us) (EP X pins σ Q) X.xe s := by
        intro a vs e h1 es
        subst e
        refine call_list_of pins s σ H _ us Q I r ⟨a, vs, rfl, h1, fun p np => ?_⟩
        have sm : Same H (upd H p (.lst vs)) := same_new np
        exact fin _ _ sm ⟨p, vs, rfl, np, upd_same, es.mono (Same.le sm zs)⟩
      rcases seq_cases q1 with rfl | rfl
      · obtain ⟨a, vs, e, h1, es⟩ := hw.list
        exact go e (.inl (SqL.of h1)) es
      · obtain ⟨a, vs, e, h1, es⟩ := hw.tuple
        exact go e (.inr h1) es
    · cases hf
  · obtain ⟨v, rfl, hw⟩ := hv.one
    exact call_abs pins s σ H _ us Q I r ⟨_, by rw [hw.int], int (imI_some hf)⟩
  · obtain ⟨v, rfl, hw⟩ := hv.one
    exact call_int1 pins s σ H _ us Q I r (.inl ⟨_, by rw [hw.int], int (imI_some hf)⟩)
  · cases hf

end
/-! ### isinstance -/
def tyName : Ty → String
  | .int => "int" | .bool => "bool" | .str => "str" | .tuple => "tuple" | .list => "list" | .dict => "dict"
def tyV : D → String
  | .none => "NoneType" | .bool _ => "bool" | .int _ => "int" | .str _ => "str" | .list _ => "list" | .tuple _ => "tuple" | .dict _ => "dict"
theorem kit_tab : ∀ (n : String) (t : Ty), n ∈ ["NoneType", "bool", "int", "str", "list", "tuple", "dict"] → kitB n (tyName t) = some (decide (n = tyName t) || (decide (n = "bool") && decide (t = .int))) := by
  intro n t h
  simp only [List.mem_cons, List.not_mem_nil, or_false] at h
  rcases h with rfl | rfl | rfl | rfl | rfl | rfl | rfl <;> cases t <;> decide +kernel
theorem Vw.tyX {K : PySem.W.Frag} {Z : Addr → Prop} {H : Hp} {v : V} {d : D} {t : Ty} {b : Bool} (h : Vw K Z H v d) (q : tyD d t = some b) : TyX K H v (.type (tyV d)) ∧ kitB (tyV d) (tyName t) = some b := by
  have dct : ∀ {a : Addr} {kvs : List (D × D)}, DctAt K Z H a kvs → TyX K H (.ref a) (.type "dict") := fun {a kvs} h => by
    rcases h with ⟨m, h, _⟩ | ⟨m, h, _⟩
    · exact .base (.dK h)
    · exact .base (.dT h)
  constructor
  · cases h with
    | im h => cases h with
      | non => exact .base .non
      | bl b => exact .base (.bl b)
      | int i => exact .base (.int i)
      | str x => exact .base (.str x)
      | lst z h hs => exact .base (.lst h)
      | tup h hs =>
        rcases h with (h | ⟨o, h⟩) | ⟨o, its, n, h1, h2, _⟩
        · exact .base (.tup h)
        · exact .fTuple h
        · exact .kTuple h1 h2
      | scr _ _ => cases q
      | dK z h hs => exact dct (.inl ⟨_, h, hs⟩)
      | dT z h hs => exact dct (.inr ⟨_, h, hs⟩)
    | lst h hs => exact .base (.lst h)
    | dct h => exact dct h
  · rw [kit_tab _ _ (by cases d <;> simp [tyV])]
    unfold tyD at q
    split at q <;> (try (cases q; done)) <;> (have e := Option.some.inj q; subst e; cases t <;> rfl)
def isT (K : PySem.W.Frag) (t : Ty) (te : TE) : TE := tCB (rIsi K) (tCons te (tCons (tC (.ty (tyName t))) tNil))
theorem rd_isi {K : PySem.W.Frag} {mg : Str → Option Value} {W : WX} {m : ME} {σ : L2.St} {H : Hp} {Q : VK} {t : Ty} (h : RdE K T mg (isiE t m) W σ H Q) : isT K t (RdE K T mg m W) σ H Q := by
  obtain ⟨e, Z, G, s, h⟩ := h
  refine ⟨e, Z, G, s, (h.bind fun _ z => z).imp fun o e1 Z1 H1 l k h v x => ?_⟩
  cases q1 : vw o e1 with
  | none => rw [q1] at h; exact h.elim
  | some p =>
    rw [q1] at h
    dsimp only [lift] at h
    cases q2 : tyD p t with
    | none => rw [q2] at h; exact h.elim
    | some b =>
      rw [q2] at h
      obtain ⟨h1, h2⟩ := (x.ok.vw x.st q1).tyX q2
      exact ⟨v, .ty (tyName t), _, _, b, rfl, .ty _, h1, kit_ty h2, PostC.fin h x.st0 (Same.refl _) (EncD.bl b)⟩
theorem pe_isi {X : Cx} {m : ME} {W : WX} {a : Expr} {t : Ty} {Tn : Str} {p p2 pos : Pos} (ha : PE X a (RdE X.K T X.mg m W)) (hg : Gl X "isinstance") (hm : X.mg "isinstance" = none) (hgT : Gl X Tn) (hmT : X.mg Tn = none) (hT : tyOf Tn = some t) (hst : ∀ e q, a ≠ .Starred e q) :
    PE X (.Call (.Name "isinstance" p) [a, .Name Tn p2] [] pos) (RdE X.K T X.mg (isiE t m) W) := by
  have key : bootBuiltins Tn = some (.type (tyName t)) ∧ Tn ≠ "__name__" ∧ (Tn == ("__debug__" : Str)) = false := by
    unfold tyOf at hT
    repeat' split at hT
    all_goals first
      | (cases hT; done)
      | (rename_i e; subst e; cases hT; exact ⟨by decide +kernel, by decide, by decide⟩)
  have hp : PE X (.Name Tn p2) (tC (.ty (tyName t))) := pe_bltn hgT hmT key.1 rfl key.2.1 key.2.2
  have h1 : starEach [a, .Name Tn p2] X.env = (false, eval a X.env) :: starEach [.Name Tn p2] X.env := by
    cases a <;> first | rfl | exact absurd rfl (hst _ _)
  exact (pe_callB call_isi hg hm (by decide +kernel) (pa_cons ha (pa_cons hp pa_nil) h1) (he := h1)).weaken fun _ _ _ q => rd_isi q
end Ev
end
section
set_option maxHeartbeats 4000000
/-! EvS5: calls of defs of the text. -/
namespace Ev
open PySem PySem.Spec PyProof.Rows L2
variable {T : LT}

theorem gt_append : ∀ {ps e : Sl} {i : Nat}, gt (ps ++ e) i = if i < ps.length then gt ps i else gt e (i - ps.length)
  | [], e, i => by simp
  | x :: ps, e, 0 => by simp [gt]
  | x :: ps, e, i + 1 => by
    show gt (ps ++ e) i = _
    rw [gt_append]
    simp only [List.length_cons, Nat.add_lt_add_iff_right, Nat.add_sub_add_right]
    rfl
section
variable {K : PySem.W.Frag} {e : Sl} {σ : L2.St} {H : Hp} {Z G : Addr → Prop}
/-- an own slot's object is kept from now on, the slot emptied -/
theorem StOk.toFrame (s : StOk K T e σ H Z G) {i : Nat} {sv : Sv} {a : Addr} (h : gt e i = some sv) (o : sv.own = true) (hv : σ[i]? = some (some (V.ref a))) : StOk K T (pt e i none) σ H Z (fun b => G b ∨ b = a) := by
  obtain ⟨u, h1, _, nz, ng⟩ := s.notOwn h o hv
  obtain ⟨u', h1', hm, _, _⟩ := s.notOwn h o hv
  refine ⟨⟨s.tb.1, s.tb.2.1, fun b z => ?_⟩, s.zs, fun b g => ?_, fun j sj q => ?_, fun j k sj sk v q1 q2 o1 o2 => ?_⟩
  · rcases z with z | rfl
    · exact s.tb.2.2 b z
    · exact ⟨_, h1', hm⟩
  · rcases g with g | rfl
    · exact s.gs b g
    · exact ⟨by rw [h1]; simp, nz⟩
  · rcases gt_pt q with ⟨_, z⟩ | ⟨hj, z⟩
    · cases z
    · obtain ⟨v, e1, e2⟩ := s.sl j sj z
      refine ⟨v, e1, e2.mono Le.refl fun oj b eb => ?_⟩
      subst eb
      obtain ⟨_, _, _, n1, n2⟩ := s.notOwn z oj e1
      exact ⟨rfl, n1, fun g => g.elim n2 fun e3 => hj (s.inj j i sj sv (.ref a) z h oj o (e3 ▸ e1) hv)⟩
  · rcases gt_pt q1 with ⟨_, z⟩ | ⟨_, z1⟩
    · cases z
    · rcases gt_pt q2 with ⟨_, z⟩ | ⟨_, z2⟩
      · cases z
      · exact s.inj j k sj sk v z1 z2 o1 o2
theorem Outs.toFrame : ∀ {G : Addr → Prop} {vs : List V} {os : List Op} {i : Nat} {sv : Sv} {a : Addr}, Outs K T e σ H Z G vs os → gt e i = some sv → sv.own = true → σ[i]? = some (some (V.ref a)) → Outs K T (pt e i none) σ H Z (fun b => G b ∨ b = a) vs os
  | _, [], [], _, _, _, h, h1, h2, h3 => StOk.toFrame h h1 h2 h3
  | G, v :: vs, o :: os, i, sv, a, h, h1, h2, h3 => by
    obtain ⟨q1, q2, q3⟩ := h
    have ih := Outs.toFrame (a := a) q3 h1 h2 h3
    obtain ⟨_, _, _, _, ng⟩ := (Outs.st q3).notOwn h1 h2 h3
    refine ⟨q1, fun b hb g => g.elim (q2 b hb) fun e => ng (.inr (e ▸ hb)), ?_⟩
    have e : (fun b => Gx G v o b ∨ b = a) = Gx (fun b => G b ∨ b = a) v o := by
      funext b
      unfold Gx
      apply propext
      constructor
      · rintro ((h | h) | h)
        · exact .inl (.inl h)
        · exact .inr h
        · exact .inl (.inr h)
      · rintro ((h | h) | h)
        · exact .inl (.inl h)
        · exact .inr h
        · exact .inl (.inr h)
    rw [← e]
    exact ih
  | _, [], _ :: _, _, _, _, h, _, _, _ => h.elim
  | _, _ :: _, [], _, _, _, h, _, _, _ => h.elim
/-- a slot that holds an own object, frozen: the same for pending operands -/
theorem Outs.freeze : ∀ {G : Addr → Prop} {vs : List V} {os : List Op} {v : V} {i : Nat} {d : D} {e1 : Sl}, Outs K T e σ H Z G vs os → σ[i]? = some (some v) → fzO (.bor i) e = some (d, e1) →
    ∃ Z1, Le Z H Z1 H ∧ Outs K T e1 σ H Z1 G vs os ∧ EncD K Z1 H v d := by
  intro G vs
  induction vs generalizing G with
  | nil =>
    intro os v i d e1 h hv q
    cases os with
    | nil =>
      obtain ⟨Z1, l, s1, en⟩ := fz_ok (v := v) (o := .bor i) ⟨(show StOk K T e σ H Z G from h).less fun a z => z.elim id False.elim, hv, fun a z => z.elim⟩ q
      exact ⟨Z1, l, s1, en⟩
    | cons o os => exact h.elim
  | cons w vs ih =>
    intro os v i d e1 h hv q
    cases os with
    | nil => exact h.elim
    | cons o os =>
      obtain ⟨q1, q2, q3⟩ := h
      obtain ⟨Z1, l, o1, en⟩ := ih q3 hv q
      exact ⟨Z1, l, ⟨q1.mono l fun _ _ => rfl, q2, o1⟩, en⟩
/-- slots ahead of slots -/
theorem StOk.cons_im {ps : Sl} {τ : L2.St} {v : V} {d : D} (s : StOk K T ps τ H Z G) (h : EncD K Z H v d) : StOk K T (some (.im d) :: ps) (some v :: τ) H Z G := by
  refine ⟨s.tb, s.zs, s.gs, fun i sv q => ?_, fun i j si sj w q1 q2 o1 o2 e1 e2 => ?_⟩
  · cases i with
    | zero => cases q; exact ⟨v, rfl, h⟩
    | succ i => exact s.sl i sv q
  · cases i with
    | zero => cases q1; cases o1
    | succ i =>
      cases j with
      | zero => cases q2; cases o2
      | succ j => rw [s.inj i j si sj w q1 q2 o1 o2 e1 e2]
theorem StOk.cons_own {ps : Sl} {τ : L2.St} {a : Addr} {sv : Sv} (s : StOk K T ps τ H Z (fun b => G b ∨ b = a)) (ng : ¬ G a) (h : SvOk K T (fun _ => False) (fun _ => False) H (.ref a) sv → SvOk K T Z G H (.ref a) sv) (h0 : SvOk K T Z G H (.ref a) sv) (ow : sv.own = true) : StOk K T (some sv :: ps) (some (.ref a) :: τ) H Z G := by
  refine ⟨s.tb.less fun b z => .inl z, s.zs, fun b g => s.gs b (.inl g), fun i si q => ?_, fun i j si sj w q1 q2 o1 o2 e1 e2 => ?_⟩
  · cases i with
    | zero => cases q; exact ⟨_, rfl, h0⟩
    | succ i =>
      obtain ⟨v, h1, h2⟩ := s.sl i si q
      refine ⟨v, h1, h2.mono Le.refl fun o b eb => ?_⟩
      obtain ⟨b', _, eb', _, _, n1, n2⟩ := h2.addr o
      rw [eb] at eb'; cases eb'
      exact ⟨rfl, n1, fun g => n2 (.inl g)⟩
  · have no : ∀ {k : Nat} {sk : Sv}, gt ps k = some sk → sk.own = true → τ[k]? = some (some (V.ref a)) → False := fun {k sk} q o e => by
      obtain ⟨_, _, _, _, n⟩ := s.notOwn q o e
      exact n (.inr rfl)
    cases i with
    | zero =>
      cases j with
      | zero => rfl
      | succ j =>
        have e1 : some (some (V.ref a)) = some (some w) := e1
        cases e1
        exact (no q2 o2 e2).elim
    | succ i =>
      cases j with
      | zero =>
        have e2 : some (some (V.ref a)) = some (some w) := e2
        cases e2
        exact (no q1 o1 e1).elim
      | succ j => rw [s.inj i j si sj w q1 q2 o1 o2 e1 e2]
/-- operands become a def's arguments: arguments and slots stand apart -/
theorem toPar_ok : ∀ {G Z : Addr → Prop} {vs : List V} {os : List Op} {br : List Bool} {e e2 ps : Sl}, Outs K T e σ H Z G vs os → toPar os br e = some (ps, e2) →
    ∃ Z2, Le Z H Z2 H ∧ ps.length = vs.length ∧ StOk K T (ps ++ e2) (vs.map some ++ σ) H Z2 G := by
  intro G Z vs
  induction vs generalizing G Z with
  | nil =>
    intro os br e e2 ps h q
    cases os with
    | nil =>
      cases br with
      | cons b bs => cases q
      | nil =>
        simp only [toPar, Option.some.injEq, Prod.mk.injEq] at q
        obtain ⟨rfl, rfl⟩ := q
        exact ⟨Z, Le.refl, rfl, h⟩
    | cons o os => exact h.elim
  | cons v vs ih =>
    intro os br e e2 ps h q
    cases os with
    | nil => exact h.elim
    | cons o os =>
      obtain ⟨q1, q2, q3⟩ := h
      -- an unchanging one
      have imm : ∀ {Z' : Addr → Prop} {d : D} {e1 : Sl} {bs : List Bool}, Le Z H Z' H → Outs K T e1 σ H Z' G vs os → EncD K Z' H v d → ((toPar os bs e1).map fun r => (some (Sv.im d) :: r.1, r.2)) = some (ps, e2) →
          ∃ Z2, Le Z H Z2 H ∧ ps.length = (v :: vs).length ∧ StOk K T (ps ++ e2) ((v :: vs).map some ++ σ) H Z2 G := by
        intro Z' d e1 bs l o1 en q
        cases q5 : toPar os bs e1 with
        | none => rw [q5] at q; cases q
        | some r =>
          rw [q5] at q
          simp only [Option.map_some, Option.some.injEq, Prod.mk.injEq] at q
          obtain ⟨rfl, rfl⟩ := q
          obtain ⟨Z2, l2, hl, s2⟩ := ih o1 (ps := r.1) (e2 := r.2) q5
          exact ⟨Z2, l.trans l2, by simp [hl], s2.cons_im (en.mono l2)⟩
      -- an own one at a
      have own : ∀ {a : Addr} {sv : Sv} {e1 : Sl} {bs : List Bool}, v = .ref a → ¬ G a → sv.own = true → (∀ Z2, Le Z H Z2 H → ¬ Z2 a → SvOk K T Z2 G H (.ref a) sv) → Outs K T e1 σ H Z (fun b => G b ∨ b = a) vs os →
          ((toPar os bs e1).map fun r => (some sv :: r.1, r.2)) = some (ps, e2) → ∃ Z2, Le Z H Z2 H ∧ ps.length = (v :: vs).length ∧ StOk K T (ps ++ e2) ((v :: vs).map some ++ σ) H Z2 G := by
        intro a sv e1 bs ev ng ow hsv o1 q
        subst ev
        cases q5 : toPar os bs e1 with
        | none => rw [q5] at q; cases q
        | some r =>
          rw [q5] at q
          simp only [Option.map_some, Option.some.injEq, Prod.mk.injEq] at q
          obtain ⟨rfl, rfl⟩ := q
          obtain ⟨Z2, l2, hl, s2⟩ := ih o1 (ps := r.1) (e2 := r.2) q5
          exact ⟨Z2, l2, by simp [hl], s2.cons_own ng (fun _ => hsv Z2 l2 (s2.gs a (.inr rfl)).2) (hsv Z2 l2 (s2.gs a (.inr rfl)).2) ow⟩
      have frame : ∀ {a : Addr}, v = .ref a → (∀ b, OwnA v o b ↔ v = .ref b) → Outs K T e σ H Z (fun b => G b ∨ b = a) vs os := fun {a} ev hw => by
        have e1 : Gx G v o = fun b => G b ∨ b = a := by
          funext b
          unfold Gx
          apply propext
          rw [hw b, ev]
          constructor
          · rintro (h | h)
            · exact .inl h
            · cases h; exact .inr rfl
          · rintro (h | h)
            · exact .inl h
            · exact .inr (by rw [h])
        rw [← e1]
        exact q3
      have bare : (∀ b, ¬ OwnA v o b) → Outs K T e σ H Z G vs os := fun hw => by
        have e1 : Gx G v o = G := by
          funext b
          unfold Gx
          apply propext
          exact ⟨fun h => h.elim id fun z => (hw b z).elim, .inl⟩
        rw [← e1]
        exact q3
      cases o with
      | im d =>
        cases br with
        | nil => simp only [toPar] at q; cases q
        | cons b bs => exact imm Le.refl (bare fun _ z => z) q1 (by simpa only [toPar] using q)
      | tl xs =>
        cases br with
        | nil => simp only [toPar] at q; cases q
        | cons b bs =>
          obtain ⟨a, ws, ev, h1, es⟩ := q1
          exact own (sv := .ol xs) ev (q2 a ev) rfl (fun Z2 l2 nz => ⟨a, ws, rfl, h1, es.mono l2, nz, q2 a ev⟩) (frame ev fun b => Iff.rfl) (by simpa only [toPar] using q)
      | td kvs =>
        cases br with
        | nil => simp only [toPar] at q; cases q
        | cons b bs =>
          obtain ⟨a, ev, h1⟩ := q1
          exact own (sv := .od kvs) ev (q2 a ev) rfl (fun Z2 l2 nz => ⟨a, rfl, h1.mono l2 rfl, nz, q2 a ev⟩) (frame ev fun b => Iff.rfl) (by simpa only [toPar] using q)
      | bor i =>
        have hv : σ[i]? = some (some v) := q1
        have o0 := bare fun _ z => z
        cases br with
        | nil => simp only [toPar] at q; cases q
        | cons b bs =>
          have frz : ∀ {r : Option (Sl × Sl)}, r = some (ps, e2) → r = (match fzO (.bor i) e with | some (d, e1) => (toPar os bs e1).map fun r => (some (Sv.im d) :: r.1, r.2) | none => none) → ∃ Z2, Le Z H Z2 H ∧ ps.length = (v :: vs).length ∧ StOk K T (ps ++ e2) ((v :: vs).map some ++ σ) H Z2 G := by
            intro r q er
            rw [er] at q
            cases q6 : fzO (.bor i) e with
            | none => rw [q6] at q; cases q
            | some p =>
              obtain ⟨d, e1⟩ := p
              rw [q6] at q
              obtain ⟨Z1, l1, o1, en⟩ := o0.freeze hv q6
              exact imm l1 o1 en q
          cases qg : gt e i with
          | none => exact frz q (by cases b <;> simp only [toPar, qg] <;> rfl)
          | some sv =>
            obtain ⟨v', h1, h2⟩ := (Outs.st o0).sl i sv qg
            rw [hv] at h1; cases h1
            have byref : sv.own = true → ((toPar os bs (pt e i none)).map fun r => (some sv :: r.1, r.2)) = some (ps, e2) → ∃ Z2, Le Z H Z2 H ∧ ps.length = (v :: vs).length ∧ StOk K T (ps ++ e2) ((v :: vs).map some ++ σ) H Z2 G := by
              intro ow q
              obtain ⟨a, u, ev, h3, m, nz, ng⟩ := h2.addr ow
              subst ev
              exact own rfl ng ow (fun Z2 l2 nz2 => h2.mono l2 fun _ b eb => by cases eb; exact ⟨rfl, nz2, ng⟩) (o0.toFrame qg ow hv) q
            cases b with
            | false => exact frz q (by cases sv <;> simp only [toPar, qg] <;> rfl)
            | true =>
              cases sv with
              | im d => exact frz q (by simp only [toPar, qg] <;> rfl)
              | ex x => exact frz q (by simp only [toPar, qg] <;> rfl)
              | ol xs => exact byref rfl (by simpa only [toPar, qg] using q)
              | od xs => exact byref rfl (by simpa only [toPar, qg] using q)
/-- what slots own -/
def OwnS (e : Sl) (σ : L2.St) : Addr → Prop := fun a => ∃ i sv, gt e i = some sv ∧ sv.own = true ∧ σ[i]? = some (some (V.ref a))
theorem get_front {τ σ : L2.St} {i : Nat} (h : i < τ.length) : (τ ++ σ)[i]? = τ[i]? := List.getElem?_append_left h
theorem get_back {τ σ : L2.St} {i : Nat} : (τ ++ σ)[τ.length + i]? = σ[i]? := by
  rw [List.getElem?_append_right (Nat.le_add_right _ _), Nat.add_sub_cancel_left]
theorem gt_front {ps e : Sl} {i : Nat} {sv : Sv} (h : gt ps i = some sv) : gt (ps ++ e) i = some sv ∧ i < ps.length := by
  have hl : i < ps.length := by
    induction ps generalizing i with
    | nil => rw [gt_nil] at h; cases h
    | cons x r ih =>
      cases i with
      | zero => exact Nat.succ_pos _
      | succ i => exact Nat.succ_lt_succ (ih h)
  rw [gt_append, if_pos hl]
  exact ⟨h, hl⟩
theorem gt_back {ps e : Sl} {i : Nat} : gt (ps ++ e) (ps.length + i) = gt e i := by
  rw [gt_append, if_neg (by omega), Nat.add_sub_cancel_left]
/-- the arguments alone; what the slots own is kept -/
theorem StOk.args {ps : Sl} {τ : L2.St} (s : StOk K T (ps ++ e) (τ ++ σ) H Z G) (hl : ps.length = τ.length) : StOk K T ps τ H Z (fun a => G a ∨ OwnS e σ a) := by
  have own : ∀ {a : Addr}, OwnS e σ a → (∃ u, H a = some u ∧ Md u) ∧ ¬ Z a ∧ ¬ G a ∧ ∀ (i : Nat) (sv : Sv), gt ps i = some sv → sv.own = true → τ[i]? ≠ some (some (V.ref a)) := by
    rintro a ⟨i, sv, h1, h2, h3⟩
    have g1 : gt (ps ++ e) (ps.length + i) = some sv := by rw [gt_back]; exact h1
    have g2 : (τ ++ σ)[ps.length + i]? = some (some (V.ref a)) := by rw [hl, get_back]; exact h3
    obtain ⟨u, q1, q2, q3, q4⟩ := s.notOwn g1 h2 g2
    refine ⟨⟨u, q1, q2⟩, q3, q4, fun j sj q o eq => ?_⟩
    obtain ⟨f1, f2⟩ := gt_front (e := e) q
    have := s.inj _ _ _ _ (V.ref a) f1 g1 o h2 (by rw [get_front (by omega)]; exact eq) g2
    omega
  refine ⟨⟨s.tb.1, s.tb.2.1, fun a z => ?_⟩, s.zs, fun a g => ?_, fun i sv q => ?_, fun i j si sj v q1 q2 o1 o2 e1 e2 => ?_⟩
  · rcases z with z | z
    · exact s.tb.2.2 a z
    · exact (own z).1
  · rcases g with g | g
    · exact s.gs a g
    · obtain ⟨⟨u, h1, _⟩, h2, _⟩ := own g
      exact ⟨by rw [h1]; simp, h2⟩
  · obtain ⟨f1, f2⟩ := gt_front (e := e) q
    obtain ⟨v, h1, h2⟩ := s.sl i sv f1
    rw [get_front (by omega)] at h1
    refine ⟨v, h1, h2.mono Le.refl fun o a ea => ?_⟩
    obtain ⟨b, _, eb, _, _, n1, n2⟩ := h2.addr o
    rw [ea] at eb; cases eb
    exact ⟨rfl, n1, fun g => g.elim n2 fun g => (own g).2.2.2 i sv q o (by rw [h1, ea])⟩
  · obtain ⟨f1, l1⟩ := gt_front (e := e) q1
    obtain ⟨f2, l2⟩ := gt_front (e := e) q2
    exact s.inj i j si sj v f1 f2 o1 o2 (by rw [get_front (by omega)]; exact e1) (by rw [get_front (by omega)]; exact e2)
/-- behind a call: the arguments as they stand then, and the slots -/
theorem StOk.join {ps fin : Sl} {τ : L2.St} {H' : Hp} {Z' G' : Addr → Prop} (s : StOk K T (ps ++ e) (τ ++ σ) H Z G) (hl : ps.length = τ.length) (l : Le Z H Z' H') (k : KeepG (fun a => G a ∨ OwnS e σ a) H H') (f : StOk K T fin τ H' Z' G')
    (hf : fin.length = τ.length) (hG : ∀ a, G a ∨ OwnS e σ a → G' a) {Gr : Addr → Prop} (hr : ∀ a, Gr a → G' a ∧ ¬ OwnS e σ a) : StOk K T (fin ++ e) (τ ++ σ) H' Z' Gr := by
  have back : ∀ {i : Nat} {sv : Sv}, gt (fin ++ e) i = some sv → (gt fin i = some sv ∧ i < fin.length) ∨ ∃ j, i = fin.length + j ∧ gt e j = some sv := fun {i sv} q => by
    rw [gt_append] at q
    by_cases h : i < fin.length
    · rw [if_pos h] at q; exact .inl ⟨q, h⟩
    · rw [if_neg h] at q; exact .inr ⟨i - fin.length, by omega, q⟩
  refine ⟨f.tb.less fun a g => (hr a g).1, f.zs, fun a g => f.gs a (hr a g).1, fun i sv q => ?_, fun i j si sj v q1 q2 o1 o2 e1 e2 => ?_⟩
  · rcases back q with ⟨q5, h⟩ | ⟨j, rfl, q5⟩
    · obtain ⟨v, h1, h2⟩ := f.sl i sv q5
      refine ⟨v, by rw [get_front (by omega)]; exact h1, h2.mono Le.refl fun o a ea => ?_⟩
      obtain ⟨b, _, eb, _, _, n1, n2⟩ := h2.addr o
      rw [ea] at eb; cases eb
      exact ⟨rfl, n1, fun g => n2 (hr _ g).1⟩
    · have g1 : gt (ps ++ e) (ps.length + j) = some sv := by rw [gt_back]; exact q5
      obtain ⟨v, h1, h2⟩ := s.sl _ sv g1
      rw [hl, get_back] at h1
      refine ⟨v, by rw [hf, get_back]; exact h1, h2.mono l fun o a ea => ?_⟩
      have ow : OwnS e σ a := ⟨j, sv, q5, o, by rw [h1, ea]⟩
      exact ⟨k a (.inr ow), (f.gs a (hG a (.inr ow))).2, fun g => (hr a g).2 ow⟩
  · rcases back q1 with ⟨p1, l1⟩ | ⟨j1, rfl, p1⟩
    · rcases back q2 with ⟨p2, l2⟩ | ⟨j2, rfl, p2⟩
      · exact f.inj i j si sj v p1 p2 o1 o2 (by rw [get_front (by omega)] at e1; exact e1) (by rw [get_front (by omega)] at e2; exact e2)
      · exfalso
        rw [get_front (by omega)] at e1
        rw [hf, get_back] at e2
        obtain ⟨v', h1, h2⟩ := f.sl i si p1
        rw [e1] at h1; cases h1
        obtain ⟨b, _, eb, _, _, n1, n2⟩ := h2.addr o1
        subst eb
        exact n2 (hG b (.inr ⟨j2, sj, p2, o2, e2⟩))
    · rcases back q2 with ⟨p2, l2⟩ | ⟨j2, rfl, p2⟩
      · exfalso
        rw [get_front (by omega)] at e2
        rw [hf, get_back] at e1
        obtain ⟨v', h1, h2⟩ := f.sl j sj p2
        rw [e2] at h1; cases h1
        obtain ⟨b, _, eb, _, _, n1, n2⟩ := h2.addr o2
        subst eb
        exact n2 (hG b (.inr ⟨j1, si, p1, o1, e1⟩))
      · rw [hf, get_back] at e1 e2
        have g1 : gt (ps ++ e) (ps.length + j1) = some si := by rw [gt_back]; exact p1
        have g2 : gt (ps ++ e) (ps.length + j2) = some sj := by rw [gt_back]; exact p2
        have := s.inj _ _ _ _ v g1 g2 o1 o2 (by rw [hl, get_back]; exact e1) (by rw [hl, get_back]; exact e2)
        omega
/-- a slot ahead is forgotten -/
theorem StOk.tail {f : Option Sv} {v : Option V} {E : Sl} {τ : L2.St} (s : StOk K T (f :: E) (v :: τ) H Z G) : StOk K T E τ H Z G :=
  ⟨s.tb, s.zs, s.gs, fun i sv q => s.sl (i + 1) sv q, fun i j si sj w q1 q2 o1 o2 e1 e2 => Nat.succ.inj (s.inj (i + 1) (j + 1) si sj w q1 q2 o1 o2 e1 e2)⟩
/-- a slot ahead is moved to its place -/
theorem StOk.pull {f : Option Sv} {v : V} {E : Sl} {τ : L2.St} {j : Nat} (s : StOk K T (f :: E) (some v :: τ) H Z G) (hv : τ[j]? = some (some v)) : StOk K T (pt E j f) τ H Z G := by
  refine ⟨s.tb, s.zs, s.gs, fun i sv q => ?_, fun i k si sk w q1 q2 o1 o2 e1 e2 => ?_⟩
  · rcases gt_pt q with ⟨rfl, z⟩ | ⟨_, z⟩
    · subst z
      obtain ⟨v', h1, h2⟩ := s.sl 0 sv rfl
      cases h1
      exact ⟨v, hv, h2⟩
    · exact s.sl (i + 1) sv z
  · rcases gt_pt q1 with ⟨rfl, z1⟩ | ⟨n1, z1⟩
    · subst z1
      rw [hv] at e1; cases e1
      rcases gt_pt q2 with ⟨rfl, z2⟩ | ⟨n2, z2⟩
      · rfl
      · exact absurd (s.inj 0 (k + 1) si sk v rfl z2 o1 o2 rfl e2) (by omega)
    · rcases gt_pt q2 with ⟨rfl, z2⟩ | ⟨n2, z2⟩
      · subst z2
        rw [hv] at e2; cases e2
        exact absurd (s.inj (i + 1) 0 si sk v z1 rfl o1 o2 e1 rfl) (by omega)
      · exact Nat.succ.inj (s.inj (i + 1) (k + 1) si sk w z1 z2 o1 o2 e1 e2)
theorem pt_back : ∀ {fs e : Sl} {i : Nat} {v : Option Sv}, pt (fs ++ e) (fs.length + i) v = fs ++ pt e i v
  | [], e, i, v => by simp
  | x :: fs, e, i, v => by
    show pt (x :: (fs ++ e)) (fs.length + 1 + i) v = x :: (fs ++ pt e i v)
    rw [show fs.length + 1 + i = (fs.length + i) + 1 from by omega, ← pt_back]
    rfl
/-- the slots that the operands name -/
def Bors (σ : L2.St) : List V → List Op → Prop
  | v :: vs, .bor i :: os => σ[i]? = some (some v) ∧ Bors σ vs os
  | _ :: vs, _ :: os => Bors σ vs os
  | _, _ => True
theorem Outs.bors : ∀ {G : Addr → Prop} {vs : List V} {os : List Op}, Outs K T e σ H Z G vs os → Bors σ vs os
  | _, [], [], _ => trivial
  | _, v :: vs, o :: os, ⟨h1, _, h3⟩ => by
    cases o with
    | bor i => exact ⟨h1, Outs.bors h3⟩
    | im d => exact (Outs.bors h3 : Bors σ vs os)
    | tl d => exact (Outs.bors h3 : Bors σ vs os)
    | td d => exact (Outs.bors h3 : Bors σ vs os)
  | _, [], _ :: _, h => h.elim
  | _, _ :: _, [], h => h.elim
theorem backs_ok : ∀ {vs : List V} {os : List Op} {fin e : Sl}, StOk K T (fin ++ e) (vs.map some ++ σ) H Z G → fin.length = vs.length → Bors σ vs os → StOk K T (backs os fin e) σ H Z G
  | [], os, [], e, s, _, _ => by
    have : backs os [] e = e := by cases os with | nil => rfl | cons o os => cases o <;> rfl
    rw [this]
    exact s
  | v :: vs, os, f :: fs, e, s, hl, hb => by
    have hl' : fs.length = vs.length := Nat.succ.inj hl
    have s : StOk K T (f :: (fs ++ e)) (some v :: (vs.map some ++ σ)) H Z G := s
    have rest : ∀ {os' : List Op}, Bors σ vs os' → StOk K T (backs os' fs e) σ H Z G := fun h => backs_ok s.tail hl' h
    cases os with
    | nil =>
      have : backs [] (f :: fs) e = backs [] fs e := by cases fs <;> rfl
      rw [this]
      exact rest (by cases vs <;> trivial)
    | cons o os =>
      cases o with
      | im d => exact rest hb
      | tl d => exact rest hb
      | td d => exact rest hb
      | bor i =>
        obtain ⟨h1, h2⟩ := hb
        show StOk K T (match gt e i with | none => backs os fs (pt e i f) | some _ => backs os fs e) σ H Z G
        split
        · have hv : (vs.map some ++ σ)[fs.length + i]? = some (some v) := by
            rw [hl', show vs.length = (vs.map some).length from (List.length_map _).symm, get_back]
            exact h1
          have := s.pull hv
          rw [pt_back] at this
          exact backs_ok this hl' h2
        · exact rest h2
  | [], _, _ :: _, _, _, hl, _ => by cases hl
  | _ :: _, _, [], _, _, hl, _ => by cases hl
end
theorem toPar_len : ∀ {os : List Op} {br : List Bool} {e ps e2 : Sl}, toPar os br e = some (ps, e2) → ps.length = br.length := by
  intro os
  induction os with
  | nil =>
    intro br e ps e2 q
    cases br with
    | cons b bs => cases q
    | nil => cases q; rfl
  | cons o os ih =>
    intro br e ps e2 q
    have go : ∀ {sv : Sv} {bs : List Bool} {e1 : Sl}, ((toPar os bs e1).map fun r => (some sv :: r.1, r.2)) = some (ps, e2) → ps.length = bs.length + 1 := by
      intro sv bs e1 q
      cases q5 : toPar os bs e1 with
      | none => rw [q5] at q; cases q
      | some r => rw [q5] at q; cases q; exact congrArg (· + 1) (ih (ps := r.1) (e2 := r.2) q5)
    cases br with
    | nil => cases o <;> cases q
    | cons b bs =>
      cases o with
      | im d => exact go q
      | tl d => exact go q
      | td d => exact go q
      | bor i =>
        simp only [toPar] at q
        split at q
        · exact go q
        · exact go q
        · split at q
          · exact go q
          · cases q
/-- a def's contract: it does what F says -/
def CPost (K : PySem.W.Frag) (T : LT) (mg : Str → Option Value) (n : Nat) (vs : List V) (Z G : Addr → Prop) (H : Hp) (Q : VK) (E : XK) : CRes → Prop
  | .ok r fin => fin.length = n → ∀ v H' Z', Le Z H Z' H' → KeepG G H H' → StOk K T fin (vs.map some) H' Z' (Gx G v r) → OpOk K Z' H' [] v r → (∀ a, OwnA v r a → ¬ G a) → Q v H'
  | .er x fin => fin.length = n → ∀ cls d H' Z', Le Z H Z' H' → KeepG G H H' → StOk K T fin (vs.map some) H' Z' G → ExOk K mg Z' x cls d H' → E cls d H'
  | .bad => False
def SpD (K : PySem.W.Frag) (T : LT) (mg : Str → Option Value) (n : Nat) (F : Sl → CRes) : Sp := fun vs H Q E => vs.length = n ∧ ∃ ps Z G, ps.length = n ∧ StOk K T ps (vs.map some) H Z G ∧ CPost K T mg n vs Z G H Q E (F ps)
theorem OpOk.nil {K : PySem.W.Frag} {Z : Addr → Prop} {H : Hp} {σ : L2.St} {v : V} {o : Op} (h : OpOk K Z H [] v o) : OpOk K Z H σ v o := by
  cases o with
  | bor i => have : ([] : L2.St)[i]? = some (some v) := h; simp at this
  | im d => exact h
  | tl d => exact h
  | td d => exact h
theorem rd_call {K : PySem.W.Frag} {mg : Str → Option Value} {W : WX} {ms : List ME} {σ : L2.St} {H : Hp} {Q : VK} {F : Sl → CRes} {br : List Bool} {n : Nat} (hn : br.length = n) (h : RdE K T mg (callE br F ms) W σ H Q) : tCallS (SpD K T mg n F) (WE W) (RdAO K T mg ms W) σ H Q := by
  obtain ⟨e, Z, G, s, h⟩ := h
  refine ⟨e, Z, G, s, (h.bind fun _ z => z).imp fun os e1 Z1 H1 l k h vs xs => ?_⟩
  cases q1 : toPar os br e1 with
  | none => rw [q1] at h; exact h.elim
  | some r =>
    obtain ⟨ps, e2⟩ := r
    rw [q1] at h
    obtain ⟨Z2, l2, hl, js⟩ := toPar_ok xs q1
    have hl' : ps.length = (vs.map some).length := by rw [hl, List.length_map]
    have hb : ps.length = n := by rw [← hn]; exact toPar_len q1
    have ownG : ∀ a, OwnS e2 σ a → ¬ G a := by
      rintro a ⟨i, sv, h1, h2, h3⟩
      have := js.notOwn (i := ps.length + i) (a := a) (by rw [gt_back]; exact h1) h2 (by rw [hl', get_back]; exact h3)
      obtain ⟨_, _, _, _, h⟩ := this
      exact h
    refine ⟨by rw [← hl]; exact hb, ps, Z2, _, hb, js.args hl', ?_⟩
    simp only at h
    cases q2 : F ps with
    | bad => rw [q2] at h; exact h.elim
    | er x fin =>
      rw [q2] at h
      intro hf cls d H' Z' l' k' f ex
      have hfl : fin.length = (vs.map some).length := by rw [hf, ← hb, hl']
      have j := js.join (Gr := G) hl' l' k' f hfl (fun a z => z) fun a g => ⟨.inl g, fun z => ownG a z g⟩
      exact h cls d H' Z' (l2.trans l') (k'.less fun a z => .inl z) (backs_ok j (by rw [hf, ← hb, hl]) xs.bors) ex
    | ok r fin =>
      rw [q2] at h
      intro hf v H' Z' l' k' f ok ne
      have hfl : fin.length = (vs.map some).length := by rw [hf, ← hb, hl']
      have j := js.join (Gr := Gx G v r) hl' l' k' f hfl (fun a z => .inl z) fun a g => by
        rcases g with g | g
        · exact ⟨.inl (.inl g), fun z => ownG a z g⟩
        · exact ⟨.inr g, fun z => ne a g (.inr z)⟩
      exact h H' Z' (l2.trans l') (k'.less fun a z => .inl z) v ⟨backs_ok j (by rw [hf, ← hb, hl]) xs.bors, ok.nil, fun a g z => ne a g (.inl z)⟩
end Ev
end
section
set_option maxHeartbeats 4000000
/-! EvS6: what is walked. -/
namespace Ev
open PySem PySem.Spec PyProof.Rows L2
variable {T : LT}

/-- the slots in fx stand -/
def SameF (fx : List Nat) (σ σ' : L2.St) : Prop := σ'.length = σ.length ∧ ∀ i, i ∈ fx → σ'[i]? = σ[i]?
theorem SameF.refl {fx : List Nat} {σ : L2.St} : SameF fx σ σ := ⟨rfl, fun _ _ => rfl⟩
theorem SameF.trans {fx : List Nat} {σ σ1 σ2 : L2.St} (a : SameF fx σ σ1) (b : SameF fx σ1 σ2) : SameF fx σ σ2 := ⟨b.1.trans a.1, fun i h => (b.2 i h).trans (a.2 i h)⟩
/-- the frame and what is hidden -/
def Gh (σ : L2.St) : (Addr → Prop) → List (Nat × Sv) → Addr → Prop
  | G, [] => G
  | G, (i, _) :: r => Gh σ (fun b => G b ∨ σ[i]? = some (some (.ref b))) r
theorem Gh.in {σ : L2.St} : ∀ {hid : List (Nat × Sv)} {G : Addr → Prop} {a : Addr}, G a → Gh σ G hid a
  | [], _, _, h => h
  | (i, _) :: r, G, a, h => Gh.in (hid := r) (.inl h)
def HidOk (K : PySem.W.Frag) (fx : List Nat) (σ : L2.St) (Z : Addr → Prop) (H : Hp) : (Addr → Prop) → List (Nat × Sv) → Prop
  | _, [] => True
  | G, (i, sv) :: r => (∃ a vs xs, i ∈ fx ∧ sv = .ol xs ∧ σ[i]? = some (some (.ref a)) ∧ H a = some (.lst vs) ∧ EncDs K Z H vs xs ∧ ¬ G a) ∧ HidOk K fx σ Z H (fun b => G b ∨ σ[i]? = some (some (.ref b))) r
theorem HidOk.mono {K : PySem.W.Frag} {fx : List Nat} {σ : L2.St} {Z Z' : Addr → Prop} {H H' : Hp} : ∀ {hid : List (Nat × Sv)} {G : Addr → Prop}, HidOk K fx σ Z H G hid → Le Z H Z' H' → KeepG (Gh σ G hid) H H' → HidOk K fx σ Z' H' G hid
  | [], _, _, _, _ => trivial
  | (i, sv) :: r, G, h, l, k => by
    obtain ⟨⟨a, vs, xs, hi, e1, e2, e3, e4, e5⟩, h2⟩ := h
    exact ⟨⟨a, vs, xs, hi, e1, e2, by rw [k a (Gh.in (hid := r) (.inr e2))]; exact e3, e4.mono l, e5⟩, h2.mono l k⟩
theorem Gh.eq {fx : List Nat} {σ σ' : L2.St} {K : PySem.W.Frag} {Z : Addr → Prop} {H : Hp} (sf : SameF fx σ σ') : ∀ {hid : List (Nat × Sv)} {G : Addr → Prop}, HidOk K fx σ Z H G hid → Gh σ' G hid = Gh σ G hid
  | [], _, _ => rfl
  | (i, sv) :: r, G, ⟨⟨a, vs, xs, hi, _⟩, h⟩ => by
    show Gh σ' (fun b => G b ∨ σ'[i]? = some (some (.ref b))) r = Gh σ (fun b => G b ∨ σ[i]? = some (some (.ref b))) r
    rw [sf.2 i hi]
    exact Gh.eq sf h
theorem HidOk.slots {fx : List Nat} {σ σ' : L2.St} {K : PySem.W.Frag} {Z : Addr → Prop} {H : Hp} (sf : SameF fx σ σ') : ∀ {hid : List (Nat × Sv)} {G : Addr → Prop}, HidOk K fx σ Z H G hid → HidOk K fx σ' Z H G hid
  | [], _, _ => trivial
  | (i, sv) :: r, G, ⟨⟨a, vs, xs, hi, e1, e2, e3⟩, h⟩ => by
    refine ⟨⟨a, vs, xs, hi, e1, by rw [sf.2 i hi]; exact e2, e3⟩, ?_⟩
    rw [sf.2 i hi]
    exact h.slots sf
section
variable {K : PySem.W.Frag} {e : Sl} {σ : L2.St} {H : Hp} {Z G : Addr → Prop}
/-- a hidden one comes back -/
theorem StOk.back {i : Nat} {a : Addr} {vs : List V} {xs : List D} (s : StOk K T e σ H Z (fun b => G b ∨ b = a)) (hv : σ[i]? = some (some (.ref a))) (h : H a = some (.lst vs)) (es : EncDs K Z H vs xs) (ng : ¬ G a) : StOk K T (pt e i (some (.ol xs))) σ H Z G := by
  have nz : ¬ Z a := (s.gs a (.inr rfl)).2
  have no : ∀ {j : Nat} {sj : Sv}, gt e j = some sj → sj.own = true → σ[j]? = some (some (V.ref a)) → False := fun {j sj} q o e => by
    obtain ⟨_, _, _, _, n⟩ := s.notOwn q o e
    exact n (.inr rfl)
  refine ⟨s.tb.less fun b z => .inl z, s.zs, fun b g => s.gs b (.inl g), fun j sj q => ?_, fun j k sj sk w q1 q2 o1 o2 e1 e2 => ?_⟩
  · rcases gt_pt q with ⟨rfl, z⟩ | ⟨_, z⟩
    · cases z
      exact ⟨_, hv, a, vs, rfl, h, es, nz, ng⟩
    · obtain ⟨w, h1, h2⟩ := s.sl j sj z
      refine ⟨w, h1, h2.mono Le.refl fun o b eb => ?_⟩
      obtain ⟨b', _, eb', _, _, n1, n2⟩ := h2.addr o
      rw [eb] at eb'; cases eb'
      exact ⟨rfl, n1, fun g => n2 (.inl g)⟩
  · rcases gt_pt q1 with ⟨rfl, z1⟩ | ⟨_, z1⟩
    · rcases gt_pt q2 with ⟨rfl, _⟩ | ⟨_, z2⟩
      · rfl
      · rw [hv] at e1; cases e1
        exact (no z2 o2 e2).elim
    · rcases gt_pt q2 with ⟨rfl, z2⟩ | ⟨_, z2⟩
      · rw [hv] at e2; cases e2
        exact (no z1 o1 e1).elim
      · exact s.inj j k sj sk w z1 z2 o1 o2 e1 e2
theorem unh_ok {fx : List Nat} : ∀ {hid : List (Nat × Sv)} {G : Addr → Prop}, StOk K T e σ H Z (Gh σ G hid) → HidOk K fx σ Z H G hid → StOk K T (unhS hid e) σ H Z G
  | [], _, s, _ => s
  | (i, sv) :: r, G, s, h => by
    obtain ⟨⟨a, vs, xs, hi, rfl, e2, e3, e4, e5⟩, h2⟩ := h
    have s1 : StOk K T (unhS r e) σ H Z (fun b => G b ∨ σ[i]? = some (some (.ref b))) := unh_ok (fx := fx) s h2
    have eg : (fun b => G b ∨ σ[i]? = some (some (.ref b))) = fun b => G b ∨ b = a := by
      funext b
      rw [e2]
      apply propext
      constructor
      · rintro (h | h)
        · exact .inl h
        · cases h; exact .inr rfl
      · rintro (h | h)
        · exact .inl h
        · subst h; exact .inr rfl
    rw [eg] at s1
    show StOk K T (match gt (unhS r e) i with | none => _ | some _ => _) σ H Z G
    split
    · exact s1.back e2 e3 e4 e5
    · exact s1.less fun b g => .inl g
end
/-- an argument that is walked: it stands still, or is hidden -/
def HV (K : PySem.W.Frag) (Z G : Addr → Prop) (H : Hp) (v : V) (d : D) : Prop := EncD K Z H v d ∨ ∃ a vs xs, v = .ref a ∧ d = .list xs ∧ G a ∧ H a = some (.lst vs) ∧ EncDs K Z H vs xs
theorem HV.mono {K : PySem.W.Frag} {Z G Z' G' : Addr → Prop} {H H' : Hp} {v : V} {d : D} (h : HV K Z G H v d) (l : Le Z H Z' H') (k : KeepG G H H') (g : ∀ a, G a → G' a) : HV K Z' G' H' v d := by
  rcases h with h | ⟨a, vs, xs, e1, e2, e3, e4, e5⟩
  · exact .inl (h.mono l)
  · exact .inr ⟨a, vs, xs, e1, e2, g a e3, by rw [k a e3]; exact e4, e5.mono l⟩
inductive HVs (K : PySem.W.Frag) (Z G : Addr → Prop) (H : Hp) : List V → List D → Prop
  | nil : HVs K Z G H [] []
  | cons {v vs d ds} : HV K Z G H v d → HVs K Z G H vs ds → HVs K Z G H (v :: vs) (d :: ds)
def RdAI (K : PySem.W.Frag) (T : LT) (mg : Str → Option Value) (fx : List Nat) (ms : List ME) (W : WX) : TA := fun σ H Q => ∃ e Z G, StOk K T e σ H Z G ∧
  PostC K T mg W σ Z G H (fun p e' Z' H' => ∀ vs, StOk K T e' σ H' Z' (Gh σ G p.2) → HidOk K fx σ Z' H' G p.2 → HVs K Z' (Gh σ G p.2) H' vs p.1 → Q vs H') (argsI fx ms e)
section
variable {K : PySem.W.Frag} {mg : Str → Option Value} {W : WX} {m : ME} {ms : List ME} {σ : L2.St} {H : Hp} {e : Sl} {Z G : Addr → Prop} {fx : List Nat}
theorem hide_ok {v : V} {o : Op} {d : D} {hs : List (Nat × Sv)} {e1 : Sl} (x : Out K T e σ H Z G v o) (q : hideO fx o e = some (d, hs, e1)) :
    ∃ Z1, Le Z H Z1 H ∧ StOk K T e1 σ H Z1 (Gh σ G hs) ∧ HidOk K fx σ Z1 H G hs ∧ HV K Z1 (Gh σ G hs) H v d ∧ (hs = [] ∨ ∃ i sv, hs = [(i, sv)]) := by
  have frz : ∀ {o}, Out K T e σ H Z G v o → (fzO o e).map (fun r => (r.1, ([] : List (Nat × Sv)), r.2)) = some (d, hs, e1) → ∃ Z1, Le Z H Z1 H ∧ StOk K T e1 σ H Z1 (Gh σ G hs) ∧ HidOk K fx σ Z1 H G hs ∧ HV K Z1 (Gh σ G hs) H v d ∧ (hs = [] ∨ ∃ i sv, hs = [(i, sv)]) := by
    intro o x q
    cases q1 : fzO o e with
    | none => rw [q1] at q; cases q
    | some r =>
      obtain ⟨d', e'⟩ := r
      rw [q1] at q
      cases q
      obtain ⟨Z1, l, s1, en⟩ := fz_ok x q1
      exact ⟨Z1, l, s1, trivial, .inl en, .inl rfl⟩
  cases o with
  | im d' => exact frz x q
  | tl d' => exact frz x q
  | td d' => exact frz x q
  | bor i =>
    simp only [hideO] at q
    split at q
    · rename_i hi
      have hi : i ∈ fx := by simpa using hi
      have hv : σ[i]? = some (some v) := x.ok
      split at q
      · rename_i xs qg
        cases q
        obtain ⟨v', h1, a, vs, rfl, h3, es, nz, ng⟩ := x.st0.sl i _ qg
        rw [hv] at h1; cases h1
        have s1 := x.st0.toFrame qg rfl hv
        have eg : (fun b => G b ∨ σ[i]? = some (some (.ref b))) = fun b => G b ∨ b = a := by
          funext b
          rw [hv]
          apply propext
          constructor
          · rintro (h | h)
            · exact .inl h
            · cases h; exact .inr rfl
          · rintro (h | h)
            · exact .inl h
            · subst h; exact .inr rfl
        refine ⟨Z, Le.refl, ?_, ⟨⟨a, vs, xs, hi, rfl, hv, h3, es, ng⟩, trivial⟩, .inr ⟨a, vs, xs, rfl, rfl, .inr hv, h3, es⟩, .inr ⟨_, _, rfl⟩⟩
        show StOk K T _ σ H Z (fun b => G b ∨ σ[i]? = some (some (.ref b)))
        rw [eg]
        exact s1
      · rename_i d' qg
        cases q
        obtain ⟨v', h1, h2⟩ := x.st0.sl i _ qg
        rw [hv] at h1; cases h1
        exact ⟨Z, Le.refl, x.st0, trivial, .inl h2, .inl rfl⟩
      · cases q
    · exact frz x q
theorem Gh_append : ∀ {hs r : List (Nat × Sv)} {G : Addr → Prop}, Gh σ G (hs ++ r) = Gh σ (Gh σ G hs) r
  | [], _, _ => rfl
  | (i, _) :: hs, r, G => Gh_append (hs := hs)
theorem HidOk.append : ∀ {hs r : List (Nat × Sv)} {G : Addr → Prop}, HidOk K fx σ Z H G hs → HidOk K fx σ Z H (Gh σ G hs) r → HidOk K fx σ Z H G (hs ++ r)
  | [], _, _, _, h => h
  | (i, _) :: hs, r, G, ⟨h1, h2⟩, h => ⟨h1, h2.append h⟩
theorem rd_inil {Q : List V → Hp → Prop} (h : RdAI K T mg fx [] W σ H Q) : tNil σ H Q := by
  obtain ⟨e, Z, G, s, h⟩ := h
  exact h.ret [] s trivial .nil
theorem rd_icons {Q : List V → Hp → Prop} (h : RdAI K T mg fx (m :: ms) W σ H Q) : tCons (RdE K T mg m W) (RdAI K T mg fx ms W) σ H Q := by
  obtain ⟨e, Z, G, s, h⟩ := h
  refine ⟨e, Z, G, s, (h.bind fun _ z => z).imp fun o e1 Z1 H1 l k h v x => ?_⟩
  cases q1 : hideO fx o e1 with
  | none => rw [q1] at h; exact h.elim
  | some p =>
    obtain ⟨d, hs, e2⟩ := p
    rw [q1] at h
    obtain ⟨Z2, l2, s2, hk, hv, _⟩ := hide_ok x q1
    have h := PostC.trans l2 KeepG.refl h
    refine ⟨e2, Z2, Gh σ G hs, s2, (h.bind fun _ z => Gh.in z).imp fun p e3 Z3 H3 l3 k3 h vs s3 hk3 hvs => ?_⟩
    have k3' : KeepG (Gh σ G hs) H1 H3 := k3
    refine h.ret (v :: vs) (by rw [Gh_append]; exact s3) ((hk.mono l3 k3).append hk3) ?_
    refine .cons (hv.mono l3 k3 fun a g => ?_) ?_
    · show Gh σ G (hs ++ p.2) a
      rw [Gh_append]
      exact Gh.in g
    · show HVs K Z3 (Gh σ G (hs ++ p.2)) H3 vs p.1
      rw [Gh_append]
      exact hvs
end

/-- an iterator that gives the items -/
structure Feeds (K : PySem.W.Frag) (Z : Addr → Prop) (H : Hp) (G : Addr → Prop) (J : It) (items : List D) : Prop where
  go : ∀ i Z1 H1, i < items.length → Le Z H Z1 H1 → KeepG G H H1 → J.go i H1
  stop : ∀ Z1 H1, Le Z H Z1 H1 → KeepG G H H1 → J.stop items.length H1
  yld : ∀ i Z1 H1 x H2, i < items.length → Le Z H Z1 H1 → KeepG G H H1 → (∀ a, Z1 a → H1 a ≠ none) → J.yld i H1 x H2 → Same H1 H2 ∧ ∃ d, items[i]? = some d ∧ EncD K Z1 H2 x d
def RdI (K : PySem.W.Frag) (T : LT) (mg : Str → Option Value) (fx : List Nat) (mi : MI) (W : WX) : TI := fun σ H R => ∃ e Z G, StOk K T e σ H Z G ∧
  PostC K T mg W σ Z G H (fun m e' Z' H' => ∀ J, StOk K T e' σ H' Z' (Gh σ G m.hid) → HidOk K fx σ Z' H' G m.hid → Feeds K Z' H' (Gh σ G m.hid) J m.items → R J H') (mi e)
section
variable {K : PySem.W.Frag} {Z G : Addr → Prop} {H : Hp}
/-- the items of a list that is walked, at a turn -/
theorem HV.list {v : V} {xs : List D} (h : HV K Z G H v (.list xs)) : ∃ a vs, v = .ref a ∧ H a = some (.lst vs) ∧ EncDs K Z H vs xs ∧ ∀ Z1 H1, Le Z H Z1 H1 → KeepG G H H1 → H1 a = some (.lst vs) ∧ EncDs K Z1 H1 vs xs := by
  rcases h with h | ⟨a, vs, ys, e1, e2, e3, e4, e5⟩
  · cases h with
    | lst z h hs => exact ⟨_, _, rfl, h, hs, fun Z1 H1 l k => ⟨by rw [l.keep _ z]; exact h, hs.mono l⟩⟩
  · cases e2
    exact ⟨a, vs, e1, e4, e5, fun Z1 H1 l k => ⟨by rw [k a e3]; exact e4, e5.mono l⟩⟩
theorem HV.tuple {v : V} {xs : List D} (h : HV K Z G H v (.tuple xs)) : ∃ a vs, v = .ref a ∧ SqT K H a vs ∧ EncDs K Z H vs xs := by
  rcases h with h | ⟨a, vs, ys, e1, e2, e3, e4, e5⟩
  · cases h with
    | tup h hs => exact ⟨_, _, rfl, h, hs⟩
  · cases e2
theorem lt_get {α : Type} {xs : List α} {i : Nat} (h : i < xs.length) : xs[i]? = some xs[i] := by simp [h]
theorem feeds_list {a : Addr} {vs : List V} {xs : List D} (h : ∀ Z1 H1, Le Z H Z1 H1 → KeepG G H H1 → H1 a = some (.lst vs) ∧ EncDs K Z1 H1 vs xs) : Feeds K Z H G (Itl K a) xs := by
  have w := walk_list (K := K) (a := a) (xs := vs)
  have hl : vs.length = xs.length := (h Z H Le.refl KeepG.refl).2.length
  refine ⟨fun i Z1 H1 hi l k => w.goes i H1 (by omega) (SqL.of (h Z1 H1 l k).1), fun Z1 H1 l k => hl ▸ w.stops H1 (SqL.of (h Z1 H1 l k).1), fun i Z1 H1 x H2 hi l k zs y => ?_⟩
  obtain ⟨e, hx⟩ := w.yields i H1 x H2 (by omega) (SqL.of (h Z1 H1 l k).1) y
  subst e
  refine ⟨Same.refl _, _, lt_get hi, ?_⟩
  obtain ⟨u, h1, h2⟩ := (h Z1 H2 l k).2.get (lt_get hi)
  rw [hx] at h1; cases h1
  exact h2
theorem feeds_tup {a : Addr} {vs : List V} {xs : List D} (h : SqT K H a vs) (es : EncDs K Z H vs xs) : Feeds K Z H G (Itt K a) xs := by
  have w := walk_tup (K := K) (a := a) (xs := vs)
  have hl : vs.length = xs.length := es.length
  refine ⟨fun i Z1 H1 hi l k => w.goes i H1 (by omega) (SqT.mono' l h), fun Z1 H1 l k => hl ▸ w.stops H1 (SqT.mono' l h), fun i Z1 H1 x H2 hi l k zs y => ?_⟩
  obtain ⟨e, hx⟩ := w.yields i H1 x H2 (by omega) (SqT.mono' l h) y
  subst e
  refine ⟨Same.refl _, _, lt_get hi, ?_⟩
  obtain ⟨u, h1, h2⟩ := (es.mono l).get (lt_get hi)
  rw [hx] at h1; cases h1
  exact h2
theorem rangeI_get : ∀ {n : Nat} {lo : Int} {i : Nat}, i < n → (rangeI lo n)[i]? = some (.int (lo + i))
  | n + 1, lo, 0, _ => by simp [rangeI]
  | n + 1, lo, i + 1, h => by
    have := rangeI_get (n := n) (lo := lo + 1) (i := i) (by omega)
    simp only [rangeI, List.getElem?_cons_succ, this, Option.some.injEq, PyData.int.injEq]
    omega
theorem rangeI_length : ∀ {n : Nat} {lo : Int}, (rangeI lo n).length = n
  | 0, _ => rfl
  | n + 1, lo => by simp [rangeI, rangeI_length]
theorem feeds_range {lo : Int} {n : Nat} : Feeds K Z H G (Itr lo n) (rangeI lo n) := by
  have w := walk_range (lo := lo) (n := n)
  refine ⟨fun i Z1 H1 hi l k => w.goes i H1 (by rw [rangeI_length] at hi; exact hi) trivial, fun Z1 H1 l k => by rw [rangeI_length]; exact w.stops H1 trivial, fun i Z1 H1 x H2 hi l k zs y => ?_⟩
  rw [rangeI_length] at hi
  obtain ⟨e, hx⟩ := w.yields i H1 x H2 hi trivial y
  subst e hx
  exact ⟨Same.refl _, _, rangeI_get hi, .int _⟩
/-- pairs, made anew -/
theorem feeds_pair {J : It} {Gd : Hp → Prop} {X Y : Nat → Option V} {items : List D} (w : Walk J items.length Gd (YPair X Y)) (hG : ∀ Z1 H1, Le Z H Z1 H1 → KeepG G H H1 → Gd H1)
    (hi : ∀ i Z1 H1 x y, i < items.length → Le Z H Z1 H1 → KeepG G H H1 → X i = some x → Y i = some y → ∃ d d', items[i]? = some (.tuple [d, d']) ∧ EncD K Z1 H1 x d ∧ EncD K Z1 H1 y d') : Feeds K Z H G J items := by
  refine ⟨fun i Z1 H1 hi l k => w.goes i H1 hi (hG Z1 H1 l k), fun Z1 H1 l k => w.stops H1 (hG Z1 H1 l k), fun i Z1 H1 x0 H2 hi' l k zs y0 => ?_⟩
  obtain ⟨T, x, y, rfl, nT, rfl, hx, hy⟩ := w.yields i H1 x0 H2 hi' (hG Z1 H1 l k) y0
  obtain ⟨d, d', e, h1, h2⟩ := hi i Z1 H1 x y hi' l k hx hy
  have sm : Same H1 (upd H1 T (.tup [x, y])) := same_new nT
  exact ⟨sm, _, e, .tup (.inl (.inl upd_same)) (.cons (h1.mono (Same.le sm zs)) (.cons (h2.mono (Same.le sm zs)) .nil))⟩
theorem enumI_length : ∀ {xs : List D} {i : Int}, (enumI i xs).length = xs.length
  | [], _ => rfl
  | _ :: _, i => by simp [enumI, enumI_length]
theorem enumI_get : ∀ {xs : List D} {j : Int} {i : Nat} {d : D}, xs[i]? = some d → (enumI j xs)[i]? = some (.tuple [.int (j + i), d])
  | [], _, _, _, h => by simp at h
  | x :: xs, j, 0, d, h => by simp at h; subst h; simp [enumI]
  | x :: xs, j, i + 1, d, h => by
    have := enumI_get (xs := xs) (j := j + 1) (i := i) (by simpa using h)
    simp only [enumI, List.getElem?_cons_succ, this, Option.some.injEq, PyData.tuple.injEq, List.cons.injEq, PyData.int.injEq, and_true]
    omega
theorem zipI_length : ∀ {xs ys : List D}, (zipI xs ys).length = min xs.length ys.length
  | [], _ => by simp [zipI]
  | _ :: _, [] => by simp [zipI]
  | _ :: xs, _ :: ys => by simp only [zipI, List.length_cons, zipI_length]; omega
theorem zipI_get : ∀ {xs ys : List D} {i : Nat} {d d' : D}, xs[i]? = some d → ys[i]? = some d' → (zipI xs ys)[i]? = some (.tuple [d, d'])
  | [], _, _, _, _, h, _ => by simp at h
  | _ :: _, [], _, _, _, _, h => by simp at h
  | x :: xs, y :: ys, 0, d, d', h, h' => by simp at h h'; subst h h'; simp [zipI]
  | x :: xs, y :: ys, i + 1, d, d', h, h' => by
    have := zipI_get (xs := xs) (ys := ys) (i := i) (by simpa using h) (by simpa using h')
    simpa [zipI] using this
theorem feeds_enum {a : Addr} {vs : List V} {xs : List D} (h : ∀ Z1 H1, Le Z H Z1 H1 → KeepG G H H1 → H1 a = some (.lst vs) ∧ EncDs K Z1 H1 vs xs) : Feeds K Z H G (Ite K a) (enumI 0 xs) := by
  have hl : vs.length = xs.length := (h Z H Le.refl KeepG.refl).2.length
  have w := walk_enum (K := K) (a := a) (xs := vs)
  rw [hl, ← enumI_length (i := 0)] at w
  refine feeds_pair w (fun Z1 H1 l k => SqL.of (h Z1 H1 l k).1) fun i Z1 H1 x y hi l k hx hy => ?_
  rw [enumI_length] at hi
  cases hx
  obtain ⟨u, h1, h2⟩ := (h Z1 H1 l k).2.get (lt_get hi)
  rw [hy] at h1; cases h1
  refine ⟨_, _, ?_, .int _, h2⟩
  have := enumI_get (j := 0) (lt_get hi)
  rw [this]
  congr 4
  omega
theorem feeds_enumT {a : Addr} {vs : List V} {xs : List D} (h : SqT K H a vs) (es : EncDs K Z H vs xs) : Feeds K Z H G (IteT K a) (enumI 0 xs) := by
  have hl : vs.length = xs.length := es.length
  have w := walk_enumT (K := K) (a := a) (xs := vs)
  rw [hl, ← enumI_length (i := 0)] at w
  refine feeds_pair w (fun Z1 H1 l k => SqT.mono' l h) fun i Z1 H1 x y hi l k hx hy => ?_
  rw [enumI_length] at hi
  cases hx
  obtain ⟨u, h1, h2⟩ := (es.mono l).get (lt_get hi)
  rw [hy] at h1; cases h1
  refine ⟨_, _, ?_, .int _, h2⟩
  have := enumI_get (j := 0) (lt_get hi)
  rw [this]
  congr 4
  omega
theorem feeds_zipL {a b : Addr} {vs ws : List V} {xs ys : List D} (h : ∀ Z1 H1, Le Z H Z1 H1 → KeepG G H H1 → H1 a = some (.lst vs) ∧ EncDs K Z1 H1 vs xs) (h' : ∀ Z1 H1, Le Z H Z1 H1 → KeepG G H H1 → H1 b = some (.lst ws) ∧ EncDs K Z1 H1 ws ys) : Feeds K Z H G (Itz K a b) (zipI xs ys) := by
  have hl : vs.length = xs.length := (h Z H Le.refl KeepG.refl).2.length
  have hl' : ws.length = ys.length := (h' Z H Le.refl KeepG.refl).2.length
  have w := walk_zip (K := K) (a := a) (b := b) (xs := vs) (ys := ws) (n := (zipI xs ys).length) (by rw [zipI_length, hl, hl'])
  refine feeds_pair w (fun Z1 H1 l k => ⟨SqL.of (h Z1 H1 l k).1, SqL.of (h' Z1 H1 l k).1⟩) fun i Z1 H1 x y hi l k hx hy => ?_
  rw [zipI_length] at hi
  obtain ⟨u, h1, h2⟩ := (h Z1 H1 l k).2.get (lt_get (show i < xs.length by omega))
  rw [hx] at h1; cases h1
  obtain ⟨u', h1', h2'⟩ := (h' Z1 H1 l k).2.get (lt_get (show i < ys.length by omega))
  rw [hy] at h1'; cases h1'
  exact ⟨_, _, zipI_get (lt_get (by omega)) (lt_get (by omega)), h2, h2'⟩
theorem walk_zipT {a b : Addr} {xs ys : List V} {n : Nat} (hn : n = min xs.length ys.length) : Walk (RZ.ItzT K a b) n (fun H => SqT K H a xs ∧ SqT K H b ys) (YPair (fun i => xs[i]?) (fun i => ys[i]?)) := by
  subst hn
  refine ⟨fun i _ hi q => ?_, fun _ q => ⟨xs, ys, q.1, q.2, by omega⟩, fun i H v H' _ q y => ?_⟩
  · have h1 : i < xs.length := by omega
    have h2 : i < ys.length := by omega
    exact ⟨xs, ys, xs[i], ys[i], q.1, q.2, by simp [h1], by simp [h2]⟩
  · obtain ⟨T, x, z, h1, h2, h3, h4, h5⟩ := y
    exact ⟨T, x, z, h1, h2, h3, h4 xs q.1, h5 ys q.2⟩
theorem feeds_zipT {a b : Addr} {vs ws : List V} {xs ys : List D} (h : SqT K H a vs) (es : EncDs K Z H vs xs) (h' : SqT K H b ws) (es' : EncDs K Z H ws ys) : Feeds K Z H G (RZ.ItzT K a b) (zipI xs ys) := by
  have hl : vs.length = xs.length := es.length
  have hl' : ws.length = ys.length := es'.length
  have w := walk_zipT (K := K) (a := a) (b := b) (xs := vs) (ys := ws) (n := (zipI xs ys).length) (by rw [zipI_length, hl, hl'])
  refine feeds_pair w (fun Z1 H1 l k => ⟨SqT.mono' l h, SqT.mono' l h'⟩) fun i Z1 H1 x y hi l k hx hy => ?_
  rw [zipI_length] at hi
  obtain ⟨u, h1, h2⟩ := (es.mono l).get (lt_get (show i < xs.length by omega))
  rw [hx] at h1; cases h1
  obtain ⟨u', h1', h2'⟩ := (es'.mono l).get (lt_get (show i < ys.length by omega))
  rw [hy] at h1'; cases h1'
  exact ⟨_, _, zipI_get (lt_get (by omega)) (lt_get (by omega)), h2, h2'⟩
end
section
variable {K : PySem.W.Frag} {mg : Str → Option Value} {W : WX} {m : ME} {ms : List ME} {σ : L2.St} {H : Hp} {fx : List Nat}
theorem HVs.one {Z G : Addr → Prop} {vs : List V} {d : D} (h : HVs K Z G H vs [d]) : ∃ v, vs = [v] ∧ HV K Z G H v d := by
  cases h with
  | cons h t => cases t; exact ⟨_, rfl, h⟩
theorem HVs.two {Z G : Addr → Prop} {vs : List V} {d d' : D} (h : HVs K Z G H vs [d, d']) : ∃ v v', vs = [v, v'] ∧ HV K Z G H v d ∧ HV K Z G H v' d' := by
  cases h with
  | cons h t => cases t with
    | cons h' t => cases t; exact ⟨_, _, rfl, h, h'⟩
theorem HV.int {Z G : Addr → Prop} {v : V} {i : Int} (h : HV K Z G H v (.int i)) : v = .int i := by
  rcases h with h | ⟨a, vs, ys, e1, e2, _⟩
  · cases h; rfl
  · cases e2
theorem HVs.inv {Z G : Addr → Prop} {vs : List V} {ds : List D} {n : Nat} (h : HVs K Z G H vs ds) : vs.length = ds.length := by
  induction h with
  | nil => rfl
  | cons _ _ ih => simp [ih]
/-- from the arguments -/
theorem rd_it {f : List D → Option (List D)} {R : It → Hp → Prop} (h : RdI K T mg fx (itE fx f ms) W σ H R) :
    RdAI K T mg fx ms W σ H fun vs H1 => ∃ Z G ds xs, f ds = some xs ∧ HVs K Z G H1 vs ds ∧ ∀ J, Feeds K Z H1 G J xs → R J H1 := by
  obtain ⟨e, Z, G, s, h⟩ := h
  refine ⟨e, Z, G, s, (h.bind fun _ z => z).imp fun p e1 Z1 H1 l k h vs s1 hk hv => ?_⟩
  cases q1 : f p.1 with
  | none => rw [q1] at h; exact h.elim
  | some xs =>
    rw [q1] at h
    exact ⟨Z1, _, p.1, xs, q1, hv, fun J fd => PostC.ret h J s1 hk fd⟩
theorem RdAI.mono {Q Q' : List V → Hp → Prop} (h : RdAI K T mg fx ms W σ H Q) (f : ∀ vs H1, Q vs H1 → Q' vs H1) : RdAI K T mg fx ms W σ H Q' := by
  obtain ⟨e, Z, G, s, h⟩ := h
  exact ⟨e, Z, G, s, h.imp fun p e1 Z1 H1 l k h vs s1 hk hv => f vs H1 (h vs s1 hk hv)⟩
theorem rng_b {i : Int} (h : rngB i = true) : -(2 ^ 62) ≤ i ∧ i < 2 ^ 62 := by
  unfold rngB at h
  rw [Bool.and_eq_true] at h
  exact ⟨of_decide_eq_true h.1, of_decide_eq_true h.2⟩
theorem rd_range1 {R : It → Hp → Prop} (h : RdI K T mg fx (itE fx rangeF1 ms) W σ H R) : iRng1 (RdAI K T mg fx ms W) σ H R := by
  refine (rd_it h).mono fun vs H1 ⟨Z, G, ds, xs, hf, hv, q⟩ => ?_
  unfold rangeF1 at hf
  split at hf
  · rename_i n
    split at hf
    · rename_i hb
      cases hf
      obtain ⟨v, rfl, h1⟩ := hv.one
      exact ⟨n, by rw [h1.int], (rng_b hb).1, (rng_b hb).2, q _ feeds_range⟩
    · cases hf
  · cases hf
theorem rd_range2 {R : It → Hp → Prop} (h : RdI K T mg fx (itE fx rangeF2 ms) W σ H R) : iRng2 (RdAI K T mg fx ms W) σ H R := by
  refine (rd_it h).mono fun vs H1 ⟨Z, G, ds, xs, hf, hv, q⟩ => ?_
  unfold rangeF2 at hf
  split at hf
  · rename_i i j
    split at hf
    · rename_i hb
      rw [Bool.and_eq_true] at hb
      cases hf
      obtain ⟨v, v', rfl, h1, h2⟩ := hv.two
      exact ⟨i, j, by rw [h1.int, h2.int], ⟨(rng_b hb.1).1, (rng_b hb.1).2, (rng_b hb.2).1, (rng_b hb.2).2⟩, q _ feeds_range⟩
    · cases hf
  · cases hf
theorem rd_zip {R : It → Hp → Prop} {ms : List ME} (h : RdI K T mg fx (itE fx zipF ms) W σ H R) : RZ.iZipA K (RdAI K T mg fx ms W) σ H R := by
  refine (rd_it h).mono fun vs H1 ⟨Z, G, ds, xs, hf, hv, q⟩ => ?_
  unfold zipF at hf
  split at hf
  · cases hf
    obtain ⟨v, v', rfl, h1, h2⟩ := hv.two
    obtain ⟨a, ws, rfl, h3, es, k1⟩ := h1.list
    obtain ⟨b, ws', rfl, h4, es', k2⟩ := h2.list
    exact ⟨a, b, ws, ws', rfl, .inl ⟨SqL.of h3, SqL.of h4, q _ (feeds_zipL k1 k2)⟩⟩
  · cases hf
    obtain ⟨v, v', rfl, h1, h2⟩ := hv.two
    obtain ⟨a, ws, rfl, h3, es⟩ := h1.tuple
    obtain ⟨b, ws', rfl, h4, es'⟩ := h2.tuple
    exact ⟨a, b, ws, ws', rfl, .inr ⟨h3, h4, q _ (feeds_zipT h3 es h4 es')⟩⟩
  · cases hf
theorem rd_enum {R : It → Hp → Prop} {ms : List ME} (h : RdI K T mg fx (itE fx enumF ms) W σ H R) : iEnumA K (RdAI K T mg fx ms W) σ H R := by
  refine (rd_it h).mono fun vs H1 ⟨Z, G, ds, xs, hf, hv, q⟩ => ?_
  unfold enumF at hf
  split at hf
  · cases hf
    obtain ⟨v, rfl, h1⟩ := hv.one
    obtain ⟨a, ws, rfl, h3, es, k1⟩ := h1.list
    exact ⟨a, ws, rfl, .inl ⟨SqL.of h3, q _ (feeds_enum k1)⟩⟩
  · cases hf
    obtain ⟨v, rfl, h1⟩ := hv.one
    obtain ⟨a, ws, rfl, h3, es⟩ := h1.tuple
    exact ⟨a, ws, rfl, .inr ⟨h3, q _ (feeds_enumT h3 es)⟩⟩
  · cases hf
/-- a list or a tuple -/
def iSeq (K : PySem.W.Frag) (ta : TA) : TI := fun σ H R => ta σ H fun vs H1 => ∃ a xs, vs = [.ref a] ∧ ((SqL K H1 a xs ∧ R (Itl K a) H1) ∨ (SqT K H1 a xs ∧ R (Itt K a) H1))
theorem rd_seq {R : It → Hp → Prop} {ms : List ME} (h : RdI K T mg fx (itE fx seqF ms) W σ H R) : iSeq K (RdAI K T mg fx ms W) σ H R := by
  refine (rd_it h).mono fun vs H1 ⟨Z, G, ds, xs, hf, hv, q⟩ => ?_
  unfold seqF at hf
  split at hf
  · rename_i p
    obtain ⟨v, rfl, h1⟩ := hv.one
    rcases seq_cases hf with rfl | rfl
    · obtain ⟨a, ws, rfl, h3, es, k1⟩ := h1.list
      exact ⟨a, ws, rfl, .inl ⟨SqL.of h3, q _ (feeds_list k1)⟩⟩
    · obtain ⟨a, ws, rfl, h3, es⟩ := h1.tuple
      exact ⟨a, ws, rfl, .inr ⟨h3, q _ (feeds_tup h3 es)⟩⟩
  · cases hf
end
section
variable {X : Cx} {tg : Expr}
theorem pi_seq {l : Expr} {tl : TE} (hl : PE X l tl) : PI X tg l (iSeq X.K (tCons tl tNil)) := by
  refine ⟨fun pins s σ H R I h => ?_⟩
  refine thn (hl.run pins s σ H _ I h) fun v s1 ⟨x, H1, I1, r1, q1⟩ => ?_
  obtain ⟨a, xs, e, q1⟩ := q1
  cases e
  cases r1
  rcases q1 with ⟨hq, q⟩ | ⟨hq, q⟩
  · obtain ⟨its, rv, p, hz⟩ := I1.list hq
    refine wpAny_pyIter_list p.isList ?_
    refine ⟨s1.heap.objs.size, [s1.heap.objs.size], _, _, H1, rfl, I1.kept (t' := s1.toks) fun b o e => Heap.get?_push_of_some _ e, turn_list a _, ⟨_, Heap.get?_push_size _ rfl, rfl, rfl⟩, fun b hb => ?_, q⟩
    have e : b = s1.heap.objs.size := by simpa using hb
    subst e
    exact I1.fpOk (Nat.le_refl _) (I1.hok.fresh (Nat.le_refl _))
  · obtain ⟨its, rv, p, hz⟩ := I1.tuple hq
    refine wpAny_pyIter_tuple (show s1.heap.IsTuple a its.toArray from p) ?_
    refine ⟨s1.heap.objs.size, [s1.heap.objs.size], _, _, H1, rfl, I1.kept (t' := s1.toks) fun b o e => Heap.get?_push_of_some _ e, turn_tuple a _, ⟨_, Heap.get?_push_size _ rfl, rfl, rfl⟩, fun b hb => ?_, q⟩
    have e : b = s1.heap.objs.size := by simpa using hb
    subst e
    exact I1.fpOk (Nat.le_refl _) (I1.hok.fresh (Nat.le_refl _))
end
end Ev
end
section
set_option maxHeartbeats 4000000
/-! EvS7: targets, comprehensions. -/
namespace Ev
open PySem PySem.Spec PyProof.Rows L2
variable {T : LT}

def OffEq (is : List Nat) (σ σ' : L2.St) : Prop := σ'.length = σ.length ∧ ∀ j, j ∉ is → σ'[j]? = σ[j]?
theorem OffEq.refl {is : List Nat} {σ : L2.St} : OffEq is σ σ := ⟨rfl, fun _ _ => rfl⟩
theorem OffEq.trans {is js : List Nat} {σ σ1 σ2 : L2.St} (a : OffEq is σ σ1) (b : OffEq js σ1 σ2) : OffEq (is ++ js) σ σ2 :=
  ⟨b.1.trans a.1, fun j h => by
    rw [List.mem_append, not_or] at h
    exact (b.2 j h.2).trans (a.2 j h.1)⟩
theorem get_wipe {σ : L2.St} : ∀ {is : List Nat} {j : Nat}, (wipe σ is)[j]? = if j ∈ is ∧ j < σ.length then some none else σ[j]?
  | [], j => by simp [wipe]
  | i :: is, j => by
    unfold wipe
    rw [List.getElem?_set, wipe_length]
    by_cases h : i = j
    · subst h
      by_cases hl : i < σ.length
      · simp [hl]
      · simp [hl]
    · rw [if_neg h, get_wipe]
      have : j ≠ i := Ne.symm h
      simp [this]
theorem OffEq.wipe {is : List Nat} {σ σ' : L2.St} (h : OffEq is σ σ') : wipe σ' is = wipe σ is := by
  apply List.ext_getElem?
  intro j
  rw [get_wipe, get_wipe, h.1]
  by_cases hj : j ∈ is
  · by_cases hl : j < σ.length
    · rw [if_pos ⟨hj, hl⟩, if_pos ⟨hj, hl⟩]
    · rw [if_neg (fun z => hl z.2), if_neg (fun z => hl z.2), List.getElem?_eq_none (by rw [h.1]; omega), List.getElem?_eq_none (by omega)]
  · rw [if_neg (fun z => hj z.1), if_neg (fun z => hj z.1), h.2 j hj]
theorem wipe_wipe {is : List Nat} {σ : L2.St} : wipe (wipe σ is) is = wipe σ is := by
  apply OffEq.wipe
  exact ⟨wipe_length _ _, fun j hj => by rw [get_wipe, if_neg (fun z => hj z.1)]⟩
theorem gt_wipeS {e : Sl} : ∀ {is : List Nat} {j : Nat} {sv : Sv}, gt (wipeS e is) j = some sv → j ∉ is ∧ gt e j = some sv
  | [], j, sv, h => ⟨by simp, h⟩
  | i :: is, j, sv, h => by
    rcases gt_pt h with ⟨_, z⟩ | ⟨hj, z⟩
    · cases z
    · obtain ⟨h1, h2⟩ := gt_wipeS z
      exact ⟨by simp only [List.mem_cons, not_or]; exact ⟨hj, h1⟩, h2⟩
theorem gt_restS {e0 e : Sl} : ∀ {is : List Nat} {j : Nat} {sv : Sv}, gt (restS e0 e is) j = some sv → (j ∈ is ∧ gt e0 j = some sv) ∨ (j ∉ is ∧ gt e j = some sv)
  | [], j, sv, h => .inr ⟨by simp, h⟩
  | i :: is, j, sv, h => by
    rcases gt_pt h with ⟨rfl, z⟩ | ⟨hj, z⟩
    · exact .inl ⟨by simp, z⟩
    · rcases gt_restS z with ⟨h1, h2⟩ | ⟨h1, h2⟩
      · exact .inl ⟨by simp [h1], h2⟩
      · exact .inr ⟨by simp only [List.mem_cons, not_or]; exact ⟨hj, h1⟩, h2⟩
section
variable {K : PySem.W.Frag} {e : Sl} {σ : L2.St} {H : Hp} {Z G : Addr → Prop}
theorem set_ne {i j : Nat} {v : Option V} (h : j ≠ i) : (σ.set i v)[j]? = σ[j]? := List.getElem?_set_ne (Ne.symm h)
/-- an unchanging value is stored -/
theorem StOk.set_im (s : StOk K T e σ H Z G) {i : Nat} {v : V} {d : D} (hi : i < σ.length) (h : EncD K Z H v d) : StOk K T (pt e i (some (.im d))) (σ.set i (some v)) H Z G := by
  refine ⟨s.tb, s.zs, s.gs, fun j sv q => ?_, fun j k sj sk w q1 q2 o1 o2 e1 e2 => ?_⟩
  · rcases gt_pt q with ⟨rfl, z⟩ | ⟨hj, z⟩
    · cases z; exact ⟨v, List.getElem?_set_self hi, h⟩
    · rw [set_ne hj]; exact s.sl j sv z
  · rcases gt_pt q1 with ⟨_, z⟩ | ⟨h1, z1⟩
    · cases z; cases o1
    · rcases gt_pt q2 with ⟨_, z⟩ | ⟨h2, z2⟩
      · cases z; cases o2
      · rw [set_ne h1] at e1
        rw [set_ne h2] at e2
        exact s.inj j k sj sk w z1 z2 o1 o2 e1 e2
/-- a new one is stored -/
theorem StOk.set_own {i : Nat} {a : Addr} {sv : Sv} (s : StOk K T e σ H Z (fun b => G b ∨ b = a)) (hi : i < σ.length) (ng : ¬ G a) (h : SvOk K T Z G H (.ref a) sv) : StOk K T (pt e i (some sv)) (σ.set i (some (.ref a))) H Z G := by
  have no : ∀ {j : Nat} {sj : Sv}, gt e j = some sj → sj.own = true → σ[j]? = some (some (V.ref a)) → False := fun {j sj} q o e => by
    obtain ⟨_, _, _, _, n⟩ := s.notOwn q o e
    exact n (.inr rfl)
  refine ⟨s.tb.less fun b z => .inl z, s.zs, fun b g => s.gs b (.inl g), fun j sj q => ?_, fun j k sj sk w q1 q2 o1 o2 e1 e2 => ?_⟩
  · rcases gt_pt q with ⟨rfl, z⟩ | ⟨hj, z⟩
    · cases z; exact ⟨_, List.getElem?_set_self hi, h⟩
    · rw [set_ne hj]
      obtain ⟨w, h1, h2⟩ := s.sl j sj z
      refine ⟨w, h1, h2.mono Le.refl fun o b eb => ?_⟩
      obtain ⟨b', _, eb', _, _, n1, n2⟩ := h2.addr o
      rw [eb] at eb'; cases eb'
      exact ⟨rfl, n1, fun g => n2 (.inl g)⟩
  · rcases gt_pt q1 with ⟨rfl, z1⟩ | ⟨h1, z1⟩
    · rw [List.getElem?_set_self hi] at e1; cases e1
      rcases gt_pt q2 with ⟨rfl, z2⟩ | ⟨h2, z2⟩
      · rfl
      · rw [set_ne h2] at e2
        exact (no z2 o2 e2).elim
    · rw [set_ne h1] at e1
      rcases gt_pt q2 with ⟨rfl, z2⟩ | ⟨h2, z2⟩
      · rw [List.getElem?_set_self hi] at e2; cases e2
        exact (no z1 o1 e1).elim
      · rw [set_ne h2] at e2
        exact s.inj j k sj sk w z1 z2 o1 o2 e1 e2
theorem StOk.wiped (s : StOk K T e σ H Z G) (is : List Nat) : StOk K T (wipeS e is) (wipe σ is) H Z G := by
  have at' : ∀ {j : Nat}, j ∉ is → (wipe σ is)[j]? = σ[j]? := fun h => by rw [get_wipe, if_neg (fun z => h z.1)]
  refine ⟨s.tb, s.zs, s.gs, fun j sv q => ?_, fun j k sj sk w q1 q2 o1 o2 e1 e2 => ?_⟩
  · obtain ⟨h1, h2⟩ := gt_wipeS q
    rw [at' h1]; exact s.sl j sv h2
  · obtain ⟨h1, z1⟩ := gt_wipeS q1
    obtain ⟨h2, z2⟩ := gt_wipeS q2
    rw [at' h1] at e1
    rw [at' h2] at e2
    exact s.inj j k sj sk w z1 z2 o1 o2 e1 e2
/-- behind the block -/
theorem StOk.rested {e0 : Sl} {Z0 G0 : Addr → Prop} {H0 : Hp} {is : List Nat} (s : StOk K T e (wipe σ is) H Z G) (s0 : StOk K T e0 σ H0 Z0 G0) (l : Le Z0 H0 Z H) (im : imOnly e0 is = true) : StOk K T (restS e0 e is) σ H Z G := by
  have at' : ∀ {j : Nat}, j ∉ is → (wipe σ is)[j]? = σ[j]? := fun h => by rw [get_wipe, if_neg (fun z => h z.1)]
  have imm : ∀ {j : Nat} {sv : Sv}, j ∈ is → gt e0 j = some sv → ∃ d, sv = .im d := fun {j sv} hj q => by
    unfold imOnly at im
    rw [List.all_eq_true] at im
    have := im j hj
    rw [q] at this
    cases sv with
    | im d => exact ⟨d, rfl⟩
    | ol d => cases this
    | od d => cases this
    | ex d => cases this
  refine ⟨s.tb, s.zs, s.gs, fun j sv q => ?_, fun j k sj sk w q1 q2 o1 o2 e1 e2 => ?_⟩
  · rcases gt_restS q with ⟨hj, z⟩ | ⟨hj, z⟩
    · obtain ⟨d, rfl⟩ := imm hj z
      obtain ⟨v, h1, h2⟩ := s0.sl j _ z
      exact ⟨v, h1, EncD.mono l h2⟩
    · rw [← at' hj]; exact s.sl j sv z
  · rcases gt_restS q1 with ⟨hj, z⟩ | ⟨h1, z1⟩
    · obtain ⟨d, rfl⟩ := imm hj z
      cases o1
    · rcases gt_restS q2 with ⟨hj, z⟩ | ⟨h2, z2⟩
      · obtain ⟨d, rfl⟩ := imm hj z
        cases o2
      · rw [← at' h1] at e1
        rw [← at' h2] at e2
        exact s.inj j k sj sk w z1 z2 o1 o2 e1 e2
/-- a kept object is written by the one who keeps it -/
theorem le_write {a : Addr} {u w : HO} (h : H a = some u) (mu : Md u) (nz : ¬ Z a) : Le Z H Z (upd H a w) :=
  ⟨fun _ h => h, fun b z => upd_ne (fun e => nz (e ▸ z)), fun b xs e => by
    rw [upd_ne (fun z => by subst z; rw [h] at e; cases e; exact mu)]; exact e, fun b o x e => by
    rw [upd_ne (fun z => by subst z; rw [h] at e; cases e; exact mu)]; exact e⟩
/-- a table stands where another thing is written -/
theorem TbOk.write {T : LT} {H : Hp} {Z G : Addr → Prop} (t : TbOk T H Z G) {a : Addr} {u : HO} {ws : List V} (h : H a = some u) (mu : Md u) : TbOk T (upd H a (.lst ws)) Z G := by
  have ne : ∀ {c o}, H c = some o → (Md o → False) → upd H a (.lst ws) c = some o := fun {c o} e n => by
    rw [upd_ne (fun z => by subst z; rw [h] at e; cases e; exact n mu)]; exact e
  refine ⟨fun p hp => ?_, fun b z ps e => ?_, fun b g => ?_⟩
  · obtain ⟨ps, h1, h2, h3⟩ := t.1 p hp
    refine ⟨ps, ne h1 fun m => m, h2, fun pos cv hc => ?_⟩
    obtain ⟨c, e1, e2⟩ := h3 pos cv hc
    exact ⟨c, e1, ne e2 fun m => m⟩
  · by_cases hb : b = a
    · subst hb; rw [upd_same] at e; cases e
    · rw [upd_ne hb] at e; exact t.2.1 b z ps e
  · by_cases hb : b = a
    · subst hb; exact ⟨_, upd_same, trivial⟩
    · rw [upd_ne hb]; exact t.2.2 b g
theorem StOk.write (s : StOk K T e σ H Z G) {a : Addr} {u : HO} {ws : List V} (h : H a = some u) (mu : Md u) (g : G a) : StOk K T e σ (upd H a (.lst ws)) Z G := by
  have l := le_write (w := .lst ws) h mu (s.gs a g).2
  have some : ∀ {b}, H b ≠ none → upd H a (.lst ws) b ≠ none := fun {b} hb => by
    by_cases e : b = a
    · subst e; rw [upd_same]; simp
    · rw [upd_ne e]; exact hb
  refine ⟨s.tb.write h mu, fun b z => some (s.zs b z), fun b g => ⟨some (s.gs b g).1, (s.gs b g).2⟩, fun j sv q => ?_, s.inj⟩
  obtain ⟨v, h1, h2⟩ := s.sl j sv q
  refine ⟨v, h1, h2.mono l fun o b eb => ?_⟩
  obtain ⟨b', _, eb', _, _, n1, n2⟩ := h2.addr o
  rw [eb] at eb'; cases eb'
  exact ⟨upd_ne (fun z => n2 (z ▸ g)), n1, n2⟩
end

/-! ### targets -/
def RdG (K : PySem.W.Frag) (T : LT) (fx : List Nat) (t : MT) (is : List Nat) : TG := fun x σ H R => ∃ d e Z G e', StOk K T e σ H Z G ∧ EncD K Z H x d ∧ t d e = some e' ∧ ∀ σ', OffEq is σ σ' → SameF fx σ σ' → StOk K T e' σ' H Z G → R σ' H
def RdGs (K : PySem.W.Frag) (T : LT) (fx : List Nat) (ts : List MT) (is : List Nat) : TGs := fun xs σ H R => ∃ ds e Z G e', StOk K T e σ H Z G ∧ EncDs K Z H xs ds ∧ tupT ts ds e = some e' ∧ ∀ σ', OffEq is σ σ' → SameF fx σ σ' → StOk K T e' σ' H Z G → R σ' H
theorem _root_.L2.PG.weakenL {X : Cx} {tg : Expr} {g g' : TG} (h : PG X tg g) (w : ∀ x σ H R, σ.length = X.N.length → g' x σ H R → g x σ H R) : PG X tg g' := ⟨fun pins s σ H v u Q I r q => h.run pins s σ H v u Q I r (w v σ H Q I.len q)⟩
theorem _root_.L2.PGs.weaken {X : Cx} {ts : List Expr} {g g' : TGs} (h : PGs X ts g) (w : ∀ x σ H R, g' x σ H R → g x σ H R) : PGs X ts g' := ⟨fun pins s σ H v u Q I r q => h.run pins s σ H v u Q I r (w v σ H Q q)⟩
theorem _root_.L2.PS.weakenL {X : Cx} {st : Stmt} {t t' : TS} (h : PS X st t) (w : ∀ D σ H, σ.length = X.N.length → t' D σ H → t D σ H) : PS X st t' := ⟨fun pins s σ H D I q => h.run pins s σ H D I (w D σ H I.len q)⟩
theorem SameF.set {fx : List Nat} {σ : L2.St} {i : Nat} {v : Option V} (h : i ∉ fx) : SameF fx σ (σ.set i v) := ⟨List.length_set, fun j hj => set_ne (fun e => h (e ▸ hj))⟩
theorem stS_some {fx : List Nat} {i : Nat} {v : Sv} {e e' : Sl} (h : stS fx i v e = some e') : i ∉ fx ∧ e' = pt e i (some v) := by
  unfold stS at h
  split at h
  · cases h
  · rename_i hf
    cases h
    exact ⟨by simpa using hf, rfl⟩
section
variable {X : Cx} {K : PySem.W.Frag} {fx : List Nat}
theorem rd_gname {i : Nat} {x : V} {σ : L2.St} {H : Hp} {R : L2.St → Hp → Prop} (hi : i < σ.length) (h : RdG K T fx (nameT fx i) [i] x σ H R) : gName i x σ H R := by
  obtain ⟨d, e, Z, G, e', s, en, q, k⟩ := h
  obtain ⟨hf, rfl⟩ := stS_some q
  exact k _ ⟨List.length_set, fun j hj => set_ne (by simpa using hj)⟩ (SameF.set hf) (s.set_im hi en)
theorem rd_gnil {xs : List V} {σ : L2.St} {H : Hp} {R : L2.St → Hp → Prop} (h : RdGs K T fx [] [] xs σ H R) : gNil xs σ H R := by
  obtain ⟨ds, e, Z, G, e', s, en, q, k⟩ := h
  cases ds with
  | nil =>
    cases en
    cases q
    exact ⟨rfl, k _ OffEq.refl SameF.refl s⟩
  | cons d ds => cases q
theorem rd_gcons {t : MT} {ts : List MT} {is js : List Nat} {xs : List V} {σ : L2.St} {H : Hp} {R : L2.St → Hp → Prop} (h : RdGs K T fx (t :: ts) (is ++ js) xs σ H R) : gCons (RdG K T fx t is) (RdGs K T fx ts js) xs σ H R := by
  obtain ⟨ds, e, Z, G, e', s, en, q, k⟩ := h
  cases ds with
  | nil => cases q
  | cons d ds =>
    cases en with
    | cons en ens =>
      simp only [tupT] at q
      split at q
      · rename_i e1 q1
        exact ⟨_, _, rfl, d, e, Z, G, e1, s, en, q1, fun σ' o1 f1 s1 => ⟨ds, e1, Z, G, e', s1, ens, q, fun σ2 o2 f2 s2 => k σ2 (o1.trans o2) (f1.trans f2) s2⟩⟩
      · cases q
theorem tupT_len : ∀ {ts : List MT} {ds : List D} {e e' : Sl}, tupT ts ds e = some e' → ds.length = ts.length
  | [], [], _, _, _ => rfl
  | t :: ts, d :: ds, e, e', h => by
    simp only [tupT] at h
    split at h
    · exact congrArg (· + 1) (tupT_len h)
    · cases h
  | [], _ :: _, _, _, h => by cases h
  | _ :: _, [], _, _, h => by cases h
theorem rd_gtup {ts : List MT} {is : List Nat} {x : V} {σ : L2.St} {H : Hp} {R : L2.St → Hp → Prop} (h : RdG K T fx (unpT ts) is x σ H R) : gTup K ts.length (RdGs K T fx ts is) x σ H R := by
  obtain ⟨d, e, Z, G, e', s, en, q, k⟩ := h
  unfold unpT at q
  split at q
  · rename_i ds
    cases en with
    | tup h hs => exact ⟨_, _, rfl, h, by rw [hs.length]; exact tupT_len q, ds, e, Z, G, e', s, hs, q, k⟩
  · cases q
end

/-! ### comprehensions -/
def WF : WX := fun _ _ _ _ => False
section
variable {K : PySem.W.Frag} {mg : Str → Option Value} {W : WX} {fx : List Nat}
theorem PostC.noer {α β : Type} {σ σ' : L2.St} {Z G G1 : Addr → Prop} {H : Hp} {C : β → Sl → (Addr → Prop) → Hp → Prop} {r : Res α} {f : α → Sl → Res β} (hG : ∀ a, G a → G1 a) (h : PostC K T mg W σ Z G H C ((Ev.noer r).bind f)) :
    PostC K T mg WF σ' Z G1 H (fun a e1 Z1 H1 => PostC K T mg W σ Z1 G H1 C (f a e1)) r := by
  cases r with
  | ok a e => exact fun H' Z' l' k' => PostC.trans l' (k'.less hG) h
  | er x e => exact h.elim
  | bad => exact h.elim
theorem Gh_or {σ : L2.St} {P : Addr → Prop} : ∀ {hid : List (Nat × Sv)} {G : Addr → Prop}, Gh σ (fun a => G a ∨ P a) hid = fun a => Gh σ G hid a ∨ P a
  | [], _ => rfl
  | (i, _) :: r, G => by
    show Gh σ (fun b => (G b ∨ P b) ∨ σ[i]? = some (some (.ref b))) r = _
    have : (fun b => (G b ∨ P b) ∨ σ[i]? = some (some (.ref b))) = fun b => (G b ∨ σ[i]? = some (some (.ref b))) ∨ P b := by
      funext b
      apply propext
      constructor
      · rintro ((h | h) | h)
        · exact .inl (.inl h)
        · exact .inr h
        · exact .inl (.inr h)
      · rintro ((h | h) | h)
        · exact .inl (.inl h)
        · exact .inr h
        · exact .inl (.inr h)
    rw [this, Gh_or]
    rfl
theorem HidOk.or {σ : L2.St} {Z P : Addr → Prop} {H : Hp} : ∀ {hid : List (Nat × Sv)} {G : Addr → Prop}, HidOk K fx σ Z H G hid → (∀ a, Gh σ G hid a → ¬ P a) → HidOk K fx σ Z H (fun a => G a ∨ P a) hid
  | [], _, _, _ => trivial
  | (i, sv) :: r, G, ⟨⟨a, vs, xs, hi, e1, e2, e3, e4, e5⟩, h⟩, k => by
    refine ⟨⟨a, vs, xs, hi, e1, e2, e3, e4, fun z => z.elim e5 fun z => k a (Gh.in (hid := r) (.inr e2)) z⟩, ?_⟩
    have := HidOk.or h k
    have e : (fun b => (G b ∨ P b) ∨ σ[i]? = some (some (.ref b))) = fun b => (G b ∨ σ[i]? = some (some (.ref b))) ∨ P b := by
      funext b
      apply propext
      constructor
      · rintro ((h | h) | h)
        · exact .inl (.inl h)
        · exact .inr h
        · exact .inl (.inr h)
      · rintro ((h | h) | h)
        · exact .inl (.inl h)
        · exact .inr h
        · exact .inl (.inr h)
    rw [e]
    exact this
theorem rd_comp {is : List Nat} {it : MI} {tg : MT} {cond elt : ME} {σ : L2.St} {H : Hp} {Q : VK} (h : RdE K T mg (compE is it tg cond elt) W σ H Q) :
    tLc (RdI K T mg fx it W) (RdG K T fx tg is) (RdT K T mg cond WF) (RdE K T mg elt WF) is σ H Q := by
  obtain ⟨e, Z, G, s, h⟩ := h
  refine ⟨e, Z, G, s, (h.bind fun _ z => z).imp fun m e1 Z1 H1 l k h J s1 hk fd => ?_⟩
  split at h
  case isFalse => exact h.elim
  rename_i im
  intro Dn hD
  have nG : ∀ a, Gh σ G m.hid a → a ≠ Dn := fun a g z => (s1.gs a g).1 (z ▸ hD)
  have nZ : ¬ Z1 Dn := fun z => s1.zs Dn z hD
  -- at each turn
  let GD : Addr → Prop := fun a => Gh σ G m.hid a ∨ a = Dn
  let Pv : Nat → Hp → Prop := fun i H' => ∃ (e' : Sl) (Z' : Addr → Prop) (acc : List D) (vs : List V), StOk K T e' (wipe σ is) H' Z' GD ∧ Le Z1 H1 Z' H' ∧ KeepG (Gh σ G m.hid) H1 H' ∧ H' Dn = some (.lst vs) ∧ EncDs K Z' H' vs acc ∧
    PostC K T mg W σ Z' G H' (CE' K T σ G Q) ((compL is tg cond elt (m.items.drop i) acc e').bind fun acc e2 => .ok (.tl acc) (unhS m.hid (restS e1 e2 is)))
  have hid0 : Le Z1 H1 Z1 (upd H1 Dn (.lst [])) := Same.le (same_new hD) s1.zs
  have keep0 : KeepG (Gh σ G m.hid) H1 (upd H1 Dn (.lst [])) := fun a g => upd_ne (nG a g)
  have p0 : Pv 0 (upd H1 Dn (.lst [])) := by
    refine ⟨wipeS e1 is, Z1, [], [], ?_, hid0, keep0, upd_same, .nil, ?_⟩
    · have s2 : StOk K T e1 σ (upd H1 Dn (.lst [])) Z1 GD := by
        have s3 := s1.same (same_new (o := .lst []) hD)
        refine ⟨⟨s3.tb.1, s3.tb.2.1, fun a z => ?_⟩, s3.zs, fun a g => ?_, fun j sv q => ?_, s3.inj⟩
        · rcases z with z | rfl
          · exact s3.tb.2.2 a z
          · exact ⟨_, upd_same, trivial⟩
        · rcases g with g | rfl
          · exact s3.gs a g
          · exact ⟨by rw [upd_same]; simp, nZ⟩
        · obtain ⟨v, h1, h2⟩ := s3.sl j sv q
          refine ⟨v, h1, h2.mono Le.refl fun o a ea => ?_⟩
          subst ea
          obtain ⟨u, h3, _, n1, n2⟩ := s1.notOwn q o h1
          exact ⟨rfl, n1, fun z => z.elim n2 fun z => by rw [z, hD] at h3; cases h3⟩
      exact s2.wiped is
    · exact PostC.trans hid0 (keep0.less fun a g => Gh.in g) h
  refine ⟨fun i mm H' => mm = m.items.length - i ∧ i ≤ m.items.length ∧ Pv i H', ⟨_, rfl, Nat.zero_le _, p0⟩, ?_⟩
  rintro i mm H' ⟨rfl, hi, e', Z', acc, vs, st, l', k', hDn, es, h⟩
  by_cases hlt : i < m.items.length
  case neg =>
    have e0 : i = m.items.length := by omega
    subst e0
    refine .inl ⟨fd.stop Z' H' l' k', ?_⟩
    rw [List.drop_length] at h
    refine PostC.ret h (.ref Dn) ⟨?_, ⟨Dn, vs, rfl, hDn, es⟩, fun a ea g => ?_⟩
    · have s2 := st.rested s1 l' im
      have hk2 := (hk.mono l' k').or (P := fun a => a = Dn) nG
      have e2 : GD = Gh σ (fun a => G a ∨ a = Dn) m.hid := Gh_or.symm
      rw [e2] at s2
      have s3 := unh_ok s2 hk2
      have e3 : Gx G (.ref Dn) (.tl acc) = fun a => G a ∨ a = Dn := by
        funext b
        unfold Gx
        apply propext
        constructor
        · rintro (h | h)
          · exact .inl h
          · cases h; exact .inr rfl
        · rintro (h | h)
          · exact .inl h
          · exact .inr (by rw [h]; rfl)
      rw [e3]
      exact s3
    · cases ea
      exact nG _ (Gh.in g) rfl
  case pos =>
    refine .inr ⟨fd.go i Z' H' hlt l' k', Pv (i + 1), fun H2 p => ⟨m.items.length - (i + 1), by omega, rfl, hlt, p⟩, fun x H2 y => ?_⟩
    obtain ⟨sm, d, hd, en⟩ := fd.yld i Z' H' x H2 hlt l' k' st.zs y
    have st2 := st.same sm
    have l2 : Le Z1 H1 Z' H2 := l'.trans (Same.le sm st.zs)
    have kD : KeepG GD H' H2 := KeepG.of_same sm fun a g => (st.gs a g).1
    have es2 := es.mono (Same.le sm st.zs)
    have dr : m.items.drop i = d :: m.items.drop (i + 1) := by
      rw [List.drop_eq_getElem_cons hlt]
      rw [lt_get hlt] at hd
      cases hd
      rfl
    rw [dr] at h
    have h := PostC.trans (Same.le sm st.zs) (kD.less fun a g => .inl (Gh.in g)) h
    simp only [compL] at h
    cases q1 : tg d e' with
    | none => rw [q1] at h; exact h.elim
    | some e2 =>
      rw [q1] at h
      simp only at h
      have ass : ∀ {α β γ : Type} (r : Res α) (f : α → Sl → Res β) (g : β → Sl → Res γ), (r.bind f).bind g = r.bind fun a e => (f a e).bind g := fun r f g => by cases r <;> rfl
      rw [ass] at h
      refine ⟨d, e', Z', GD, e2, st2, en, q1, fun σ2 off sf st3 => ⟨by rw [off.wipe, wipe_wipe], ?_⟩⟩
      refine ⟨e2, Z', GD, st3, (PostC.noer (σ' := σ2) (fun a g => .inl (Gh.in g)) h).imp fun o e3 Z3 H3 l3 k3 h => ?_⟩
      cases qt : tru o with
      | none => rw [qt] at h; exact h.elim
      | some b =>
        rw [qt] at h
        refine ⟨b, qt, fun st4 => ?_⟩
        have l13 := l2.trans l3
        have k13 : KeepG (Gh σ G m.hid) H1 H3 := ((k'.trans (kD.less fun a g => .inl g))).trans (k3.less fun a g => .inl g)
        have hD3 : H3 Dn = some (.lst vs) := by rw [k3 Dn (.inr rfl), kD Dn (.inr rfl)]; exact hDn
        have back : ∀ {e4 : Sl} {H4 : Hp} {Z4 : Addr → Prop}, StOk K T e4 σ2 H4 Z4 GD → StOk K T (wipeS e4 is) (wipe σ is) H4 Z4 GD := fun {e4 H4 Z4} s => by
          have := s.wiped is
          rw [off.wipe, wipe_wipe] at this
          exact this
        cases b with
        | false =>
          refine iteF ?_
          exact ⟨wipeS e3 is, Z3, acc, vs, back st4, l13, k13, hD3, es2.mono l3, h⟩
        | true =>
          refine iteT ?_
          simp only at h
          rw [ass] at h
          refine ⟨e3, Z3, GD, st4, (PostC.noer (σ' := σ2) (fun a g => .inl (Gh.in g)) h).imp fun y e4 Z4 H4 l4 k4 h v x => ?_⟩
          cases q2 : fzO y e4 with
          | none => rw [q2] at h; exact h.elim
          | some p =>
            obtain ⟨z, e5⟩ := p
            rw [q2] at h
            simp only at h
            obtain ⟨Z5, l5, s5, en5⟩ := fz_ok x q2
            split at h
            case isFalse => exact h.elim
            rename_i hsz
            have hD4 : H4 Dn = some (.lst vs) := by rw [k4 Dn (.inr rfl)]; exact hD3
            have es4 : EncDs K Z5 H4 vs acc := (es2.mono l3).mono (l4.trans l5)
            refine ⟨vs, hD4, by rw [es4.length, ← sizeMax_eq]; exact hsz, ?_⟩
            have nz5 : ¬ Z5 Dn := (s5.gs Dn (.inr rfl)).2
            have lw : Le Z5 H4 Z5 (upd H4 Dn (.lst (vs ++ [v]))) := le_write hD4 trivial nz5
            have kw : KeepG (Gh σ G m.hid) H4 (upd H4 Dn (.lst (vs ++ [v]))) := fun a g => upd_ne (nG a g)
            refine ⟨wipeS e5 is, Z5, acc ++ [z], vs ++ [v], (back s5).write hD4 trivial (.inr rfl), (l13.trans (l4.trans l5)).trans lw, (k13.trans (k4.less fun a g => .inl g)).trans kw, upd_same, (es4.append (.cons en5 .nil)).mono lw, ?_⟩
            exact PostC.trans (l5.trans lw) (kw.less fun a g => Gh.in g) h
end
end Ev
end
section
set_option maxHeartbeats 4000000
/-! EvS8: statements. -/
namespace Ev
open PySem PySem.Spec PyProof.Rows L2
variable {T : LT}

def PostS (K : PySem.W.Frag) (T : LT) (mg : Str → Option Value) (W : WX) (fx : List Nat) (σ : L2.St) (Z G : Addr → Prop) (H : Hp) (D : Ends) : SR → Prop
  | .nx e' => ∀ σ' H' Z', Le Z H Z' H' → KeepG G H H' → SameF fx σ σ' → StOk K T e' σ' H' Z' G → D.nx σ' H'
  | .ct e' => ∀ σ' H' Z', Le Z H Z' H' → KeepG G H H' → SameF fx σ σ' → StOk K T e' σ' H' Z' G → D.ct σ' H'
  | .bk e' => ∀ σ' H' Z', Le Z H Z' H' → KeepG G H H' → SameF fx σ σ' → StOk K T e' σ' H' Z' G → D.bk σ' H'
  | .rt o e' => ∀ v σ' H' Z', Le Z H Z' H' → KeepG G H H' → SameF fx σ σ' → Out K T e' σ' H' Z' G v o → D.rt v H'
  | .er x e' => ∀ cls d σ' H' Z', Le Z H Z' H' → KeepG G H H' → SameF fx σ σ' → StOk K T e' σ' H' Z' G → ExOk K mg Z' x cls d H' → W cls d σ' H'
  | .bad => False
def RdS (K : PySem.W.Frag) (T : LT) (mg : Str → Option Value) (fx : List Nat) (m : MS) (W : WX) : TS := fun D σ H => ∃ e Z G, StOk K T e σ H Z G ∧ PostS K T mg W fx σ Z G H D (m e)
section
variable {K : PySem.W.Frag} {mg : Str → Option Value} {W : WX} {fx : List Nat} {σ σ1 : L2.St} {Z G Z1 G1 : Addr → Prop} {H H1 : Hp} {D D' : Ends}
theorem PostS.trans {r : SR} (l : Le Z H Z1 H1) (k : KeepG G H H1) (f : SameF fx σ σ1) (h : PostS K T mg W fx σ Z G H D r) : PostS K T mg W fx σ1 Z1 G H1 D r := by
  cases r with
  | nx e => exact fun σ' H' Z' l' k' f' s => h σ' H' Z' (l.trans l') (k.trans k') (f.trans f') s
  | ct e => exact fun σ' H' Z' l' k' f' s => h σ' H' Z' (l.trans l') (k.trans k') (f.trans f') s
  | bk e => exact fun σ' H' Z' l' k' f' s => h σ' H' Z' (l.trans l') (k.trans k') (f.trans f') s
  | rt o e => exact fun v σ' H' Z' l' k' f' s => h v σ' H' Z' (l.trans l') (k.trans k') (f.trans f') s
  | er x e => exact fun cls d σ' H' Z' l' k' f' s x => h cls d σ' H' Z' (l.trans l') (k.trans k') (f.trans f') s x
  | bad => exact h
theorem PostS.nx {e : Sl} (s : StOk K T e σ H Z G) (h : PostS K T mg W fx σ Z G H D (.nx e)) : D.nx σ H := h σ H Z Le.refl KeepG.refl SameF.refl s
/-- an expression ahead -/
theorem PostS.st {α : Type} {r : Res α} {f : α → Sl → SR} (hG : ∀ a, G a → G1 a) (h : PostS K T mg W fx σ Z G H D (r.st f)) : PostC K T mg W σ Z G1 H (fun a e1 Z1 H1 => PostS K T mg W fx σ Z1 G H1 D (f a e1)) r := by
  cases r with
  | ok a e => exact fun H' Z' l' k' => PostS.trans l' (k'.less hG) SameF.refl h
  | er x e => exact fun cls d H' Z' l' k' s x => h cls d σ H' Z' l' (k'.less hG) SameF.refl (s.less hG) x
  | bad => exact h
/-- a statement ahead -/
theorem rd_seq2 {a b : MS} (h : RdS K T mg fx (fun e => (a e).bind b) W D σ H) : tSeq (RdS K T mg fx a W) (RdS K T mg fx b W) D σ H := by
  obtain ⟨e, Z, G, s, h⟩ := h
  refine ⟨e, Z, G, s, ?_⟩
  have h : PostS K T mg W fx σ Z G H D ((a e).bind b) := h
  cases q : a e with
  | nx e1 => rw [q] at h; exact fun σ' H' Z' l k f s' => ⟨e1, Z', G, s', PostS.trans l k f h⟩
  | ct e1 => rw [q] at h; exact h
  | bk e1 => rw [q] at h; exact h
  | rt o e1 => rw [q] at h; exact h
  | er x e1 => rw [q] at h; exact h
  | bad => rw [q] at h; exact h
theorem rd_next (h : RdS K T mg fx (fun e => .nx e) W D σ H) : tNext D σ H := by
  obtain ⟨e, Z, G, s, h⟩ := h
  exact PostS.nx s h
theorem rd_brk (h : RdS K T mg fx (fun e => .bk e) W D σ H) : tBreak D σ H := by
  obtain ⟨e, Z, G, s, h⟩ := h
  exact h σ H Z Le.refl KeepG.refl SameF.refl s
theorem rd_ct (h : RdS K T mg fx (fun e => .ct e) W D σ H) : tCont D σ H := by
  obtain ⟨e, Z, G, s, h⟩ := h
  exact h σ H Z Le.refl KeepG.refl SameF.refl s
theorem rd_ret {a : ME} (h : RdS K T mg fx (retS a) W D σ H) : tRet (RdE K T mg a W) D σ H := by
  obtain ⟨e, Z, G, s, h⟩ := h
  exact ⟨e, Z, G, s, (PostS.st (fun _ z => z) h).imp fun o e1 Z1 H1 l k h v x => h v σ H1 Z1 Le.refl KeepG.refl SameF.refl x⟩
theorem rd_retN (h : RdS K T mg fx retN W D σ H) : tRetN D σ H := by
  obtain ⟨e, Z, G, s, h⟩ := h
  exact h .non σ H Z Le.refl KeepG.refl SameF.refl (s.im .non)
theorem rd_expr {a : ME} (h : RdS K T mg fx (exprS a) W D σ H) : tDrop (RdE K T mg a W) D σ H := by
  obtain ⟨e, Z, G, s, h⟩ := h
  exact ⟨e, Z, G, s, (PostS.st (fun _ z => z) h).imp fun o e1 Z1 H1 l k h v x => PostS.nx x.st0 h⟩
theorem PostS.tru {o : Op} {f : Bool → SR} (h : PostS K T mg W fx σ Z G H D (match Ev.tru o with | some true => f true | some false => f false | none => .bad)) : ∃ b, Ev.tru o = some b ∧ PostS K T mg W fx σ Z G H D (f b) := by
  cases qt : Ev.tru o with
  | none => rw [qt] at h; exact h.elim
  | some b =>
    rw [qt] at h
    cases b with
    | true => exact ⟨true, rfl, h⟩
    | false => exact ⟨false, rfl, h⟩
theorem rd_ifS {t : ME} {a b : MS} (h : RdS K T mg fx (ifS t a b) W D σ H) : tIfS (RdT K T mg t W) (RdS K T mg fx a W) (RdS K T mg fx b W) D σ H := by
  obtain ⟨e, Z, G, s, h⟩ := h
  refine ⟨e, Z, G, s, (PostS.st (f := fun o e1 => match tru o with | some true => a e1 | some false => b e1 | none => .bad) (fun _ z => z) h).imp fun o e1 Z1 H1 l k h => ?_⟩
  obtain ⟨bb, qt, h⟩ := PostS.tru (f := fun bb => if bb then a e1 else b e1) h
  refine ⟨bb, qt, fun s1 => ?_⟩
  cases bb with
  | true => exact iteT ⟨e1, Z1, G, s1, h⟩
  | false => exact iteF ⟨e1, Z1, G, s1, h⟩
/-- a name is stored -/
theorem nameG_ok {i : Nat} {o : Op} {e e2 : Sl} {v : V} (hi : i < σ.length) (x : Out K T e σ H Z G v o) (q : nameG fx i o e = some e2) : i ∉ fx ∧ ∃ Z1, Le Z H Z1 H ∧ StOk K T e2 (σ.set i (some v)) H Z1 G := by
  have frame : (fun b => G b ∨ v = .ref b) = fun b => Gx G v (.tl []) b := rfl
  cases o with
  | im d =>
    obtain ⟨hf, rfl⟩ := stS_some q
    exact ⟨hf, Z, Le.refl, x.st0.set_im hi x.ok⟩
  | tl xs =>
    obtain ⟨hf, rfl⟩ := stS_some q
    obtain ⟨a, vs, rfl, h1, es⟩ := x.ok
    have ng := x.ne a rfl
    have s := x.st
    have eg : Gx G (.ref a) (.tl xs) = fun b => G b ∨ b = a := by
      funext b
      unfold Gx
      apply propext
      constructor
      · rintro (h | h)
        · exact .inl h
        · cases h; exact .inr rfl
      · rintro (h | h)
        · exact .inl h
        · exact .inr (by rw [h]; rfl)
    rw [eg] at s
    exact ⟨hf, Z, Le.refl, s.set_own hi ng ⟨a, vs, rfl, h1, es, (s.gs a (.inr rfl)).2, ng⟩⟩
  | td xs =>
    obtain ⟨hf, rfl⟩ := stS_some q
    obtain ⟨a, rfl, h1⟩ := x.ok
    have ng := x.ne a rfl
    have s := x.st
    have eg : Gx G (.ref a) (.td xs) = fun b => G b ∨ b = a := by
      funext b
      unfold Gx
      apply propext
      constructor
      · rintro (h | h)
        · exact .inl h
        · cases h; exact .inr rfl
      · rintro (h | h)
        · exact .inl h
        · exact .inr (by rw [h]; rfl)
    rw [eg] at s
    exact ⟨hf, Z, Le.refl, s.set_own hi ng ⟨a, rfl, h1, (s.gs a (.inr rfl)).2, ng⟩⟩
  | bor j =>
    simp only [nameG] at q
    cases q1 : fzO (.bor j) e with
    | none => rw [q1] at q; cases q
    | some p =>
      obtain ⟨d, e1⟩ := p
      rw [q1] at q
      obtain ⟨hf, rfl⟩ := stS_some q
      obtain ⟨Z1, l, s1, en⟩ := fz_ok x q1
      exact ⟨hf, Z1, l, s1.set_im hi en⟩
theorem rd_asg {a : ME} {i : Nat} (hi : i < σ.length) (h : RdS K T mg fx (asgS (nameG fx i) a) W D σ H) : tAsg (RdE K T mg a W) (gName i) D σ H := by
  obtain ⟨e, Z, G, s, h⟩ := h
  refine ⟨e, Z, G, s, (PostS.st (fun _ z => z) h).imp fun o e1 Z1 H1 l k h v x => ?_⟩
  cases q1 : nameG fx i o e1 with
  | none => rw [q1] at h; exact h.elim
  | some e2 =>
    rw [q1] at h
    obtain ⟨hf, Z2, l2, s2⟩ := nameG_ok hi x q1
    exact h _ H1 Z2 l2 KeepG.refl (SameF.set hf) s2
theorem rd_asgT {a : ME} {t : MT} {is : List Nat} (h : RdS K T mg fx (asgT t a) W D σ H) : tAsg (RdE K T mg a W) (RdG K T fx t is) D σ H := by
  obtain ⟨e, Z, G, s, h⟩ := h
  refine ⟨e, Z, G, s, (PostS.st (fun _ z => z) h).imp fun o e1 Z1 H1 l k h v x => ?_⟩
  cases q1 : fzO o e1 with
  | none => rw [q1] at h; exact h.elim
  | some p =>
    obtain ⟨d, e2⟩ := p
    rw [q1] at h
    simp only at h
    cases q2 : t d e2 with
    | none => rw [q2] at h; exact h.elim
    | some e3 =>
      rw [q2] at h
      obtain ⟨Z2, l2, s2, en⟩ := fz_ok x q1
      exact ⟨d, e2, Z2, G, e3, s2, en, q2, fun σ' off sf st => h σ' H1 Z2 l2 KeepG.refl sf st⟩

/-! ### several names at once -/
def setAll : L2.St → List Nat → List V → L2.St
  | σ, i :: is, v :: vs => (setAll σ is vs).set i (some v)
  | σ, _, _ => σ
theorem setAll_len : ∀ {σ : L2.St} {is : List Nat} {vs : List V}, (setAll σ is vs).length = σ.length
  | σ, i :: is, v :: vs => by unfold setAll; rw [List.length_set, setAll_len]
  | σ, [], _ => by unfold setAll; rfl
  | σ, _ :: _, [] => by unfold setAll; rfl
/-- operands that nothing but the statement holds -/
def NoBor : List Op → Prop
  | [] => True
  | .bor _ :: _ => False
  | _ :: os => NoBor os
theorem Outs.slotsN {e : Sl} {i : Nat} : True := trivial
theorem parG_ok : ∀ {is : List Nat} {os : List Op} {vs : List V} {e e2 : Sl} {G : Addr → Prop}, (∀ i, i ∈ is → i < σ.length) → NoBor os → Outs K T e σ H Z G vs os → parG (is.map (nameG fx)) os e = some e2 →
    is.length = vs.length ∧ SameF fx σ (setAll σ is vs) ∧ StOk K T e2 (setAll σ is vs) H Z G
  | [], [], [], e, e2, G, _, _, h, q => by
    cases q
    exact ⟨rfl, SameF.refl, h⟩
  | [], [], _ :: _, _, _, _, _, _, h, _ => h.elim
  | [], _ :: _, _, _, _, _, _, _, _, q => by cases q
  | _ :: _, [], _, _, _, _, _, _, _, q => by cases q
  | _ :: _, _ :: _, [], _, _, _, _, _, h, _ => h.elim
  | i :: is, o :: os, v :: vs, e, e2, G, hi, nb, h, q => by
    obtain ⟨h1, h2, h3⟩ := h
    simp only [List.map_cons, parG] at q
    cases q1 : parG (is.map (nameG fx)) os e with
    | none => rw [q1] at q; cases q
    | some e1 =>
      rw [q1] at q
      have nb' : NoBor os := by cases o <;> first | exact nb | exact nb.elim
      obtain ⟨hl, sf, s1⟩ := parG_ok (fun j hj => hi j (List.mem_cons_of_mem _ hj)) nb' h3 q1
      have ok : OpOk K Z H (setAll σ is vs) v o := by
        cases o with
        | bor j => exact nb.elim
        | im d => exact h1
        | tl d => exact h1
        | td d => exact h1
      have x : Out K T e1 (setAll σ is vs) H Z G v o := ⟨s1, ok, h2⟩
      have hlt : i < (setAll σ is vs).length := by rw [setAll_len]; exact hi i List.mem_cons_self
      obtain ⟨hf, rest⟩ : i ∉ fx ∧ StOk K T e2 ((setAll σ is vs).set i (some v)) H Z G := by
        cases o with
        | bor j => exact nb.elim
        | im d =>
          obtain ⟨hf, rfl⟩ := stS_some q
          exact ⟨hf, x.st0.set_im hlt x.ok⟩
        | tl d =>
          obtain ⟨hf, Z1, l, s⟩ := nameG_ok hlt x q
          obtain ⟨hf, rfl⟩ := stS_some q
          obtain ⟨a, ws, rfl, h4, es⟩ := x.ok
          have ng := x.ne a rfl
          have s := x.st
          have eg : Gx G (.ref a) (.tl d) = fun b => G b ∨ b = a := by
            funext b
            unfold Gx
            apply propext
            constructor
            · rintro (h | h)
              · exact .inl h
              · cases h; exact .inr rfl
            · rintro (h | h)
              · exact .inl h
              · exact .inr (by rw [h]; rfl)
          rw [eg] at s
          exact ⟨hf, s.set_own hlt ng ⟨a, ws, rfl, h4, es, (s.gs a (.inr rfl)).2, ng⟩⟩
        | td d =>
          obtain ⟨hf, rfl⟩ := stS_some q
          obtain ⟨a, rfl, h4⟩ := x.ok
          have ng := x.ne a rfl
          have s := x.st
          have eg : Gx G (.ref a) (.td d) = fun b => G b ∨ b = a := by
            funext b
            unfold Gx
            apply propext
            constructor
            · rintro (h | h)
              · exact .inl h
              · cases h; exact .inr rfl
            · rintro (h | h)
              · exact .inl h
              · exact .inr (by rw [h]; rfl)
          rw [eg] at s
          exact ⟨hf, s.set_own hlt ng ⟨a, rfl, h4, (s.gs a (.inr rfl)).2, ng⟩⟩
      exact ⟨congrArg (· + 1) hl, sf.trans (SameF.set hf), rest⟩
end
/-- what stands in a parallel assignment -/
def RdAP (K : PySem.W.Frag) (T : LT) (mg : Str → Option Value) (ms : List ME) (W : WX) : TA := fun σ H Q => ∃ e Z G, StOk K T e σ H Z G ∧ PostC K T mg W σ Z G H (fun os e' Z' H' => ∀ vs, NoBor os → Outs K T e' σ H' Z' G vs os → Q vs H') (argsP ms e)
section
variable {K : PySem.W.Frag} {mg : Str → Option Value} {W : WX} {fx : List Nat} {σ σ1 : L2.St} {Z G Z1 G1 : Addr → Prop} {H H1 : Hp} {D D' : Ends} {m : ME} {ms : List ME}
theorem rd_pnil {Q : List V → Hp → Prop} (h : RdAP K T mg [] W σ H Q) : tNil σ H Q := by
  obtain ⟨e, Z, G, s, h⟩ := h
  exact h.ret [] trivial s
theorem rd_pcons {Q : List V → Hp → Prop} (h : RdAP K T mg (m :: ms) W σ H Q) : tCons (RdE K T mg m W) (RdAP K T mg ms W) σ H Q := by
  obtain ⟨e, Z, G, s, h⟩ := h
  refine ⟨e, Z, G, s, (h.bind fun _ z => z).imp fun o e1 Z1 H1 l k h v x => ?_⟩
  have keep : ∀ {o}, (∀ j, o ≠ .bor j) → Out K T e1 σ H1 Z1 G v o → PostC K T mg W σ Z1 G H1 (fun os e' Z' H' => ∀ vs, NoBor os → Outs K T e' σ H' Z' G vs os → Q vs H') ((argsP ms e1).bind fun os e3 => .ok (o :: os) e3) → RdAP K T mg ms W σ H1 fun vs H2 => Q (v :: vs) H2 := by
    intro o no x h
    refine ⟨e1, Z1, Gx G v o, x.st, (PostC.bind (fun _ z => .inl z) h).imp fun os e2 Z2 H2 l2 k2 h vs nb xs => ?_⟩
    refine PostC.ret h (v :: vs) ?_ ⟨x.ok.mono l2 fun a z => k2 a (.inr z), x.ne, xs⟩
    cases o with
    | bor j => exact absurd rfl (no j)
    | im d => exact nb
    | tl d => exact nb
    | td d => exact nb
  cases o with
  | im d => exact keep (o := .im d) (fun j e => nomatch e) x h
  | tl d => exact keep (o := .tl d) (fun j e => nomatch e) x h
  | td d => exact keep (o := .td d) (fun j e => nomatch e) x h
  | bor i =>
    simp only at h
    cases q1 : fzO (.bor i) e1 with
    | none => rw [q1] at h; exact h.elim
    | some p =>
      obtain ⟨d, e2⟩ := p
      rw [q1] at h
      obtain ⟨Z2, l2, s2, en⟩ := fz_ok x q1
      have h := PostC.trans l2 KeepG.refl h
      refine ⟨e2, Z2, G, s2, (PostC.bind (fun _ z => z) h).imp fun os e3 Z3 H3 l3 k3 h vs nb xs => ?_⟩
      have bare : Gx G v (.im d) = G := by
        funext b
        unfold Gx
        apply propext
        exact ⟨fun h => h.elim id fun z => z.elim, .inl⟩
      exact PostC.ret h (v :: vs) nb ⟨en.mono l3, fun a z => z.elim, by rw [bare]; exact xs⟩
def tParN (is : List Nat) (ta : TA) : TS := fun D σ H => ta σ H fun vs H1 => is.length = vs.length ∧ D.nx (setAll σ is vs) H1
theorem rd_par {is : List Nat} (hi : ∀ i, i ∈ is → i < σ.length) (h : RdS K T mg fx (parS (is.map (nameG fx)) ms) W D σ H) : tParN is (RdAP K T mg ms W) D σ H := by
  obtain ⟨e, Z, G, s, h⟩ := h
  refine ⟨e, Z, G, s, (PostS.st (fun _ z => z) h).imp fun os e1 Z1 H1 l k h vs nb xs => ?_⟩
  cases q1 : parG (is.map (nameG fx)) os e1 with
  | none => rw [q1] at h; exact h.elim
  | some e2 =>
    rw [q1] at h
    obtain ⟨hl, sf, s2⟩ := parG_ok hi nb xs q1
    exact ⟨hl, h _ H1 Z1 Le.refl KeepG.refl sf s2⟩

/-- names stored from the left -/
def gNm : List Nat → TGs
  | [] => gNil
  | i :: is => gCons (gName i) (gNm is)
theorem setAll_comm : ∀ {is : List Nat} {vs : List V} {σ : L2.St} {i : Nat} {v : V}, i ∉ is → setAll (σ.set i (some v)) is vs = (setAll σ is vs).set i (some v)
  | [], _, _, _, _, _ => by unfold setAll; rfl
  | _ :: _, [], _, _, _, _ => by unfold setAll; rfl
  | j :: is, w :: vs, σ, i, v, h => by
    have hj : i ≠ j := fun e => h (by rw [e]; exact List.mem_cons_self)
    unfold setAll
    rw [setAll_comm (fun z => h (List.mem_cons_of_mem _ z))]
    exact List.set_comm _ _ hj
theorem gNm_ok {R : L2.St → Hp → Prop} {H : Hp} : ∀ {is : List Nat} {vs : List V} {σ : L2.St}, is.Nodup → is.length = vs.length → R (setAll σ is vs) H → gNm is vs σ H R
  | [], [], σ, _, _, h => ⟨rfl, h⟩
  | [], _ :: _, _, _, e, _ => by cases e
  | _ :: _, [], _, _, e, _ => by cases e
  | i :: is, v :: vs, σ, nd, e, h => by
    obtain ⟨n1, n2⟩ := List.nodup_cons.mp nd
    refine ⟨v, vs, rfl, gNm_ok n2 (Nat.succ.inj e) ?_⟩
    rw [setAll_comm n1]
    exact h
/-- the same by a tuple that is made and taken apart -/
theorem rd_parT {is : List Nat} (nd : is.Nodup) (hl : is.length ≤ sizeLine) (hi : ∀ i, i ∈ is → i < σ.length) (h : RdS K T mg fx (parS (is.map (nameG fx)) ms) W D σ H) : tAsg (tTup (RdAP K T mg ms W)) (gTup K is.length (gNm is)) D σ H := by
  obtain ⟨e, Z, G, s, h⟩ := h
  refine ⟨e, Z, G, s, (PostS.st (fun _ z => z) h).imp fun os e1 Z1 H1 l k h vs nb xs => ?_⟩
  cases q1 : parG (is.map (nameG fx)) os e1 with
  | none => rw [q1] at h; exact h.elim
  | some e2 =>
    rw [q1] at h
    obtain ⟨hl', sf, s2⟩ := parG_ok hi nb xs q1
    refine ⟨by rw [← hl']; exact hl, fun p np => ?_⟩
    have sm : Same H1 (upd H1 p (.tup vs)) := same_new np
    exact ⟨p, vs, rfl, .inl (.inl upd_same), hl'.symm, gNm_ok nd hl' (h _ _ Z1 (Same.le sm s2.zs) (KeepG.of_same sm fun a g => (s2.gs a g).1) sf (s2.same sm))⟩

/-! ### loops -/
theorem rd_for {it : MI} {tg : MT} {is : List Nat} {body : MS} (h : RdS K T mg fx (forS it tg body) W D σ H) : tFor (RdI K T mg fx it W) (RdG K T fx tg is) (RdS K T mg fx body W) D σ H := by
  obtain ⟨e, Z, G, s, h⟩ := h
  refine ⟨e, Z, G, s, (PostS.st (fun _ z => z) h).imp fun m e1 Z1 H1 l k h J s1 hk fd => ?_⟩
  -- the ends behind the loop: what is hidden comes back
  let GH : Addr → Prop := Gh σ G m.hid
  have inG : ∀ a, G a → GH a := fun a g => Gh.in g
  let D2 : Ends := ⟨fun σ' H' => ∃ Z' e', Le Z1 H1 Z' H' ∧ KeepG GH H1 H' ∧ SameF fx σ σ' ∧ StOk K T e' σ' H' Z' GH, D.rt, D.nx, D.ct⟩
  -- what a run of the rest gives
  have fin : ∀ {e' : Sl} {σ' : L2.St} {H' : Hp} {Z' : Addr → Prop}, Le Z1 H1 Z' H' → KeepG GH H1 H' → SameF fx σ σ' → StOk K T e' σ' H' Z' GH → StOk K T (unhS m.hid e') σ' H' Z' G := fun {e' σ' H' Z'} l k f s => by
    have hk2 := (hk.mono l k).slots f
    have e := Gh.eq f (hk.mono l k)
    have s : StOk K T e' σ' H' Z' (Gh σ' G m.hid) := by rw [e]; exact s
    exact unh_ok s hk2
  let Pv : Nat → L2.St → Hp → Prop := fun i σ' H' => ∃ (e' : Sl) (Z' : Addr → Prop), StOk K T e' σ' H' Z' GH ∧ Le Z1 H1 Z' H' ∧ KeepG GH H1 H' ∧ SameF fx σ σ' ∧ PostS K T mg W fx σ' Z' G H' D (endL (unhS m.hid) (forL tg body (m.items.drop i) e'))
  refine ⟨fun i mm σ' H' => mm = m.items.length - i ∧ i ≤ m.items.length ∧ Pv i σ' H', ⟨_, rfl, Nat.zero_le _, e1, Z1, s1, Le.refl, KeepG.refl, SameF.refl, h⟩, ?_⟩
  rintro i mm σ' H' ⟨rfl, hi, e', Z', st, l', k', f', h⟩
  by_cases hlt : i < m.items.length
  case neg =>
    have e0 : i = m.items.length := by omega
    subst e0
    rw [List.drop_length] at h
    exact .inl ⟨fd.stop Z' H' l' k', PostS.nx (fin l' k' f' st) h⟩
  case pos =>
    refine .inr ⟨fd.go i Z' H' hlt l' k', Pv (i + 1), fun σ2 H2 p => ⟨m.items.length - (i + 1), by omega, rfl, hlt, p⟩, fun x H2 y => ?_⟩
    obtain ⟨sm, d, hd, en⟩ := fd.yld i Z' H' x H2 hlt l' k' st.zs y
    have st2 := st.same sm
    have l2 : Le Z' H' Z' H2 := Same.le sm st.zs
    have kH : KeepG GH H' H2 := KeepG.of_same sm fun a g => (st.gs a g).1
    have dr : m.items.drop i = d :: m.items.drop (i + 1) := by
      rw [List.drop_eq_getElem_cons hlt]
      rw [lt_get hlt] at hd
      cases hd
      rfl
    rw [dr] at h
    simp only [forL] at h
    cases q1 : tg d e' with
    | none => rw [q1] at h; exact h.elim
    | some e2 =>
      rw [q1] at h
      simp only at h
      refine ⟨d, e', Z', GH, e2, st2, en, q1, fun σ2 off sf st3 => ?_⟩
      refine ⟨e2, Z', GH, st3, ?_⟩
      have h := PostS.trans l2 (kH.less inG) sf h
      have step : ∀ {e3 : Sl} {σ3 : L2.St} {H3 : Hp} {Z3 : Addr → Prop}, Le Z' H2 Z3 H3 → KeepG GH H2 H3 → SameF fx σ2 σ3 → StOk K T e3 σ3 H3 Z3 GH → PostS K T mg W fx σ2 Z' G H2 D (endL (unhS m.hid) (forL tg body (m.items.drop (i + 1)) e3)) → Pv (i + 1) σ3 H3 :=
        fun {e3 σ3 H3 Z3} l3 k3 f3 s3 h => ⟨e3, Z3, s3, (l'.trans l2).trans l3, (k'.trans kH).trans k3, (f'.trans sf).trans f3, PostS.trans l3 (k3.less inG) f3 h⟩
      cases qb : body e2 with
      | nx e3 => rw [qb] at h; exact fun σ3 H3 Z3 l3 k3 f3 s3 => step l3 k3 f3 s3 h
      | ct e3 => rw [qb] at h; exact fun σ3 H3 Z3 l3 k3 f3 s3 => step l3 k3 f3 s3 h
      | bad => rw [qb] at h; exact h
      | bk e3 =>
        rw [qb] at h
        exact fun σ3 H3 Z3 l3 k3 f3 s3 => h σ3 H3 Z3 l3 (k3.less inG) f3 (fin ((l'.trans l2).trans l3) ((k'.trans kH).trans k3) ((f'.trans sf).trans f3) s3)
      | rt o e3 =>
        rw [qb] at h
        intro v σ3 H3 Z3 l3 k3 f3 x
        refine h v σ3 H3 Z3 l3 (k3.less inG) f3 ⟨?_, x.ok, fun a ha g => x.ne a ha (inG a g)⟩
        have lA := (l'.trans l2).trans l3
        have kA := (k'.trans kH).trans k3
        have fA := (f'.trans sf).trans f3
        have hk2 := ((hk.mono lA kA).or (P := OwnA v o) fun a g ha => x.ne a ha g).slots fA
        have e := Gh.eq fA ((hk.mono lA kA).or (P := OwnA v o) fun a g ha => x.ne a ha g)
        have s : StOk K T e3 σ3 H3 Z3 (Gh σ3 (fun a => G a ∨ OwnA v o a) m.hid) := by
          rw [e, Gh_or]
          exact x.st
        exact unh_ok s hk2
      | er x e3 =>
        rw [qb] at h
        exact fun cls d σ3 H3 Z3 l3 k3 f3 s3 x => h cls d σ3 H3 Z3 l3 (k3.less inG) f3 (fin ((l'.trans l2).trans l3) ((k'.trans kH).trans k3) ((f'.trans sf).trans f3) s3) x
theorem rd_while {t : ME} {body : MS} {w : Nat} (h : RdS K T mg fx (whL t body w) W D σ H) : tWhile (RdT K T mg t W) (RdS K T mg fx body W) D σ H := by
  obtain ⟨e, Z, G, s, h⟩ := h
  refine ⟨fun n σ' H' => ∃ e' Z', StOk K T e' σ' H' Z' G ∧ PostS K T mg W fx σ' Z' G H' D (whL t body n e'), ⟨w, e, Z, s, h⟩, ?_⟩
  rintro n σ' H' ⟨e', Z', s', h⟩
  cases n with
  | zero => exact h.elim
  | succ n =>
    refine ⟨e', Z', G, s', (PostS.st (f := fun o e1 => match tru o with | some true => (match body e1 with | .nx e2 => whL t body n e2 | .ct e2 => whL t body n e2 | .bk e2 => .nx e2 | r => r) | some false => .nx e1 | none => .bad) (fun _ z => z) h).imp fun o e1 Z1 H1 l k h => ?_⟩
    obtain ⟨b, qt, h⟩ := PostS.tru (f := fun b => if b then (match body e1 with | .nx e2 => whL t body n e2 | .ct e2 => whL t body n e2 | .bk e2 => .nx e2 | r => r) else .nx e1) h
    refine ⟨b, qt, fun s1 => ?_⟩
    cases b with
    | false => exact iteF (PostS.nx s1 h)
    | true =>
      refine iteT ⟨fun σ2 H2 => ∃ e2 Z2, StOk K T e2 σ2 H2 Z2 G ∧ PostS K T mg W fx σ2 Z2 G H2 D (whL t body n e2), fun σ2 H2 p => ⟨n, Nat.lt_succ_self n, p⟩, e1, Z1, G, s1, ?_⟩
      simp only [if_true] at h
      cases qb : body e1 with
      | nx e3 => rw [qb] at h; exact fun σ3 H3 Z3 l3 k3 f3 s3 => ⟨e3, Z3, s3, PostS.trans l3 k3 f3 h⟩
      | ct e3 => rw [qb] at h; exact fun σ3 H3 Z3 l3 k3 f3 s3 => ⟨e3, Z3, s3, PostS.trans l3 k3 f3 h⟩
      | bk e3 => rw [qb] at h; exact h
      | rt o e3 => rw [qb] at h; exact h
      | er x e3 => rw [qb] at h; exact h
      | bad => rw [qb] at h; exact h
end
end Ev
end
section
set_option maxHeartbeats 4000000
/-! EvS9: an own list is written; several names stored at once; own exceptions made. -/
namespace Ev
open PySem PySem.Spec PyProof.Rows L2
variable {T : LT}

section
variable {K : PySem.W.Frag} {e : Sl} {σ : L2.St} {H : Hp} {Z G : Addr → Prop}
/-- the object of an own slot is written -/
theorem StOk.slotWrite (s : StOk K T e σ H Z G) {i : Nat} {xs ys : List D} {a : Addr} {ws : List V} {u : HO} (h : gt e i = some (.ol xs)) (hv : σ[i]? = some (some (.ref a))) (hu : H a = some u) (mu : Md u) (es : EncDs K Z (upd H a (.lst ws)) ws ys) :
    StOk K T (pt e i (some (.ol ys))) σ (upd H a (.lst ws)) Z G ∧ Le Z H Z (upd H a (.lst ws)) ∧ KeepG G H (upd H a (.lst ws)) := by
  obtain ⟨u', hu', _, nz, ng⟩ := s.notOwn h rfl hv
  have l := le_write (w := .lst ws) hu mu nz
  have k : KeepG G H (upd H a (.lst ws)) := fun b g => upd_ne (fun e => ng (e ▸ g))
  have sm : ∀ {b}, H b ≠ none → upd H a (.lst ws) b ≠ none := fun {b} hb => by
    by_cases e : b = a
    · subst e; rw [upd_same]; simp
    · rw [upd_ne e]; exact hb
  refine ⟨⟨s.tb.write hu mu, fun b z => sm (s.zs b z), fun b g => ⟨sm (s.gs b g).1, (s.gs b g).2⟩, fun j sv q => ?_, fun j k sj sk w q1 q2 o1 o2 e1 e2 => ?_⟩, l, k⟩
  · rcases gt_pt q with ⟨rfl, z⟩ | ⟨hj, z⟩
    · cases z
      exact ⟨_, hv, a, ws, rfl, upd_same, es, nz, ng⟩
    · obtain ⟨v, h1, h2⟩ := s.sl j sv z
      refine ⟨v, h1, h2.mono l fun o b eb => ?_⟩
      obtain ⟨b', _, eb', _, _, n1, n2⟩ := h2.addr o
      rw [eb] at eb'; cases eb'
      refine ⟨upd_ne (fun z2 => hj ?_), n1, n2⟩
      subst z2
      exact s.inj j i sv _ _ z h o rfl (by rw [h1, eb]) hv
  · have own : ∀ {j : Nat} {sj : Sv}, gt (pt e i (some (Sv.ol ys))) j = some sj → sj.own = true → ∃ sj', gt e j = some sj' ∧ sj'.own = true := fun {j sj} q o => by
      rcases gt_pt q with ⟨rfl, z⟩ | ⟨_, z⟩
      · exact ⟨_, h, rfl⟩
      · exact ⟨sj, z, o⟩
    obtain ⟨sj', p1, p2⟩ := own q1 o1
    obtain ⟨sk', p3, p4⟩ := own q2 o2
    exact s.inj j k sj' sk' w p1 p3 p2 p4 e1 e2
end
theorem isOl_some {o : Option Sv} (h : isOl o = true) : ∃ xs, o = some (.ol xs) := by
  unfold isOl at h
  split at h
  · exact ⟨_, rfl⟩
  · cases h
section
variable {K : PySem.W.Frag} {mg : Str → Option Value} {W : WX} {fx : List Nat} {σ : L2.St} {H : Hp} {D : Ends} {m : ME} {ms : List ME}
theorem rd_mut {i : Nat} {f : List Ev.D → List Ev.D → Option (Ev.D × List Ev.D)} {r : V → List V → Hp → VK → Prop} {Q : VK}
    (hr : ∀ {a : Addr} {vs ws : List V} {xs ys : List Ev.D} {ds : List Ev.D} {res : Ev.D} {H1 : Hp} {Z1 : Addr → Prop} {Q : VK}, f xs ds = some (res, ys) → H1 a = some (.lst vs) → EncDs K Z1 H1 vs xs → EncDs K Z1 H1 ws ds →
      (∀ w us, EncD K Z1 H1 w res → EncDs K Z1 H1 us ys → Q w (upd H1 a (.lst us))) → r (.ref a) ws H1 Q)
    (h : RdE K T mg (mutE i f ms) W σ H Q) : tBM K "list" r (tVar i) (RdAD K T mg ms W) σ H Q := by
  obtain ⟨e, Z, G, s, h⟩ := h
  simp only [mutE] at h
  split at h
  case isFalse => exact h.elim
  rename_i ho
  obtain ⟨xs0, ho⟩ := isOl_some ho
  obtain ⟨v, hv, a, vs0, rfl, h1, es0, nz, ng⟩ := s.sl i _ ho
  refine ⟨.ref a, hv, .inl ⟨rfl, vs0, SqL.of h1⟩, e, Z, G, s, (PostC.bind (fun _ z => z) h).imp fun ds e1 Z1 H1 l k h ws s1 es le => ?_⟩
  split at h
  · rename_i xs q1
    cases q2 : f xs ds with
    | none => rw [q2] at h; exact h.elim
    | some p =>
      obtain ⟨res, ys⟩ := p
      rw [q2] at h
      simp only at h
      obtain ⟨v', hv', a', vs, rfl, h3, es1, nz1, ng1⟩ := s1.sl i _ q1
      rw [hv] at hv'; cases hv'
      refine hr q2 h3 es1 es fun w us ew en => ?_
      have lw := le_write (w := .lst us) h3 trivial nz1
      obtain ⟨s2, l2, k2⟩ := s1.slotWrite (ys := ys) (ws := us) q1 hv h3 trivial (en.mono lw)
      exact h _ Z1 l2 k2 w (s2.im (ew.mono l2))
  · exact h.elim
theorem rd_append {i : Nat} {Q : VK} (h : RdE K T mg (mutE i appF ms) W σ H Q) : tBM K "list" rAppend (tVar i) (RdAD K T mg ms W) σ H Q := by
  refine rd_mut (fun {a vs ws xs ys ds res H1 Z1 Q} q h1 es ed k => ?_) h
  unfold appF at q
  split at q
  · split at q
    · rename_i hl
      cases q
      cases ed with
      | cons en t =>
        cases t
        exact ⟨a, vs, _, rfl, rfl, h1, by rw [es.length, ← sizeMax_eq]; exact hl, k _ _ .non (es.append (.cons en .nil))⟩
    · cases q
  · cases q
theorem rd_extend {i : Nat} {Q : VK} (h : RdE K T mg (mutE i extF ms) W σ H Q) : tBM K "list" rExtend (tVar i) (RdAD K T mg ms W) σ H Q := by
  refine rd_mut (fun {a vs ws xs ys ds res H1 Z1 Q} q h1 es ed k => ?_) h
  unfold extF at q
  split at q
  · split at q
    · rename_i hl
      cases q
      cases ed with
      | cons en t =>
        cases t
        cases en with
        | lst z h2 hs =>
          exact ⟨a, _, vs, _, rfl, rfl, h1, h2, by rw [es.length, hs.length, ← sizeMax_eq]; exact hl, k _ _ .non (es.append hs)⟩
    · cases q
  · cases q
theorem rd_seti {j : Nat} {ix v : ME} (h : RdS K T mg fx (setiS j setF ix v) W D σ H) : tAsg (RdE K T mg v W) (gSub (tVar j) (RdE K T mg ix W) rSetL) D σ H := by
  obtain ⟨e, Z, G, s, h⟩ := h
  refine ⟨e, Z, G, s, (PostS.st (fun _ z => z) h).imp fun o e1 Z1 H1 l k h w x => ?_⟩
  cases q1 : fzO o e1 with
  | none => rw [q1] at h; exact h.elim
  | some p =>
    obtain ⟨d, e2⟩ := p
    rw [q1] at h
    simp only at h
    obtain ⟨Z2, l2, s2, en⟩ := fz_ok x q1
    split at h
    case isFalse => exact h.elim
    rename_i ho
    obtain ⟨xs0, ho⟩ := isOl_some ho
    obtain ⟨v', hv, a, vs0, rfl, h1, es0, nz, ng⟩ := s2.sl j _ ho
    have h := PostS.trans l2 KeepG.refl SameF.refl h
    refine ⟨.ref a, hv, e2, Z2, G, s2, (PostS.st (fun _ z => z) h).imp fun p e3 Z3 H3 l3 k3 h iv xi => ?_⟩
    cases q3 : vw p e3 with
    | none => rw [q3] at h; exact h.elim
    | some kd =>
      rw [q3] at h
      split at h
      · rename_i kd' xs e0 q4
        cases e0
        cases q5 : setF xs kd d with
        | none => rw [q5] at h; exact h.elim
        | some ys =>
          rw [q5] at h
          unfold setF at q5
          split at q5
          · rename_i i
            cases q6 : ixD xs.length i with
            | none => rw [q6] at q5; cases q5
            | some jj =>
              rw [q6] at q5
              cases q5
              obtain ⟨v'', hv', a', vs, rfl, h3, es1, nz1, ng1⟩ := xi.st0.sl j _ q4
              rw [hv] at hv'; cases hv'
              have iv' := (xi.ok.vw xi.st q3).int
              refine ⟨a, vs, i, jj, rfl, iv', h3, by rw [es1.length, ← ixD_eq]; exact q6, ?_⟩
              have lw := le_write (w := .lst (vs.set jj w)) h3 trivial nz1
              obtain ⟨s5, l5, k5⟩ := xi.st0.slotWrite (ys := xs.set jj d) (ws := vs.set jj w) q4 hv h3 trivial ((EncDs.set (en.mono l3) jj es1).mono lw)
              exact h σ _ Z3 l5 k5 SameF.refl s5
          · cases q5
      · exact h.elim
/-- raise C() -/
theorem rd_raise0 {C : Str} {c : Addr} (hm : mg C = some (.ref c)) (h : RdS K T mg fx (raiseS C) W D σ H) : W (.ref c) none σ H := by
  obtain ⟨e, Z, G, s, h⟩ := h
  exact h (.ref c) none σ H Z Le.refl KeepG.refl SameF.refl s ⟨c, hm, rfl, rfl⟩
end
section
variable {X : Cx}
/-- X() of an own class without own __init__ -/
theorem pmk_own0 {C : Addr} {bmB : List Value} {B newId initId : String} {x : Str} {p pos : Pos} (F : ExcBaseFacts B newId initId bmB) (q : PySem.W.excIn X.K C bmB newId = true) (gC : X.mg x = some (.ref C)) (kC : PySem.W.keepIn X.K (.ref C) = true) (r : Raises X (.ref C)) (hg : Gl X x)
    (hdb : (x == ("__debug__" : Str)) = false := by decide) : PMk X (.Call (.Name x p) [] [] pos) (fun _ H Q => Q (.ref C) none H) := by
  intro pins s σ H Q I h
  refine wpAny_Call_Name_kw (ld_glob I hg gC ?_ hdb)
  refine PySem.W.callWith_K0 I.kIn kC ?_
  show wpAny _ _ (call (.ref C) []) _ _ _
  obtain ⟨bm, N, nm, qn, bs, hdct, sn, sub, ab, col, dd, k0, k1, k2, k3, k5, mN, hC, hN, hni, T⟩ := exc_obj I.kIn q
  refine wpAny_call_exc_subT F T hC hN hni (fun h' e hm => ?_) (by show 0 ≤ sizeLine; exact Nat.zero_le _)
  exact mk_of I hm r h (I.hok.gone hm.new)
end
end Ev
end
section
set_option maxHeartbeats 4000000
/-! EvSa: a, b, c = x, y, z. -/
namespace Ev
open PySem PySem.Spec PyProof.Rows L2
variable {T : LT}

/-- names stored one after another -/
def setF' : L2.St → List Nat → List V → L2.St
  | σ, i :: is, v :: vs => setF' (σ.set i (some v)) is vs
  | σ, _, _ => σ
theorem setF'_snoc : ∀ {is : List Nat} {vs : List V} {σ : L2.St} {i : Nat} {v : V}, is.length = vs.length → setF' σ (is ++ [i]) (vs ++ [v]) = (setF' σ is vs).set i (some v)
  | [], [], _, _, _, _ => rfl
  | j :: is, w :: vs, σ, i, v, h => by
    show setF' (σ.set j (some w)) (is ++ [i]) (vs ++ [v]) = (setF' (σ.set j (some w)) is vs).set i (some v)
    exact setF'_snoc (Nat.succ.inj h)
  | [], _ :: _, _, _, _, h => by cases h
  | _ :: _, [], _, _, _, h => by cases h
theorem setF'_rev : ∀ {is : List Nat} {vs : List V} {σ : L2.St}, is.length = vs.length → setF' σ is.reverse vs.reverse = setAll σ is vs
  | [], [], _, _ => rfl
  | i :: is, v :: vs, σ, h => by
    rw [List.reverse_cons, List.reverse_cons, setF'_snoc (by simpa using Nat.succ.inj h), setF'_rev (Nat.succ.inj h)]
    rfl
  | [], _ :: _, _, h => by cases h
  | _ :: _, [], _, h => by cases h
section
variable {X : Cx}
inductive LocN (X : Cx) : List Str → List Nat → Prop
  | nil : LocN X [] []
  | cons {x : Str} {i : Nat} {ns is} : X.N[i]? = some x → X.env.scope.names.lookup x = some .local → LocN X ns is → LocN X (x :: ns) (i :: is)
theorem LocN.append {ns ms : List Str} {is js : List Nat} (h : LocN X ns is) (h' : LocN X ms js) : LocN X (ns ++ ms) (is ++ js) := by
  induction h with
  | nil => exact h'
  | cons a b _ ih => exact .cons a b ih
theorem LocN.rev {ns : List Str} {is : List Nat} (h : LocN X ns is) : LocN X ns.reverse is.reverse := by
  induction h with
  | nil => exact .nil
  | cons a b _ ih =>
    rw [List.reverse_cons, List.reverse_cons]
    exact ih.append (.cons a b .nil)
theorem LocN.len {ns : List Str} {is : List Nat} (h : LocN X ns is) : ns.length = is.length := by
  induction h with
  | nil => rfl
  | cons _ _ _ ih => simp [ih]
theorem names_ok (hN : X.N.Nodup) {ns : List Str} {is : List Nat} (h : LocN X ns is) : ∀ {pins : List (Addr × Obj)} {σ : L2.St} {H : Hp} {s : Shared} {vs : List V} {us : List Value} {Q : Unit → Shared → Prop}, Inv X pins σ H s → Vals vs us → vs.length = is.length →
    (∀ s', Inv X pins (setF' σ is vs) H s' → Q () s') → wpAny (model X.prog X.w) X.A (assignInOrder (ns.map fun n v => bindName X.env n v) us) Q X.xe s := by
  induction h with
  | nil =>
    intro pins σ H s vs us Q I r hl k
    cases vs with
    | nil => cases r; exact assignInOrder_nil (k s I)
    | cons v vs => cases hl
  | cons hx hloc _ ih =>
    intro pins σ H s vs us Q I r hl k
    cases vs with
    | nil => cases hl
    | cons v vs =>
      cases r with
      | cons r rs =>
        refine assignInOrder_cons (wpAny_bindName (store_ok I hN hx (.inl hloc) r (fun s2 I2 => ?_) (.inr hloc)))
        exact ih I2 rs (Nat.succ.inj hl) k
theorem ps_parN {ns : List Str} {is : List Nat} {ts es : List Expr} {ta : TA} {kt k2 : Nat} {pt pt2 pos : Pos} (hc : X.calm = true) (hN : X.N.Nodup) (hn : LocN X ns is) (hz : ns.length ≤ 3) (ha : PA X es ta)
    (hw : swappedStores [.Tuple ts kt pt] (.Tuple es k2 pt2) X.env = pure (some ns)) : PS X (.Assign [.Tuple ts kt pt] (.Tuple es k2 pt2) pos) (tParN is ta) := by
  refine ⟨fun pins s σ H D I h => ?_⟩
  rw [exec_Assign_arm]
  refine wpAny_bind (wpAny_standAt ?_)
  rw [show swapsWithSole [.Tuple ts kt pt] (.Tuple es k2 pt2) pos.line X.env = pure false from rfl]
  refine wpAny_bind (wpAny_pure ?_)
  rw [if_neg (by decide)]
  refine wpAny_bind (Tuple_ (thn (ha.run _ pins s σ H _ I h) fun us s1 ⟨vs, H1, I1, r1, hl, q1⟩ => ?_))
  have hlen : us.length = ns.length := by rw [← r1.length, ← hl, hn.len]
  refine wpAny_newObj_type ?_ (by show us.toArray.size ≤ sizeLine; rw [List.size_toArray, hlen, sizeLine_eq]; omega)
  have I2 : Inv X pins σ H1 { s1 with heap := s1.heap.push { cls := .type "tuple", data := .seq us.toArray } } := I1.kept (t' := s1.toks) fun b o e => Heap.get?_push_of_some _ e
  rw [hw]
  refine wpAny_bind (wpAny_pure ?_)
  show wpAny (model X.prog X.w) X.A (do rule "assign.swapped-stores"; let items ← unpackItems (.ref s1.heap.objs.size) ns.length none; assignInOrder (ns.reverse.map fun n => bindName X.env n) items.reverse; pure Flow.next) _ _ _
  have hn2 : ns.length = us.toArray.size := by simp [hlen]
  rw [hn2]
  refine wpAny_bind (wpAny_rule (wpAny_bind (unpackItems_tuple (items := us.toArray) (I.ok.hd hc) (IsTup.new s1.heap _) fun h' hx' => ?_)))
  have I3 := I2.kept (h' := h') (t' := s1.toks) fun b o e => hx' b o (Nat.ne_of_lt (Heap.lt_size e)) e
  refine wpAny_bind ?_
  refine names_ok hN hn.rev (vs := vs.reverse) I3 ?_ (by simp [hl]) fun s' I' => wpAny_pure ?_
  · show Vals vs.reverse us.toArray.toList.reverse
    exact Vals.reverse r1
  · rw [setF'_rev hl] at I'
    exact ⟨_, H1, I', q1⟩
end
theorem swp_ok {loc : Str → Bool} {ts es : List Expr} {r : Option (List Str)} {env : Env} {k k2 : Nat} {p p2 : Pos} (hb : env.blockKind = .function) (hl : ∀ id, (env.kindOf id == some .local) = loc id) (h : swp loc ts es = some r) :
    swappedStores [.Tuple ts k p] (.Tuple es k2 p2) env = pure r := by
  have el : loc = fun id => env.kindOf id == some .local := funext fun id => (hl id).symm
  subst el
  let N := ts.filterMap (nameOn (fun id => env.kindOf id == some .local) ((ts.head?.map (·.pos.line)).getD 0))
  have e : swappedStores [.Tuple ts k p] (.Tuple es k2 p2) env = (if (!(ts.length == 2 || ts.length == 3) || es.length != ts.length || env.blockKind != .function) = true then pure none else if es.any isStar = true then pure none else
      if (N.length != ts.length || N.eraseDups.length != N.length) = true then pure none else if es.all (foldedForSure 8) = true then pure none else
        if es.all (constantsAlone 8) = true then ((unsupported "assign.tuple-of-constant-expressions:order-of-the-stores" : Sem PUnit) >>= fun _ => pure (some N)) else pure (some N)) := by
    unfold swappedStores
    simp only [pure_bind]
    rfl
  rw [e, hb]
  have h : (if (!(ts.length == 2 || ts.length == 3) || es.length != ts.length) = true then some none else if es.any isStar = true then some none else if (N.length != ts.length || N.eraseDups.length != N.length) = true then some none else
    if es.all (foldedForSure 8) = true then some none else if es.all (constantsAlone 8) = true then none else some (some N)) = some r := h
  rw [show (ScopeKind.function != ScopeKind.function) = false from rfl, Bool.or_false]
  split
  · rename_i c; rw [if_pos c] at h; cases h; rfl
  · rename_i c; rw [if_neg c] at h
    split
    · rename_i c; rw [if_pos c] at h; cases h; rfl
    · rename_i c; rw [if_neg c] at h
      split
      · rename_i c; rw [if_pos c] at h; cases h; rfl
      · rename_i c; rw [if_neg c] at h
        split
        · rename_i c; rw [if_pos c] at h; cases h; rfl
        · rename_i c; rw [if_neg c] at h
          split
          · rename_i c; rw [if_pos c] at h; cases h
          · rename_i c; rw [if_neg c] at h; cases h; rfl
theorem swp_len {loc : Str → Bool} {ts es : List Expr} {ns : List Str} (h : swp loc ts es = some (some ns)) : ns.length ≤ 3 := by
  unfold swp at h
  split at h
  · cases h
  · rename_i c
    split at h
    · cases h
    · split at h
      · cases h
      · rename_i c2
        split at h
        · cases h
        · split at h
          · cases h
          · cases h
            simp only [Bool.or_eq_true, bne_iff_ne, ne_eq, not_or, Decidable.not_not] at c2
            rw [c2.1]
            simp only [Bool.or_eq_true, Bool.not_eq_true', Bool.or_eq_false_iff, beq_eq_false_iff_ne, bne_iff_ne, ne_eq, not_or, not_and, Decidable.not_not] at c
            by_cases h2 : ts.length = 2
            · omega
            · have := c.1 h2
              omega
end Ev
end
section
set_option maxHeartbeats 4000000
/-! EvSb: dict displays, methods that read a list, isinstance of several. -/
namespace Ev
open PySem PySem.Spec PyProof.Rows L2
variable {T : LT}

section
variable {K : PySem.W.Frag} {e : Sl} {σ : L2.St} {H : Hp} {Z G : Addr → Prop}
/-- a new object, kept from now on -/
theorem StOk.fresh (s : StOk K T e σ H Z G) {p : Addr} {o : HO} (hp : H p = none) (mo : Md o) : StOk K T e σ (upd H p o) Z (fun a => G a ∨ a = p) ∧ Le Z H Z (upd H p o) ∧ ¬ G p ∧ ¬ Z p := by
  have nG : ¬ G p := fun g => (s.gs p g).1 hp
  have nZ : ¬ Z p := fun z => s.zs p z hp
  have s3 := s.same (same_new (o := o) hp)
  refine ⟨⟨⟨s3.tb.1, s3.tb.2.1, fun a z => ?_⟩, s3.zs, fun a g => ?_, fun j sv q => ?_, s3.inj⟩, Same.le (same_new hp) s.zs, nG, nZ⟩
  · rcases z with z | rfl
    · exact s3.tb.2.2 a z
    · exact ⟨_, upd_same, mo⟩
  · rcases g with g | rfl
    · exact s3.gs a g
    · exact ⟨by rw [upd_same]; simp, nZ⟩
  · obtain ⟨v, h1, h2⟩ := s3.sl j sv q
    refine ⟨v, h1, h2.mono Le.refl fun o a ea => ?_⟩
    subst ea
    obtain ⟨u, h3, _, n1, n2⟩ := s.notOwn q o h1
    exact ⟨rfl, n1, fun z => z.elim n2 fun z => by rw [z, hp] at h3; cases h3⟩
/-- the same, by any list or dict -/
theorem TbOk.put {a : Addr} {u w : HO} (t : TbOk T H Z G) (h : H a = some u) (mu : Md u) (mw : Md w) : TbOk T (upd H a w) Z G := by
  have ne : ∀ {c o}, H c = some o → (Md o → False) → upd H a w c = some o := fun {c o} e n => by
    rw [upd_ne (fun z => by subst z; rw [h] at e; cases e; exact n mu)]; exact e
  refine ⟨fun p hp => ?_, fun b z ps e => ?_, fun b g => ?_⟩
  · obtain ⟨ps, h1, h2, h3⟩ := t.1 p hp
    refine ⟨ps, ne h1 fun m => m, h2, fun pos cv hc => ?_⟩
    obtain ⟨c, e1, e2⟩ := h3 pos cv hc
    exact ⟨c, e1, ne e2 fun m => m⟩
  · by_cases hb : b = a
    · subst hb; rw [upd_same] at e; cases e; exact mw
    · rw [upd_ne hb] at e; exact t.2.1 b z ps e
  · by_cases hb : b = a
    · subst hb; exact ⟨_, upd_same, mw⟩
    · rw [upd_ne hb]; exact t.2.2 b g
theorem StOk.put (s : StOk K T e σ H Z G) {a : Addr} {u w : HO} (h : H a = some u) (mu : Md u) (mw : Md w) (g : G a) : StOk K T e σ (upd H a w) Z G := by
  have l := le_write (w := w) h mu (s.gs a g).2
  have some : ∀ {b}, H b ≠ none → upd H a w b ≠ none := fun {b} hb => by
    by_cases e : b = a
    · subst e; rw [upd_same]; simp
    · rw [upd_ne e]; exact hb
  refine ⟨s.tb.put h mu mw, fun b z => some (s.zs b z), fun b g => ⟨some (s.gs b g).1, (s.gs b g).2⟩, fun j sv q => ?_, s.inj⟩
  obtain ⟨v, h1, h2⟩ := s.sl j sv q
  refine ⟨v, h1, h2.mono l fun o b eb => ?_⟩
  obtain ⟨b', _, eb', _, _, n1, n2⟩ := h2.addr o
  rw [eb] at eb'; cases eb'
  exact ⟨upd_ne (fun z => n2 (z ▸ g)), n1, n2⟩
end
section
variable {K : PySem.W.Frag} {mg : Str → Option Value} {W : WX} {m ma mb : ME} {σ : L2.St} {H : Hp} {Q : VK}
theorem rd_dnew (h : RdE K T mg (fun e => .ok (.td []) e) W σ H Q) : tDNewK σ H Q := by
  obtain ⟨e, Z, G, s, h⟩ := h
  intro p hp
  exact PostC.fin h s (same_new hp) ⟨p, rfl, hp, .inl ⟨[], upd_same, .nil⟩⟩
theorem key_of {Z : Addr → Prop} {v : V} {d : D} (h : EncD K Z H v d) (k : keyB d = true) : ∃ kk, v = kV kk ∧ d = keyD kk := by
  unfold keyB at k
  split at k
  · cases h; exact ⟨.inl _, rfl, rfl⟩
  · cases h; exact ⟨.inr _, rfl, rfl⟩
  · cases k
theorem rd_disp1 (h : RdE K T mg (dct1E ma mb) W σ H Q) : tDisp [(RdE K T mg ma W, RdE K T mg mb W)] σ H Q := by
  obtain ⟨e, Z, G, s, h⟩ := h
  intro p hp
  obtain ⟨s1, l1, nG, nZ⟩ := s.fresh (o := .dK []) hp trivial
  have kG : KeepG G H (upd H p (.dK [])) := fun a g => upd_ne (fun e => nG (e ▸ g))
  have h := PostC.trans l1 kG h
  refine ⟨e, Z, _, s1, (PostC.bind (fun _ z => .inl z) h).imp fun o e1 Z1 H1 l2 k2 h x ox => ?_⟩
  cases q1 : fzO o e1 with
  | none => rw [q1] at h; exact h.elim
  | some pr =>
    obtain ⟨dk, e2⟩ := pr
    rw [q1] at h
    obtain ⟨Z2, l3, s2, en⟩ := fz_ok ox q1
    have h := PostC.trans l3 KeepG.refl h
    refine ⟨e2, Z2, _, s2, (PostC.bind (fun _ z => .inl z) h).imp fun y e3 Z3 H3 l4 k4 h v oy => ?_⟩
    cases q2 : fzO y e3 with
    | none => rw [q2] at h; exact h.elim
    | some pr =>
      obtain ⟨dv, e4⟩ := pr
      rw [q2] at h
      obtain ⟨Z4, l5, s4, en2⟩ := fz_ok oy q2
      simp only at h
      split at h
      case isFalse => exact h.elim
      rename_i hk
      obtain ⟨kk, rfl, rfl⟩ := key_of en hk
      have hp3 : H3 p = some (.dK []) := by rw [k4 p (.inr rfl), k2 p (.inr rfl)]; exact upd_same
      refine ⟨hp3, [(kk, v)], rfl, Nat.succ_le_of_lt (Nat.succ_pos 14), ?_⟩
      have s5 := s4.put (w := .dK (mergeK [] [(kk, v)])) hp3 trivial trivial (.inr rfl)
      have lw : Le Z4 H3 Z4 (upd H3 p (.dK (mergeK [] [(kk, v)]))) := le_write hp3 trivial (s4.gs p (.inr rfl)).2
      have kw : KeepG G H3 (upd H3 p (.dK (mergeK [] [(kk, v)]))) := fun a g => upd_ne (fun e => nG (e ▸ g))
      refine h _ Z4 (l5.trans lw) kw (.ref p) ⟨?_, ⟨p, rfl, .inl ⟨_, upd_same, .cons (en2.mono lw) .nil⟩⟩, fun a ea g => by cases ea; exact nG g⟩
      have eg : Gx G (.ref p) (.td [(keyD kk, dv)]) = fun b => G b ∨ b = p := by
        funext b
        unfold Gx
        apply propext
        constructor
        · rintro (h | h)
          · exact .inl h
          · cases h; exact .inr rfl
        · rintro (h | h)
          · exact .inl h
          · exact .inr (by rw [h]; rfl)
      rw [eg]
      exact s5
/-- a method that reads a list -/
def rM (K : PySem.W.Frag) (f : List D → D → Option Op) : V → List V → Hp → VK → Prop := fun x vs H Q => ∃ Z xs q o y, (∀ a, Z a → H a ≠ none) ∧ vs = [y] ∧ f xs q = some o ∧ Vw K Z H x (.list xs) ∧ Vw K Z H y q ∧ ∀ w H', Same H H' → NewOk K Z H H' w o → Q w H'
theorem rd_met {f : List D → D → Option Op} (h : RdE K T mg (metE f ma mb) W σ H Q) : tBM K "list" (rM K f) (RdE K T mg ma W) (tCons (RdE K T mg mb W) tNil) σ H Q := by
  obtain ⟨e, Z, G, s, h⟩ := h
  refine ⟨e, Z, G, s, (PostC.bind (fun _ z => z) h).imp fun o1 e1 Z1 H1 l1 k1 h v ox => ?_⟩
  split at h
  · rename_i xs0 q0
    obtain ⟨a, vs0, rfl, h0, _⟩ := (ox.ok.vw ox.st q0).list
    refine ⟨.inl ⟨rfl, vs0, SqL.of h0⟩, e1, Z1, Gx G (.ref a) o1, ox.st, (PostC.bind (fun _ z => .inl z) h).imp fun o2 e2 Z2 H2 l2 k2 h u oy => ?_⟩
    have s2 := oy.st
    split at h
    · rename_i xs q q1 q2
      simp only [lift] at h
      cases q3 : f xs q with
      | none => rw [q3] at h; exact h.elim
      | some o =>
        rw [q3] at h
        have ox2 : OpOk K Z2 H2 σ (.ref a) o1 := ox.ok.mono l2 fun a z => k2 a (.inr z)
        exact ⟨Z2, xs, q, o, u, s2.zs, rfl, q3, ox2.vw s2 q1, oy.ok.vw s2 q2, fun w H3 sm nw => PostC.fin h (s2.less fun a z => .inl (.inl z)) sm nw⟩
    · exact h.elim
  · exact h.elim
end
section
variable {X : Cx}
theorem mt_cnt (hu : X.A.units + 66 < cLine) : MtR X "list.count" (rM X.K cntD) := by
  intro pins s σ H x xs v us Q I rx rxs h
  obtain ⟨Z, ds, q, o, y, zs, rfl, hf, vx, vy, fin⟩ := h
  unfold cntD at hf
  split at hf
  case isFalse => cases hf
  rename_i hc
  rw [Bool.and_eq_true] at hc
  obtain ⟨c1, d1⟩ := shps_ok hc.1
  have hq : PyData.plain q = true ∧ PyData.depth q ≤ 60 := by
    have := hc.2
    unfold shp at this
    rw [Bool.and_eq_true] at this
    exact ⟨this.1, of_decide_eq_true this.2⟩
  obtain ⟨a, vs, rfl, ha, es⟩ := vx.list
  cases rx
  obtain ⟨u, rfl, ru⟩ := rxs.one
  obtain ⟨its, rv, pl, _⟩ := I.list (SqL.of ha)
  obtain ⟨as, h4⟩ := Dp.readsAll I ds vs its (es.dp c1) rv
  obtain ⟨bs, r2⟩ := vy.reads I ru hq.1
  refine PySem.SeqAt.count_list_data pl.isList (by simpa using h4) r2 c1 hq.1 (by omega) ?_
  exact ⟨.int _, H, I.tok _, ⟨_, rfl⟩, fin _ H (Same.refl H) (by have := imI_some hf; subst this; exact EncD.int _)⟩
theorem mt_idx (hu : X.A.units + 66 < cLine) : MtR X "list.index" (rM X.K idxD) := by
  intro pins s σ H x xs v us Q I rx rxs h
  obtain ⟨Z, ds, q, o, y, zs, rfl, hf, vx, vy, fin⟩ := h
  unfold idxD at hf
  split at hf
  case isFalse => cases hf
  rename_i hc
  rw [Bool.and_eq_true, Bool.and_eq_true] at hc
  obtain ⟨⟨hc1, hc2⟩, hc3⟩ := hc
  obtain ⟨c1, d1⟩ := shps_ok hc1
  have hq : PyData.plain q = true ∧ PyData.depth q ≤ 60 := by
    have := hc2
    unfold shp at this
    rw [Bool.and_eq_true] at this
    exact ⟨this.1, of_decide_eq_true this.2⟩
  split at hf
  case h_2 => cases hf
  rename_i j hj
  obtain ⟨a, vs, rfl, ha, es⟩ := vx.list
  cases rx
  obtain ⟨u, rfl, ru⟩ := rxs.one
  obtain ⟨its, rv, pl, hz⟩ := I.list (SqL.of ha)
  obtain ⟨as, h4⟩ := Dp.readsAll I ds vs its (es.dp c1) rv
  obtain ⟨bs, r2⟩ := vy.reads I ru hq.1
  have h4' : PySem.ReadsAll s.heap its.toArray.toList ds as := by simpa using h4
  obtain ⟨hj1, hit, hno⟩ := PySem.SeqAt.hit_at (d := q) h4' c1 hj
  obtain ⟨⟨cls, dd, data, sls⟩, ho, hcl, n, hdt⟩ := pl.isList
  simp only at hcl hdt
  subst hcl hdt
  have hlen := es.length
  have hrl := rv.length
  have hsl := sizeLine_eq
  refine call_meets PySem.F.slot_list_index ⟨_, ho, rfl⟩ PySem.F.entry_list_index (PySem.F.args_list_index_2 _ _)
    (PySem.SeqAt.list_indexAt a its.toArray n dd sls u (fun u => PyData.eqv (PySem.SeqAt.readOf s.heap u) q) j hj1 (by have : its.toArray.size = its.length := by simp
                                                                                                                       omega) hit hno) ⟨ho, PySem.SeqAt.items_plain h4' r2 c1 hq.1 (by omega), ?_⟩
  exact ⟨.int _, H, I.tok _, ⟨_, rfl⟩, fin _ H (Same.refl H) (by have := imI_some hf; subst this; exact EncD.int _)⟩
end
/-! ### isinstance of one of several -/
theorem vw_same {K : PySem.W.Frag} {Z : Addr → Prop} {H H' : Hp} {v : V} {d : D} (h : Vw K Z H v d) (sm : Same H H') (zs : ∀ a, Z a → H a ≠ none) : Vw K Z H' v d := by
  cases h with
  | im h => exact .im (h.mono (Same.le sm zs))
  | lst h hs => exact .lst (sm _ _ h) (hs.mono (Same.le sm zs))
  | dct h =>
    obtain ⟨u, hu, _⟩ := h.some
    exact .dct (h.mono (Same.le sm zs) (by rw [hu]; exact sm _ _ hu))
def tTys : List Ty → TA
  | [] => tNil
  | t :: r => tCons (tC (.ty (tyName t))) (tTys r)
theorem tTys_is : ∀ {ts : List Ty} {σ : L2.St} {H : Hp} {R : List V → Hp → Prop}, R (ts.map fun t => V.ty (tyName t)) H → tTys ts σ H R
  | [], _, _, _, h => h
  | t :: r, σ, H, R, h => tTys_is (ts := r) (R := fun xs H2 => R (V.ty (tyName t) :: xs) H2) h
theorem tys_paired : ∀ (ts : List Ty), Paired ClsV (ts.map fun t => V.ty (tyName t)) (ts.map fun t => Value.type (tyName t))
  | [] => .nil
  | t :: r => .cons (.ty _) (tys_paired r)
theorem kit_several {K : PySem.W.Frag} {Z : Addr → Prop} {H : Hp} {v : V} {d : D} (h : Vw K Z H v d) : ∀ {ts : List Ty} {b : Bool}, tyDs d ts = some b → PySem.W.kitAny K (.type (tyV d)) (ts.map fun t => Value.type (tyName t)) = some b ∧ (ts ≠ [] → TyX K H v (.type (tyV d)))
  | [], b, q => by cases q; exact ⟨kitAny_nil, fun z => absurd rfl z⟩
  | t :: r, b, q => by
    simp only [tyDs] at q
    split at q
    · rename_i e
      cases q
      obtain ⟨h1, h2⟩ := h.tyX e
      exact ⟨kitAny_cons (kit_ty h2) (fun z => Bool.noConfusion z) (fun _ => rfl), fun _ => h1⟩
    · rename_i e
      obtain ⟨h1, h2⟩ := h.tyX e
      obtain ⟨h3, _⟩ := kit_several h q
      exact ⟨kitAny_cons (kit_ty h2) (fun _ => h3) (fun z => Bool.noConfusion z), fun _ => h1⟩
    · cases q
theorem rd_isis {K : PySem.W.Frag} {mg : Str → Option Value} {W : WX} {m : ME} {σ : L2.St} {H : Hp} {Q : VK} {ts : List Ty} (hne : ts ≠ []) (hl : ts.length ≤ sizeLine) (h : RdE K T mg (isisE ts m) W σ H Q) :
    tCB (rIsiT K) (tCons (RdE K T mg m W) (tCons (tTup (tTys ts)) tNil)) σ H Q := by
  obtain ⟨e, Z, G, s, h⟩ := h
  refine ⟨e, Z, G, s, (h.bind fun _ z => z).imp fun o e1 Z1 H1 l k h v x => ?_⟩
  cases q1 : vw o e1 with
  | none => rw [q1] at h; exact h.elim
  | some p =>
    rw [q1] at h
    dsimp only [lift] at h
    cases q2 : tyDs p ts with
    | none => rw [q2] at h; exact h.elim
    | some b =>
      rw [q2] at h
      refine tTys_is ⟨by rw [List.length_map]; exact hl, fun tp np => ?_⟩
      have sm : Same H1 (upd H1 tp (.tup (ts.map fun t => V.ty (tyName t)))) := same_new np
      obtain ⟨h1, h2⟩ := kit_several (vw_same (x.ok.vw x.st q1) sm x.st.zs) q2
      exact ⟨v, tp, _, _, _, b, rfl, upd_same, tys_paired ts, h2 hne, h1, PostC.fin h x.st0 sm (EncD.bl b)⟩
theorem pa_tys {X : Cx} (hb : ∀ t ty, tyOf t = some ty → X.mg t = none) {sc : Scope} (hsc : X.env.scope = sc) : ∀ {es : List Expr} {ts : List Ty}, glBs sc es = true → tysOf es = some ts → PA X es (tTys ts)
  | [], ts, _, h => by cases h; exact pa_nil
  | e :: es, ts, hg, h => by
    cases e <;> first | (cases h; done) | skip
    rename_i t p
    simp only [glBs, Bool.and_eq_true] at hg
    simp only [tysOf] at h
    cases q1 : tyOf t with
    | none => rw [q1] at h; cases h
    | some ty =>
      cases q2 : tysOf es with
      | none => rw [q1, q2] at h; cases h
      | some r =>
        rw [q1, q2] at h
        cases h
        have key : bootBuiltins t = some (.type (tyName ty)) ∧ t ≠ "__name__" ∧ (t == ("__debug__" : Str)) = false := by
          unfold tyOf at q1
          repeat' split at q1
          all_goals first
            | (cases q1; done)
            | (rename_i e; subst e; cases q1; exact ⟨by decide +kernel, by decide, by decide⟩)
        have gl : Gl X t := by
          show X.env.scope.names.lookup t = _
          rw [hsc]
          have := hg.1
          unfold glB at this
          rw [Bool.and_eq_true, Bool.and_eq_true] at this
          have := this.1.1
          split at this
          · assumption
          · cases this
        exact pa_cons (pe_bltn gl (hb t ty q1) key.1 rfl key.2.1 key.2.2) (pa_tys hb hsc hg.2 q2)
theorem pe_isis {X : Cx} {m : ME} {W : WX} {a : Expr} {es : List Expr} {ts : List Ty} {sc : Scope} {k : Nat} {p p2 pos : Pos} (ha : PE X a (RdE X.K T X.mg m W)) (hg : Gl X "isinstance") (hm : X.mg "isinstance" = none) (hb : ∀ t ty, tyOf t = some ty → X.mg t = none) (hsc : X.env.scope = sc) (hgs : glBs sc es = true) (ht : tysOf es = some ts)
    (hne : ts ≠ []) (hl : ts.length ≤ sizeLine) (hst : ∀ e q, a ≠ .Starred e q) : PE X (.Call (.Name "isinstance" p) [a, .Tuple es k p2] [] pos) (RdE X.K T X.mg (isisE ts m) W) := by
  have h1 : starEach [a, .Tuple es k p2] X.env = (false, eval a X.env) :: starEach [.Tuple es k p2] X.env := by
    cases a <;> first | rfl | exact absurd rfl (hst _ _)
  exact (pe_callB call_isiT hg hm (by decide +kernel) (pa_cons ha (pa_cons (pe_tup (pa_tys hb hsc hgs ht)) pa_nil) h1) (he := h1)).weaken fun _ _ _ q => rd_isis hne hl q
end Ev
end
section
set_option maxHeartbeats 4000000
/-! EvL: a lambda handed to a def that calls it: the caller's side. -/
namespace Ev
open PySem PySem.Spec PyProof.Rows L2
variable {T : LT}

section
variable {K : PySem.W.Frag} {e : Sl} {σ : L2.St} {H H' : Hp} {Z Z' G : Addr → Prop}
theorem StOk.bare (s : StOk K T e σ H Z G) : StOk K T [] [] H Z G :=
  ⟨s.tb, s.zs, s.gs, fun i sv q => (by rw [gt_nil] at q; cases q), fun i j si sj v q => (by rw [gt_nil] at q; cases q)⟩
theorem gt_imS : ∀ {e : Sl} {i : Nat} {sv : Sv}, gt (imS e) i = some sv → gt e i = some sv ∧ ∃ d, sv = .im d
  | [], i, sv, h => by rw [show imS [] = [] from rfl, gt_nil] at h; cases h
  | x :: r, 0, sv, h => by
    cases x with
    | none => cases h
    | some y =>
      cases y with
      | im d => cases h; exact ⟨rfl, d, rfl⟩
      | ol d => cases h
      | od d => cases h
      | ex d => cases h
  | x :: r, i + 1, sv, h => by
    have h : gt (imS r) i = some sv := by
      cases x with
      | none => exact h
      | some y => cases y <;> exact h
    exact gt_imS (e := r) h
/-- what does not change; what the slots own is kept -/
theorem StOk.ims (s : StOk K T e σ H Z G) : StOk K T (imS e) σ H Z (fun a => G a ∨ OwnS e σ a) := by
  have own : ∀ {a : Addr}, OwnS e σ a → ∃ u, H a = some u ∧ Md u ∧ ¬ Z a := by
    rintro a ⟨i, sv, h1, h2, h3⟩
    obtain ⟨u, q1, q2, q3, _⟩ := s.notOwn h1 h2 h3
    exact ⟨u, q1, q2, q3⟩
  refine ⟨⟨s.tb.1, s.tb.2.1, fun a g => ?_⟩, s.zs, fun a g => ?_, fun i sv q => ?_, fun i j si sj v q1 q2 o1 => ?_⟩
  · rcases g with g | g
    · exact s.tb.2.2 a g
    · obtain ⟨u, h1, h2, _⟩ := own g; exact ⟨u, h1, h2⟩
  · rcases g with g | g
    · exact s.gs a g
    · obtain ⟨u, h1, _, h3⟩ := own g; exact ⟨by rw [h1]; simp, h3⟩
  · obtain ⟨h1, d, rfl⟩ := gt_imS q
    obtain ⟨v, h2, h3⟩ := s.sl i _ h1
    exact ⟨v, h2, h3⟩
  · obtain ⟨_, d, rfl⟩ := gt_imS q1
    cases o1
/-- later on: what the slots own was kept -/
theorem StOk.later (s : StOk K T e σ H Z G) (l : Le Z H Z' H') (k : KeepG (fun a => G a ∨ OwnS e σ a) H H') (b : StOk K T [] [] H' Z' (fun a => G a ∨ OwnS e σ a)) : StOk K T e σ H' Z' G := by
  refine ⟨b.tb.less fun a g => .inl g, b.zs, fun a g => b.gs a (.inl g), fun i sv q => ?_, s.inj⟩
  obtain ⟨v, h1, h2⟩ := s.sl i sv q
  refine ⟨v, h1, h2.mono l fun o a ea => ?_⟩
  subst ea
  have ow : OwnS e σ a := ⟨i, sv, q, o, h1⟩
  obtain ⟨_, _, _, _, ng⟩ := s.notOwn q o h1
  exact ⟨k a (.inr ow), (b.gs a (.inr ow)).2, ng⟩
theorem StOk.laterIm {Gx : Addr → Prop} (s : StOk K T (imS e) σ H Z Gx) (l : Le Z H Z' H') (b : StOk K T [] [] H' Z' Gx) : StOk K T (imS e) σ H' Z' Gx := by
  refine ⟨b.tb, b.zs, b.gs, fun i sv q => ?_, s.inj⟩
  obtain ⟨v, h1, h2⟩ := s.sl i sv q
  obtain ⟨_, d, rfl⟩ := gt_imS q
  exact ⟨v, h1, EncD.mono l h2⟩
/-- all but the tables stay -/
theorem StOk.extN (s : StOk K T e σ H Z G) (x : LamX.ExtN H H') (t : LamX.Tabs T.tabs H') : StOk K T e σ H' Z G ∧ Le Z H Z H' ∧ KeepG G H H' := by
  have kz : ∀ a, Z a → H' a = H a := fun a z => by
    cases q : H a with
    | none => exact absurd q (s.zs a z)
    | some o => exact x a o q fun ps e => s.tb.2.1 a z ps (by rw [q, e])
  have md : ∀ {a u}, H a = some u → Md u → H' a = some u := fun {a u} h m => x a u h fun ps e => by subst e; exact m
  have kg : KeepG G H H' := fun a g => by
    obtain ⟨u, h, m⟩ := s.tb.2.2 a g
    rw [h]; exact md h m
  have l : Le Z H Z H' := ⟨fun _ z => z, kz, fun a xs h => x a _ h (fun ps e => by cases e), fun a o u h => x a _ h (fun ps e => by cases e)⟩
  refine ⟨⟨⟨t, fun a z ps e => ?_, fun a g => ?_⟩, fun a z => ?_, fun a g => ⟨?_, (s.gs a g).2⟩, fun i sv q => ?_, s.inj⟩, l, kg⟩
  · rw [kz a z] at e; exact s.tb.2.1 a z ps e
  · rw [kg a g]; exact s.tb.2.2 a g
  · rw [kz a z]; exact s.zs a z
  · rw [kg a g]; exact (s.gs a g).1
  · obtain ⟨v, h1, h2⟩ := s.sl i sv q
    refine ⟨v, h1, h2.mono l fun o a ea => ?_⟩
    subst ea
    obtain ⟨u, h3, m, n1, n2⟩ := s.notOwn q o h1
    exact ⟨by rw [h3]; exact md h3 m, n1, n2⟩
theorem frz_ok {fx : List Nat} : ∀ {fv : List Nat} {e : Sl} {Z : Addr → Prop}, StOk K T e σ H Z G → ∃ Z1, Le Z H Z1 H ∧ StOk K T (frzS fx fv e) σ H Z1 G
  | [], e, Z, s => ⟨Z, Le.refl, s⟩
  | i :: r, e, Z, s => by
    unfold frzS
    split
    · exact frz_ok s
    · have go : ∀ {sv : Sv} {d : D} {e1 : Sl}, gt e i = some sv → fzO (.bor i) e = some (d, e1) → ∃ Z1, Le Z H Z1 H ∧ StOk K T (frzS fx r e1) σ H Z1 G := fun {sv d e1} hg q => by
        obtain ⟨v, h1, h2⟩ := s.sl i sv hg
        have x : Out K T e σ H Z G v (.bor i) := ⟨s.less fun a z => z.elim id False.elim, h1, fun a z => z.elim⟩
        obtain ⟨Z1, l1, s1, _⟩ := fz_ok x q
        obtain ⟨Z2, l2, s2⟩ := frz_ok s1 (fx := fx) (fv := r)
        exact ⟨Z2, l1.trans l2, s2⟩
      split
      · rename_i xs hg
        exact go (d := .list xs) hg (by simp only [fzO, hg])
      · rename_i xs hg
        exact go (d := .dict xs) hg (by simp only [fzO, hg])
      · exact frz_ok s
end
/-- what is wanted of what comes of the lambda -/
def LPost (K : PySem.W.Frag) (T : LT) (mg : Str → Option Value) (Z G : Addr → Prop) (H : Hp) (E : XK) (Q : VK) : LRes → Prop
  | .ok d => ∀ v H' Z', Le Z H Z' H' → KeepG G H H' → StOk K T [] [] H' Z' G → EncD K Z' H' v d → Q v H'
  | .er x => ∀ cls dd H' Z', Le Z H Z' H' → KeepG G H H' → StOk K T [] [] H' Z' G → ExOk K mg Z' x cls dd H' → E cls dd H'
def FPost (K : PySem.W.Frag) (T : LT) (Z G : Addr → Prop) (H : Hp) (Q : VK) : CRes → Prop
  | .ok (.im d) _ => ∀ v H' Z', Le Z H Z' H' → KeepG G H H' → StOk K T [] [] H' Z' G → EncD K Z' H' v d → Q v H'
  | _ => False
/-- what the def makes of the lambda -/
def TTd (K : PySem.W.Frag) (T : LT) (mg : Str → Option Value) (L : LRes → CRes) : (XK → Hp → VK → Prop) → Hp → VK → Prop := fun tl H Q => ∃ r Z G, StOk K T [] [] H Z G ∧
  (∀ H' Z', Le Z H Z' H' → KeepG G H H' → StOk K T [] [] H' Z' G → ∀ E Q', LPost K T mg Z' G H' E Q' r → tl E H' Q') ∧ FPost K T Z G H Q (L r)
theorem rd_lam {K : PySem.W.Frag} {mg : Str → Option Value} {W : WX} {m : ME} {σ : L2.St} {H : Hp} {Q : VK} {fx fv : List Nat} {L : LRes → CRes} (h : RdE K T mg (lamE fx fv L m) W σ H Q) :
    LamX.tLam T.tabs (TTd K T mg L) (fun E => RdE K T mg m (fun cls d _ H => E cls d H)) σ H Q := by
  obtain ⟨e, Z, G, s, h⟩ := h
  refine ⟨s.tb.1, fun H1 eN T1 => ?_⟩
  obtain ⟨Z1, l1, s1⟩ := frz_ok (fx := fx) (fv := fv) s
  obtain ⟨s2, l2, k2⟩ := s1.extN eN T1
  have si := s2.ims
  simp only [lamE] at h
  cases qr : lres (m (imS (frzS fx fv e))) with
  | none => rw [qr] at h; exact h.elim
  | some r =>
    rw [qr] at h
    simp only at h
    refine ⟨r, Z1, _, si.bare, fun H' Z' l k st E Q' lp => ⟨imS (frzS fx fv e), Z', _, si.laterIm l st, ?_⟩, ?_⟩
    · cases qm : m (imS (frzS fx fv e)) with
      | bad => rw [qm] at qr; cases qr
      | er x e1 =>
        rw [qm] at qr
        cases qr
        exact fun cls d H'' Z'' l' k' s' ex => lp cls d H'' Z'' l' k' s'.bare ex
      | ok o e1 =>
        rw [qm] at qr
        simp only [lres] at qr
        cases qf : fzO o e1 with
        | none => rw [qf] at qr; cases qr
        | some p =>
          rw [qf] at qr
          cases qr
          intro H'' Z'' l' k' v x
          obtain ⟨Z3, l3, s3, en⟩ := fz_ok x (d := p.1) (e1 := p.2) qf
          exact lp v H'' Z3 (l'.trans l3) k' s3.bare en
    · cases qL : L r with
      | bad => rw [qL] at h; exact h.elim
      | er x fin => rw [qL] at h; exact h.elim
      | ok op fin =>
        rw [qL] at h
        cases op with
        | im d =>
          intro v H' Z' l k st en
          exact h H' Z' ((l1.trans l2).trans l) (k2.trans (k.less fun a g => .inl g)) v ((s2.later l k st).im en)
        | tl d => exact h.elim
        | td d => exact h.elim
        | bor d => exact h.elim
end Ev
end
section
set_option maxHeartbeats 4000000
/-! EvSc: what the evaluator says of an expression is so. -/
namespace Ev
open PySem PySem.Spec PyProof.Rows L2
variable {T : LT}

theorem o1_some {α β : Type} {f : α → β} {o : Option α} {r : β} (h : o1 f o = some r) : ∃ a, o = some a ∧ r = f a := by
  cases o with
  | none => cases h
  | some a => cases h; exact ⟨a, rfl, rfl⟩
theorem o2_some {α β γ : Type} {f : α → β → γ} {o : Option α} {p : Option β} {r : γ} (h : o2 f o p = some r) : ∃ a b, o = some a ∧ p = some b ∧ r = f a b := by
  cases o with
  | none => cases h
  | some a => cases p with
    | none => cases h
    | some b => cases h; exact ⟨a, b, rfl, rfl, rfl⟩
theorem o3_some {α β γ δ : Type} {f : α → β → γ → δ} {o : Option α} {p : Option β} {q : Option γ} {r : δ} (h : o3 f o p q = some r) : ∃ a b c, o = some a ∧ p = some b ∧ q = some c ∧ r = f a b c := by
  cases o with
  | none => cases h
  | some a => cases p with
    | none => cases h
    | some b => cases q with
      | none => cases h
      | some c => cases h; exact ⟨a, b, c, rfl, rfl, rfl, rfl⟩
theorem iff_some {α : Type} {b : Bool} {o : Option α} {r : α} (h : iff b o = some r) : b = true ∧ o = some r := by
  unfold iff at h
  split at h
  · rename_i hb; exact ⟨hb, h⟩
  · cases h
/-- member by member -/
inductive Each {α β : Type} (R : α → β → Prop) : List α → List β → Prop
  | nil : Each R [] []
  | cons {a b as bs} : R a b → Each R as bs → Each R (a :: as) (b :: bs)
theorem allO_each {α β : Type} {f : α → Option β} : ∀ {es : List α} {ms : List β}, allO (es.map f) = some ms → Each (fun e m => f e = some m) es ms
  | [], ms, h => by cases h; exact .nil
  | e :: es, ms, h => by
    obtain ⟨a, b, h1, h2, rfl⟩ := o2_some h
    exact .cons h1 (allO_each h2)
theorem Each.imp {α β : Type} {R R' : α → β → Prop} (f : ∀ a b, R a b → R' a b) : ∀ {as : List α} {bs : List β}, Each R as bs → Each R' as bs
  | _, _, .nil => .nil
  | _, _, .cons h t => .cons (f _ _ h) (Each.imp f t)
theorem Each.len {α β : Type} {R : α → β → Prop} : ∀ {as : List α} {bs : List β}, Each R as bs → as.length = bs.length
  | _, _, .nil => rfl
  | _, _, .cons _ t => congrArg (· + 1) (Each.len t)

theorem visB_ok {sc : Scope} {x : Str} (h : visB sc x = true) : Vis sc x := by
  unfold visB at h
  split at h
  · exact .inl (by assumption)
  · exact .inr (.inl (by assumption))
  · exact .inr (.inr (by assumption))
  · cases h
theorem locB_ok {sc : Scope} {x : Str} (h : locB sc x = true) : Loc sc x := by
  unfold locB at h
  split at h
  · exact .inl (by assumption)
  · exact .inr (by assumption)
  · cases h
theorem glB_ok {sc : Scope} {x : Str} (h : glB sc x = true) : sc.names.lookup x = some .globalImplicit ∧ (x == ("__debug__" : Str)) = false ∧ x ≠ ("__name__" : Str) := by
  unfold glB at h
  rw [Bool.and_eq_true, Bool.and_eq_true] at h
  refine ⟨?_, by simpa using h.1.2, by simpa using h.2⟩
  have := h.1.1
  split at this
  · assumption
  · cases this
theorem ixN_ok : ∀ {N : List Str} {x : Str} {i : Nat}, ixN N x = some i → N[i]? = some x
  | [], _, _, h => by cases h
  | y :: r, x, i, h => by
    unfold ixN at h
    split at h
    · rename_i e
      cases h
      simp [e]
    · cases q : ixN r x with
      | none => rw [q] at h; cases h
      | some j =>
        rw [q] at h
        cases h
        simpa using ixN_ok q
theorem ixN_lt {N : List Str} {x : Str} {i : Nat} (h : ixN N x = some i) : i < N.length := (List.getElem?_eq_some_iff.mp (ixN_ok h)).1
theorem starEach_cons {e : Expr} {es : List Expr} {env : Env} (h : isStar e = false) : starEach (e :: es) env = (false, eval e env) :: starEach es env := by
  cases e <;> first | rfl | cases h
theorem noStar_cons {e : Expr} {es : List Expr} (h : noStar (e :: es) = true) : isStar e = false ∧ noStar es = true := by
  unfold noStar at h
  rw [List.all_cons, Bool.and_eq_true] at h
  exact ⟨by simpa using h.1, h.2⟩
theorem backTo_any {pos : Pos} {env : Env} : ∀ {es : List Expr}, noStar es = true → (backTo pos (starEach es env)).any (·.1) = false
  | [], _ => rfl
  | e :: es, h => by
    obtain ⟨h1, h2⟩ := noStar_cons h
    rw [starEach_cons h1]
    show (false || (backTo pos (starEach es env)).any (·.1)) = false
    rw [backTo_any h2]
    rfl
theorem blkB_eq {N : List Str} {sc scope : Scope} {own : List (Str × Nat)} : blkB N sc scope own = blkC N sc scope own := rfl

def bltNames : List Str := ["len", "sum", "max", "min", "any", "all", "tuple", "list", "abs", "int", "sorted", "range", "enumerate", "zip", "isinstance", "bool", "str", "dict"]
/-- a def that calls the lambda that it gets -/
structure Taker (X : Cx) (k : Nat) (T : LT) (g : Str) (ga : Addr) (fd : FuncData) (a : Str) (L : LRes → CRes) : Prop where
  ex : ∃ (Ng : List Str) (pg : Arguments) (bg : List Stmt) (sg : Scope) (dV kV doc pm cdv ct oc : Value) (an od : Option Addr) (osl : Array (Option Value)), fd = PySem.W.fnOf g g pg bg sg dV kV doc pm an cdv ct ∧
    X.K.lookup ga = some ⟨oc, od, .func fd, osl⟩ ∧ PySem.W.codeIn X.K cdv g = true ∧ FnScope Ng [a] sg ∧ Ng[0]? = some a ∧ Vis sg a ∧
    ∀ X' : Cx, X'.prog = X.prog → X'.w = X.w → X'.K = X.K → X'.mg = X.mg → X'.base = X.base → Room k X'.A → ∀ q, LamX.GivesTo X' Ng g sg ga cdv bg a q (TTd X.K T X.mg L)
  bd : L2.Binds X.K fd [a] []
  nd : (a == ("__debug__" : Str)) = false
  nc : (a == ("__classdict__" : Str)) = false
/-- the class that a name names -/
def ClsIs (mg : Str → Option Value) (y : Str) (cv : Value) : Prop := (∃ C, cv = .ref C ∧ mg y = some (.ref C)) ∨ ∃ t, cv = .type t ∧ mg y = none ∧ bootBuiltins y = some (.type t)
/-- what the evaluator is told of the module is so -/
structure CtxOk (T : LT) (X : Cx) (W : WX) (c : Cfg) (k : Nat) (sc : Scope) : Prop where
  hsc : X.env.scope = sc
  hN : X.N = c.N
  nd : X.N.Nodup
  calm : c.calm = true → X.calm = true
  tk : Takes X W
  room : c.calm = true → Room k X.A
  un : X.A.units + 66 < cLine
  fns : ∀ f br F, c.fns f = some (br, F) → ∃ a fd ps, X.mg f = some (.ref a) ∧ PySem.W.keepIn X.K (.ref a) = true ∧ Binds X.K fd ps [] ∧ FnOk X.prog X.w X.K X.mg X.base (L2.CX X.prog X.w) k a fd ps (SpD X.K T X.mg br.length F)
  blt : ∀ f, f ∈ bltNames → X.mg f = none
  cst : ∀ x d, c.cst x = some d → ∃ u v, X.mg x = some u ∧ RelV v u ∧ ∀ Z H, EncD X.K Z H v d
  fns2 : ∀ f br F, c.fns2 f = some (br, F) → ∃ a fd ps, X.mg f = some (.ref a) ∧ PySem.W.keepIn X.K (.ref a) = true ∧ Binds X.K fd ps [] ∧ FnOk X.prog X.w X.K X.mg X.base (L2.CX X.prog X.w) (k - 2) a fd ps (SpD X.K T X.mg br.length F)
  tab : c.tab = true → 2 ≤ k ∧ ∃ cA P, X.env.code = .ref cA ∧ LamX.TabB X.base X.mg cA P ∧ (P, X.env.qual ++ "<lambda>") ∈ T.tabs ∧ ∀ p ∈ T.tabs, p.1 = P → p.2 = X.env.qual ++ "<lambda>"
  lams : ∀ g L, c.lam g = some L → ∃ ga fd a, X.mg g = some (.ref ga) ∧ PySem.W.keepIn X.K (.ref ga) = true ∧ Taker X k T g ga fd a L
  hot : c.hot = true → ∃ a oe cls d pn X0, T.exc = some (a, cls, d) ∧ T.mg = X.mg ∧ X = L2.Cx.suite X0 a ((a, oe) :: pn) ∧ Zc cls d oe ∧ ∃ vs, oe.data = .fields vs
  sub : ∀ x y b, c.sub x y = some b → ∃ D, X.mg x = some (.ref D) ∧ ExcC X.K D ∧ ∃ cv, ClsIs X.mg y cv ∧ PySem.W.kitOne X.K (.ref D) cv = some b ∧ PySem.W.exmOne X.K (.ref D) cv = some b
/-- which names may be stored; rw: the scope as it is written -/
def StoOk (X : Cx) (rw : Scope) : Prop := ∀ x, locB rw x = true → L2.Loc X.env.scope x ∧ (X.fn x = true ∨ X.env.scope.names.lookup x = some .local)
section
variable {X : Cx} {W : WX} {c : Cfg} {k : Nat} {sc : Scope}
theorem CtxOk.gl (g : CtxOk T X W c k sc) {x : Str} (h : glB sc x = true) : Gl X x := by
  show X.env.scope.names.lookup x = _
  rw [g.hsc]
  exact (glB_ok h).1
theorem CtxOk.vis (g : CtxOk T X W c k sc) {x : Str} (h : visB sc x = true) : Vis X.env.scope x := by
  rw [g.hsc]
  exact visB_ok h
theorem CtxOk.u (g : CtxOk T X W c k sc) : X.A.units + 66 < cLine := by
  have := g.un
  omega
abbrev SE (T : LT) (X : Cx) (W : WX) (e : Expr) (m : ME) : Prop := PE X e (RdE X.K T X.mg m W)
abbrev ST (T : LT) (X : Cx) (W : WX) (e : Expr) (m : ME) : Prop := PT X e (RdT X.K T X.mg m W)

/-! ### lists of expressions -/
theorem pa_D {es : List Expr} {ms : List ME} (h : Each (SE T X W) es ms) : noStar es = true → PA X es (RdAD X.K T X.mg ms W) := by
  induction h with
  | nil => exact fun _ => pa_nil.weaken fun _ _ _ q => rd_nil q
  | cons h _ ih =>
    intro ns
    obtain ⟨h1, h2⟩ := noStar_cons ns
    exact (pa_cons h (ih h2) (starEach_cons h1)).weaken fun _ _ _ q => rd_cons q
theorem pa_O {es : List Expr} {ms : List ME} (h : Each (SE T X W) es ms) : noStar es = true → PA X es (RdAO X.K T X.mg ms W) := by
  induction h with
  | nil => exact fun _ => pa_nil.weaken fun _ _ _ q => rd_onil q
  | cons h _ ih =>
    intro ns
    obtain ⟨h1, h2⟩ := noStar_cons ns
    exact (pa_cons h (ih h2) (starEach_cons h1)).weaken fun _ _ _ q => rd_ocons q
theorem pa_I {fx : List Nat} {es : List Expr} {ms : List ME} (h : Each (SE T X W) es ms) : noStar es = true → PA X es (RdAI X.K T X.mg fx ms W) := by
  induction h with
  | nil => exact fun _ => pa_nil.weaken fun _ _ _ q => rd_inil q
  | cons h _ ih =>
    intro ns
    obtain ⟨h1, h2⟩ := noStar_cons ns
    exact (pa_cons h (ih h2) (starEach_cons h1)).weaken fun _ _ _ q => rd_icons q
theorem pa_P {es : List Expr} {ms : List ME} (h : Each (SE T X W) es ms) : noStar es = true → PA X es (RdAP X.K T X.mg ms W) := by
  induction h with
  | nil => exact fun _ => pa_nil.weaken fun _ _ _ q => rd_pnil q
  | cons h _ ih =>
    intro ns
    obtain ⟨h1, h2⟩ := noStar_cons ns
    exact (pa_cons h (ih h2) (starEach_cons h1)).weaken fun _ _ _ q => rd_pcons q

/-! ### and, or: the value, the test -/
theorem se_and {es : List Expr} {ms : List ME} {pos : Pos} (h : Each (SE T X W) es ms) : SE T X W (.BoolOp .And es pos) (andE ms) := by
  induction h with
  | nil => exact ⟨fun _ _ _ _ _ _ ⟨_, _, _, _, h⟩ => h.elim⟩
  | cons h t ih =>
    cases t with
    | nil => exact pe_one h
    | cons h' t => exact (pe_and h ih).weaken fun _ _ _ q => rd_andV q
theorem se_or {es : List Expr} {ms : List ME} {pos : Pos} (h : Each (SE T X W) es ms) : SE T X W (.BoolOp .Or es pos) (orE ms) := by
  induction h with
  | nil => exact ⟨fun _ _ _ _ _ _ ⟨_, _, _, _, h⟩ => h.elim⟩
  | cons h t ih =>
    cases t with
    | nil => exact pe_one h
    | cons h' t => exact (pe_or h ih).weaken fun _ _ _ q => rd_orV q
theorem sw_and {es : List Expr} {ms : List ME} {pos : Pos} (h : Each (ST T X W) es ms) : PW X (.BoolOp .And es pos) (RdT X.K T X.mg (andE ms) W) := by
  induction h with
  | nil => exact ⟨fun _ _ _ _ _ _ _ ⟨_, _, _, _, h⟩ => h.elim⟩
  | cons h t ih =>
    cases t with
    | nil => exact pw_and1 h
    | cons h' t => exact (pw_and h ih).weaken fun _ _ _ q => rd_andT q
theorem sw_or {es : List Expr} {ms : List ME} {pos : Pos} (h : Each (ST T X W) es ms) : PW X (.BoolOp .Or es pos) (RdT X.K T X.mg (orE ms) W) := by
  induction h with
  | nil => exact ⟨fun _ _ _ _ _ _ _ ⟨_, _, _, _, h⟩ => h.elim⟩
  | cons h t ih =>
    cases t with
    | nil => exact pw_or1 h
    | cons h' t => exact (pw_or h ih).weaken fun _ _ _ q => rd_orT q
/-- a if c else b as a test -/
theorem st_ifE {t a b : Expr} {mt ma mb : ME} {pos : Pos} (ht : ST T X W t mt) (ha : ST T X W a ma) (hb : ST T X W b mb) : ST T X W (.IfExp t a b pos) (ifE mt ma mb) := by
  refine ⟨fun pins s σ H Q I h => ?_⟩
  obtain ⟨e, Z, G, st, h⟩ := h
  refine isTrue_IfExp (thn (ht.run pins s σ H (fun bb H1 => if bb = true then RdT X.K T X.mg ma W σ H1 Q else RdT X.K T X.mg mb W σ H1 Q) I ⟨e, Z, G, st, ?_⟩) fun bb s1 ⟨H1, I1, q⟩ => ?_)
  · refine (PostC.bind (f := fun o e1 => match tru o with | some true => ma e1 | some false => mb e1 | none => .bad) (fun _ z => z) h).imp fun o e1 Z1 H1 l k h => ?_
    obtain ⟨b, qt, h⟩ := PostC.tru (f := fun b => if b then ma e1 else mb e1) h
    refine ⟨b, qt, fun s1 => ?_⟩
    cases b with
    | true => exact iteT ⟨e1, Z1, G, s1, h⟩
    | false => exact iteF ⟨e1, Z1, G, s1, h⟩
  · cases bb with
    | true => exact ha.run pins s1 σ H1 Q I1 q
    | false => exact hb.run pins s1 σ H1 Q I1 q
/-- a def called with nothing -/
theorem pe_callS0 {CX : CXT} {k : Nat} {f : Addr} {fd : FuncData} {ps : List Str} {sp : Sp} {E : L2.St → XK} {x : Str} {p pos : Pos} (F : FnOk X.prog X.w X.K X.mg X.base CX k f fd ps sp) (hr : Room k X.A) (hg : Gl X x) (hm : X.mg x = some (.ref f)) (hk : PySem.W.keepIn X.K (.ref f) = true) (hb : Binds X.K fd ps [])
    (hx : ∀ σ, PassesAt CX X σ (E σ)) (hdb : (x == ("__debug__" : Str)) = false) : PE X (.Call (.Name x p) [] [] pos) (tCallS sp E tNil) := by
  refine ⟨fun pins s σ H Q I h => ?_⟩
  refine wpAny_Call_Name_kw (ld_glob I hg hm ?_ hdb)
  exact PySem.W.callWith_K0 I.kIn hk (run_fnS F hr hb (hx σ) I .nil h)
theorem blt_name {f : Str} {b : Bl} (h : bltOf f = some b) : f ∈ bltNames ∧ bootBuiltins f = some (bltVal b) ∧ f ≠ ("__name__" : Str) ∧ (f == ("__debug__" : Str)) = false := by
  unfold bltOf at h
  repeat' split at h
  all_goals first
    | (cases h; done)
    | (rename_i e; subst e; cases h; exact ⟨by simp [bltNames], by decide +kernel, by decide, by decide⟩)
theorem blt_ty {b : Bl} : (∃ id, bltVal b = .builtin id) ∨ ∃ T, bltVal b = .type T := by cases b <;> first | exact .inl ⟨_, rfl⟩ | exact .inr ⟨_, rfl⟩
theorem ty_name {t : Str} {ty : Ty} (h : tyOf t = some ty) : t ∈ bltNames := by
  unfold tyOf at h
  repeat' split at h
  all_goals first
    | (cases h; done)
    | (rename_i e; subst e; simp [bltNames])
end
end Ev
end
section
set_option maxHeartbeats 4000000
/-! EvSd: targets, what is walked, comprehensions; the induction over expressions. -/
namespace Ev
open PySem PySem.Spec PyProof.Rows L2
variable {T : LT}

theorem ixNs_append {N : List Str} : ∀ {a b : List Str} {is : List Nat}, ixNs N (a ++ b) = some is → ∃ i1 i2, ixNs N a = some i1 ∧ ixNs N b = some i2 ∧ is = i1 ++ i2
  | [], b, is, h => ⟨[], is, rfl, h, rfl⟩
  | x :: a, b, is, h => by
    simp only [List.cons_append, ixNs] at h
    split at h
    · rename_i i is' h1 h2
      cases h
      obtain ⟨i1, i2, e1, e2, rfl⟩ := ixNs_append h2
      exact ⟨i :: i1, i2, by simp only [ixNs, h1, e1], e2, rfl⟩
    · cases h
theorem RdE.mono {K : PySem.W.Frag} {mg : Str → Option Value} {m : ME} {W : WX} {σ : L2.St} {H : Hp} {Q Q' : VK} (h : RdE K T mg m W σ H Q) (f : ∀ v H1, Q v H1 → Q' v H1) : RdE K T mg m W σ H Q' := by
  obtain ⟨e, Z, G, s, h⟩ := h
  exact ⟨e, Z, G, s, h.imp fun o e1 Z1 H1 l k h v x => f v H1 (h v x)⟩
theorem assignEach_cons {e : Expr} {es : List Expr} {env : Env} (h : isStar e = false) : assignEach (e :: es) env = (false, PySem.assign e env) :: assignEach es env := by
  cases e <;> first | rfl | cases h
theorem assignEach_len {env : Env} : ∀ {es : List Expr}, noStar es = true → (assignEach es env).length = es.length ∧ (assignEach es env).findIdx? (·.1) = none
  | [], _ => ⟨rfl, rfl⟩
  | e :: es, h => by
    obtain ⟨h1, h2⟩ := noStar_cons h
    obtain ⟨q1, q2⟩ := assignEach_len (es := es) h2
    rw [assignEach_cons h1]
    exact ⟨congrArg (· + 1) q1, by rw [List.findIdx?_cons]; simp [q2]⟩
section
variable {X : Cx} {W : WX} {c : Cfg} {k : Nat} {sc rw : Scope}
theorem se_tgs {n : Nat} (ih : ∀ tg t is, tgE n rw c tg = some t → ixNs c.N (tgN n tg) = some is → PG X tg (RdG X.K T c.fx t is)) : ∀ {es : List Expr} {ts : List MT} {is : List Nat}, noStar es = true → allO (es.map (tgE n rw c)) = some ts → ixNs c.N (es.map (tgN n)).flatten = some is →
    PGs X es (RdGs X.K T c.fx ts is)
  | [], ts, is, _, h, hi => by
    cases h
    cases hi
    exact pgs_nil.weaken fun _ _ _ _ q => rd_gnil q
  | e :: es, ts, is, ns, h, hi => by
    obtain ⟨h1, h2⟩ := noStar_cons ns
    obtain ⟨t, ts', e1, e2, rfl⟩ := o2_some h
    obtain ⟨i1, i2, e3, e4, rfl⟩ := ixNs_append (by simpa using hi)
    exact (pgs_cons (ih e t i1 e1 e3) (se_tgs ih h2 e2 e4) (by rw [assignEach_cons h1]; rfl)).weaken fun _ _ _ _ q => rd_gcons q
theorem se_tg (g : CtxOk T X W c k sc) (hc : X.calm = true) (st : StoOk X rw) : ∀ {n : Nat} {tg : Expr} {t : MT} {is : List Nat}, tgE n rw c tg = some t → ixNs c.N (tgN n tg) = some is → PG X tg (RdG X.K T c.fx t is)
  | 0, _, _, _, h, _ => by cases h
  | n + 1, tg, t, is, h, hi => by
    unfold tgE at h
    split at h
    · rename_i x pos
      obtain ⟨hl, h⟩ := iff_some h
      obtain ⟨i, hx, rfl⟩ := o1_some h
      simp only [tgN, ixNs, hx, Option.some.injEq] at hi
      subst hi
      have hi : X.N[i]? = some x := by rw [g.hN]; exact ixN_ok hx
      refine (pg_name g.nd hi (st x hl).1 (st x hl).2).weakenL fun x σ H R hlen q => rd_gname ?_ q
      rw [hlen, g.hN]
      exact ixN_lt hx
    · rename_i es ctx pos
      obtain ⟨ns, h2⟩ := iff_some h
      obtain ⟨ts, h3, rfl⟩ := o1_some h2
      have hs := se_tgs (X := X) (fun tg t is => se_tg g hc st (n := n)) ns h3 hi
      obtain ⟨q1, q2⟩ := assignEach_len (env := X.env) ns
      have hl : ts.length = es.length := (allO_each h3).len.symm
      exact (pg_tup hc hs (q1.trans hl.symm) q2).weakenL fun x σ H R _ q => rd_gtup q
    · cases h
/-- what is walked -/
theorem se_iter (g : CtxOk T X W c k sc) {ev : Expr → Option ME} (ih : ∀ e m, ev e = some m → SE T X W e m) {fx : List Nat} {tg it : Expr} {mi : MI} (h : evI sc fx (isTup tg) ev it = some mi) : PI X tg it (RdI X.K T X.mg fx mi W) := by
  have seq : ∀ {e : Expr} {m : ME}, ev e = some m → PI X tg e (RdI X.K T X.mg fx (itE fx seqF [m]) W) := fun {e m} he =>
    (pi_seq (ih e m he)).weaken fun σ H R q => by
      have q := rd_icons (rd_seq q)
      exact q.mono fun v H1 q => rd_inil q
  have tup : isTup tg = true → ∃ elts kk tpos, tg = .Tuple elts kk tpos := fun h => by
    cases tg <;> first | exact ⟨_, _, _, rfl⟩ | cases h
  have one : ∀ {a : Expr} {m : ME}, ev a = some m → noStar [a] = true → PA X [a] (RdAI X.K T X.mg fx [m] W) := fun {a m} he ns => pa_I (.cons (ih a m he) .nil) ns
  have two : ∀ {a b : Expr} {m m' : ME}, ev a = some m → ev b = some m' → noStar [a, b] = true → PA X [a, b] (RdAI X.K T X.mg fx [m, m'] W) := fun {a b m m'} he he' ns => pa_I (.cons (ih a m he) (.cons (ih b m' he') .nil)) ns
  unfold evI at h
  split at h
  · rename_i f p as pos
    split at h
    · rename_i hf
      subst hf
      obtain ⟨hb, h2⟩ := iff_some h
      rw [Bool.and_eq_true] at hb
      obtain ⟨hg, ns⟩ := hb
      have hm := g.blt ("range" : Str) (by simp [bltNames])
      split at h2
      · rename_i a
        obtain ⟨m, he, rfl⟩ := o1_some h2
        obtain ⟨s1, _⟩ := noStar_cons ns
        exact (pi_range1 (g.gl hg) hm (one he ns) (by rw [starEach_cons s1]; rfl)).weaken fun _ _ _ q => rd_range1 q
      · rename_i a b
        obtain ⟨m, m', he, he', rfl⟩ := o2_some h2
        obtain ⟨s1, ns'⟩ := noStar_cons ns
        obtain ⟨s2, _⟩ := noStar_cons ns'
        exact (pi_range2 (g.gl hg) hm (two he he' ns) (by rw [starEach_cons s1, starEach_cons s2]; rfl) (by rw [starEach_cons s2]; rfl)).weaken fun _ _ _ q => rd_range2 q
      · cases h2
    · split at h
      · rename_i hf
        subst hf
        obtain ⟨hb, h2⟩ := iff_some h
        rw [Bool.and_eq_true, Bool.and_eq_true] at hb
        obtain ⟨⟨hg, ns⟩, ht⟩ := hb
        obtain ⟨elts, kk, tpos, rfl⟩ := tup ht
        have hm := g.blt ("enumerate" : Str) (by simp [bltNames])
        split at h2
        · rename_i a
          obtain ⟨m, he, rfl⟩ := o1_some h2
          obtain ⟨s1, _⟩ := noStar_cons ns
          exact (pi_enumA (g.gl hg) hm (one he ns) (by rw [starEach_cons s1]; rfl)).weaken fun _ _ _ q => rd_enum q
        · cases h2
      · split at h
        · rename_i hf
          subst hf
          obtain ⟨hb, h2⟩ := iff_some h
          rw [Bool.and_eq_true, Bool.and_eq_true] at hb
          obtain ⟨⟨hg, ns⟩, ht⟩ := hb
          obtain ⟨elts, kk, tpos, rfl⟩ := tup ht
          have hm := g.blt ("zip" : Str) (by simp [bltNames])
          split at h2
          · rename_i a b
            obtain ⟨m, m', he, he', rfl⟩ := o2_some h2
            obtain ⟨s1, ns'⟩ := noStar_cons ns
            exact (RZ.pi_zipA (g.gl hg) hm (two he he' ns) (starEach_cons s1) (backTo_any ns')).weaken fun _ _ _ q => rd_zip q
          · cases h2
        · obtain ⟨m, he, rfl⟩ := o1_some h
          exact seq he
  · obtain ⟨_, h2⟩ := iff_some h
    obtain ⟨m, he, rfl⟩ := o1_some h2
    exact seq he
/-- a comprehension's block is of the same kind -/
theorem CtxOk.blk (g : CtxOk T X W c k sc) (hc : X.calm = true) {scope : Scope} {s : Shared} {H : Hp} {C : Addr} {cl : List (Str × Addr)} {fp : List Addr} : CtxOk T (X.blk s H scope (compEnvC scope cl C X.env) fp) WF c k (relB scope sc) where
  hsc := by rw [← g.hsc]; rfl
  hN := g.hN
  nd := g.nd
  calm := g.calm
  tk := fun u s' ⟨_, _, _, _, _, _, _, _, _, _, _, _, _, _, _, _, w⟩ => w.elim
  room := g.room
  un := g.un
  fns := g.fns
  blt := g.blt
  cst := g.cst
  fns2 := g.fns2
  tab := g.tab
  lams := fun gg L h => by
    obtain ⟨ga, fd, a, h1, h2, h3⟩ := g.lams gg L h
    exact ⟨ga, fd, a, h1, h2, ⟨h3.ex, h3.bd, h3.nd, h3.nc⟩⟩
  hot := fun h => by
    obtain ⟨a, oe, cls, d, pn, X0, _, _, e, _⟩ := g.hot h
    rw [e] at hc
    cases hc
  sub := g.sub
theorem StoOk.blk (g : CtxOk T X W c k sc) {scope : Scope} {s : Shared} {H : Hp} {C : Addr} {cl : List (Str × Addr)} {fp : List Addr} : StoOk (X.blk s H scope (compEnvC scope cl C X.env) fp) scope := fun x h => by
  have keep : ∀ {kk : NameKind}, kk ≠ .free → scope.names.lookup x = some kk → (X.blk s H scope (compEnvC scope cl C X.env) fp).env.scope.names.lookup x = some kk := fun {kk} hk e => lookup_relS_keep (sc := X.env.scope) hk e
  rcases locB_ok h with h | h
  · exact ⟨.inl (keep (by decide) h), .inr (keep (by decide) h)⟩
  · refine ⟨.inr (keep (by decide) h), .inl ?_⟩
    show (scope.names.lookup x == some .cell) = true
    rw [h]
    rfl
theorem pts_cond {ifs : List Expr} {cs : List ME} (h : Each (ST T X W) ifs cs) (hl : ifs.length ≤ 1) : PTs X ifs (RdT X.K T X.mg (condE cs) W) := by
  cases h with
  | nil => exact ⟨fun pins s σ H Q I h => pts_nil.run pins s σ H Q I (by
      obtain ⟨e, Z, G, st, h⟩ := h
      obtain ⟨b, q, h⟩ := PostC.ret h
      cases q
      exact h st)⟩
  | cons h t =>
    cases t with
    | nil => exact pts_one h
    | cons _ _ => simp at hl
end
end Ev
end
section
set_option maxHeartbeats 4000000
/-! EvSe: the induction over expressions. -/
namespace Ev
open PySem PySem.Spec PyProof.Rows L2
variable {T : LT}

section
variable {X : Cx} {W : WX} {c : Cfg} {k : Nat} {sc : Scope}
theorem ixN_none : True := trivial
theorem se_name (g : CtxOk T X W c k sc) {x : Str} {pos : Pos} {m : ME} (h : iff (!(x == ("__debug__" : Str)) && !(x == ("__classdict__" : Str))) (match ixN c.N x with
      | some i => iff (visB sc x) (some (varE i))
      | none => iff (glB sc x) (o1 immE (c.cst x))) = some m) : SE T X W (.Name x pos) m := by
  obtain ⟨hb, h⟩ := iff_some h
  rw [Bool.and_eq_true] at hb
  have d1 : (x == ("__debug__" : Str)) = false := by simpa using hb.1
  have d2 : (x == ("__classdict__" : Str)) = false := by simpa using hb.2
  split at h
  · rename_i i hx
    obtain ⟨hv, h⟩ := iff_some h
    cases h
    exact se_var (by rw [g.hN]; exact ixN_ok hx) (g.vis hv) d1 d2
  · obtain ⟨hg, h⟩ := iff_some h
    obtain ⟨d, hc, rfl⟩ := o1_some h
    obtain ⟨u, v, hm, r, hd⟩ := g.cst x d hc
    exact se_imm (pe_glob (g.gl hg) hm r d1) hd
/-- both readings: the value, the test -/
def Both (T : LT) (X : Cx) (W : WX) (e : Expr) (m : ME) : Prop := SE T X W e m ∧ ST T X W e m
theorem both_of {e : Expr} {m : ME} (h : SE T X W e m) (he : ∀ whole, isTrue e X.env whole = (do let v ← whole; standAt e.pos; holding [v] (truthy v))) : Both T X W e m := ⟨h, pt_of h he⟩
theorem each_se {es : List Expr} {ms : List ME} (h : Each (Both T X W) es ms) : Each (SE T X W) es ms := h.imp fun _ _ h => h.1
theorem each_st {es : List Expr} {ms : List ME} (h : Each (Both T X W) es ms) : Each (ST T X W) es ms := h.imp fun _ _ h => h.2
theorem se_part {o : Option Expr} {mo : Option ME} {ev : Expr → Option ME} (ih : ∀ e m, ev e = some m → SE T X W e m) (h : oo (o.map ev) = some mo) : ∃ t, PO X o t ∧ OptT X.K T X.mg W mo t := by
  cases o with
  | none => cases h; exact ⟨_, po_none, .inl ⟨rfl, rfl⟩⟩
  | some e =>
    simp only [Option.map_some] at h
    cases q : ev e with
    | none => rw [q] at h; cases h
    | some m => rw [q] at h; cases h; exact ⟨_, po_some (ih e m q), .inr ⟨m, rfl, rfl⟩⟩
theorem se_call (g : CtxOk T X W c k sc) {f : Str} {p pos : Pos} {as : List Expr} {r : Option (List ME)} {m : ME} (hg : glB sc f = true) (ns : noStar as = true) (ihr : ∀ ms, r = some ms → Each (SE T X W) as ms)
    (h : (match bltOf f with
      | some b => iff (c.calm && decide (as ≠ [])) (o1 (bltE (bltD b)) r)
      | none => (match c.fns f with
        | some (br, F) => iff (c.calm && decide (as.length = br.length)) (o1 (callE br F) r)
        | none => none)) = some m) : SE T X W (.Call (.Name f p) as [] pos) m := by
  have hdb := (glB_ok hg).2.1
  split at h
  · rename_i b hb
    obtain ⟨hne, h⟩ := iff_some h
    rw [Bool.and_eq_true] at hne
    have hcalm := g.calm hne.1
    have hne := hne.2
    obtain ⟨ms, hr, rfl⟩ := o1_some h
    have ih := ihr ms hr
    obtain ⟨h1, h2, h3, h4⟩ := blt_name hb
    cases as with
    | nil => simp at hne
    | cons a as =>
      obtain ⟨s1, s2⟩ := noStar_cons ns
      rcases blt_ty (b := b) with ⟨id, e⟩ | ⟨T, e⟩
      · exact (pe_callB (id := id) (e ▸ callR_blt hcalm g.u) (g.gl hg) (g.blt f h1) (h2.trans (congrArg some e)) (pa_O ih ns) h3 h4 (starEach_cons s1) (backTo_any s2)).weaken fun _ _ _ q => rd_blt q
      · exact (pe_callTy (T := T) (e ▸ callR_blt hcalm g.u) (g.gl hg) (g.blt f h1) (h2.trans (congrArg some e)) (pa_O ih ns) h3 h4 (starEach_cons s1) (backTo_any s2)).weaken fun _ _ _ q => rd_blt q
  · split at h
    · rename_i br F hf
      obtain ⟨hl, h⟩ := iff_some h
      rw [Bool.and_eq_true] at hl
      have hroom := g.room hl.1
      obtain ⟨ms, hr, rfl⟩ := o1_some h
      have ih := ihr ms hr
      obtain ⟨a, fd, ps, hm, hk, hb, fn⟩ := g.fns f br F hf
      cases as with
      | nil =>
        exact (pe_callS0 fn hroom (g.gl hg) hm hk hb (fun σ => passAt g.tk σ) hdb).weaken fun σ H Q q => by
          cases ih
          have q := rd_call (n := br.length) rfl q
          exact rd_onil q
      | cons a as =>
        obtain ⟨s1, s2⟩ := noStar_cons ns
        exact (pe_callS fn hroom (g.gl hg) hm hk hb (fun σ => passAt g.tk σ) (pa_O ih ns) hdb (starEach_cons s1) (backTo_any s2)).weaken fun _ _ _ q => rd_call rfl q
    · cases h
theorem zip_snd : ∀ {a : List Str} {b : List Nat}, a.length = b.length → (a.zip b).map (·.2) = b
  | [], [], _ => rfl
  | _ :: a, _ :: b, h => by simp [zip_snd (Nat.succ.inj h)]
  | [], _ :: _, h => by cases h
  | _ :: _, [], h => by cases h
theorem ixNs_len {N : List Str} : ∀ {l : List Str} {is : List Nat}, ixNs N l = some is → l.length = is.length
  | [], _, h => by cases h; rfl
  | x :: l, is, h => by
    simp only [ixNs] at h
    split at h
    · rename_i h2; cases h; exact congrArg (· + 1) (ixNs_len h2)
    · cases h
theorem folded_of {it : Expr} {env : Env} (h : isSet it = false) : ∀ x, foldedSetIterable it env x = pure x := by
  intro x
  cases it <;> first | rfl | cases h
/-- the parts of a comprehension -/
structure Parts (T : LT) (X : Cx) (W : WX) (m : ME) (elt tg it : Expr) (ifs : List Expr) (scope : Scope) (own : List (Str × Nat)) (wi : TI) (gt : TG) (tt : TT) (te : TE) : Prop where
  pi : PI X tg it wi
  ok : BlkOk X.N X.env.scope scope own
  pg : ∀ (s : Shared) (H : Hp) (C : Addr) (cl : List (Str × Addr)) (fp : List Addr), PG (X.blk s H scope (compEnvC scope cl C X.env) fp) tg gt
  pt : ∀ (s : Shared) (H : Hp) (C : Addr) (cl : List (Str × Addr)) (fp : List Addr), PTs (X.blk s H scope (compEnvC scope cl C X.env) fp) ifs tt
  pe : ∀ (s : Shared) (H : Hp) (C : Addr) (cl : List (Str × Addr)) (fp : List Addr), PE (X.blk s H scope (compEnvC scope cl C X.env) fp) elt te
  hs : ∀ x, foldedSetIterable it X.env x = pure x
  rd : ∀ σ H Q, RdE X.K T X.mg m W σ H Q → tLc wi gt tt te (own.map (·.2)) σ H Q
theorem parts_of (g : CtxOk T X W c k sc) {n : Nat} (IH : ∀ (X : Cx) (W : WX) (c : Cfg) (k : Nat) (sc : Scope), CtxOk T X W c k sc → ∀ (e : Expr) (m : ME), evE n sc c e = some m → Both T X W e m) {elt tg it : Expr} {ifs : List Expr} {scope : Scope} {m : ME}
    (h : (match ixNs c.N (tgN n tg) with
      | some own => iff (c.calm && blkB c.N sc scope ((tgN n tg).zip own) && !isSet it && decide (ifs.length ≤ 1)) (match evI sc c.fx (isTup tg) (evE n sc c) it, tgE n scope c tg, allO (ifs.map (evE n (relB scope sc) c)), evE n (relB scope sc) c elt with
        | some m, some t, some cs, some x => some (compE own m t (condE cs) x)
        | _, _, _, _ => none)
      | none => none) = some m) : X.calm = true ∧ ∃ own wi gt tt te, Parts T X W m elt tg it ifs scope own wi gt tt te := by
  split at h
  · rename_i own ho
    obtain ⟨hb, h⟩ := iff_some h
    rw [Bool.and_eq_true, Bool.and_eq_true, Bool.and_eq_true] at hb
    obtain ⟨⟨⟨hb0, hb1⟩, hb2⟩, hb3⟩ := hb
    have hcalm := g.calm hb0
    split at h
    · rename_i mi t cs x h1 h2 h3 h4
      cases h
      have blk := blkOk_by (show blkC c.N sc scope ((tgN n tg).zip own) = true from hb1)
      refine ⟨hcalm, (tgN n tg).zip own, RdI X.K T X.mg c.fx mi W, RdG X.K T c.fx t own, RdT X.K T X.mg (condE cs) WF, RdE X.K T X.mg x WF, se_iter g (fun e m h => (IH X W c k sc g e m h).1) h1, by rw [g.hN, g.hsc]; exact blk, fun s H C cl fp => se_tg (g.blk hcalm) hcalm (StoOk.blk g) h2 ho, fun s H C cl fp => ?_, fun s H C cl fp => (IH _ WF c k _ (g.blk hcalm) elt x h4).1, folded_of (by simpa using hb2), fun σ H Q q => ?_⟩
      · exact pts_cond (((allO_each h3).imp fun e m h => IH _ WF c k _ (g.blk hcalm) e m h).imp fun _ _ h => h.2) (of_decide_eq_true hb3)
      · rw [zip_snd (ixNs_len ho)]
        exact rd_comp q
    · cases h
  · cases h
theorem plainIx_of {i : Expr} (h : ∀ lo hi p, i ≠ .Slice lo hi none p) : PlainIx i := by
  intro o v
  cases i with
  | Slice lo hi st p =>
    cases st with
    | none => exact absurd rfl (h lo hi p)
    | some st => rfl
  | _ => rfl
end
section
variable {X : Cx} {W : WX} {c : Cfg} {k : Nat} {sc : Scope}
/-- isinstance(e, C), e what is held -/
theorem se_isx (g : CtxOk T X W c k sc) {x t : Str} {p px pt pos : Pos} {i : Nat} (hg : glB sc "isinstance" = true) (hh : c.hot = true) (hv : visB sc x = true) (ht : glB sc t = true) (d1 : (x == ("__debug__" : Str)) = false) (d2 : (x == ("__classdict__" : Str)) = false) (hx : ixN c.N x = some i) :
    SE T X W (.Call (.Name "isinstance" p) [.Name x px, .Name t pt] [] pos) (isxE c.sub t i) := by
  refine ⟨fun pins s σ H Q I h => ?_⟩
  obtain ⟨e, Z, G, st, h⟩ := h
  obtain ⟨a, oe, cls, d, pn, X0, hT, hmg, hX, hz, hf⟩ := g.hot hh
  simp only [isxE] at h
  split at h
  · rename_i cl qg
    split at h
    · rename_i b hb
      obtain ⟨v, hv', a', cls', d', e1, rfl, C, h1, h2, h3⟩ := st.sl i _ qg
      rw [hT] at e1
      cases e1
      obtain ⟨D, hD, ec, cv, hcv, hk, _⟩ := g.sub cl t b hb
      rw [hmg, hD] at h1
      cases h1
      subst h2
      simp only at h3
      subst h3
      have po : PE X (.Name x px) (tVar i) := pe_var (by rw [g.hN]; exact ixN_ok hx) (g.vis hv) d1 d2
      have fin : Q (.bl b) H := PostC.ret h _ (st.im (.bl b))
      obtain ⟨gl1, gl2, gl3⟩ := glB_ok ht
      have hi := g.blt ("isinstance" : Str) (by simp [bltNames])
      have gi := g.gl hg
      have gt' := g.gl ht
      rcases hcv with ⟨C', rfl, hm⟩ | ⟨ty, rfl, hm, hbt⟩
      · have pc : PE X (.Name t pt) (tC (.ref C')) := pe_glob gt' hm rfl gl2
        subst hX
        exact (pe_callB (call_isE ec hz hf) gi hi (by decide +kernel) (pa_cons po (pa_cons pc pa_nil))).run pins s σ H Q I ⟨_, hv', .ref C', .ref C', b, rfl, fun u r => r, hk, fin⟩
      · have pc : PE X (.Name t pt) (tC (.ty ty)) := pe_bltn gt' hm hbt rfl gl3 gl2
        subst hX
        exact (pe_callB (call_isE ec hz hf) gi hi (by decide +kernel) (pa_cons po (pa_cons pc pa_nil))).run pins s σ H Q I ⟨_, hv', .ty ty, .type ty, b, rfl, fun u r => r, hk, fin⟩
    · exact h.elim
  · exact h.elim
theorem lamB_eq {sc scope : Scope} : lamB sc scope = LamX.lamSB sc scope := rfl
theorem noPar_eq {p : Arguments} (h : noPar p = true) : p = { posonlyargs := [], args := [], vararg := none, kwonlyargs := [], kw_defaults := [], kwarg := none, defaults := [] } := by
  obtain ⟨a, b, c, d, e, f, g⟩ := p
  unfold noPar at h
  simp only [Bool.and_eq_true, List.isEmpty_iff, Option.isNone_iff_eq_none] at h
  obtain ⟨⟨⟨⟨⟨⟨h1, h2⟩, h3⟩, h4⟩, h5⟩, h6⟩, h7⟩ := h
  subst h1 h2 h3 h4 h5 h6 h7
  rfl
/-- g(lambda: body) -/
theorem se_lam (g : CtxOk T X W c k sc) {n : Nat} (IH : ∀ (X : Cx) (W : WX) (c : Cfg) (k : Nat) (sc : Scope), CtxOk T X W c k sc → ∀ (e : Expr) (m : ME), evE n sc c e = some m → Both T X W e m) {gn : Str} {p lpos pos : Pos} {params : Arguments} {body : Expr} {scope : Scope} {m : ME}
    (h : iff (c.calm && glB sc gn && c.tab && noPar params && lamB sc scope) (o2 (lamE c.fx (freesOf c.N scope)) (c.lam gn) (evE n scope { c with fns := c.fns2, fns2 := fun _ => none, lam := fun _ => none, tab := false, calm := true, hot := false } body)) = some m) :
    SE T X W (.Call (.Name gn p) [.Lambda params body scope lpos] [] pos) m := by
  obtain ⟨hb, h'⟩ := iff_some h
  clear h
  simp only [Bool.and_eq_true] at hb
  obtain ⟨⟨⟨⟨hcc, hg⟩, ht⟩, hn⟩, hl⟩ := hb
  have hroom := g.room hcc
  have hp := noPar_eq hn
  subst hp
  obtain ⟨L, mb, hL, hm, rfl⟩ := o2_some h'
  obtain ⟨ga, fd, a, hmg, hk, tk⟩ := g.lams gn L hL
  obtain ⟨Ng, pg, bg, sg, dV, kV, doc, pm, cdv, ct, oc, an, od, osl, rfl, lk, hcd, S, hN0, hva, gives⟩ := tk.ex
  obtain ⟨h2, cA, P, hcode, TB, hT, hu⟩ := g.tab ht
  obtain ⟨k2, rfl⟩ : ∃ k2, k = k2 + 2 := ⟨k - 2, by omega⟩
  have LS : LamX.LamS X.env.scope scope := by rw [g.hsc]; exact LamX.lamS_by (lamB_eq ▸ hl)
  refine (LamX.pe_lamcall (T := T.tabs) (TT := TTd X.K T X.mg L) (t := fun E => RdE X.K T X.mg mb (fun cls d _ H => E cls d H)) (g.gl hg) hmg hk lk hcd tk.bd S hN0 hva (gives X rfl rfl rfl rfl rfl hroom _) TB hcode hT hu hroom LS rfl (fun _ _ _ _ _ => rfl) (fun A outer s H E f c' hr => ?_) (glB_ok hg).2.1 tk.nd tk.nc).weaken fun σ H Q q => rd_lam q
  refine (IH (LamX.lamCx X A outer s H E scope f c') (fun cls d _ H => E cls d H) { c with fns := c.fns2, fns2 := fun _ => none, lam := fun _ => none, tab := false, calm := true, hot := false } k2 scope ?_ body mb hm).1
  exact {
    hsc := rfl
    hN := g.hN
    nd := g.nd
    calm := fun _ => rfl
    tk := takes_of rfl rfl rfl rfl
    room := fun _ => hr
    un := by
      have := hr.un
      show (A.deeper (LamX.lamEnv X scope s.heap.objs.size f c')).units + 66 < cLine
      omega
    fns := fun f br F h => g.fns2 f br F h
    blt := g.blt
    cst := g.cst
    fns2 := fun f br F h => by cases h
    tab := fun h => by cases h
    lams := fun gg L h => by cases h
    hot := fun h => by cases h
    sub := g.sub }
end
theorem sound_E : ∀ (n : Nat) (X : Cx) (W : WX) (c : Cfg) (k : Nat) (sc : Scope), CtxOk T X W c k sc → ∀ (e : Expr) (m : ME), evE n sc c e = some m → Both T X W e m
  | 0, _, _, _, _, _, _, _, _, h => by cases h
  | n + 1, X, W, c, k, sc, g, e, m, h => by
    have ih : ∀ e m, evE n sc c e = some m → Both T X W e m := fun e m h => sound_E n X W c k sc g e m h
    have ihs : ∀ {es : List Expr} {ms : List ME}, allO (es.map (evE n sc c)) = some ms → Each (Both T X W) es ms := fun {es ms} h => (allO_each h).imp fun e m h => ih e m h
    unfold evE at h
    split at h
    · cases h; exact both_of (se_imm pe_int fun _ _ => .int _) fun _ => rfl
    · cases h; exact both_of (se_imm pe_bl fun _ _ => .bl _) fun _ => rfl
    · cases h; exact both_of (se_imm pe_non fun _ _ => .non) fun _ => rfl
    · cases h; exact both_of (se_imm pe_str fun _ _ => .str _) fun _ => rfl
    · exact both_of (se_name g h) fun _ => rfl
    · obtain ⟨x, y, h1, h2, rfl⟩ := o2_some h
      exact both_of ((pe_op opR_bin (ih _ _ h1).1 (ih _ _ h2).1).weaken fun _ _ _ q => rd_op2 q) fun _ => rfl
    · obtain ⟨x, h1, rfl⟩ := o1_some h
      exact ⟨(pe_not (ih _ _ h1).1).weaken fun _ _ _ q => rd_notV q, (pt_not (ih _ _ h1).2).weaken fun _ _ _ q => rd_not q⟩
    · obtain ⟨x, h1, rfl⟩ := o1_some h
      exact both_of ((pe_un unR_neg (ih _ _ h1).1).weaken fun _ _ _ q => rd_un1 q) fun _ => rfl
    · obtain ⟨ms, h1, rfl⟩ := o1_some h
      exact ⟨se_and (each_se (ihs h1)), (sw_and (each_st (ihs h1))).pt⟩
    · obtain ⟨ms, h1, rfl⟩ := o1_some h
      exact ⟨se_or (each_se (ihs h1)), (sw_or (each_st (ihs h1))).pt⟩
    · obtain ⟨x, y, z, h1, h2, h3, rfl⟩ := o3_some h
      exact ⟨(pe_ifExp (ih _ _ h1).2 (ih _ _ h2).1 (ih _ _ h3).1).weaken fun _ _ _ q => rd_if q, st_ifE (ih _ _ h1).2 (ih _ _ h2).2 (ih _ _ h3).2⟩
    · obtain ⟨hb, h⟩ := iff_some h
      obtain ⟨x, y, h1, h2, rfl⟩ := o2_some h
      have hu := g.u
      have hm := by simpa using hb
      exact ⟨(pe_cmpR (opR_cmp (by omega)) (ih _ _ h1).1 (ih _ _ h2).1 hm).weaken fun _ _ _ q => rd_op2 q, (pt_cmpR (opR_cmp (by omega)) (ih _ _ h1).1 (ih _ _ h2).1 hm).weaken fun _ _ _ q => rd_op2 (rd_T q)⟩
    · obtain ⟨hb, h⟩ := iff_some h
      obtain ⟨x, y, z, h1, h2, h3, rfl⟩ := o3_some h
      have hu := g.u
      have hm := by simpa using hb
      exact ⟨(pe_chain (opR_cmp (by omega)) (opR_cmp (by omega)) (ih _ _ h1).1 (ih _ _ h2).1 (ih _ _ h3).1 hm).weaken fun _ _ _ q => rd_chain q, (pt_chain (opR_cmp (by omega)) (opR_cmp (by omega)) (ih _ _ h1).1 (ih _ _ h2).1 (ih _ _ h3).1 hm).weaken fun _ _ _ q => rd_chain (rd_T q)⟩
    · obtain ⟨hb, h⟩ := iff_some h
      rw [Bool.and_eq_true] at hb
      obtain ⟨ms, h1, rfl⟩ := o1_some h
      have hl : ms.length ≤ sizeLine := by rw [← (ihs h1).len, ← sizeMax_eq]; exact of_decide_eq_true hb.2
      exact both_of ((pe_tup (pa_D (each_se (ihs h1)) hb.1)).weaken fun _ _ _ q => rd_tup hl q) fun _ => rfl
    · obtain ⟨hb, h⟩ := iff_some h
      rw [Bool.and_eq_true] at hb
      obtain ⟨ms, h1, rfl⟩ := o1_some h
      have hl : ms.length ≤ sizeLine := by rw [← (ihs h1).len, ← sizeMax_eq]; exact of_decide_eq_true hb.2
      exact both_of ((pe_lst (pa_D (each_se (ihs h1)) hb.1)).weaken fun _ _ _ q => rd_lst hl q) fun _ => rfl
    · obtain ⟨x, lo, hi, h1, h2, h3, rfl⟩ := o3_some h
      obtain ⟨tl, p1, q1⟩ := se_part (fun e m h => (ih e m h).1) h2
      obtain ⟨th, p2, q2⟩ := se_part (fun e m h => (ih e m h).1) h3
      exact both_of ((pe_slice slR_cut (ih _ _ h1).1 p1 p2).weaken fun _ _ _ q => rd_slice q q1 q2) fun _ => rfl
    · rename_i hne
      obtain ⟨x, y, h1, h2, rfl⟩ := o2_some h
      have hu := g.u
      exact both_of ((pe_ix (ixR_sub (by omega)) (ih _ _ h1).1 (ih _ _ h2).1 (plainIx_of hne)).weaken fun _ _ _ q => rd_op2 q) fun _ => rfl
    · rename_i elt tg it ifs scope pos
      obtain ⟨hcalm, own, wi, gt, tt, te, P⟩ := parts_of g (fun X W c k sc g e m h => sound_E n X W c k sc g e m h) h
      exact both_of ((pe_lc hcalm g.nd P.pi P.ok P.pg P.pt P.pe P.hs).weaken fun σ H Q q => P.rd σ H Q q) fun _ => rfl
    · cases h; exact both_of (pe_dnewK.weaken fun _ _ _ q => rd_dnew q) fun _ => rfl
    · obtain ⟨x, y, h1, h2, rfl⟩ := o2_some h
      exact both_of ((pe_disp (pps_cons (ih _ _ h1).1 (ih _ _ h2).1 pps_nil) rfl rfl (by simp) (by simp)).weaken fun _ _ _ q => rd_disp1 q) fun _ => rfl
    · obtain ⟨_, h⟩ := iff_some h
      cases h
      exact both_of se_bad fun _ => rfl
    · exact both_of (se_lam g (fun X W c k sc g e m h => sound_E n X W c k sc g e m h) h) fun _ => rfl
    · rename_i f p as pos _
      obtain ⟨hb, h'⟩ := iff_some h
      rw [Bool.and_eq_true] at hb
      obtain ⟨hg, ns⟩ := hb
      clear h
      split at h'
      · rename_i hf
        subst hf
        split at h'
        · rename_i x px t pt _
          split at h'
          · rename_i ty hty
            obtain ⟨hgt, h2⟩ := iff_some h'
            obtain ⟨y, h3, rfl⟩ := o1_some h2
            have h4 : evE n sc c (.Name x px) = some y := by
              cases n with
              | zero => cases h3
              | succ n => exact h3
            refine both_of (pe_isi (ih _ _ h4).1 (g.gl hg) (g.blt _ (by simp [bltNames])) (g.gl hgt) (g.blt t (ty_name hty)) hty fun e q z => by cases z) fun _ => rfl
          · obtain ⟨hb2, h2⟩ := iff_some h'
            simp only [Bool.and_eq_true] at hb2
            obtain ⟨⟨⟨⟨hh, hv⟩, ht⟩, d1⟩, d2⟩ := hb2
            obtain ⟨i, hx, rfl⟩ := o1_some h2
            exact both_of (se_isx g hg hh hv ht (by simpa using d1) (by simpa using d2) hx) fun _ => rfl
        · rename_i a t pt _ _
          obtain ⟨hgt, h2⟩ := iff_some h'
          obtain ⟨ty, x, h1, h3, rfl⟩ := o2_some h2
          refine both_of (pe_isi (ih _ _ h3).1 (g.gl hg) (g.blt _ (by simp [bltNames])) (g.gl hgt) (g.blt t (ty_name h1)) h1 fun e q z => ?_) fun _ => rfl
          subst z
          cases (noStar_cons ns).1
        · rename_i a ts kk pt _
          obtain ⟨hgt, h2⟩ := iff_some h'
          rw [Bool.and_eq_true, Bool.and_eq_true] at hgt
          obtain ⟨tys, x, h1, h3, rfl⟩ := o2_some h2
          have hne : tys ≠ [] := by
            intro z
            subst z
            cases ts with
            | nil => simp at hgt
            | cons t ts =>
              cases t <;> first | (cases h1; done) | (obtain ⟨_, _, _, _, z⟩ := o2_some h1; cases z)
          have hl : tys.length ≤ sizeLine := by
            have : ∀ {ts : List Expr} {tys : List Ty}, tysOf ts = some tys → tys.length = ts.length := by
              intro ts
              induction ts with
              | nil => intro tys h; cases h; rfl
              | cons t ts ih =>
                intro tys h
                cases t <;> first | (cases h; done) | (obtain ⟨_, _, _, h4, rfl⟩ := o2_some h; exact congrArg (· + 1) (ih h4))
            rw [this h1, ← sizeMax_eq]
            exact of_decide_eq_true hgt.2
          refine both_of (pe_isis (ih _ _ h3).1 (g.gl hg) (g.blt _ (by simp [bltNames])) (fun t ty ht => g.blt t (ty_name ht)) g.hsc hgt.1.1 h1 hne hl fun e q z => ?_) fun _ => rfl
          subst z
          cases (noStar_cons ns).1
        · cases h'
      · exact both_of (se_call g hg ns (fun ms h => each_se (ihs h)) h') fun _ => rfl
    · rename_i o m' apos a cpos
      split at h
      · rename_i f hm
        split at h
        · rename_i x p
          obtain ⟨hb, h'⟩ := iff_some h
          simp only [Bool.and_eq_true] at hb
          obtain ⟨⟨⟨⟨hv, ns⟩, hl⟩, d1⟩, d2⟩ := hb
          have d1 : (x == ("__debug__" : Str)) = false := by simpa using d1
          have d2 : (x == ("__classdict__" : Str)) = false := by simpa using d2
          have ns : isStar a = false := by simpa using ns
          obtain ⟨i, y, hx, h1, rfl⟩ := o2_some h'
          have po : PE X (.Name x p) (tVar i) := pe_var (by rw [g.hN]; exact ixN_ok hx) (g.vis hv) d1 d2
          have na : noStar [a] = true := by simp [noStar, ns]
          have pa := pa_D (.cons (ih _ _ h1).1 .nil) na
          have e1 := starEach_cons (env := X.env) (es := []) ns
          have hf : ((backTo cpos (starEach [a] X.env)).all (fun x => !x.1) && (backToKw cpos (keywordEach [] X.env)).all (fun x => x.1.isSome) && decide ([a].length + ([] : List Keyword).length + (if ([] : List Keyword).isEmpty then 0 else 1) < 30)) = true := by
            rw [e1]; rfl
          unfold mtOf at hm
          split at hm
          · rename_i e; subst e; cases hm
            exact both_of ((pe_bm PySem.F.plainAttrs_list PySem.F.slot_list_append PySem.F.type_list_append mt_append po pa rfl hf hl e1 rfl).weaken fun _ _ _ q => rd_append q) fun _ => rfl
          · split at hm
            · rename_i e; subst e; cases hm
              exact both_of ((pe_bm PySem.F.plainAttrs_list PySem.F.slot_list_extend PySem.F.type_list_extend mt_extend po pa rfl hf hl e1 rfl).weaken fun _ _ _ q => rd_extend q) fun _ => rfl
            · cases hm
        · cases h
      · split at h
        · rename_i f hm
          obtain ⟨hb, h'⟩ := iff_some h
          simp only [Bool.and_eq_true] at hb
          obtain ⟨⟨hoc, ns⟩, hl⟩ := hb
          have ns : isStar a = false := by simpa using ns
          have hoc : isCall o = false := by simpa using hoc
          obtain ⟨x, y, h1, h2, rfl⟩ := o2_some h'
          have na : noStar [a] = true := by simp [noStar, ns]
          have e1 := starEach_cons (env := X.env) (es := []) ns
          have pa := pa_cons (ih _ _ h2).1 pa_nil e1
          have hf : ((backTo cpos (starEach [a] X.env)).all (fun x => !x.1) && (backToKw cpos (keywordEach [] X.env)).all (fun x => x.1.isSome) && decide ([a].length + ([] : List Keyword).length + (if ([] : List Keyword).isEmpty then 0 else 1) < 30)) = true := by
            rw [e1]; rfl
          have hbase : ∀ nm, attributeBase o nm X.env (eval o X.env) = eval o X.env := fun nm => by
            cases o <;> first | rfl | cases hoc
          have hu := g.u
          unfold vmOf at hm
          split at hm
          · rename_i e; subst e; cases hm
            exact both_of ((pe_bm PySem.F.plainAttrs_list PySem.F.slot_list_count PySem.F.type_list_count (mt_cnt hu) (ih _ _ h1).1 pa (hbase _) hf hl e1 rfl).weaken fun _ _ _ q => rd_met q) fun _ => rfl
          · split at hm
            · rename_i e; subst e; cases hm
              exact both_of ((pe_bm PySem.F.plainAttrs_list PySem.F.slot_list_index PySem.F.type_list_index (mt_idx hu) (ih _ _ h1).1 pa (hbase _) hf hl e1 rfl).weaken fun _ _ _ q => rd_met q) fun _ => rfl
            · cases hm
        · cases h
    · cases h
end Ev
end
section
set_option maxHeartbeats 4000000
/-! EvSf: the induction over statements. -/
namespace Ev
open PySem PySem.Spec PyProof.Rows L2
variable {T : LT}

theorem rd_var {K : PySem.W.Frag} {mg : Str → Option Value} {W : WX} {i : Nat} {σ : L2.St} {H : Hp} {Q : VK} (q : RdE K T mg (varE i) W σ H Q) : tVar i σ H Q := by
  obtain ⟨e, Z, G, s, h⟩ := q
  cases qg : gt e i with
  | none => simp only [varE, qg] at h; exact h.elim
  | some sv =>
    obtain ⟨v, h1, h2⟩ := s.sl i sv qg
    have bor : PostC K T mg W σ Z G H (CE' K T σ G Q) (.ok (.bor i) e) → tVar i σ H Q := fun h => ⟨v, h1, h.ret v ⟨s.less fun a z => z.elim id False.elim, h1, fun a z => z.elim⟩⟩
    cases sv with
    | im d =>
      simp only [varE, qg] at h
      exact ⟨v, h1, h.ret v (s.im h2)⟩
    | ex x => simp only [varE, qg] at h; exact h.elim
    | ol xs => simp only [varE, qg] at h; exact bor h
    | od xs => simp only [varE, qg] at h; exact bor h
section
variable {X : Cx} {W : WX} {c : Cfg} {k : Nat} {sc : Scope}
abbrev SS (T : LT) (X : Cx) (W : WX) (fx : List Nat) (s : Stmt) (m : MS) : Prop := PS X s (RdS X.K T X.mg fx m W)
theorem rd_aug {i : Nat} {f : Ev.D → Ev.D → Option Op} {m : ME} {D : Ends} {σ : L2.St} {H : Hp} {fx : List Nat} (hi : i < σ.length) (h : RdS X.K T X.mg fx (asgS (nameG fx i) (op2 f (varE i) m)) W D σ H) : tAug i (RdE X.K T X.mg m W) (rF X.K f) D σ H := by
  have q := rd_op2 (rd_asg hi h)
  obtain ⟨v, h1, h2⟩ := rd_var q
  exact ⟨v, h1, h2⟩
theorem pip_aug {op : Operator} : PIp X op (rF X.K (augD op)) := by
  intro pins s σ H x y v u Q I rx ry h
  obtain ⟨Z, p, q, o, zs, hf, vx, vy, fin⟩ := h
  have int : ∀ {i : Int}, o = .im (.int i) → Q (.int i) H := fun {i} e => fin _ H (Same.refl H) (by subst e; exact EncD.int i)
  unfold augD at hf
  split at hf
  · exact iop_add pins s σ H x y v u Q I rx ry ⟨_, _, vx.int, vy.int, int (imI_some hf)⟩
  · exact iop_sub pins s σ H x y v u Q I rx ry ⟨_, _, vx.int, vy.int, int (imI_some hf)⟩
  · cases hf
theorem ss_block {fx : List Nat} {b : List Stmt} {ms : List MS} (h : Each (SS T X W fx) b ms) : PSs X b (RdS X.K T X.mg fx (seqS ms) W) := by
  induction h with
  | nil => exact pss_nil.weaken fun _ _ _ q => rd_next q
  | cons h t ih =>
    cases t with
    | nil => exact pss_one h
    | cons h' t => exact (pss_cons h ih).weaken fun _ _ _ q => rd_seq2 q
theorem plainN_star : ∀ {ts : List Expr} {ns : List Str}, plainN ts = some ns → noStar ts = true
  | [], _, _ => rfl
  | t :: r, ns, h => by
    cases t <;> simp only [plainN] at h <;> first | cases h | skip
    cases q : plainN r with
    | none => rw [q] at h; cases h
    | some ns' =>
      have := plainN_star q
      unfold noStar at this ⊢
      rw [List.all_cons, this]
      rfl
theorem plainN_len {N : List Str} : ∀ {ts : List Expr} {ns : List Str} {is : List Nat}, plainN ts = some ns → ixNs N ns = some is → ts.length = is.length
  | [], ns, is, h, h2 => by cases h; cases h2; rfl
  | t :: r, ns, is, h, h2 => by
    cases t <;> simp only [plainN] at h <;> first | cases h | skip
    cases q : plainN r with
    | none => rw [q] at h; cases h
    | some ns' =>
      rw [q] at h
      cases h
      simp only [ixNs] at h2
      split at h2
      · rename_i i is' h3 h4
        cases h2
        exact congrArg (· + 1) (plainN_len q h4)
      · cases h2
theorem se_gnm {T : LT} {X : Cx} {W : WX} {c : Cfg} {k : Nat} {sc : Scope} (g : CtxOk T X W c k sc) (st : StoOk X sc) : ∀ {ts : List Expr} {ns : List Str} {is : List Nat}, plainN ts = some ns → ns.all (locB sc) = true → ixNs c.N ns = some is → PGs X ts (gNm is) ∧ ∀ i, i ∈ is → i < X.N.length
  | [], ns, is, h, _, h2 => by
    cases h
    cases h2
    exact ⟨pgs_nil, fun i hi => by cases hi⟩
  | t :: r, ns, is, h, hl, h2 => by
    cases t <;> simp only [plainN] at h <;> first | cases h | skip
    rename_i x pos
    cases q : plainN r with
    | none => rw [q] at h; cases h
    | some ns' =>
      rw [q] at h
      cases h
      rw [List.all_cons, Bool.and_eq_true] at hl
      simp only [ixNs] at h2
      split at h2
      · rename_i i is' h3 h4
        cases h2
        obtain ⟨hs, hlt⟩ := se_gnm g st q hl.2 h4
        have hi : X.N[i]? = some x := by rw [g.hN]; exact ixN_ok h3
        refine ⟨pgs_cons (pg_name g.nd hi (st x hl.1).1 (st x hl.1).2) hs (by rw [assignEach_cons rfl]; rfl), fun j hj => ?_⟩
        rcases List.mem_cons.mp hj with rfl | hj
        · rw [g.hN]; exact ixN_lt h3
        · exact hlt j hj
      · cases h2
theorem sw_tup {e : Expr} {ts : List Expr} {kk : Nat} {p : Pos} {l : Nat} {env : Env} : swapsWithSole [.Tuple ts kk p] e l env = pure false := by
  show swapsWith e (some (.Tuple ts kk p)) l env = pure false
  cases e <;> rfl
theorem sw_sub {e : Expr} {o i : Expr} {p : Pos} {l : Nat} {env : Env} : swapsWithSole [.Subscript o i p] e l env = pure false := by
  show swapsWith e (some (.Subscript o i p)) l env = pure false
  cases e <;> rfl
theorem locN_of (hX : ∀ x, locOnly sc x = true → X.env.scope.names.lookup x = some .local) (hN : X.N = c.N) : ∀ {ns : List Str} {is : List Nat}, allLoc sc ns = true → ixNs c.N ns = some is → LocN X ns is
  | [], _, _, h => by cases h; exact .nil
  | x :: ns, is, hl, h => by
    unfold allLoc at hl
    rw [List.all_cons, Bool.and_eq_true] at hl
    simp only [ixNs] at h
    split at h
    · rename_i i is' h1 h2
      cases h
      exact .cons (by rw [hN]; exact ixN_ok h1) (hX x hl.1) (locN_of hX hN hl.2 h2)
    · cases h
theorem locN_lt {ns : List Str} {is : List Nat} (h : LocN X ns is) : ∀ i, i ∈ is → i < X.N.length := by
  induction h with
  | nil => intro i hi; cases hi
  | cons h1 _ _ ih =>
    intro i hi
    rcases List.mem_cons.mp hi with rfl | hi
    · exact (List.getElem?_eq_some_iff.mp h1).1
    · exact ih i hi
/-- name = e -/
theorem ss_asg (g : CtxOk T X W c k sc) (st : StoOk X sc) {n : Nat} {x : Str} {px pos : Pos} {e : Expr} {i : Nat} {m : ME} (hl : locB sc x = true) (hx : ixN c.N x = some i) (he : evE n sc c e = some m) : SS T X W c.fx (.Assign [.Name x px] e pos) (asgS (nameG c.fx i) m) := by
  have hi : X.N[i]? = some x := by rw [g.hN]; exact ixN_ok hx
  have hlt : ∀ {σ : L2.St}, σ.length = X.N.length → i < σ.length := fun {σ} q => by rw [q, g.hN]; exact ixN_lt hx
  have hE := (sound_E n X W c k sc g e m he).1
  have plain : swapsWith e (some (.Name x px)) pos.line X.env = pure false → SS T X W c.fx (.Assign [.Name x px] e pos) (asgS (nameG c.fx i) m) := fun hs =>
    (ps_set g.nd hi (st x hl).1 hE hs (st x hl).2).weakenL fun D σ H q h => rd_asg (hlt q) h
  cases n with
  | zero => cases he
  | succ n =>
    cases e with
    | SetComp _ _ _ _ => cases he
    | DictComp _ _ _ _ _ => cases he
    | ListComp elt gens scope cpos =>
      by_cases hb : (X.env.blockKind == .function && X.env.kindOf x == some .local && px.line == (Expr.ListComp elt gens scope cpos).pos.line && !(scope.names.any fun (n, k) => n == x && (k == .local || k == .cell))) = true
      · have hs : swapsWith (.ListComp elt gens scope cpos) (some (.Name x px)) pos.line X.env = pure true := by
          show (pure _ : Sem Bool) = pure true
          rw [← hb]
        unfold evE at he
        split at he
        case h_18 =>
          rename_i elt' tg it ifs scope' pos' heq
          cases heq
          obtain ⟨hcalm, own, wi, gt, tt, te, P⟩ := parts_of g (sound_E n) he
          have hyl : X.env.scope.names.lookup x = some .local := by
            simp only [Bool.and_eq_true] at hb
            have := hb.1.1.2
            exact eq_of_beq this
          exact (ps_setLc hcalm g.nd hi hyl hs P.pi P.ok P.pg P.pt P.pe P.hs).weakenL fun D σ H q h => P.rd σ H _ (rd_asg (hlt q) h)
        all_goals first
          | (rename_i heq; cases heq; done)
          | (cases he; done)
          | skip
      · refine plain ?_
        show (pure _ : Sem Bool) = pure false
        have hb2 : (X.env.blockKind == .function && X.env.kindOf x == some .local && px.line == (Expr.ListComp elt gens scope cpos).pos.line && !(scope.names.any fun (n, k) => n == x && (k == .local || k == .cell))) = false := Bool.eq_false_iff.mpr hb
        rw [← hb2]
    | _ => exact plain rfl
/-- what a def's body stands in -/
structure BodyOk (T : LT) (X : Cx) (W : WX) (c : Cfg) (k : Nat) (sc : Scope) : Prop where
  cx : CtxOk T X W c k sc
  st : StoOk X sc
  bk : X.env.blockKind = .function
  po : c.calm = true → PassesOwn (model X.prog X.w) X.A X.env X.xe
  clo : c.clo = none
  exs : ∀ C, c.exs C = true → ∃ a, X.mg C = some (.ref a) ∧ ∀ p pos, Gl X C → PMk X (.Call (.Name C p) [] [] pos) (fun _ H Q => Q (.ref a) none H)
theorem sound_S : ∀ (n : Nat), BodyOk T X W c k sc → ∀ (s : Stmt) (m : MS), evS n sc c s = some m → SS T X W c.fx s m
  | 0, _, _, _, h => by cases h
  | n + 1, b, s, m, h => by
    have g := b.cx
    have ihE : ∀ {e : Expr} {m : ME}, evE n sc c e = some m → Both T X W e m := fun {e m} h => sound_E n X W c k sc g e m h
    have ihB : ∀ {b' : List Stmt} {m : MS}, o1 seqS (allO (b'.map (evS n sc c))) = some m → PSs X b' (RdS X.K T X.mg c.fx m W) := fun {b' m} h => by
      obtain ⟨ms, h1, rfl⟩ := o1_some h
      exact ss_block ((allO_each h1).imp fun s m h => sound_S n b s m h)
    unfold evS at h
    split at h
    · obtain ⟨x, h1, rfl⟩ := o1_some h
      exact (ps_ret (ihE h1).1).weaken fun _ _ _ q => rd_ret q
    · cases h
      exact ps_retN.weaken fun _ _ _ q => rd_retN q
    · rename_i e pos
      obtain ⟨hc, h'⟩ := iff_some h
      obtain ⟨x, h1, rfl⟩ := o1_some h'
      refine (ps_expr (ihE h1).1 ?_).weaken fun _ _ _ q => rd_expr q
      cases e <;> first | rfl | cases hc
    · obtain ⟨x, y, z, h1, h2, h3, rfl⟩ := o3_some h
      exact (ps_if (ihE h1).2 (ihB h2) (ihB h3)).weaken fun _ _ _ q => rd_ifS q
    · split at h
      · rename_i own ho
        obtain ⟨hs, h'⟩ := iff_some h
        rw [Bool.and_eq_true] at hs
        have hcalm := g.calm hs.1
        have hs2 := hs.2
        obtain ⟨x, y, z, h1, h2, h3, rfl⟩ := o3_some h'
        exact (ps_for (b.po hs.1) hcalm (se_iter g (fun e m h => (ihE h).1) h1) (se_tg g hcalm b.st h2 ho) (ihB h3) (folded_of (by simpa using hs2))).weaken fun _ _ _ q => rd_for q
      · cases h
    · obtain ⟨hcc, h'⟩ := iff_some h
      obtain ⟨x, y, h1, h2, rfl⟩ := o2_some h'
      exact (ps_while (b.po hcc) (ihE h1).2 (ihB h2)).weaken fun _ _ _ q => rd_while q
    · obtain ⟨hl, h'⟩ := iff_some h
      obtain ⟨i, x, h1, h2, rfl⟩ := o2_some h'
      exact ss_asg g b.st hl h1 h2
    · rename_i ts kk p e pos
      have tgt : ∀ {e : Expr} {x : ME} {own : List Nat} {t : MT}, ixNs c.N (tgN n (.Tuple ts kk p)) = some own → tgE n sc c (.Tuple ts kk p) = some t → X.calm = true → evE n sc c e = some x → swappedStores [.Tuple ts kk p] e X.env = pure none → SS T X W c.fx (.Assign [.Tuple ts kk p] e pos) (asgT t x) := fun {e x own t} h1 h2 hc h3 hw =>
        (ps_asg (ihE h3).1 (se_tg g hc b.st h2 h1) sw_tup hw rfl).weaken fun _ _ _ q => rd_asgT q
      split at h
      · rename_i es k2 p2
        have hloc : ∀ id, (X.env.kindOf id == some .local) = locOnly sc id := fun id => by
          show (X.env.scope.names.lookup id == some .local) = _
          rw [g.hsc]
          rfl
        split at h
        · rename_i ns hw
          obtain ⟨hb0, h'⟩ := iff_some h
          rw [Bool.and_eq_true, Bool.and_eq_true] at hb0
          have hcalm := g.calm hb0.1.1
          have hb : noStar es = true ∧ allLoc sc ns = true := ⟨hb0.1.2, hb0.2⟩
          obtain ⟨is, ms, h1, h2, rfl⟩ := o2_some h'
          have ln : LocN X ns is := locN_of (sc := sc) (fun x hx => by
            have := (hloc x).trans hx
            exact eq_of_beq this) g.hN hb.2 h1
          refine (ps_parN hcalm g.nd ln (swp_len hw) (pa_P ((allO_each h2).imp fun e m h => (ihE h).1) hb.1) (swp_ok b.bk hloc hw)).weakenL fun D σ H q h => rd_par (fun i hi => ?_) h
          rw [q]
          exact locN_lt ln i hi
        · rename_i hw
          split at h
          · rename_i ns hp
            split at h
            · rename_i is h1
              obtain ⟨hb, h'⟩ := iff_some h
              simp only [Bool.and_eq_true, decide_eq_true_eq] at hb
              obtain ⟨⟨⟨⟨hc0, hst⟩, hlc⟩, hnd⟩, hle⟩ := hb
              have hcalm := g.calm hc0
              obtain ⟨ms, h2, rfl⟩ := o1_some h'
              obtain ⟨hs, hlt⟩ := se_gnm g b.st hp hlc h1
              obtain ⟨q1, q2⟩ := assignEach_len (env := X.env) (plainN_star hp)
              have hlen : ts.length = is.length := plainN_len hp h1
              refine (ps_asg (pe_tup (pa_P ((allO_each h2).imp fun e m h => (ihE h).1) hst)) (pg_tup hcalm hs (q1.trans hlen) q2) sw_tup (swp_ok b.bk hloc hw) rfl).weakenL fun D σ H q h => rd_parT hnd hle (fun i hi => ?_) h
              rw [q]
              exact hlt i hi
            · cases h
          · split at h
            · rename_i own ho
              obtain ⟨hcc, h'⟩ := iff_some h
              obtain ⟨t, x, h1, h2, rfl⟩ := o2_some h'
              exact tgt ho h1 (g.calm hcc) h2 (swp_ok b.bk hloc hw)
            · cases h
        · cases h
      · rename_i e' hne
        split at h
        · rename_i own ho
          obtain ⟨hcc, h'⟩ := iff_some h
          obtain ⟨t, x, h1, h2, rfl⟩ := o2_some h'
          refine tgt ho h1 (g.calm hcc) h2 ?_
          cases e <;> first | rfl | exact absurd rfl (hne _ _ _)
        · cases h
    · rename_i x p i p2 e pos
      obtain ⟨hb, h'⟩ := iff_some h
      simp only [Bool.and_eq_true] at hb
      obtain ⟨⟨hv, d1⟩, d2⟩ := hb
      have d1 : (x == ("__debug__" : Str)) = false := by simpa using d1
      have d2 : (x == ("__classdict__" : Str)) = false := by simpa using d2
      obtain ⟨j, mi, me, h1, h2, h3, rfl⟩ := o3_some h'
      have po : PE X (.Name x p) (tVar j) := pe_var (by rw [g.hN]; exact ixN_ok h1) (g.vis hv) d1 d2
      refine (ps_asg (ihE h3).1 (pg_sub po (ihE h2).1 set_list (fun v => ?_)) sw_sub rfl rfl).weaken fun _ _ _ q => rd_seti q
      cases i with
      | Slice lo hi st p =>
        exfalso
        cases n with
        | zero => cases h2
        | succ n => cases h2
      | _ => rfl
    · obtain ⟨hl, h'⟩ := iff_some h
      obtain ⟨i, x, h1, h2, rfl⟩ := o2_some h'
      rename_i y p op e pos
      have hi : X.N[i]? = some y := by rw [g.hN]; exact ixN_ok h1
      refine (ps_aug g.nd hi (b.st y hl).1 (ihE h2).1 pip_aug (b.st y hl).2).weakenL fun D σ H q h => rd_aug ?_ h
      rw [q, g.hN]
      exact ixN_lt h1
    · rename_i C p pos pos2
      obtain ⟨hb, h'⟩ := iff_some h
      rw [Bool.and_eq_true, Bool.and_eq_true] at hb
      cases h'
      obtain ⟨a, hm, hp⟩ := b.exs C hb.2
      exact (ps_raise (g.calm hb.1.1) g.tk (hp _ _ (g.gl hb.1.2))).weaken fun _ _ _ q => rd_raise0 hm q
    · obtain ⟨_, h'⟩ := iff_some h
      rw [b.clo] at h'
      cases h'
    · cases h
      exact ps_pass.weaken fun _ _ _ q => rd_next q
    · cases h
      exact ps_break.weaken fun _ _ _ q => rd_brk q
    · cases h
      exact ps_continue.weaken fun _ _ _ q => rd_ct q
    · cases h
end
end Ev
end
section
set_option maxHeartbeats 4000000
/-! EvT1: try with several clauses, each of which names what it has caught. -/
namespace Ev
open PySem PySem.Spec PyProof.Rows L2

/-- what the clauses wish of an exception of the body -/
def wManyA (K : PySem.W.Frag) (Wout : WX) (D : Ends) : List (Value × Nat × (Addr → Value → Option Addr → TS)) → WX
  | [] => Wout
  | (c, i, ts) :: r => fun cls d σ H => ∃ b, PySem.W.exmOne K cls c = some b ∧ (b = true → ∀ a, H a = none → ts a cls d { nx := fun σ' H' => D.nx (σ'.set i none) H', rt := D.rt, bk := fun σ' H' => D.bk (σ'.set i none) H', ct := fun σ' H' => D.ct (σ'.set i none) H' } (σ.set i (some (.ref a))) H) ∧
    (b = false → wManyA K Wout D r cls d σ H)
inductive HdsA (X : Cx) : List ExceptHandler → List (Value × Nat × (Addr → Value → Option Addr → TS)) → Prop
  | nil : HdsA X [] []
  | cons {x n : Str} {i : Nat} {c : Value} {ts : Addr → Value → Option Addr → TS} {b₀ : Stmt} {suite : List Stmt} {np pos' : Pos} {hds : List ExceptHandler} {l : List (Value × Nat × (Addr → Value → Option Addr → TS))} (hc : Names X x c) (hi : X.N[i]? = some n) (hln : X.env.kindOf n = some .local)
      (hsu : ∀ (a : Addr) (oe : Obj) (cls : Value) (d : Option Addr) (pn : List (Addr × Obj)), Zc cls d oe → (∃ vs, oe.data = .fields vs) → PSs (X.suite a ((a, oe) :: pn)) (b₀ :: suite) (ts a cls d)) (r : HdsA X hds l) :
      HdsA X (.ExceptHandler (some (.Name x np)) (some n) (b₀ :: suite) pos' :: hds) ((c, i, ts) :: l)
section
variable {X : Cx} {body : List Stmt} {h₀ : ExceptHandler} {hds : List ExceptHandler} {l : List (Value × Nat × (Addr → Value → Option Addr → TS))} {pos : Pos} {tb : WX → TS} {Wout : WX}
theorem ps_try_mas (hs : X.stack = X.env :: X.outer) (hf : X.env.frame = some X.env.locals) (hN : X.N.Nodup) (tk : Takes X Wout)
    (hb : ∀ (W : WX) (pn : List (Addr × Obj)) (xe : Value → Shared → Prop), Takes (X.tr pn xe) W → PassesOwn (model X.prog X.w) X.A X.env xe → PSs (X.tr pn xe) body (tb W))
    (hh : HdsA X (h₀ :: hds) l) : PS X (.Try body (h₀ :: hds) [] [] pos) (fun D σ H => tb (wManyA X.K Wout D l) D σ H) := by
  refine ⟨fun pins s σ H D I h => ?_⟩
  have ok := I.ok
  have hfr : X.A.frames = some (X.env :: X.outer) := by rw [ok.frames, hs]
  refine wpAny_Try_except ?_
  refine wpAny_mono ((hb (wManyA X.K Wout D l) (X.pn ++ pins) (fun e s₁ => wpAny (model X.prog X.w) X.A (noteFrame e X.env) (fun _ s₂ => wpAny (model X.prog X.w) X.A (setFlight e none) (fun _ s₃ =>
    wpAny (model X.prog X.w) X.A (handleBy e X.env (h₀ :: hds)) (SP X pins D) X.xe s₃) X.xe s₂) X.xe s₁) (fun u s' xx => ?_) PassesOwn.looking).run [] s σ H D (I.toTry _) h) (fun f s1 hsp => ?_) (fun e s1 he => he)
  · obtain ⟨a, B, sI, pins', σ', H', cls, d, rfl, J', nb, up, sky, na, os, ag, w⟩ := xx
    have J : Inv X pins σ' H' sI := J'.ofTry ok
    have sky' : Sky B (X.env :: X.outer) a (Zc cls d) X.env.locals s'.heap := by rw [← hs]; exact sky
    show wpAny (model X.prog X.w) X.A (noteFrame (.ref a) X.env) _ _ _
    refine Sky.land Zc.steady hfr hf sky' fun h3 fl3 up3 => ?_
    have J3 : Inv X pins σ' H' { s' with heap := h3 } := J.landed nb fl3.1 (up.trans up3) os ag
    obtain ⟨oe3, vs3, he3, hz3, hd3⟩ := fl3.there
    have notFr : ∀ {h : Heap} {o : Obj} {vs : Array Value}, h.FunFrames B (X.env :: X.outer) → h.get? a = some o → o.data = .fields vs → a ∉ frs (X.env :: X.outer) := fun {h o vs} ff e dd hm => by
      obtain ⟨_, o', e', hnf⟩ := ff.mem hm
      rw [e] at e'; cases e'
      exact hnf _ dd
    have nfr := notFr fl3.2.2.1 he3 hd3
    have nL : a ≠ X.env.locals := fun z => nfr (List.mem_filterMap.mpr ⟨X.env, List.mem_cons_self, by rw [hf, z]⟩)
    have nF : a ∉ X.fs := fun hm => by
      obtain ⟨e, he, q⟩ := List.mem_filterMap.mp hm
      exact nfr (List.mem_filterMap.mpr ⟨e, List.mem_cons_of_mem _ he, q⟩)
    have S3 := J3.suite he3 hd3 na nL nF
    have go : ∀ {hds' : List ExceptHandler} {l' : List (Value × Nat × (Addr → Value → Option Addr → TS))}, HdsA X hds' l' → wManyA X.K Wout D l' cls d σ' H' →
        wpAny (model X.prog X.w) X.A (handleBy (.ref a) X.env hds') (SP X pins D) X.xe { s' with heap := h3 } := by
      intro hds' l' hk
      induction hk with
      | nil =>
        intro w
        refine wpAny_handleBy_nil ?_
        obtain ⟨k1, k2, k3, oe, vs, T, oT, ts', he, hz, hd, h1, hr⟩ := id fl3
        unfold PySem.passOn
        refine wpAny_bind (wpAny_field he hd h1 ?_)
        rw [if_neg (show ¬ ((Value.ref T == Value.none) = true) from by simp)]
        have fin : wpAny (model X.prog X.w) X.A (setFlight (.ref a) X.env.frame) (fun _ s4 => wpAny (model X.prog X.w) X.A (throw (.ref a) : Sem Flow) (SP X pins D) X.xe s4) X.xe { s' with heap := h3 } := by
          rw [hf]
          refine HandSPX.setFlight_upZ fl3 fun h4 hh4 up4 => wpAny_throw (tk _ _ ?_)
          exact ⟨a, B, sI, pins, σ', H', cls, d, rfl, J, nb, (up.trans up3).trans up4, .inr (.inr (by rw [hs]; exact hh4)), na, os, ag, w⟩
        first
          | exact wpAny_bind (wpAny_pure (wpAny_bind fin))
          | exact wpAny_bind fin
      | @cons x n i c ts b₀ suite np pos' hds2 l2 hc hi hln hsu r ih =>
        intro w
        obtain ⟨b, hb1, hyes, hno⟩ := w
        refine wpAny_handleBy_cons (codeAny_handlers_test ?_) (by intro q; cases q)
        have LT : PySem.W.Looks (model X.prog X.w) h3 (typeOf (.ref a)) cls := fun A Q E s k q => wpAny_typeOf_ref (k _ _ he3) (by rw [hz3.1]; exact q)
        have LM := PySem.W.exm_one (M := model X.prog X.w) (J3.kIn) LT hb1
        have test : ∀ {Q : Value → Shared → Prop} {E : Value → Shared → Prop}, Q c { s' with heap := h3 } → wpAny (model X.prog X.w) (X.A.mark (some (.ref a))) (eval (.Name x np) X.env) Q E { s' with heap := h3 } := fun {Q E} q => by
          obtain ⟨hg, hdbg, hm | ⟨hm, hv, hnn⟩⟩ := hc
          · exact ld_glob (X := X.suite a ((a, oe3) :: (X.pn ++ pins))) S3 hg hm q hdbg
          · exact ld_blt (X := X.suite a ((a, oe3) :: (X.pn ++ pins))) S3 hg hm hv q hnn hdbg
        refine test (LM.here ?_)
        cases b with
        | true =>
          refine codeAny_handlers_suite_as ?_
          refine HandSPX.lands_againZ fl3 fun h4 fl4 up4 => ?_
          have J4 : Inv X pins σ' H' { s' with heap := h4 } := J.landed nb fl4.1 ((up.trans up3).trans up4) os ag
          obtain ⟨oe4, vs4, he4, hz4, hd4⟩ := fl4.there
          have S4 := J4.suite he4 hd4 na nL nF
          refine store_ok (X := X.suite a ((a, oe4) :: (X.pn ++ pins))) (v := .ref a) S4 hN hi (.inl hln) rfl (fun s5 S5 => ?_) (.inr hln)
          refine wpAny_mono ((hsu a oe4 cls d (X.pn ++ pins) hz4 ⟨_, hd4⟩).run [] s5 _ H' _ S5 (hyes rfl a na)) (fun f s6 hsp => ?_) (fun _ _ z => False.elim z)
          have end_ : ∀ {σ6 : L2.St} {H6 : Hp} {Q : Shared → Prop}, Inv (X.suite a ((a, oe4) :: (X.pn ++ pins))) [] σ6 H6 s6 → (∀ s7, Inv X pins (σ6.set i none) H6 s7 → Q s7) →
              wpAny (model X.prog X.w) X.A (do bindName X.env n .none; unbindBehindTheSuite X.env n pos') (fun _ s7 => Q s7) X.xe s6 := fun {σ6 H6 Q} S6 hq => gone_ok (S6.unsuite ok) hN hi hln hq
          cases f with
          | next =>
            obtain ⟨σ6, H6, S6, q6⟩ := hsp
            exact end_ S6 fun s7 J7 => ⟨_, _, J7, q6⟩
          | brk =>
            obtain ⟨σ6, H6, S6, q6⟩ := hsp
            exact end_ S6 fun s7 J7 => ⟨_, _, J7, q6⟩
          | cont =>
            obtain ⟨σ6, H6, S6, q6⟩ := hsp
            exact end_ S6 fun s7 J7 => ⟨_, _, J7, q6⟩
          | ret u =>
            obtain ⟨v6, σ6, H6, S6, r6, q6⟩ := hsp
            exact end_ S6 fun s7 J7 => ⟨_, _, _, J7, r6, q6⟩
        | false =>
          show wpAny _ X.A (handleBy (.ref a) X.env hds2) _ _ _
          exact ih (hno rfl)
    exact go hh w
  · cases f with
    | next =>
      obtain ⟨σ', H', J', q⟩ := hsp
      exact wpAny_execs_nil ⟨σ', H', J'.ofTry ok, q⟩
    | brk =>
      obtain ⟨σ', H', J', q⟩ := hsp
      exact ⟨σ', H', J'.ofTry ok, q⟩
    | cont =>
      obtain ⟨σ', H', J', q⟩ := hsp
      exact ⟨σ', H', J'.ofTry ok, q⟩
    | ret u =>
      obtain ⟨v, σ', H', J', r, q⟩ := hsp
      exact ⟨v, σ', H', J'.ofTry ok, r, q⟩
end
end Ev
end
section
set_option maxHeartbeats 4000000
/-! EvT2: a def that calls the lambda that it gets, within a try. -/
namespace Ev
open PySem PySem.Spec PyProof.Rows L2
variable {T : LT}

/-- the same, an exception held -/
def LT.hold (T : LT) (a : Addr) (cls : Value) (d : Option Addr) : LT := { T with exc := some (a, cls, d) }
section
variable {K : PySem.W.Frag} {mg : Str → Option Value} {W : WX} {e : Sl} {σ σ1 : L2.St} {H H1 : Hp} {Z Z1 G : Addr → Prop} {D : Ends} {fx : List Nat}
theorem gt_noEx : ∀ {e : Sl} {i : Nat} {sv : Sv}, gt (noEx e) i = some sv → gt e i = some sv ∧ ∀ x, sv ≠ .ex x
  | [], i, sv, h => by rw [show noEx [] = [] from rfl, gt_nil] at h; cases h
  | x :: r, 0, sv, h => by
    cases x with
    | none => cases h
    | some y =>
      cases y with
      | im d => cases h; exact ⟨rfl, fun x z => by cases z⟩
      | ol d => cases h; exact ⟨rfl, fun x z => by cases z⟩
      | od d => cases h; exact ⟨rfl, fun x z => by cases z⟩
      | ex d => cases h
  | x :: r, i + 1, sv, h => by
    have h : gt (noEx r) i = some sv := by
      cases x with
      | none => exact h
      | some y => cases y <;> exact h
    exact gt_noEx (e := r) h
/-- what is held is let go -/
theorem StOk.unhold {a : Addr} {cls : Value} {d : Option Addr} (s : StOk K (T.hold a cls d) e σ H Z G) (j : Nat) : StOk K T (pt (noEx e) j none) σ H Z G ∧ StOk K T (pt (noEx e) j none) (σ.set j none) H Z G := by
  have back : ∀ {i : Nat} {sv : Sv}, gt (pt (noEx e) j none) i = some sv → i ≠ j ∧ gt e i = some sv ∧ ∀ x, sv ≠ .ex x := fun {i sv} q => by
    rcases gt_pt q with ⟨_, z⟩ | ⟨hi, z⟩
    · cases z
    · obtain ⟨h1, h2⟩ := gt_noEx z; exact ⟨hi, h1, h2⟩
  have sv' : ∀ {v : V} {sv : Sv}, (∀ x, sv ≠ .ex x) → SvOk K (T.hold a cls d) Z G H v sv → SvOk K T Z G H v sv := fun {v sv} n h => by
    cases sv with
    | im d => exact h
    | ol d => exact h
    | od d => exact h
    | ex x => exact absurd rfl (n x)
  constructor
  · refine ⟨s.tb, s.zs, s.gs, fun i sv q => ?_, fun i k si sk w q1 q2 o1 o2 e1 e2 => ?_⟩
    · obtain ⟨_, h1, h2⟩ := back q
      obtain ⟨v, h3, h4⟩ := s.sl i sv h1
      exact ⟨v, h3, sv' h2 h4⟩
    · exact s.inj i k si sk w (back q1).2.1 (back q2).2.1 o1 o2 e1 e2
  · refine ⟨s.tb, s.zs, s.gs, fun i sv q => ?_, fun i k si sk w q1 q2 o1 o2 e1 e2 => ?_⟩
    · obtain ⟨hi, h1, h2⟩ := back q
      obtain ⟨v, h3, h4⟩ := s.sl i sv h1
      exact ⟨v, by rw [set_ne hi]; exact h3, sv' h2 h4⟩
    · obtain ⟨h1, p1, _⟩ := back q1
      obtain ⟨h2, p2, _⟩ := back q2
      rw [set_ne h1] at e1
      rw [set_ne h2] at e2
      exact s.inj i k si sk w p1 p2 o1 o2 e1 e2
theorem bare_nothing {n : Nat} (b : StOk K T [] [] H Z G) : StOk K T (List.replicate n none) σ H Z G :=
  ⟨b.tb, b.zs, b.gs, fun i sv q => (by rw [gt_repl'] at q; cases q), fun i j si sj v q => (by rw [gt_repl'] at q; cases q)⟩
where gt_repl' : ∀ {m i : Nat}, gt (List.replicate m (none : Option Sv)) i = none
  | 0, i => gt_nil
  | m + 1, 0 => rfl
  | m + 1, i + 1 => by rw [List.replicate_succ]; exact gt_repl' (m := m) (i := i)
/-- a statement ahead, in which the first slot stands -/
theorem PostS.bindF {r : SR} {k : Sl → SR} (h : PostS K T mg W [] σ Z G H D (r.bind k)) :
    PostS K T mg W [0] σ Z G H { D with nx := fun σ' H' => ∃ e' Z', Le Z H Z' H' ∧ KeepG G H H' ∧ SameF [0] σ σ' ∧ StOk K T e' σ' H' Z' G ∧ PostS K T mg W [] σ' Z' G H' D (k e') } r := by
  have w : ∀ {σ' : L2.St}, SameF [0] σ σ' → SameF [] σ σ' := fun f => ⟨f.1, fun i z => by cases z⟩
  cases r with
  | nx e => exact fun σ' H' Z' l kk f s => ⟨e, Z', l, kk, f, s, PostS.trans l kk (w f) h⟩
  | ct e => exact fun σ' H' Z' l kk f s => h σ' H' Z' l kk (w f) s
  | bk e => exact fun σ' H' Z' l kk f s => h σ' H' Z' l kk (w f) s
  | rt o e => exact fun v σ' H' Z' l kk f s => h v σ' H' Z' l kk (w f) s
  | er x e => exact fun cls d σ' H' Z' l kk f s x => h cls d σ' H' Z' l kk (w f) s x
  | bad => exact h
theorem PostS.bind0 {r : SR} {k : Sl → SR} (h : PostS K T mg W [] σ Z G H D (r.bind k)) :
    PostS K T mg W [] σ Z G H { D with nx := fun σ' H' => ∃ e' Z', StOk K T e' σ' H' Z' G ∧ PostS K T mg W [] σ' Z' G H' D (k e') } r := by
  cases r with
  | nx e => exact fun σ' H' Z' l kk f s => ⟨e, Z', s, PostS.trans l kk f h⟩
  | ct e => exact h
  | bk e => exact h
  | rt o e => exact h
  | er x e => exact h
  | bad => exact h
/-- statements ahead of the try -/
def tPre (K : PySem.W.Frag) (T : LT) (mg : Str → Option Value) : List MS → TS → TS
  | [], u => u
  | m :: ms, u => tSeq (RdS K T mg [0] m WF) (tPre K T mg ms u)
theorem seqS_cons {m : MS} {ms : List MS} {e : Sl} {k : Sl → SR} : (seqS (m :: ms) e).bind k = (m e).bind fun e1 => (seqS ms e1).bind k := by
  cases ms with
  | nil =>
    show (m e).bind k = _
    cases m e <;> rfl
  | cons m' ms =>
    show ((m e).bind (seqS (m' :: ms))).bind k = _
    cases m e <;> rfl
theorem pre_ok {Z0 : Addr → Prop} {H0 : Hp} {σ0 : L2.St} {u : TS} {k : Sl → SR}
    (hu : ∀ e' σ' H' Z', Le Z0 H0 Z' H' → KeepG G H0 H' → SameF [0] σ0 σ' → StOk K T e' σ' H' Z' G → PostS K T mg WF [] σ' Z' G H' D (k e') → u D σ' H') :
    ∀ {ms : List MS} {e : Sl} {σ : L2.St} {H : Hp} {Z : Addr → Prop}, Le Z0 H0 Z H → KeepG G H0 H → SameF [0] σ0 σ → StOk K T e σ H Z G → PostS K T mg WF [] σ Z G H D ((seqS ms e).bind k) → tPre K T mg ms u D σ H
  | [], e, σ, H, Z, l, kk, f, s, h => hu e σ H Z l kk f s h
  | m :: ms, e, σ, H, Z, l, kk, f, s, h => by
    rw [seqS_cons] at h
    refine ⟨e, Z, G, s, ?_⟩
    have h2 := PostS.bindF h
    cases q : m e with
    | nx e1 =>
      rw [q] at h2
      intro σ' H' Z' l' k' f' s'
      obtain ⟨e2, Z2, l2, k2, f2, s2, h3⟩ := h2 σ' H' Z' l' k' f' s'
      exact pre_ok hu (l.trans l2) (kk.trans k2) (f.trans f2) s2 h3
    | ct e1 => rw [q] at h2; exact h2
    | bk e1 => rw [q] at h2; exact h2
    | rt o e1 => rw [q] at h2; exact h2
    | er x e1 => rw [q] at h2; exact h2
    | bad => rw [q] at h2; exact h2
theorem pss_pre {X : Cx} {pre : List Stmt} {ms : List MS} {rest : List Stmt} {u : TS} (h : Each (SS T X WF [0]) pre ms) (hr : PSs X rest u) : PSs X (pre ++ rest) (tPre X.K T X.mg ms u) := by
  induction h with
  | nil => exact hr
  | cons h _ ih => exact pss_cons h ih
end
end Ev
end
section
set_option maxHeartbeats 4000000
/-! EvT3: the try of a def that calls a lambda; the def gives what the evaluator says. -/
namespace Ev
open PySem PySem.Spec PyProof.Rows L2
variable {T : LT}

/-- a clause's suite, by the evaluator -/
def tSuite (K : PySem.W.Frag) (T : LT) (mg : Str → Option Value) (n : Nat) (m : MS) : Addr → Value → Option Addr → TS := fun a cls d D σ H => σ.length = n → RdS K (T.hold a cls d) mg [] m WF D σ H
/-- what is known of classes -/
def SubOk (K : PySem.W.Frag) (mg : Str → Option Value) (sub : Str → Str → Option Bool) : Prop :=
  ∀ x y b, sub x y = some b → ∃ D, mg x = some (.ref D) ∧ ExcC K D ∧ ∃ cv, ClsIs mg y cv ∧ PySem.W.kitOne K (.ref D) cv = some b ∧ PySem.W.exmOne K (.ref D) cv = some b
/-- clauses as the evaluator has them, and as the rule wants them -/
inductive Clauses (K : PySem.W.Frag) (T : LT) (mg : Str → Option Value) (n : Nat) : List (Str × Nat × MS) → List (Value × Nat × (Addr → Value → Option Addr → TS)) → Prop
  | nil : Clauses K T mg n [] []
  | cons {C : Str} {j : Nat} {m : MS} {cv : Value} {hs l} : ClsIs mg C cv → j < n → Clauses K T mg n hs l → Clauses K T mg n ((C, j, m) :: hs) ((cv, j, tSuite K T mg n m) :: l)
theorem clsIs_inj {mg : Str → Option Value} {y : Str} {a b : Value} (h : ClsIs mg y a) (h' : ClsIs mg y b) : a = b := by
  rcases h with ⟨C, rfl, h⟩ | ⟨t, rfl, h, q⟩
  · rcases h' with ⟨C', rfl, h'⟩ | ⟨t', rfl, h', q'⟩
    · rw [h] at h'; cases h'; rfl
    · rw [h] at h'; cases h'
  · rcases h' with ⟨C', rfl, h'⟩ | ⟨t', rfl, h', q'⟩
    · rw [h] at h'; cases h'
    · rw [q] at q'; cases q'; rfl
section
variable {K : PySem.W.Frag} {mg : Str → Option Value} {sub : Str → Str → Option Bool} {n : Nat} {σ : L2.St} {H : Hp} {Z G : Addr → Prop} {D : Ends} {x : Exc}
theorem bare_hold {a : Addr} {cls : Value} {d : Option Addr} (b : StOk K T [] [] H Z G) : StOk K (T.hold a cls d) [] [] H Z G :=
  ⟨b.tb, b.zs, b.gs, fun i sv q => (by rw [gt_nil] at q; cases q), fun i j si sj v q => (by rw [gt_nil] at q; cases q)⟩
/-- the clauses take what is raised -/
theorem clauses_ok (hmg : T.mg = mg) (hsub : SubOk K mg sub) (hl : σ.length = n) {hs : List (Str × Nat × MS)} {l : List (Value × Nat × (Addr → Value → Option Addr → TS))} (hc : Clauses K T mg n hs l) :
    PostS K T mg WF [] σ Z G H D (tryH sub x n hs) → ∀ (cls : Value) (dd : Option Addr) (σ2 : L2.St) (H2 : Hp) (Z2 : Addr → Prop), Le Z H Z2 H2 → KeepG G H H2 → StOk K T [] [] H2 Z2 G → ExOk K mg Z2 x cls dd H2 → wManyA K WF D l cls dd σ2 H2 := by
  induction hc with
  | nil => exact fun h => h.elim
  | @cons C j m cv hs l hcv hj _ ih =>
    intro h cls dd σ2 H2 Z2 l2 k2 b ex
    simp only [tryH] at h
    obtain ⟨D', hD, ecls, _⟩ := id ex
    cases hsb : sub x.cls C with
    | none => rw [hsb] at h; exact h.elim
    | some bb =>
      obtain ⟨D2, hD2, _, cv2, hcv2, _, hex⟩ := hsub _ _ _ hsb
      rw [hD] at hD2; cases hD2
      have := clsIs_inj hcv hcv2
      subst this
      subst ecls
      refine ⟨bb, hex, fun hbb a na => ?_, fun hbb => ?_⟩
      · subst hbb
        rw [hsb] at h
        simp only at h
        intro hlen
        have hlen2 : σ2.length = n := by simpa using hlen
        have sj : StOk K (T.hold a (.ref D') dd) (pt (List.replicate n none) j (some (.ex x))) (σ2.set j (some (.ref a))) H2 Z2 G := by
          have b2 := bare_nothing (n := n) (σ := σ2) (bare_hold (a := a) (cls := .ref D') (d := dd) b)
          refine ⟨b2.tb, b2.zs, b2.gs, fun i sv q => ?_, fun i k si sk w q1 q2 o1 => ?_⟩
          · rcases gt_pt q with ⟨rfl, z⟩ | ⟨_, z⟩
            · cases z
              refine ⟨.ref a, List.getElem?_set_self (by omega), a, .ref D', dd, rfl, rfl, ?_⟩
              show ExOk K T.mg Z2 x (.ref D') dd H2
              rw [hmg]
              exact ex
            · rw [bare_nothing.gt_repl'] at z; cases z
          · rcases gt_pt q1 with ⟨rfl, z⟩ | ⟨_, z⟩
            · cases z; cases o1
            · rw [bare_nothing.gt_repl'] at z; cases z
        refine ⟨_, Z2, G, sj, ?_⟩
        have f0 : ∀ {σ4 : L2.St}, SameF [] (σ2.set j (some (V.ref a))) σ4 → SameF [] σ σ4 := fun {σ4} f => ⟨by rw [f.1, List.length_set, hlen2, hl], fun i z => by cases z⟩
        have f1 : ∀ {σ4 : L2.St}, SameF [] (σ2.set j (some (V.ref a))) σ4 → SameF [] σ (σ4.set j none) := fun {σ4} f => ⟨by rw [List.length_set, f.1, List.length_set, hlen2, hl], fun i z => by cases z⟩
        cases qm : m (pt (List.replicate n none) j (some (.ex x))) with
        | nx e4 =>
          rw [qm] at h
          exact fun σ4 H4 Z4 l4 k4 f4 s4 => h _ H4 Z4 (l2.trans l4) (k2.trans k4) (f1 f4) (s4.unhold j).2
        | ct e4 =>
          rw [qm] at h
          exact fun σ4 H4 Z4 l4 k4 f4 s4 => h _ H4 Z4 (l2.trans l4) (k2.trans k4) (f1 f4) (s4.unhold j).2
        | bk e4 =>
          rw [qm] at h
          exact fun σ4 H4 Z4 l4 k4 f4 s4 => h _ H4 Z4 (l2.trans l4) (k2.trans k4) (f1 f4) (s4.unhold j).2
        | bad => rw [qm] at h; exact h.elim
        | er y e4 =>
          rw [qm] at h
          exact fun cls d σ4 H4 Z4 l4 k4 f4 s4 ex4 => h cls d σ4 H4 Z4 (l2.trans l4) (k2.trans k4) (f0 f4) (s4.unhold j).1 ex4
        | rt o e4 =>
          rw [qm] at h
          exact fun v σ4 H4 Z4 l4 k4 f4 x4 => h v σ4 H4 Z4 (l2.trans l4) (k2.trans k4) (f0 f4) ⟨(x4.st.unhold j).1, by
            have := x4.ok
            cases o with
            | im d => exact this
            | tl d => exact this
            | td d => exact this
            | bor i => exact this, x4.ne⟩
      · subst hbb
        rw [hsb] at h
        exact ih h (.ref D') dd σ2 H2 Z2 l2 k2 b ex
end
section
/-- the try, with its call: what is wanted of it -/
def tTryB (K : PySem.W.Frag) (ret : Bool) (f c' : Addr) (q : Str) (tl : XK → Hp → VK → Prop) : WX → TS := fun W D σ H => ∃ Ech : XK, (∀ cls d σ' H', Ech cls d H' → W cls d σ' H') ∧ σ[0]? = some (some (.ref f)) ∧ H c' = some (LamX.CodeO c' q) ∧ tl Ech H (if ret then D.rt else fun _ H1 => D.nx σ H1)
theorem pss_tryB {X : Cx} {b : Stmt} {ret : Bool} {f c' : Addr} {q a : Str} {tl : XK → Hp → VK → Prop} {W : WX} {c : Cfg} (hb : tryB c b = some ret) (hN : c.N.head? = some a)
    (act : ∀ (E : XK) (p1 p2 : Pos), (∀ cls d σ' H', E cls d H' → W cls d σ' H') → PE X (.Call (.Name a p1) [] [] p2) (fun σZ HZ Q => σZ[0]? = some (some (.ref f)) ∧ HZ c' = some (LamX.CodeO c' q) ∧ tl E HZ Q)) : PSs X [b] (tTryB X.K ret f c' q tl W) := by
  unfold tryB at hb
  split at hb
  · rename_i a' p1 p2 p3
    obtain ⟨h1, h2⟩ := iff_some hb
    cases h2
    have : a' = a := by
      have h1 := eq_of_beq h1
      rw [hN] at h1
      exact (Option.some.inj h1).symm
    subst this
    refine ⟨fun pins s σ H D I h => ?_⟩
    obtain ⟨Ech, hW, h3, h4, h5⟩ := h
    exact (pss_one (ps_expr (act Ech p1 p2 hW) rfl)).run pins s σ H D I ⟨h3, h4, h5⟩
  · rename_i a' p1 p2 p3
    obtain ⟨h1, h2⟩ := iff_some hb
    cases h2
    have : a' = a := by
      have h1 := eq_of_beq h1
      rw [hN] at h1
      exact (Option.some.inj h1).symm
    subst this
    refine ⟨fun pins s σ H D I h => ?_⟩
    obtain ⟨Ech, hW, h3, h4, h5⟩ := h
    exact (pss_one (ps_ret (act Ech p1 p2 hW))).run pins s σ H D I ⟨h3, h4, h5⟩
  · cases hb
/-- what is known where a def that calls a lambda runs -/
structure LmOk (K : PySem.W.Frag) (mg : Str → Option Value) (c : Cfg) : Prop where
  blt : ∀ f, f ∈ bltNames → mg f = none
  cst : ∀ x d, c.cst x = some d → ∃ u v, mg x = some u ∧ RelV v u ∧ ∀ Z H, EncD K Z H v d
  sub : SubOk K mg c.sub
theorem ctx_lm {X : Cx} {c : Cfg} {d : Df} {k : Nat} {fx : List Nat} {W : WX} (M : LmOk X.K X.mg c) (hs : X.env.scope = d.sc) (hN : X.N = d.N) (nd : X.N.Nodup) (hc : X.calm = true) (tk : Takes X W) (hr : Room k X.A) : CtxOk T X W { lmCfg c d with fx := fx } k d.sc where
  hsc := hs
  hN := hN
  nd := nd
  calm := fun _ => hc
  tk := tk
  room := fun _ => hr
  un := by have := hr.un; omega
  fns := fun f br F h => by cases h
  blt := M.blt
  cst := M.cst
  fns2 := fun f br F h => by cases h
  tab := fun h => by cases h
  lams := fun g L h => by cases h
  hot := fun h => by cases h
  sub := M.sub
theorem ctx_suite {X : Cx} {c : Cfg} {d : Df} {k : Nat} {a : Addr} {oe : Obj} {cls : Value} {dd : Option Addr} {pn : List (Addr × Obj)} (hT : T.mg = X.mg) (M : LmOk X.K X.mg c) (hs : X.env.scope = d.sc) (hN : X.N = d.N) (nd : X.N.Nodup) (hr : Room k X.A) (hz : Zc cls dd oe) (hf : ∃ vs, oe.data = .fields vs) :
    CtxOk (T.hold a cls dd) (X.suite a ((a, oe) :: pn)) WF { lmCfg c d with clo := none, calm := false, hot := true } k d.sc where
  hsc := hs
  hN := hN
  nd := nd
  calm := fun h => by cases h
  tk := fun u s' ⟨_, _, _, _, _, _, _, _, _, _, _, _, _, _, _, _, w⟩ => w.elim
  room := fun h => by cases h
  un := by have := hr.un; show X.A.units + 66 < cLine; omega
  fns := fun f br F h => by cases h
  blt := M.blt
  cst := M.cst
  fns2 := fun f br F h => by cases h
  tab := fun h => by cases h
  lams := fun g L h => by cases h
  hot := fun _ => ⟨a, oe, cls, dd, pn, X, rfl, hT, rfl, hz, hf⟩
  sub := M.sub
end
end Ev
end
section
set_option maxHeartbeats 4000000
/-! EvT4: a def that calls the lambda that it gets does what the evaluator says. -/
namespace Ev
open PySem PySem.Spec PyProof.Rows L2
variable {T : LT}

theorem _root_.L2.PSs.weakenL {X : Cx} {st : List Stmt} {t t' : TS} (h : PSs X st t) (w : ∀ D σ H, σ.length = X.N.length → t' D σ H → t D σ H) : PSs X st t' := ⟨fun pins s σ H D I q => h.run pins s σ H D I (w D σ H I.len q)⟩
section
variable {X : Cx} {c : Cfg} {d : Df} {k n : Nat}
/-- one clause -/
def hdlr (n : Nat) (sc : Scope) (c : Cfg) : ExceptHandler → Option (Str × Nat × MS) := fun h => match h with
  | .ExceptHandler (some (.Name C _)) (some y) (s₀ :: ss) _ => iff (glB sc C && locOnly sc y && (c.sub C C).isSome) (o2 (fun j ms => (C, j, seqS ms)) (ixN c.N y) (allO ((s₀ :: ss).map (evS n sc { c with fx := [], calm := false, hot := true, clo := none }))))
  | _ => none
theorem try_is {r : LRes} {b : Stmt} {h₀ : ExceptHandler} {hs : List ExceptHandler} {pos : Pos} {m : MS} (hr : c.clo = some r) (hc : c.calm = true) {sc : Scope} (h : evS (n + 1) sc c (.Try [b] (h₀ :: hs) [] [] pos) = some m) :
    ∃ ret hs', tryB c b = some ret ∧ Each (fun h x => hdlr n sc c h = some x) (h₀ :: hs) hs' ∧ m = tryS c.N.length ret r c.sub hs' := by
  unfold evS at h
  simp only [hr, hc] at h
  obtain ⟨ret, hs', h1, h2, rfl⟩ := o2_some (show o2 (fun ret hs => tryS c.N.length ret r c.sub hs) (tryB c b) (allO ((h₀ :: hs).map (hdlr n sc c))) = some m from h)
  exact ⟨ret, hs', h1, allO_each h2, rfl⟩
theorem hdsA_of (hT : T.mg = X.mg) (M : LmOk X.K X.mg c) (hs : X.env.scope = d.sc) (hN : X.N = d.N) (nd : X.N.Nodup) (hr : Room k X.A) (hfn : ∀ x, X.fn x = true) (hbk : X.env.blockKind = .function) {cc : Cfg} (hcc : cc = { lmCfg c d with clo := cc.clo }) :
    ∀ {es : List ExceptHandler} {hs' : List (Str × Nat × MS)}, Each (fun h x => hdlr n d.sc cc h = some x) es hs' → ∃ l, HdsA X es l ∧ Clauses X.K T X.mg d.N.length hs' l := by
  intro es hs' h
  induction h with
  | nil => exact ⟨[], .nil, .nil⟩
  | @cons e y es ys h _ ih =>
    obtain ⟨l, ih1, ih2⟩ := ih
    unfold hdlr at h
    split at h
    · rename_i C np y' s₀ ss pos'
      obtain ⟨hb, h'⟩ := iff_some h
      rw [Bool.and_eq_true, Bool.and_eq_true] at hb
      obtain ⟨⟨hg, hl⟩, hsub⟩ := hb
      obtain ⟨j, ms, hj, hms, rfl⟩ := o2_some h'
      rw [hcc] at hj hms hsub
      obtain ⟨bb, hbb⟩ := Option.isSome_iff_exists.mp hsub
      obtain ⟨D, hD, _, cv, hcv, _⟩ := M.sub C C bb hbb
      obtain ⟨gl1, gl2, gl3⟩ := glB_ok hg
      have nm : Names X C cv := by
        refine ⟨?_, gl2, ?_⟩
        · show X.env.scope.names.lookup C = _
          rw [hs]; exact gl1
        · rcases hcv with ⟨C', rfl, hm⟩ | ⟨t, rfl, hm, hbt⟩
          · exact .inl hm
          · exact .inr ⟨hm, hbt, gl3⟩
      have hj' : d.N[j]? = some y' := ixN_ok hj
      refine ⟨_, .cons nm (by rw [hN]; exact hj') ?_ (fun a oe cls dd pn hz hf => ?_) ih1, .cons hcv (ixN_lt hj) ih2⟩
      · show X.env.scope.names.lookup y' = _
        rw [hs]
        exact eq_of_beq hl
      · have cx := ctx_suite (T := T) (k := k) (a := a) (oe := oe) (cls := cls) (dd := dd) (pn := pn) hT M hs hN nd hr hz hf
        have b : BodyOk (T.hold a cls dd) (X.suite a ((a, oe) :: pn)) WF { lmCfg c d with clo := none, calm := false, hot := true } k d.sc :=
          { cx := cx
            st := fun x h => ⟨by show L2.Loc X.env.scope x; rw [hs]; exact locB_ok h, .inl (hfn x)⟩
            bk := hbk
            po := fun h => by cases h
            clo := rfl
            exs := fun C h => by cases h }
        have blk := ss_block (X := X.suite a ((a, oe) :: pn)) (fx := []) (T := T.hold a cls dd) (W := WF) ((allO_each hms).imp fun s m h => sound_S n b s m h)
        exact blk.weakenL fun D σ H hlen q => q (hlen.trans (congrArg List.length hN))
    · cases h
theorem splitT_app : ∀ (l : List Stmt), l = (splitT l).1 ++ (splitT l).2 ∧ ∀ t r, (splitT l).2 = t :: r → isTry t = true
  | [] => ⟨rfl, fun t r h => by cases h⟩
  | s :: l => by
    obtain ⟨h1, h2⟩ := splitT_app l
    unfold splitT
    split
    · rename_i hs
      exact ⟨rfl, fun t r h => by cases h; exact hs⟩
    · exact ⟨congrArg (s :: ·) h1, h2⟩
theorem try_shape {sc : Scope} {t : Stmt} {m : MS} (ht : isTry t = true) (h : evS (n + 1) sc c t = some m) : ∃ b h₀ hs pos, t = .Try [b] (h₀ :: hs) [] [] pos := by
  cases t <;> first | (cases ht; done) | skip
  rename_i body hs o f pos
  unfold evS at h
  split at h
  all_goals first
    | (rename_i heq; cases heq; done)
    | (cases h; done)
    | skip
  all_goals first
    | (rename_i heq; injection heq with e1 e2 e3 e4 e5; subst e1 e2 e3 e4; exact ⟨_, _, _, _, rfl⟩)
    | skip
theorem fpost_ok {K : PySem.W.Frag} {mg : Str → Option Value} {Z Z1 G : Addr → Prop} {H : Hp} {Q : VK} {σ : L2.St} {R : SR} (hz : ∀ a, Z a → Z1 a) (h : FPost K T Z G H Q (endF [] R)) : PostS K T mg WF [] σ Z1 G H { nx := fun _ H' => Q .non H', rt := Q } R := by
  have le : ∀ {Z' H'}, Le Z1 H Z' H' → Le Z H Z' H' := fun l => ⟨fun a z => l.z a (hz a z), fun a z => l.keep a (hz a z), l.tup, l.frz⟩
  cases R with
  | nx e' => exact fun σ' H' Z' l k f st => h .non H' Z' (le l) k st.bare .non
  | bk e' => exact h.elim
  | ct e' => exact h.elim
  | bad => exact h.elim
  | er x e' => exact h.elim
  | rt o e' =>
    intro v σ' H' Z' l k f x
    simp only [endF] at h
    have hfx : fxOf 0 [] = [] := rfl
    rw [hfx] at h
    cases o with
    | im d => exact h v H' Z' (le l) k x.st0.bare x.ok
    | tl d => exact h.elim
    | td d => exact h.elim
    | bor i =>
      have hv : σ'[i]? = some (some v) := x.ok
      simp only [outO, List.contains_nil, Bool.false_eq_true, if_false] at h
      split at h
      · rename_i op e1 q
        split at q
        · cases q; exact h.elim
        · cases q; exact h.elim
        · rename_i dd qg
          cases q
          obtain ⟨v', h1, h2⟩ := x.st0.sl i _ qg
          rw [hv] at h1; cases h1
          exact h v H' Z' (le l) k x.st0.bare h2
        · cases q
      · exact h.elim
theorem PostS.bindR {K : PySem.W.Frag} {mg : Str → Option Value} {Z G : Addr → Prop} {H : Hp} {σ : L2.St} {D : Ends} {r : SR} {k : MS} (h : PostS K T mg WF [] σ Z G H D (r.bind k)) : PostS K T mg WF [] σ Z G H { D with nx := RdS K T mg [] k WF D } r := by
  cases r with
  | nx e => exact fun σ' H' Z' l kk f s => ⟨e, Z', G, s, PostS.trans l kk f h⟩
  | ct e => exact h
  | bk e => exact h
  | rt o e => exact h
  | er x e => exact h
  | bad => exact h
/-- a def that calls the lambda it gets gives what the evaluator says -/
theorem gives_of {g : Str} {ga : Addr} {cdv : Value} {a q : Str} (hT : T.mg = X.mg) (M : LmOk X.K X.mg c) (S : FnScope d.N [a] d.sc) (hr : Room (k + 1) X.A) :
    LamX.GivesTo X d.N g d.sc ga cdv d.body a q (TTd X.K T X.mg (callLm fuel c d)) := by
  intro f c' s H Q tl act hc hTT
  obtain ⟨r, Z, G, st0, htl, hf⟩ := hTT
  let X' := (cxOf C8.CX0 X.prog X.w X.K X.mg X.base d.N g d.sc ga cdv X.A X.stack s H C8.E0).nox
  have hr' : Room k X'.A := hr.deeper _
  obtain ⟨hbody, htry⟩ := splitT_app d.body
  unfold callLm at hf
  cases hsp : splitT d.body with
  | mk pre rest =>
  rw [hsp] at hf hbody htry
  cases rest with
  | nil => exact hf.elim
  | cons t post =>
    have htt := htry t post rfl
    simp only at hf hbody
    cases qa : allO (pre.map (evS fuel d.sc { lmCfg c d with fx := [0] })) with
    | none => rw [qa] at hf; exact hf.elim
    | some ma =>
      cases qm : evS fuel d.sc { lmCfg c d with clo := some r } t with
      | none => rw [qa, qm] at hf; exact hf.elim
      | some m =>
        cases qb : allO (post.map (evS fuel d.sc (lmCfg c d))) with
        | none => rw [qa, qm, qb] at hf; exact hf.elim
        | some mb =>
          rw [qa, qm, qb] at hf
          simp only at hf
          obtain ⟨b, h₀, hs, pos, rfl⟩ := try_shape (n := 39) htt qm
          obtain ⟨ret, hs', hb, hcl, rfl⟩ := try_is (n := 39) (c := { lmCfg c d with clo := some r }) rfl rfl qm
          obtain ⟨l, hA, hC⟩ := hdsA_of (X := X') (T := T) (d := d) (k := k) hT M rfl rfl S.nd hr' (fun _ => rfl) (by show (if d.sc.kind.isAnnotationScope then ScopeKind.function else d.sc.kind) = .function; rw [S.kind]; rfl) (cc := { lmCfg c d with clo := some r }) rfl hcl
          have body : ∀ {fx : List Nat}, BodyOk T X' WF { lmCfg c d with fx := fx } k d.sc := fun {fx} =>
            { cx := ctx_lm M rfl rfl S.nd rfl takes_none5 hr'
              st := fun x h => ⟨locB_ok h, .inl rfl⟩
              bk := by show (if d.sc.kind.isAnnotationScope then ScopeKind.function else d.sc.kind) = .function; rw [S.kind]; rfl
              po := fun _ => PassesOwn.never
              clo := rfl
              exs := fun C h => by cases h }
          have hpre : Each (SS T X' WF [0]) pre ma := (allO_each qa).imp fun s m h => sound_S fuel (body (fx := [0])) s m h
          have hpost : PSs X' post (RdS X'.K T X'.mg [] (seqS mb) WF) := ss_block ((allO_each qb).imp fun s m h => sound_S fuel (body (fx := [])) s m h)
          have hN0 : d.N.head? = some a := by
            have := S.pre
            cases hN : d.N with
            | nil => rw [hN] at this; cases this
            | cons y ys => rw [hN] at this; cases this; rfl
          have psT : PS X' (.Try [b] (h₀ :: hs) [] [] pos) (fun D σ H => σ.length = d.N.length → tTryB X.K ret f c' q tl (wManyA X.K WF D l) D σ H) :=
            (ps_try_mas (X := X') (Wout := WF) (tb := tTryB X.K ret f c' q tl) rfl rfl S.nd takes_none5 (fun W pn xe tk _ => pss_tryB hb hN0 (fun E p1 p2 hW => act W pn xe E p1 p2 tk hW)) hA).weakenL fun D σ H hlen q => q hlen
          have st1 : StOk X.K T (List.replicate d.N.length none) (L2.start d.N [.ref f]) H (fun x => Z x ∨ x = c') G := by
            refine ⟨⟨st0.tb.1, fun x z ps e => ?_, st0.tb.2.2⟩, fun x z => ?_, fun x gx => ⟨(st0.gs x gx).1, fun z => ?_⟩, fun i sv q => ?_, fun i j si sj v q => ?_⟩
            · rcases z with z | rfl
              · exact st0.tb.2.1 x z ps e
              · rw [hc] at e; exact LamX.codeO_ne ps (Option.some.inj e)
            · rcases z with z | rfl
              · exact st0.zs x z
              · rw [hc]; simp
            · rcases z with z | rfl
              · exact (st0.gs x gx).2 z
              · obtain ⟨u, h1, h2⟩ := st0.tb.2.2 _ gx
                rw [hc] at h1; cases h1; exact h2
            · rw [bare_nothing.gt_repl'] at q; cases q
            · rw [bare_nothing.gt_repl'] at q; cases q
          have h0 := fpost_ok (mg := X.mg) (σ := L2.start d.N [.ref f]) (Z1 := fun x => Z x ∨ x = c') (fun a z => .inl z) hf
          rw [hbody]
          refine ⟨_, pss_pre hpre (pss_cons psT hpost), pre_ok (k := fun e => (tryS d.N.length ret r c.sub hs' e).bind (seqS mb)) (fun e' σ' H' Z' le ke fe se he => ?_) Le.refl KeepG.refl SameF.refl st1 h0⟩
          have le0 : Le Z H Z' H' := ⟨fun a z => le.z a (.inl z), fun a z => le.keep a (.inl z), le.tup, le.frz⟩
          have h2 := PostS.bindR he
          intro hlen
          have s0 : σ'[0]? = some (some (.ref f)) := (fe.2 0 (by simp)).trans rfl
          have cc : H' c' = some (LamX.CodeO c' q) := by rw [le.keep c' (.inr rfl)]; exact hc
          have si : StOk X.K T (imS e') σ' H' Z' G := se.ims.less fun a z => .inl z
          cases r with
          | ok dd =>
            refine ⟨fun _ _ _ => False, fun _ _ _ _ z => z.elim, s0, cc, htl H' Z' le0 ke se.bare _ _ fun v H'' Z'' l'' k'' b'' en => ?_⟩
            cases ret with
            | true => exact h2 v σ' H'' Z'' l'' k'' SameF.refl ((si.laterIm l'' b'').im en)
            | false => exact h2 σ' H'' Z'' l'' k'' SameF.refl (si.laterIm l'' b'')
          | er x =>
            refine ⟨fun cls dd H'' => ∃ Z'', Le Z' H' Z'' H'' ∧ KeepG G H' H'' ∧ StOk X.K T [] [] H'' Z'' G ∧ ExOk X.K X.mg Z'' x cls dd H'', fun cls dd σ'' H'' ⟨Z'', l'', k'', b'', ex⟩ => ?_, s0, cc, htl H' Z' le0 ke se.bare _ _ fun cls dd H'' Z'' l'' k'' b'' ex => ⟨Z'', l'', k'', b'', ex⟩⟩
            exact clauses_ok hT M.sub hlen hC h2 cls dd σ'' H'' Z'' l'' k'' b'' ex
end
end Ev
end
section
set_option maxHeartbeats 1000000
/-! EvSg: defs keep what the evaluator says of them. -/
namespace Ev
open PySem PySem.Spec PyProof.Rows L2
variable {T : LT}

theorem gt_repl : ∀ {m i : Nat}, gt (List.replicate m (none : Option Sv)) i = none
  | 0, i => gt_nil
  | m + 1, 0 => rfl
  | m + 1, i + 1 => by rw [List.replicate_succ]; exact gt_repl (m := m) (i := i)
theorem finsOf_len : ∀ {br : List Bool} {e : Sl}, (finsOf br e).length = br.length
  | [], e => by cases e <;> rfl
  | b :: bs, [] => by simp [finsOf, finsOf_len]
  | b :: bs, x :: r => by simp [finsOf, finsOf_len]
theorem gt_fins : ∀ {br : List Bool} {e : Sl} {i : Nat} {sv : Sv}, gt (finsOf br e) i = some sv → br[i]? = some true ∧ gt e i = some sv
  | [], e, i, sv, h => by
    have : finsOf [] e = [] := by cases e <;> rfl
    rw [this, gt_nil] at h; cases h
  | b :: bs, [], 0, sv, h => by cases h
  | b :: bs, [], i + 1, sv, h => by
    have := gt_fins (br := bs) (e := []) (i := i) h
    rw [gt_nil] at this
    cases this.2
  | b :: bs, x :: r, 0, sv, h => by
    have h : (if b = true then x else none) = some sv := h
    split at h
    · rename_i hb; subst hb; exact ⟨rfl, h⟩
    · cases h
  | b :: bs, x :: r, i + 1, sv, h => gt_fins (br := bs) (e := r) (i := i) h
theorem mem_fx : ∀ {br : List Bool} {i j : Nat}, br[i]? = some true → j + i ∈ fxOf j br
  | [], i, j, h => by simp at h
  | b :: bs, 0, j, h => by
    simp at h; subst h
    simp [fxOf]
  | b :: bs, i + 1, j, h => by
    have := mem_fx (br := bs) (i := i) (j := j + 1) (by simpa using h)
    rw [show j + 1 + i = j + (i + 1) from by omega] at this
    unfold fxOf
    split
    · exact List.mem_cons_of_mem _ this
    · exact this
section
variable {K : PySem.W.Frag} {e : Sl} {σ : L2.St} {H : Hp} {Z G : Addr → Prop}
theorem StOk.pad {ps : Sl} {τ ρ : L2.St} {m : Nat} (s : StOk K T ps τ H Z G) (hl : ps.length ≤ τ.length) : StOk K T (ps ++ List.replicate m none) (τ ++ ρ) H Z G := by
  have back : ∀ {i : Nat} {sv : Sv}, gt (ps ++ List.replicate m none) i = some sv → gt ps i = some sv ∧ (τ ++ ρ)[i]? = τ[i]? := fun {i sv} q => by
    rw [gt_append] at q
    split at q
    · exact ⟨q, get_front (by omega)⟩
    · rw [gt_repl] at q; cases q
  refine ⟨s.tb, s.zs, s.gs, fun i sv q => ?_, fun i j si sj v q1 q2 o1 o2 e1 e2 => ?_⟩
  · obtain ⟨h1, h2⟩ := back q
    rw [h2]
    exact s.sl i sv h1
  · obtain ⟨h1, h2⟩ := back q1
    obtain ⟨h3, h4⟩ := back q2
    rw [h2] at e1
    rw [h4] at e2
    exact s.inj i j si sj v h1 h3 o1 o2 e1 e2
theorem fins_ok {br : List Bool} {N : List Str} {vs : List V} (hl : vs.length = br.length) (s : StOk K T e σ H Z G) (f : SameF (fxOf 0 br) (start N vs) σ) : StOk K T (finsOf br e) (vs.map some) H Z G := by
  have back : ∀ {i : Nat} {sv : Sv}, gt (finsOf br e) i = some sv → gt e i = some sv ∧ (vs.map some)[i]? = σ[i]? := fun {i sv} q => by
    obtain ⟨h1, h2⟩ := gt_fins q
    have hi : i < br.length := (List.getElem?_eq_some_iff.mp h1).1
    refine ⟨h2, ?_⟩
    have := f.2 i (by have := mem_fx (j := 0) h1; rwa [Nat.zero_add] at this)
    rw [this]
    show _ = (vs.map some ++ List.replicate (N.length - vs.length) none)[i]?
    exact (get_front (by rw [List.length_map]; omega)).symm
  refine ⟨s.tb, s.zs, s.gs, fun i sv q => ?_, fun i j si sj v q1 q2 o1 o2 e1 e2 => ?_⟩
  · obtain ⟨h1, h2⟩ := back q
    rw [h2]
    exact s.sl i sv h1
  · obtain ⟨h1, h2⟩ := back q1
    obtain ⟨h3, h4⟩ := back q2
    rw [h2] at e1
    rw [h4] at e2
    exact s.inj i j si sj v h1 h3 o1 o2 e1 e2
theorem outO_ok {fx : List Nat} {v : V} {o r : Op} {e1 : Sl} (x : Out K T e σ H Z G v o) (q : outO fx o e = some (r, e1)) :
    ∃ Z1, Le Z H Z1 H ∧ StOk K T e1 σ H Z1 (Gx G v r) ∧ OpOk K Z1 H [] v r ∧ ∀ a, OwnA v r a → ¬ G a := by
  have bare : ∀ {d}, Gx G v (.im d) = G := fun {d} => by
    funext b
    unfold Gx
    apply propext
    exact ⟨fun h => h.elim id fun z => z.elim, .inl⟩
  cases o with
  | im d => cases q; exact ⟨Z, Le.refl, x.st, x.ok, x.ne⟩
  | tl d => cases q; exact ⟨Z, Le.refl, x.st, x.ok, x.ne⟩
  | td d => cases q; exact ⟨Z, Le.refl, x.st, x.ok, x.ne⟩
  | bor i =>
    have hv : σ[i]? = some (some v) := x.ok
    simp only [outO] at q
    split at q
    · cases q1 : fzO (.bor i) e with
      | none => rw [q1] at q; cases q
      | some p =>
        rw [q1] at q
        cases q
        obtain ⟨Z1, l, s1, en⟩ := fz_ok x (d := p.1) (e1 := p.2) q1
        exact ⟨Z1, l, by rw [bare]; exact s1, en, fun a z => z.elim⟩
    · split at q
      · rename_i xs qg
        cases q
        obtain ⟨v', h1, a, vs, rfl, h3, es, nz, ng⟩ := x.st0.sl i _ qg
        rw [hv] at h1; cases h1
        have s1 := x.st0.toFrame qg rfl hv
        have eg : Gx G (.ref a) (.tl xs) = fun b => G b ∨ b = a := by
          funext b
          unfold Gx
          apply propext
          constructor
          · rintro (h | h)
            · exact .inl h
            · cases h; exact .inr rfl
          · rintro (h | h)
            · exact .inl h
            · exact .inr (by rw [h]; rfl)
        exact ⟨Z, Le.refl, by rw [eg]; exact s1, ⟨a, vs, rfl, h3, es⟩, fun b hb g => by cases hb; exact ng g⟩
      · rename_i xs qg
        cases q
        obtain ⟨v', h1, a, rfl, h3, nz, ng⟩ := x.st0.sl i _ qg
        rw [hv] at h1; cases h1
        have s1 := x.st0.toFrame qg rfl hv
        have eg : Gx G (.ref a) (.td xs) = fun b => G b ∨ b = a := by
          funext b
          unfold Gx
          apply propext
          constructor
          · rintro (h | h)
            · exact .inl h
            · cases h; exact .inr rfl
          · rintro (h | h)
            · exact .inl h
            · exact .inr (by rw [h]; rfl)
        exact ⟨Z, Le.refl, by rw [eg]; exact s1, ⟨a, rfl, h3⟩, fun b hb g => by cases hb; exact ng g⟩
      · rename_i d qg
        cases q
        obtain ⟨v', h1, h2⟩ := x.st0.sl i _ qg
        rw [hv] at h1; cases h1
        exact ⟨Z, Le.refl, by rw [bare]; exact x.st0, h2, fun a z => z.elim⟩
      · cases q
/-- a body that ends as the contract wants -/
theorem body_ok {mg : Str → Option Value} {br : List Bool} {N : List Str} {ms : MS} {vs : List V} {ps : Sl} {Q : VK} {E : XK} (hv : vs.length = br.length) (hp : ps.length = br.length) (s : StOk K T ps (vs.map some) H Z G)
    (h : CPost K T mg br.length vs Z G H Q E (endF br (ms (ps ++ List.replicate (N.length - br.length) none)))) :
    RdS K T mg (fxOf 0 br) ms (fun cls d _ H => E cls d H) { nx := fun _ H' => Q .non H', rt := Q } (start N vs) H := by
  refine ⟨_, Z, G, s.pad (m := N.length - br.length) (ρ := List.replicate (N.length - vs.length) none) (by rw [List.length_map]; omega), ?_⟩
  have bare : ∀ {d v}, Gx G v (.im d) = G := fun {d v} => by
    funext b
    unfold Gx
    apply propext
    exact ⟨fun h => h.elim id fun z => z.elim, .inl⟩
  cases q : ms (ps ++ List.replicate (N.length - br.length) none) with
  | nx e' =>
    rw [q] at h
    intro σ' H' Z' l k f st
    exact h finsOf_len .non H' Z' l k (by rw [bare]; exact fins_ok hv st f) .non fun a z => z.elim
  | bk e' => rw [q] at h; exact h.elim
  | ct e' => rw [q] at h; exact h.elim
  | bad => rw [q] at h; exact h.elim
  | er x e' =>
    rw [q] at h
    intro cls d σ' H' Z' l k f st ex
    exact h finsOf_len cls d H' Z' l k (fins_ok hv st f) ex
  | rt o e' =>
    rw [q] at h
    intro v σ' H' Z' l k f x
    simp only [endF] at h
    cases q1 : outO (fxOf 0 br) o e' with
    | none => rw [q1] at h; exact h.elim
    | some p =>
      obtain ⟨r, e1⟩ := p
      rw [q1] at h
      obtain ⟨Z1, l1, s1, ok, ne⟩ := outO_ok x q1
      exact h finsOf_len v H' Z1 (l.trans l1) k (fins_ok hv s1 f) ok ne
end

/-! ### the module -/
/-- a def stands in the module; cs: the code objects with their tables -/
structure DefOk (K : PySem.W.Frag) (T : LT) (cs : List (Addr × Addr)) (a : Addr) (d : Df) (fd : FuncData) (ps : List Str) : Prop where
  fn : ∃ (oc : Value) (od : Option Addr) (osl : Array (Option Value)) (name qual : Str) (params : Arguments) (dV kV doc pm cdv ct : Value) (an : Option Addr),
    fd = PySem.W.fnOf name qual params d.body d.sc dV kV doc pm an cdv ct ∧ K.lookup a = some ⟨oc, od, .func fd, osl⟩ ∧ PySem.W.codeIn K cdv qual = true ∧
    (d.tab = true → ∃ cA P, cdv = .ref cA ∧ (cA, P) ∈ cs ∧ (P, (qual ++ ".<locals>.") ++ "<lambda>") ∈ T.tabs ∧ ∀ p ∈ T.tabs, p.1 = P → p.2 = (qual ++ ".<locals>.") ++ "<lambda>")
  sc : FnScope d.N ps d.sc
  len : ps.length = d.br.length
  bd : Binds K fd ps []
/-- a def that calls a lambda stands in the module -/
structure LamOk (K : PySem.W.Frag) (g : Str) (ga : Addr) (d : Df) (fd : FuncData) (a : Str) : Prop where
  fn : ∃ (oc : Value) (od : Option Addr) (osl : Array (Option Value)) (params : Arguments) (dV kV doc pm cdv ct : Value) (an : Option Addr),
    fd = PySem.W.fnOf g g params d.body d.sc dV kV doc pm an cdv ct ∧ K.lookup ga = some ⟨oc, od, .func fd, osl⟩ ∧ PySem.W.codeIn K cdv g = true
  sc : FnScope d.N [a] d.sc
  bd : Binds K fd [a] []
  nd : (a == ("__debug__" : Str)) = false
  nc : (a == ("__classdict__" : Str)) = false
structure ExcOk (K : PySem.W.Frag) (a : Addr) : Prop where
  ex : ∃ (bmB : List Value) (B newId initId : String), ExcBaseFacts B newId initId bmB ∧ PySem.W.excIn K a bmB newId = true
  keep : PySem.W.keepIn K (.ref a) = true
  sub : PySem.W.subIn K (.ref a) (.type "BaseException") = some true
  ty : PySem.W.typeIn K (.ref a) = some (.type "type")
structure ModOk (K : PySem.W.Frag) (T : LT) (cs : List (Addr × Addr)) (mg : Str → Option Value) (Pr : Prg) : Prop where
  blt : ∀ f, f ∈ bltNames → mg f = none
  cst : ∀ x d, Pr.cst.lookup x = some d → ∃ u v, mg x = some u ∧ RelV v u ∧ ∀ Z H, EncD K Z H v d
  exs : ∀ C, Pr.exs.contains C = true → ∃ a, mg C = some (.ref a) ∧ (C == ("__debug__" : Str)) = false ∧ ExcOk K a
  defs : ∀ f d, Pr.defs.lookup f = some d → ∃ a fd ps, mg f = some (.ref a) ∧ PySem.W.keepIn K (.ref a) = true ∧ DefOk K T cs a d fd ps
  lams : ∀ g d, Pr.lams.lookup g = some d → ∃ ga fd a, mg g = some (.ref ga) ∧ PySem.W.keepIn K (.ref ga) = true ∧ LamOk K g ga d fd a
  sub : SubOk K mg fun x y => (Pr.sub.lookup x).bind fun r => r.lookup y
  mgT : T.mg = mg
theorem sound_D {P : Program} {w : World} {K : PySem.W.Frag} {mg : Str → Option Value} {base : Heap} {cs : List (Addr × Addr)} {Pr : Prg} (M : ModOk K T cs mg Pr) (TB : ∀ p ∈ cs, LamX.TabB base mg p.1 p.2) : ∀ (k : Nat) (a : Addr) (d : Df) (fd : FuncData) (ps : List Str), DefOk K T cs a d fd ps →
    FnOk P w K mg base (L2.CX P w) k a fd ps (SpD K T mg d.br.length (Pr.run k d))
  | 0, a, d, fd, ps, D => ⟨fun vs H Q E h => by rw [h.1, D.len], fun _ _ _ _ _ _ _ _ _ _ _ _ _ ⟨_, _, _, _, _, _, h⟩ => h.elim⟩
  | 1, a, d, fd, ps, D => ⟨fun vs H Q E h => by rw [h.1, D.len], fun _ _ _ _ _ _ _ _ _ _ _ _ _ ⟨_, _, _, _, _, _, h⟩ => h.elim⟩
  | 2, a, d, fd, ps, D => ⟨fun vs H Q E h => by rw [h.1, D.len], fun _ _ _ _ _ _ _ _ _ _ _ _ _ ⟨_, _, _, _, _, _, h⟩ => h.elim⟩
  | k + 3, a, d, fd, ps, D => by
    obtain ⟨oc, od, osl, name, qual, params, dV, kV, doc, pm, cdv, ct, an, rfl, lk, hcd, htab⟩ := D.fn
    refine fn_of lk hcd D.sc (fun vs H Q E h => by rw [h.1, D.len]) fun A outer s H vs Q E hr hsp => ?_
    obtain ⟨hv, sl, Z, G, hl, st, h⟩ := hsp
    let c : Cfg := { Pr.cfg d.tab (Pr.run (k + 2)) (Pr.run k) (callLm fuel (Pr.cfg false (Pr.run k) (fun _ _ => .bad) fun _ _ => .bad)) with N := d.N, fx := fxOf 0 d.br }
    have h : CPost K T mg d.br.length vs Z G H Q E (callDf fuel (Pr.cfg d.tab (Pr.run (k + 2)) (Pr.run k) (callLm fuel (Pr.cfg false (Pr.run k) (fun _ _ => .bad) fun _ _ => .bad))) d sl) := h
    unfold callDf at h
    cases q : allO (d.body.map (evS fuel d.sc c)) with
    | none =>
      have q' := q
      simp only [c] at q'
      rw [q'] at h; exact h.elim
    | some ms =>
      have q' := q
      simp only [c] at q'
      rw [q'] at h
      refine ⟨RdS K T mg (fxOf 0 d.br) (seqS ms) (fun cls d _ H => E cls d H), ?_, body_ok hv hl st h⟩
      let X := cxOf (L2.CX P w) P w K mg base d.N qual d.sc a cdv A outer s H E
      have defs : ∀ {j : Nat} {f : Str} {br : List Bool} {F : Sl → CRes}, (∀ a' d' fd' ps', DefOk K T cs a' d' fd' ps' → FnOk P w K mg base (L2.CX P w) j a' fd' ps' (SpD K T mg d'.br.length (Pr.run j d'))) → ((Pr.defs.lookup f).map fun d => (d.br, Pr.run j d)) = some (br, F) →
          ∃ a fd ps, mg f = some (.ref a) ∧ PySem.W.keepIn K (.ref a) = true ∧ Binds K fd ps [] ∧ FnOk P w K mg base (L2.CX P w) j a fd ps (SpD K T mg br.length F) := fun {j f br F} ih hf => by
        cases q1 : Pr.defs.lookup f with
        | none => rw [q1] at hf; cases hf
        | some d' =>
          rw [q1] at hf
          cases hf
          obtain ⟨a', fd', ps', h1, h2, h3⟩ := M.defs f d' q1
          exact ⟨a', fd', ps', h1, h2, h3.bd, ih a' d' fd' ps' h3⟩
      have ec : c.tab = d.tab := rfl
      have ecode : X.env.code = cdv := rfl
      have equal : X.env.qual = qual ++ ".<locals>." := rfl
      have tabOk : c.tab = true → 2 ≤ k + 2 ∧ ∃ cA P, X.env.code = .ref cA ∧ LamX.TabB X.base X.mg cA P ∧ (P, X.env.qual ++ "<lambda>") ∈ T.tabs ∧ ∀ p ∈ T.tabs, p.1 = P → p.2 = X.env.qual ++ "<lambda>" := by
        intro ht
        rw [ec] at ht
        obtain ⟨cA, P', e1, e2, e3, e4⟩ := htab ht
        rw [ecode, equal]
        exact ⟨Nat.le_add_left 2 k, cA, P', e1, TB _ e2, e3, e4⟩
      have g : CtxOk T X (fun cls d _ H => E cls d H) c (k + 2) d.sc :=
        { hsc := rfl
          hN := rfl
          nd := D.sc.nd
          calm := fun _ => rfl
          tk := takes_of rfl rfl rfl rfl
          room := fun _ => hr
          un := by
            have := hr.un
            show (A.deeper (envOfC qual d.sc s.heap.objs.size a cdv)).units + 66 < cLine
            omega
          fns := fun f br F hf => defs (fun a' d' fd' ps' h3 => sound_D M TB (k + 2) a' d' fd' ps' h3) hf
          blt := M.blt
          cst := M.cst
          fns2 := fun f br F hf => defs (fun a' d' fd' ps' h3 => sound_D M TB k a' d' fd' ps' h3) hf
          tab := tabOk
          lams := fun gg L hL => by
            have hL : ((Pr.lams.lookup gg).map fun d => callLm fuel (Pr.cfg false (Pr.run k) (fun _ _ => .bad) fun _ _ => .bad) d) = some L := hL
            cases q1 : Pr.lams.lookup gg with
            | none => rw [q1] at hL; cases hL
            | some d' =>
              rw [q1] at hL
              cases hL
              obtain ⟨ga, fd', a', h1, h2, h3⟩ := M.lams gg d' q1
              obtain ⟨oc, od, osl, params, dV, kV, doc, pm, cdv', ct, an, rfl, lk', hcd'⟩ := h3.fn
              have hN0 : d'.N[0]? = some a' := by
                have := h3.sc.pre
                cases hN : d'.N with
                | nil => rw [hN] at this; cases this
                | cons y ys => rw [hN] at this; cases this; rfl
              have hvis : Vis d'.sc a' := (h3.sc.par a' (by simp)).elim .inl fun z => .inr (.inl z)
              refine ⟨ga, _, a', h1, h2, ⟨⟨d'.N, params, d'.body, d'.sc, dV, kV, doc, pm, cdv', ct, oc, an, od, osl, rfl, lk', hcd', h3.sc, hN0, hvis, fun X' e1 e2 e3 e4 e5 hr2 q => ?_⟩, h3.bd, h3.nd, h3.nc⟩⟩
              have hT : T.mg = X'.mg := by rw [e4]; exact M.mgT
              have lm : LmOk X'.K X'.mg (Pr.cfg false (Pr.run k) (fun _ _ => .bad) fun _ _ => .bad) := by
                rw [e3, e4]
                exact ⟨M.blt, M.cst, M.sub⟩
              have := gives_of (X := X') (T := T) (d := d') (k := k + 1) (g := gg) (ga := ga) (cdv := cdv') (a := a') (q := q) hT lm h3.sc hr2
              rw [e3, e4] at this
              exact this
          hot := fun h => by cases h
          sub := M.sub }
      have b : BodyOk T X (fun cls d _ H => E cls d H) c (k + 2) d.sc :=
        { cx := g
          st := fun x h => ⟨locB_ok h, .inl rfl⟩
          bk := by
            show (if d.sc.kind.isAnnotationScope then ScopeKind.function else d.sc.kind) = .function
            rw [D.sc.kind]
            rfl
          po := fun _ => passes_of rfl
          clo := rfl
          exs := fun C hC => by
            obtain ⟨a', hm, hdb, ex⟩ := M.exs C hC
            obtain ⟨bmB, B, newId, initId, F, q⟩ := ex.ex
            exact ⟨a', hm, fun p pos hg => pmk_own0 F q hm ex.keep (raises_own ex.sub ex.ty) hg hdb⟩ }
      exact ss_block ((allO_each q).imp fun s m h => sound_S fuel b s m h)
end Ev
end
section
set_option maxHeartbeats 4000000
/-! EvSh: from the evaluator's word to the row. -/
namespace Ev
open PySem PySem.Spec PyProof.Rows L2
variable {T : LT}

/-- the script as a value -/
def scr (ns : List Int) : D := .dict [(.none, .list (ns.map .int))]
/-- what the law's def is called with -/
def arg (ns : List Int) : Sl := [some (.im (scr ns))]
def Pays (Pr : Prg) (k : Nat) (d : Df) (n : Nat) : Prop := ∀ ns : List Int, ns.length ≤ n → ∃ fin, Pr.run k d (arg ns) = .ok (.im (.bool true)) fin
def spLaw (T : LT) (n : Nat) (K : PySem.W.Frag) : Sp := fun vs H Q _ => ∃ (a : Addr) (ns : List Int), vs = [.ref a] ∧ ns.length ≤ n ∧ LamX.Tabs T.tabs H ∧ SqL K H a (ns.map V.int) ∧ ∀ H', Q (.bl true) H'
theorem enc_ints {K : PySem.W.Frag} {Z : Addr → Prop} {H : Hp} : ∀ {ns : List Int}, EncDs K Z H (ns.map V.int) (ns.map PyData.int)
  | [] => .nil
  | n :: ns => .cons (.int n) enc_ints
theorem law_ok {P : Program} {w : World} {K : PySem.W.Frag} {mg : Str → Option Value} {base : Heap} {cs : List (Addr × Addr)} {Pr : Prg} {k n : Nat} {a : Addr} {d : Df} {fd : FuncData} {x : Str} (M : ModOk K T cs mg Pr) (TB : ∀ p ∈ cs, LamX.TabB base mg p.1 p.2) (D : DefOk K T cs a d fd [x]) (h : Pays Pr k d n) :
    FnOk P w K mg base (L2.CX P w) k a fd [x] (spLaw T n K) :=
  (sound_D (T := T) M TB k a d fd [x] D).imp fun vs H Q E ⟨b, ns, ev, hl, hT, hs, q⟩ => by
    subst ev
    have hb : d.br.length = 1 := D.len.symm
    obtain ⟨fin, hr⟩ := h ns hl
    refine ⟨by rw [hb]; rfl, arg ns, fun c => c = b ∧ H b = some (.lst (ns.map V.int)), fun _ => False, by rw [hb]; rfl, ⟨⟨hT, fun c z ps e => ?_, fun _ z => z.elim⟩, fun c z e => ?_, fun _ z => z.elim, fun i sv g => ?_, fun i j si sj v q1 q2 o1 => ?_⟩, ?_⟩
    · obtain ⟨rfl, z⟩ := z; rw [z] at e; cases e
    · obtain ⟨rfl, z⟩ := z; rw [z] at e; cases e
    · cases i with
      | zero =>
        cases g
        refine ⟨_, rfl, .scr ?_ enc_ints⟩
        rcases hs with (h | ⟨o, h⟩) | h
        · exact .inl ⟨⟨rfl, h⟩, h⟩
        · exact .inr (.inl ⟨o, h⟩)
        · exact .inr (.inr h)
      | succ i =>
        rw [show gt (arg ns) (i + 1) = gt [] i from rfl, gt_nil] at g
        cases g
    · cases i with
      | zero => cases q1; cases o1
      | succ i =>
        rw [show gt (arg ns) (i + 1) = gt [] i from rfl, gt_nil] at q1
        cases q1
    · rw [hr]
      intro _ v H' Z' _ _ _ ok _
      cases (show EncD K Z' H' v (.bool true) from ok)
      exact q H'
open PySem PySem.W in
/-- the end without tables -/
theorem walk_ev {l : PySem.W.OpenLaw} {n k : Nat} {q : Program} {loose : List Str} {XP : (Str → Option Value) → Heap → Prop} {YP : World → Heap → Prop} {d : DefRec} {K : Params → PySem.W.Frag} {x : Str} (hn : l.most = some n) (hn2 : n ≤ sizeLine) (hdf : d.params.defaults = []) (hr : Room k callerA)
    (hY : ∀ (w : World) (h : Heap), YP w h → (K w.params).In h)
    (F : ∀ (w : World) (mg : Str → Option Value) (fa : Addr) (h : Heap), (K w.params).In h → h.Ns mainGlobals mg → mg d.name = some (.ref fa) →
      ∃ fd : FuncData, (∀ (s : Shared) (u : Value), BindsTo s fd ⟨[u], []⟩ [(x, u)]) ∧ ∀ base : Heap, (K w.params).In base → base.Ns mainGlobals mg → FnOk l.prog w (K w.params) mg base (L2.CX l.prog w) k fa fd [x] (spLaw ⟨[], fun _ => none, none⟩ n (K w.params))) :
    PySem.W.WalkO q loose XP YP l.row.toRowW d [] (fun f vs => PySem.call f vs) :=
  L2.walk_of (n := n) (k := k) (x := x) (CX := fun w => L2.CX l.prog w) (sp := fun w => spLaw ⟨[], fun _ => none, none⟩ n (K w.params)) hn hn2 hdf hr hY F
    (fun w H a ns hl hO hS => ⟨a, ns, rfl, hl, (fun p hp => absurd (show p ∈ ([] : List (Addr × Str)) from hp) (by simp)), hS, fun _ => rfl⟩) fun w H s e s' ⟨_, _, _, _, _, _, _, _, _, _, _, _, z⟩ => z
/-! ### the facts that the top gives, def by def -/
inductive DefsOk (K : PySem.W.Frag) (T : LT) (cs : List (Addr × Addr)) (mg : Str → Option Value) : List (Str × Df) → Prop
  | nil : DefsOk K T cs mg []
  | cons {x : Str} {d : Df} {r : List (Str × Df)} {a : Addr} {fd : FuncData} {ps : List Str} : mg x = some (.ref a) → PySem.W.keepIn K (.ref a) = true → DefOk K T cs a d fd ps → DefsOk K T cs mg r → DefsOk K T cs mg ((x, d) :: r)
theorem DefsOk.get {K : PySem.W.Frag} {cs : List (Addr × Addr)} {mg : Str → Option Value} : ∀ {l : List (Str × Df)} {f : Str} {d : Df}, DefsOk K T cs mg l → l.lookup f = some d → ∃ a fd ps, mg f = some (.ref a) ∧ PySem.W.keepIn K (.ref a) = true ∧ DefOk K T cs a d fd ps
  | _, f, d, .nil, h => by cases h
  | _, f, d, .cons (x := x) h1 h2 h3 t, h => by
    rw [List.lookup_cons] at h
    split at h
    · rename_i e
      cases h
      have e := eq_of_beq e
      subst e
      exact ⟨_, _, _, h1, h2, h3⟩
    · exact DefsOk.get t h
/-- one def more that makes no lambda: what k_is shows of it -/
theorem DefsOk.add {K : PySem.W.Frag} {cs : List (Addr × Addr)} {mg : Str → Option Value} {h : Heap} {r : List (Str × Df)} (r0 : DefsOk K T cs mg r) (X : K.In h) (G : h.Ns mainGlobals mg) {x : Str} {st : Stmt} {f : Addr} {od an : Option Addr} {sl : Array (Option Value)} {oc kV dc pm cd ct : Value} {N ps : List Str} {br : List Bool}
    (a : PySem.W.nsIn K mainGlobals x = some (some (.ref f))) (l : K.lookup f = some ⟨oc, od, .func (PySem.W.fnOf x x (defArgs st) (defBody st) (defScope st) .none kV dc pm an cd ct), sl⟩) (c : PySem.W.codeIn K cd x = true) (k : PySem.W.keepIn K (.ref f) = true)
    (S : FnScope N ps (defScope st)) (hl : ps.length = br.length) (b : ∀ (kV doc pm : Value) (an : Option Addr) (cdv ct : Value) (us : List Value), us.length = ps.length → bindArgs (PySem.W.fnOf x x (defArgs st) (defBody st) (defScope st) .none kV doc pm an cdv ct) ⟨us, []⟩ = pure (ps.zip us)) :
    DefsOk K T cs mg ((x, ⟨N, defScope st, br, false, defBody st⟩) :: r) :=
  .cons (PySem.W.mg_of X G a) k ⟨⟨oc, od, sl, x, x, defArgs st, .none, kV, dc, pm, cd, ct, an, rfl, l, c, fun z => by cases z⟩, S, hl, .all (b kV dc pm an cd ct)⟩ r0
/-- one that makes lambdas -/
theorem DefsOk.addT {K : PySem.W.Frag} {cs : List (Addr × Addr)} {mg : Str → Option Value} {h : Heap} {r : List (Str × Df)} (r0 : DefsOk K T cs mg r) (X : K.In h) (G : h.Ns mainGlobals mg) {x : Str} {st : Stmt} {f cA P : Addr} {od an : Option Addr} {sl : Array (Option Value)} {oc kV dc pm ct : Value} {N ps : List Str} {br : List Bool}
    (a : PySem.W.nsIn K mainGlobals x = some (some (.ref f))) (l : K.lookup f = some ⟨oc, od, .func (PySem.W.fnOf x x (defArgs st) (defBody st) (defScope st) .none kV dc pm an (.ref cA) ct), sl⟩) (c : PySem.W.codeIn K (.ref cA) x = true) (k : PySem.W.keepIn K (.ref f) = true)
    (hc : (cA, P) ∈ cs) (hT : (P, (x ++ ".<locals>.") ++ "<lambda>") ∈ T.tabs) (hu : ∀ p ∈ T.tabs, p.1 = P → p.2 = (x ++ ".<locals>.") ++ "<lambda>")
    (S : FnScope N ps (defScope st)) (hl : ps.length = br.length) (b : ∀ (kV doc pm : Value) (an : Option Addr) (cdv ct : Value) (us : List Value), us.length = ps.length → bindArgs (PySem.W.fnOf x x (defArgs st) (defBody st) (defScope st) .none kV doc pm an cdv ct) ⟨us, []⟩ = pure (ps.zip us)) :
    DefsOk K T cs mg ((x, ⟨N, defScope st, br, true, defBody st⟩) :: r) :=
  .cons (PySem.W.mg_of X G a) k ⟨⟨oc, od, sl, x, x, defArgs st, .none, kV, dc, pm, .ref cA, ct, an, rfl, l, c, fun _ => ⟨cA, P, rfl, hc, hT, hu⟩⟩, S, hl, .all (b kV dc pm an (.ref cA) ct)⟩ r0
end Ev
end
section
set_option maxHeartbeats 4000000
/-! EvSi: what the top of a row gives, read by facts; the row's end. -/
namespace Ev
open PySem PySem.Spec PyProof.Rows L2

/-- a class that is an exception -/
def exCB (K : PySem.W.Frag) (D : Addr) : Bool :=
  He.eqO (PySem.W.findIn K (.ref D) "__getattribute__") (some (some (.builtin "BaseException.__getattribute__"))) && (He.eqO (PySem.W.findIn K (.ref D) "__getattr__") (some none) &&
  (decide (PySem.W.subIn K (.ref D) (.type "BaseException") = some true) && (PySem.W.hasDictIn K D && (He.eqO (PySem.W.findIn K (.ref D) "__class__") (some (some (.builtin "object.__class__"))) &&
  (He.eqO (PySem.W.specialIn K (.builtin "object.__class__") "__get__") (some (some (.builtin "getset_descriptor.__get__"))) && (decide (PySem.W.takesIn K (.builtin "object.__class__") = some true) && decide (PySem.W.mroIn K D (.type "object") = some true)))))))
theorem exCB_ok {K : PySem.W.Frag} {D : Addr} (h : exCB K D = true) : ExcC K D := by
  obtain ⟨h1, h⟩ := He.ba h
  obtain ⟨h2, h⟩ := He.ba h
  obtain ⟨h3, h⟩ := He.ba h
  obtain ⟨h4, h⟩ := He.ba h
  obtain ⟨h5, h⟩ := He.ba h
  obtain ⟨h6, h⟩ := He.ba h
  obtain ⟨h7, h8⟩ := He.ba h
  exact ⟨He.eqO_ok h1, He.eqO_ok h2, of_decide_eq_true h3, h4, He.eqO_ok h5, He.eqO_ok h6, of_decide_eq_true h7, of_decide_eq_true h8⟩
abbrev SubL : Type := List (Str × List (Str × Bool))
def subF (l : SubL) (x y : Str) : Option Bool := (l.lookup x).bind fun r => r.lookup y
/-- one class against another: of the module, or ValueError -/
def subOneB (K : PySem.W.Frag) (x : Str) (q : Str × Bool) : Bool :=
  ((He.Fa.glo q.1).ok K && (decide (PySem.W.kitOne K (.ref (He.ga K x)) (.ref (He.ga K q.1)) = some q.2) && decide (PySem.W.exmOne K (.ref (He.ga K x)) (.ref (He.ga K q.1)) = some q.2))) ||
  (decide (q.1 = ("ValueError" : Str)) && ((He.Fa.free "ValueError").ok K && (decide (PySem.W.kitOne K (.ref (He.ga K x)) (.type "ValueError") = some q.2) && decide (PySem.W.exmOne K (.ref (He.ga K x)) (.type "ValueError") = some q.2))))
def subKB (K : PySem.W.Frag) (l : SubL) : Bool := l.all fun p => (He.Fa.glo p.1).ok K && (exCB K (He.ga K p.1) && p.2.all (subOneB K p.1))
theorem boot_value : bootBuiltins ("ValueError" : Str) = some (.type "ValueError") := by decide +kernel
theorem lookup_mem {α : Type} {x : Str} {v : α} : ∀ {l : List (Str × α)}, l.lookup x = some v → (x, v) ∈ l
  | [], h => by cases h
  | (y, u) :: r, h => by
    rw [List.lookup_cons] at h
    split at h
    · rename_i e
      cases h
      rw [eq_of_beq e]
      exact List.mem_cons_self
    · exact List.mem_cons_of_mem _ (lookup_mem h)
theorem subK_ok {K : PySem.W.Frag} {mg : Str → Option Value} {h : Heap} {l : SubL} (X : K.In h) (G : h.Ns mainGlobals mg) (c : subKB K l = true) : SubOk K mg (subF l) := fun x y b hb => by
  unfold subF at hb
  cases e : l.lookup x with
  | none => rw [e] at hb; cases hb
  | some r =>
    rw [e] at hb
    obtain ⟨h1, h2⟩ := He.ba (List.all_eq_true.mp c _ (lookup_mem e))
    obtain ⟨h3, h4⟩ := He.ba h2
    rcases (Bool.or_eq_true _ _).mp (List.all_eq_true.mp h4 _ (lookup_mem (show r.lookup y = some b from hb))) with hq | hq
    · obtain ⟨h5, h6⟩ := He.ba hq
      obtain ⟨h7, h8⟩ := He.ba h6
      exact ⟨_, He.glo_ok X G h1, exCB_ok h3, _, .inl ⟨_, rfl, He.glo_ok X G h5⟩, of_decide_eq_true h7, of_decide_eq_true h8⟩
    · obtain ⟨h5, h6⟩ := He.ba hq
      obtain ⟨h7, h8⟩ := He.ba h6
      obtain ⟨h9, h10⟩ := He.ba h8
      have e : y = ("ValueError" : Str) := of_decide_eq_true h5
      subst e
      exact ⟨_, He.glo_ok X G h1, exCB_ok h3, _, .inr ⟨_, rfl, He.free_ok X G h7, boot_value⟩, of_decide_eq_true h9, of_decide_eq_true h10⟩
/-- a constant of the top -/
def cstKB (K : PySem.W.Frag) (x : Str) : D → Bool
  | .int i => (He.Fa.int x i).ok K
  | .str z => (He.Fa.str x z).ok K
  | _ => false
theorem cstK_ok {K : PySem.W.Frag} {mg : Str → Option Value} {h : Heap} (X : K.In h) (G : h.Ns mainGlobals mg) {x : Str} {d : D} (c : cstKB K x d = true) : ∃ u v, mg x = some u ∧ RelV v u ∧ ∀ Z H, EncD K Z H v d := by
  cases d with
  | int i =>
    obtain ⟨t, e⟩ := He.int_ok X G (show (He.Fa.int x i).ok K = true from c)
    exact ⟨_, .int i, e, ⟨t, rfl⟩, fun _ _ => .int i⟩
  | str z =>
    obtain ⟨t, e⟩ := He.str_ok X G (show (He.Fa.str x z).ok K = true from c)
    exact ⟨_, .str z, e, ⟨t, rfl⟩, fun _ _ => .str z⟩
  | _ => cases c
def excKB (K : PySem.W.Frag) (x : Str) : Bool := (He.Fa.glo x).ok K && (!(x == ("__debug__" : Str)) && (He.Fa.exc x).ok K)
def ltOf (K : PySem.W.Frag) (mg : Str → Option Value) (tf : List He.Defn) : LT := ⟨tf.map fun p => ((He.cT K p).2, (p.1 ++ ".<locals>.") ++ "<lambda>"), mg, none⟩
def csOf (K : PySem.W.Frag) (tf : List He.Defn) : List (Addr × Addr) := tf.map (He.cT K)
def uniqB (K : PySem.W.Frag) (tf : List He.Defn) : Bool := tf.all fun p => tf.all fun q => !decide ((He.cT K p).2 = (He.cT K q).2) || decide (p.1 = q.1)
/-- all that the row's end leans on beyond the defs -/
def modB (Pr : Prg) (tf : List He.Defn) (K : PySem.W.Frag) : Bool :=
  (bltNames.all fun x => (He.Fa.free x).ok K) && ((Pr.cst.all fun p => cstKB K p.1 p.2) && ((Pr.exs.all (excKB K)) && (subKB K Pr.sub && (uniqB K tf && ((Pr.defs.all fun p => (He.Fa.glo p.1).ok K) && Pr.lams.all fun p => (He.Fa.glo p.1).ok K)))))
section
variable {K : PySem.W.Frag} {mg : Str → Option Value} {h : Heap} {Pr : Prg} {tf : List He.Defn}
theorem defF {x : Str} {st : Stmt} {fd : FuncData} {N ps : List Str} {br : List Bool} {tab : Bool} (hu : uniqB K tf = true)
    (F : FunD K x x (defArgs st) (defBody st) (defScope st) [] [] (He.fAd K (x, none)) fd) (ht : tab = true → (x, none) ∈ tf)
    (S : FnScope N ps (defScope st)) (hl : ps.length = br.length) (b : ∀ (kV doc pm : Value) (an : Option Addr) (cdv ct : Value) (us : List Value), us.length = ps.length → bindArgs (PySem.W.fnOf x x (defArgs st) (defBody st) (defScope st) .none kV doc pm an cdv ct) ⟨us, []⟩ = pure (ps.zip us)) :
    DefOk K (ltOf K mg tf) (csOf K tf) (He.ga K x) ⟨N, defScope st, br, tab, defBody st⟩ fd ps := by
  have bd := F.bindsN b
  obtain ⟨oc, od, dV, kV, doc, pm, an, cdv, ct, osl, rfl, lk, hcd, hD, hK⟩ := F.ex
  refine ⟨⟨oc, od, osl, x, x, defArgs st, dV, kV, doc, pm, cdv, ct, an, rfl, lk, hcd, fun z => ?_⟩, S, hl, bd⟩
  obtain ⟨c, rfl⟩ := He.codeIn_ref hcd
  have e : He.codeOf K (x, none) = c := He.codeOf_eq lk rfl
  have hm := ht z
  have ec : He.cT K (x, none) = (c, (He.cT K (x, none)).2) := by rw [← e] <;> rfl
  refine ⟨c, (He.cT K (x, none)).2, rfl, List.mem_map.mpr ⟨_, hm, ec⟩, List.mem_map.mpr ⟨_, hm, rfl⟩, fun p hp hp1 => ?_⟩
  obtain ⟨q, hq, rfl⟩ := List.mem_map.mp hp
  have h2 := List.all_eq_true.mp (List.all_eq_true.mp hu _ hq) _ hm
  have h3 : (!decide ((He.cT K q).2 = (He.cT K (x, none)).2) || decide (q.1 = x)) = true := h2
  rw [show decide ((He.cT K q).2 = (He.cT K (x, none)).2) = true from decide_eq_true hp1] at h3
  have h4 : q.1 = x := of_decide_eq_true h3
  show (q.1 ++ ".<locals>.") ++ "<lambda>" = _
  rw [h4]
theorem DefsOk.addF {r : List (Str × Df)} (r0 : DefsOk K (ltOf K mg tf) (csOf K tf) mg r) {x : Str} {st : Stmt} {fd : FuncData} {N ps : List Str} {br : List Bool} {tab : Bool} (hu : uniqB K tf = true)
    (g : mg x = some (.ref (He.ga K x))) (F : FunD K x x (defArgs st) (defBody st) (defScope st) [] [] (He.fAd K (x, none)) fd) (ht : tab = true → (x, none) ∈ tf)
    (S : FnScope N ps (defScope st)) (hl : ps.length = br.length) (b : ∀ (kV doc pm : Value) (an : Option Addr) (cdv ct : Value) (us : List Value), us.length = ps.length → bindArgs (PySem.W.fnOf x x (defArgs st) (defBody st) (defScope st) .none kV doc pm an cdv ct) ⟨us, []⟩ = pure (ps.zip us)) :
    DefsOk K (ltOf K mg tf) (csOf K tf) mg ((x, ⟨N, defScope st, br, tab, defBody st⟩) :: r) :=
  .cons g F.kp (defF hu F ht S hl b) r0
inductive LamsOk (K : PySem.W.Frag) (mg : Str → Option Value) : List (Str × Df) → Prop
  | nil : LamsOk K mg []
  | cons {x : Str} {d : Df} {r : List (Str × Df)} {ga : Addr} {fd : FuncData} {a : Str} : mg x = some (.ref ga) → PySem.W.keepIn K (.ref ga) = true → LamOk K x ga d fd a → LamsOk K mg r → LamsOk K mg ((x, d) :: r)
theorem LamsOk.get : ∀ {l : List (Str × Df)} {g : Str} {d : Df}, LamsOk K mg l → l.lookup g = some d → ∃ ga fd a, mg g = some (.ref ga) ∧ PySem.W.keepIn K (.ref ga) = true ∧ LamOk K g ga d fd a
  | _, f, d, .nil, h => by cases h
  | _, f, d, .cons (x := x) h1 h2 h3 t, h => by
    rw [List.lookup_cons] at h
    split at h
    · rename_i e
      cases h
      have e := eq_of_beq e
      subst e
      exact ⟨_, _, _, h1, h2, h3⟩
    · exact LamsOk.get t h
theorem LamsOk.addF {r : List (Str × Df)} (r0 : LamsOk K mg r) {x a : Str} {st : Stmt} {fd : FuncData} {N : List Str} {br : List Bool} {tab : Bool}
    (g : mg x = some (.ref (He.ga K x))) (F : FunD K x x (defArgs st) (defBody st) (defScope st) [] [] (He.fAd K (x, none)) fd)
    (S : FnScope N [a] (defScope st)) (nd : (a == ("__debug__" : Str)) = false) (nc : (a == ("__classdict__" : Str)) = false)
    (b : ∀ (kV doc pm : Value) (an : Option Addr) (cdv ct : Value) (us : List Value), us.length = [a].length → bindArgs (PySem.W.fnOf x x (defArgs st) (defBody st) (defScope st) .none kV doc pm an cdv ct) ⟨us, []⟩ = pure ([a].zip us)) :
    LamsOk K mg ((x, ⟨N, defScope st, br, tab, defBody st⟩) :: r) := by
  have kp := F.kp
  have bd := F.bindsN b
  obtain ⟨oc, od, dV, kV, doc, pm, an, cdv, ct, osl, rfl, lk, hcd, hD, hK⟩ := F.ex
  exact .cons g kp ⟨⟨oc, od, osl, defArgs st, dV, kV, doc, pm, cdv, ct, an, rfl, lk, hcd⟩, S, bd, nd, nc⟩ r0
theorem glos_ok (X : K.In h) (G : h.Ns mainGlobals mg) {l : List (Str × Df)} (c : (l.all fun p => (He.Fa.glo p.1).ok K) = true) {x : Str} {d : Df} (hx : (x, d) ∈ l) : mg x = some (.ref (He.ga K x)) := He.glo_ok X G (List.all_eq_true.mp c _ hx)
theorem mod_ok (X : K.In h) (G : h.Ns mainGlobals mg) (c : modB Pr tf K = true) (D : DefsOk K (ltOf K mg tf) (csOf K tf) mg Pr.defs) (L : LamsOk K mg Pr.lams) : ModOk K (ltOf K mg tf) (csOf K tf) mg Pr := by
  obtain ⟨c1, c⟩ := He.ba c
  obtain ⟨c2, c⟩ := He.ba c
  obtain ⟨c3, c⟩ := He.ba c
  obtain ⟨c4, c⟩ := He.ba c
  refine ⟨fun f hf => He.free_ok X G (List.all_eq_true.mp c1 f hf), fun x d hx => cstK_ok X G (List.all_eq_true.mp c2 _ (lookup_mem hx)), fun C hC => ?_, fun f d hf => D.get hf, fun g d hg => L.get hg, subK_ok X G c4, rfl⟩
  have hm : C ∈ Pr.exs := by
    rw [List.contains_iff_exists_mem_beq] at hC
    obtain ⟨a, ha, e⟩ := hC
    rw [eq_of_beq e]
    exact ha
  obtain ⟨e1, e2⟩ := He.ba (List.all_eq_true.mp c3 C hm)
  obtain ⟨e3, e4⟩ := He.ba e2
  obtain ⟨f1, f2, f3, f4⟩ := He.exc_ok e4
  refine ⟨_, He.glo_ok X G e1, by simpa using e3, ⟨⟨_, _, _, _, PySem.F.excBase_ValueError, f1⟩, f2, f3, f4⟩⟩
theorem uniq_of (c : modB Pr tf K = true) : uniqB K tf = true := (He.ba (He.ba (He.ba (He.ba (He.ba c).2).2).2).2).1
theorem gloD_of (c : modB Pr tf K = true) : (Pr.defs.all fun p => (He.Fa.glo p.1).ok K) = true := (He.ba (He.ba (He.ba (He.ba (He.ba (He.ba c).2).2).2).2).2).1
theorem gloL_of (c : modB Pr tf K = true) : (Pr.lams.all fun p => (He.Fa.glo p.1).ok K) = true := (He.ba (He.ba (He.ba (He.ba (He.ba (He.ba c).2).2).2).2).2).2
theorem law_at {l : PySem.W.OpenLaw} {w : World} {fa : List He.Fa} {fn : List He.DefD} {ts : List He.Tab} {n k : Nat} {x : Str} {N : List Str} {tab : Bool} {st : Stmt} {fd : FuncData} {f : Addr} (X : K.In h) (G : h.Ns mainGlobals mg) (S : He.SaysX fa fn ts tf (modB Pr tf) w h K)
    (D : DefsOk K (ltOf K mg tf) (csOf K tf) mg Pr.defs) (L : LamsOk K mg Pr.lams) (hf : mg ("law" : Str) = some (.ref f)) (hg : mg ("law" : Str) = some (.ref (He.ga K "law")))
    (F : FunD K "law" "law" (defArgs st) (defBody st) (defScope st) [] [] (He.fAd K ("law", none)) fd) (ht : tab = true → (("law" : Str), none) ∈ tf)
    (Sc : FnScope N [x] (defScope st)) (b : ∀ (kV doc pm : Value) (an : Option Addr) (cdv ct : Value) (us : List Value), us.length = [x].length → bindArgs (PySem.W.fnOf "law" "law" (defArgs st) (defBody st) (defScope st) .none kV doc pm an cdv ct) ⟨us, []⟩ = pure ([x].zip us))
    (hp : Pays Pr k ⟨N, defScope st, [false], tab, defBody st⟩ n) : LamX.LawAtS l w K (L2.CX l.prog w) k n x mg f h := by
  rw [hf] at hg
  cases hg
  have M := mod_ok X G S.more D L
  refine ⟨fd, csOf K tf, spLaw (ltOf K mg tf) n K, fun p hp => ?_, fun p hp => ?_, fun p hp => ?_, fun s u => F.bindsA b s [u] rfl, fun H a ns hl _ hT hS => ⟨a, ns, rfl, hl, fun p hp => ?_, hS, fun _ => rfl⟩, fun base _ _ TB => law_ok M TB (defF (uniq_of S.more) F ht Sc rfl b) hp⟩
  · obtain ⟨q, hq, rfl⟩ := List.mem_map.mp hp
    exact S.empty q hq
  · obtain ⟨q, hq, rfl⟩ := List.mem_map.mp hp
    exact S.out q hq
  · obtain ⟨q, hq, rfl⟩ := List.mem_map.mp hp
    exact PySem.W.codeHd_of_K X (S.hd q hq)
  · obtain ⟨q, hq, rfl⟩ := List.mem_map.mp hp
    exact LamX.TabS.nil (hT (He.cT K q) (List.mem_map.mpr ⟨q, hq, rfl⟩))
end
end Ev
end
section
set_option maxHeartbeats 1000000
/-! EvM: plain lemmas on the evaluator's combinators, for the laws' mathematics. -/
namespace Ev
open PySem
abbrev cmpF (op : CmpOp) (p q : D) : Option Op := (cmpD op p q).bind imB

/-! ### shapes -/
def iL (ns : List Int) : List D := ns.map PyData.int
theorem iL_len {ns : List Int} : (iL ns).length = ns.length := List.length_map ..
theorem iL_nil : iL [] = [] := rfl
theorem iL_cons {n : Int} {ns : List Int} : iL (n :: ns) = .int n :: iL ns := rfl
theorem iL_app {a b : List Int} : iL (a ++ b) = iL a ++ iL b := List.map_append ..
theorem iL_get {ns : List Int} {i : Nat} : (iL ns)[i]? = (ns[i]?).map .int := List.getElem?_map ..
theorem iL_drop {ns : List Int} {i : Nat} : (iL ns).drop i = iL (ns.drop i) := List.map_drop.symm
theorem iL_take {ns : List Int} {i : Nat} : (iL ns).take i = iL (ns.take i) := List.map_take.symm
theorem plain_int {i : Int} : PyData.plain (.int i) = true := rfl
theorem plainAll_cons {x : D} {xs : List D} : PyData.plainAll (x :: xs) = (PyData.plain x && PyData.plainAll xs) := by simp [PyData.plainAll]
theorem plain_iL : ∀ {ns : List Int}, PyData.plainAll (iL ns) = true
  | [] => by simp [iL, PyData.plainAll]
  | n :: ns => by rw [iL_cons, plainAll_cons, plain_iL (ns := ns)]; rfl
theorem depth_iL : ∀ {ns : List Int}, PyData.depthAll (iL ns) = 0
  | [] => by simp [iL, PyData.depthAll]
  | n :: ns => by rw [iL_cons, PyData.depthAll, depth_iL (ns := ns)]; simp [PyData.depth]
theorem intsD_iL : ∀ {ns : List Int}, intsD (iL ns) = some ns
  | [] => rfl
  | n :: ns => by rw [iL_cons, intsD, intsD_iL]; rfl
theorem eqD_self {d : D} (h : shp d = true) : eqD d d = some true := by
  unfold eqD
  rw [h]
  have := PySem.SeqAt.eqv_refl_plain d (by unfold shp at h; exact (Bool.and_eq_true_iff.mp h).1)
  rw [this]; rfl
theorem shp_int {i : Int} : shp (.int i) = true := by simp [shp, PyData.plain, PyData.depth]
theorem shp_bool {i : Bool} : shp (.bool i) = true := by simp [shp, PyData.plain, PyData.depth]
theorem shp_none : shp .none = true := by simp [shp, PyData.plain, PyData.depth]
theorem shp_str {s : Str} : shp (.str s) = true := by simp [shp, PyData.plain, PyData.depth]
/-- how deep, at most -/
def shpN (n : Nat) (d : D) : Bool := PyData.plain d && decide (PyData.depth d ≤ n)
def shpNs (n : Nat) (ds : List D) : Bool := PyData.plainAll ds && decide (PyData.depthAll ds ≤ n)
theorem shp_N {d : D} : shp d = shpN 60 d := rfl
theorem shpN_int {i : Int} {n : Nat} : shpN n (.int i) = true := by simp [shpN, PyData.plain, PyData.depth]
theorem shpN_bool {i : Bool} {n : Nat} : shpN n (.bool i) = true := by simp [shpN, PyData.plain, PyData.depth]
theorem shpN_none {n : Nat} : shpN n .none = true := by simp [shpN, PyData.plain, PyData.depth]
theorem shpN_str {s : Str} {n : Nat} : shpN n (.str s) = true := by simp [shpN, PyData.plain, PyData.depth]
theorem shpN_tuple {ds : List D} {n : Nat} : shpN (n + 1) (.tuple ds) = shpNs n ds := by simp [shpN, shpNs, PyData.plain, PyData.depth]
theorem shpN_list {ds : List D} {n : Nat} : shpN (n + 1) (.list ds) = shpNs n ds := by simp [shpN, shpNs, PyData.plain, PyData.depth]
theorem shpNs_nil {n : Nat} : shpNs n [] = true := by simp [shpNs, PyData.plainAll, PyData.depthAll]
theorem shpNs_cons {d : D} {ds : List D} {n : Nat} : shpNs n (d :: ds) = (shpN n d && shpNs n ds) := by
  simp only [shpN, shpNs, PyData.plainAll, PyData.depthAll, Nat.max_le]
  cases PyData.plain d <;> cases PyData.plainAll ds <;> simp
theorem shpNs_app {a b : List D} {n : Nat} : shpNs n (a ++ b) = (shpNs n a && shpNs n b) := by
  induction a with
  | nil => simp [shpNs_nil]
  | cons x a ih => rw [List.cons_append, shpNs_cons, shpNs_cons, ih, Bool.and_assoc]
theorem shpNs_iL {ns : List Int} {n : Nat} : shpNs n (iL ns) = true := by
  induction ns with
  | nil => exact shpNs_nil
  | cons x a ih => rw [iL_cons, shpNs_cons, ih, shpN_int]; rfl
theorem shps_N {ds : List D} : shps ds = shpNs 60 ds := rfl
theorem alike_int {i j : Int} : PySem.W.alike (.int i) (.int j) = true := by simp [PySem.W.alike]
theorem alikeB_iL {ns : List Int} : alikeB (iL ns) = true := by
  unfold alikeB
  rw [Bool.and_eq_true_iff]
  refine ⟨List.all_eq_true.mpr fun x hx => List.all_eq_true.mpr fun y hy => ?_, List.all_eq_true.mpr fun x hx => ?_⟩
  · obtain ⟨i, _, rfl⟩ := List.mem_map.mp hx
    obtain ⟨j, _, rfl⟩ := List.mem_map.mp hy
    exact alike_int
  · obtain ⟨i, _, rfl⟩ := List.mem_map.mp hx
    rfl
theorem ltD_int {i j : Int} : ltD (.int i) (.int j) = some (decide (i < j)) := by
  simp [ltD, alike_int, isNone, shp_int, PySem.W.dataLt_int]
theorem leD_int {i j : Int} : leD (.int i) (.int j) = some (decide (i ≤ j)) := by
  simp only [leD, alike_int, isNone, shp_int, PySem.W.dataLt_int]
  by_cases h : i ≤ j
  · simp [h, Int.not_lt.mpr h]
  · simp [h, Int.not_le.mp h]
theorem eqD_int {i j : Int} : eqD (.int i) (.int j) = some (decide (i = j)) := by
  simp [eqD, shp_int, PyData.eqv]
  by_cases h : i = j <;> simp [h]
theorem eqD_str {i j : Str} : eqD (.str i) (.str j) = some (decide (i = j)) := by
  simp [eqD, shp_str, PyData.eqv]
  by_cases h : i = j <;> simp [h]
theorem bltD_sum_tup {ns : List Int} : bltD .sum [.tuple (iL ns)] = imI ns.sum := by simp [bltD, seqD, intsD_iL]
theorem bltD_sum_lst {ns : List Int} : bltD .sum [.list (iL ns)] = imI ns.sum := by simp [bltD, seqD, intsD_iL]
theorem bltD_max_tup {n : Int} {ns : List Int} : bltD .max [.tuple (iL (n :: ns))] = imI (ns.foldl max n) := by
  have h := alikeB_iL (ns := n :: ns)
  have h2 : shps (iL (n :: ns)) = true := shpNs_iL
  rw [iL_cons] at h h2 ⊢
  simp only [bltD, seqD, h, h2, Bool.and_self, if_true, imI]
  rw [iL, PySem.W.maxD_ints]
theorem bltD_max_lst {n : Int} {ns : List Int} : bltD .max [.list (iL (n :: ns))] = imI (ns.foldl max n) := by
  have h := alikeB_iL (ns := n :: ns)
  have h2 : shps (iL (n :: ns)) = true := shpNs_iL
  rw [iL_cons] at h h2 ⊢
  simp only [bltD, seqD, h, h2, Bool.and_self, if_true, imI]
  rw [iL, PySem.W.maxD_ints]
theorem bltD_min_tup {n : Int} {ns : List Int} : bltD .min [.tuple (iL (n :: ns))] = imI (ns.foldl min n) := by
  have h := alikeB_iL (ns := n :: ns)
  have h2 : shps (iL (n :: ns)) = true := shpNs_iL
  rw [iL_cons] at h h2 ⊢
  simp only [bltD, seqD, h, h2, Bool.and_self, if_true, imI]
  rw [iL, PySem.W.minD_ints]
theorem bltD_min_lst {n : Int} {ns : List Int} : bltD .min [.list (iL (n :: ns))] = imI (ns.foldl min n) := by
  have h := alikeB_iL (ns := n :: ns)
  have h2 : shps (iL (n :: ns)) = true := shpNs_iL
  rw [iL_cons] at h h2 ⊢
  simp only [bltD, seqD, h, h2, Bool.and_self, if_true, imI]
  rw [iL, PySem.W.minD_ints]
def bL (bs : List Bool) : List D := bs.map PyData.bool
theorem boolsD_bL : ∀ {bs : List Bool}, boolsD (bL bs) = some bs
  | [] => rfl
  | n :: ns => by rw [show bL (n :: ns) = .bool n :: bL ns from rfl, boolsD, boolsD_bL]; rfl
theorem bltD_all {bs : List Bool} : bltD .all [.list (bL bs)] = imB (bs.all id) := by simp [bltD, boolsD_bL]
theorem bltD_any {bs : List Bool} : bltD .any [.list (bL bs)] = imB (bs.any id) := by simp [bltD, boolsD_bL]
/-! ### statements, step by step -/
theorem stS_n {i : Nat} {v : Sv} {e : Sl} : stS [] i v e = some (pt e i (some v)) := rfl
theorem stS_1 {v : Sv} {e : Sl} : stS [0] 1 v e = some (pt e 1 (some v)) := rfl
theorem stS_2 {v : Sv} {e : Sl} : stS [0] 2 v e = some (pt e 2 (some v)) := rfl
theorem stS_3 {v : Sv} {e : Sl} : stS [0] 3 v e = some (pt e 3 (some v)) := rfl
theorem stS_4 {v : Sv} {e : Sl} : stS [0] 4 v e = some (pt e 4 (some v)) := rfl
theorem stS_5 {v : Sv} {e : Sl} : stS [0] 5 v e = some (pt e 5 (some v)) := rfl
theorem stS_6 {v : Sv} {e : Sl} : stS [0] 6 v e = some (pt e 6 (some v)) := rfl
theorem stS_7 {v : Sv} {e : Sl} : stS [0] 7 v e = some (pt e 7 (some v)) := rfl
theorem stS_8 {v : Sv} {e : Sl} : stS [0] 8 v e = some (pt e 8 (some v)) := rfl
theorem stS_9 {v : Sv} {e : Sl} : stS [0] 9 v e = some (pt e 9 (some v)) := rfl
theorem stS_10 {v : Sv} {e : Sl} : stS [0] 10 v e = some (pt e 10 (some v)) := rfl
theorem stS_11 {v : Sv} {e : Sl} : stS [0] 11 v e = some (pt e 11 (some v)) := rfl
theorem stS_12 {v : Sv} {e : Sl} : stS [0] 12 v e = some (pt e 12 (some v)) := rfl
theorem stS_13 {v : Sv} {e : Sl} : stS [0] 13 v e = some (pt e 13 (some v)) := rfl
theorem stS_14 {v : Sv} {e : Sl} : stS [0] 14 v e = some (pt e 14 (some v)) := rfl
theorem stS_15 {v : Sv} {e : Sl} : stS [0] 15 v e = some (pt e 15 (some v)) := rfl
theorem hid_im {fx : List Nat} {d : D} {e : Sl} : hideO fx (.im d) e = some (d, [], e) := rfl
theorem hid_tl {fx : List Nat} {xs : List D} {e : Sl} : hideO fx (.tl xs) e = some (.list xs, [], e) := rfl
theorem hid_n {i : Nat} {e : Sl} : hideO [] (.bor i) e = (fzO (.bor i) e).map fun r => (r.1, [], r.2) := rfl

@[simp] theorem finsOf_f {bs : List Bool} {x : Option Sv} {r : Sl} : finsOf (false :: bs) (x :: r) = none :: finsOf bs r := rfl
@[simp] theorem finsOf_t {bs : List Bool} {x : Option Sv} {r : Sl} : finsOf (true :: bs) (x :: r) = x :: finsOf bs r := rfl
@[simp] theorem finsOf_n {e : Sl} : finsOf [] e = [] := by cases e <;> rfl
section
variable {t : ME} {a b : MS} {r : List MS} {e e1 : Sl} {o : Op}
theorem ifS_true (h : t e = .ok (.im (.bool true)) e1) : ifS t a b e = a e1 := by unfold ifS; rw [h]; rfl
theorem ifS_false (h : t e = .ok (.im (.bool false)) e1) : ifS t a b e = b e1 := by unfold ifS; rw [h]; rfl
theorem seqS_nx (h : a e = .nx e1) : seqS (a :: b :: r) e = seqS (b :: r) e1 := by
  show (a e).bind (seqS (b :: r)) = _
  rw [h]; rfl
theorem seqS_rt (h : a e = .rt o e1) : seqS (a :: r) e = .rt o e1 := by
  cases r with
  | nil => exact h
  | cons b r =>
    show (a e).bind (seqS (b :: r)) = _
    rw [h]; rfl
theorem seqS_er {x : Exc} (h : a e = .er x e1) : seqS (a :: r) e = .er x e1 := by
  cases r with
  | nil => exact h
  | cons b r =>
    show (a e).bind (seqS (b :: r)) = _
    rw [h]; rfl
theorem seqS_one : seqS [a] = a := rfl
theorem seqS_end : seqS [] e = .nx e := rfl
theorem retS_ok (h : t e = .ok o e1) : retS t e = .rt o e1 := by unfold retS; rw [h]; rfl
theorem exprS_ok (h : t e = .ok o e1) : exprS t e = .nx e1 := by unfold exprS; rw [h]; rfl
theorem exprS_er {x : Exc} (h : t e = .er x e1) : exprS t e = .er x e1 := by unfold exprS; rw [h]; rfl
theorem asgS_im {i : Nat} {d : D} {fx : List Nat} (h : t e = .ok (.im d) e1) (hf : fx.contains i = false) : asgS (nameG fx i) t e = .nx (pt e1 i (some (.im d))) := by
  unfold asgS
  rw [h]
  simp only [Res.st, nameG, stS, hf]
  rfl
theorem asgS_tl {i : Nat} {ds : List D} {fx : List Nat} (h : t e = .ok (.tl ds) e1) (hf : fx.contains i = false) : asgS (nameG fx i) t e = .nx (pt e1 i (some (.ol ds))) := by
  unfold asgS
  rw [h]
  simp only [Res.st, nameG, stS, hf]
  rfl
theorem forS_nx {it : MI} {tg : MT} {ds : List D} {e2 : Sl} (h : it e = .ok ⟨ds, []⟩ e1) (h2 : forL tg a ds e1 = .nx e2) : forS it tg a e = .nx e2 := by
  unfold forS
  rw [h]
  simp only [Res.st, h2, endL, unhS]
theorem notE_ok {b : Bool} (h : t e = .ok (.im (.bool b)) e1) : notE t e = .ok (.im (.bool (!b))) e1 := by unfold notE; rw [h]; rfl
end
theorem binD_add {i j : Int} : binD .Add (.int i) (.int j) = some (.im (.int (i + j))) := rfl
theorem binD_sub {i j : Int} : binD .Sub (.int i) (.int j) = some (.im (.int (i - j))) := rfl
theorem binD_addT {xs ys : List D} (h : xs.length + ys.length ≤ sizeMax) : binD .Add (.tuple xs) (.tuple ys) = some (.im (.tuple (xs ++ ys))) := if_pos h
theorem binD_addL {xs ys : List D} (h : xs.length + ys.length ≤ sizeMax) : binD .Add (.list xs) (.list ys) = some (.tl (xs ++ ys)) := if_pos h
theorem bltD_allT {α : Type} {xs : List α} : bltD .all [.list (bL (xs.map fun _ => true))] = some (.im (.bool true)) := by
  rw [bltD_all]
  have : (xs.map fun _ => true).all id = true := by simp
  rw [this]; rfl
theorem all_true {α : Type} {xs : List α} : (bL (xs.map fun _ => true)) = xs.map fun _ => PyData.bool true := by simp [bL]
theorem ne_self {d : D} (h : shp d = true) : cmpF .NotEq d d = some (.im (.bool false)) := by
  simp only [cmpF, cmpD, eqD_self h, Option.map, Bool.not_true, Option.bind, imB]
theorem cutL_tail {xs : List D} (h : 1 ≤ xs.length) : cutL xs (some 1) none = xs.drop 1 := by
  simp only [cutL, cutI]
  have e : min (1 : Int).toNat xs.length = 1 := by simp; omega
  rw [if_neg (by decide), e, List.take_of_length_le (by simp)]
theorem zipI_map (f : Int → Int → Int) (g : D → D) (hg : ∀ i j, g (.tuple [.int i, .int j]) = .int (f i j)) : ∀ {as bs : List Int}, (zipI (iL as) (iL bs)).map g = iL (List.zipWith f as bs)
  | [], _ => by simp [iL, zipI]
  | _ :: _, [] => by simp [iL, zipI]
  | a :: as, b :: bs => by
    rw [iL_cons, iL_cons, zipI, List.map_cons, hg, zipI_map f g hg, List.zipWith_cons_cons, iL_cons]
theorem zipI_mem {d : D} : ∀ {as bs : List Int}, d ∈ zipI (iL as) (iL bs) → ∃ i j, d = .tuple [.int i, .int j]
  | [], _, h => by simp [iL, zipI] at h
  | _ :: _, [], h => by simp [iL, zipI] at h
  | a :: as, b :: bs, h => by
    rw [iL_cons, iL_cons, zipI] at h
    rcases List.mem_cons.mp h with rfl | h
    · exact ⟨a, b, rfl⟩
    · exact zipI_mem h
theorem zipI_len : ∀ {as bs : List D}, (zipI as bs).length = min as.length bs.length
  | [], _ => by simp [zipI]
  | _ :: _, [] => by simp [zipI]
  | a :: as, b :: bs => by rw [zipI, List.length_cons, zipI_len]; simp <;> omega
theorem gtI : ∀ {e : Sl} {i : Nat}, gt (imS e) i = match gt e i with | some (.im d) => some (.im d) | _ => none
  | [], i => by simp [imS, gt]
  | none :: r, 0 => rfl
  | none :: r, i + 1 => gtI (e := r)
  | some (.im d) :: r, 0 => rfl
  | some (.im d) :: r, i + 1 => gtI (e := r)
  | some (.ol d) :: r, 0 => rfl
  | some (.ol d) :: r, i + 1 => gtI (e := r)
  | some (.od d) :: r, 0 => rfl
  | some (.od d) :: r, i + 1 => gtI (e := r)
  | some (.ex d) :: r, 0 => rfl
  | some (.ex d) :: r, i + 1 => gtI (e := r)
theorem lamE_ok {fx fv : List Nat} {G : LRes → CRes} {m : ME} {e : Sl} {r : LRes} {d : D} {f : Sl} (hf : frzS fx fv e = e) (hm : lres (m (imS e)) = some r) (hG : G r = .ok (.im d) f) : lamE fx fv G m e = .ok (.im d) e := by
  unfold lamE
  rw [hf, hm]
  simp only [hG]
/-- a call with the hand and a new list -/
theorem callE_any1 {F : Sl → CRes} {m : ME} {a a1 fin xs : List D} {r r1 : Sl} {x : D} {s s1 : Option Sv} (hm : m (s :: some (.ol a) :: r) = .ok (.tl xs) (s1 :: some (.ol a1) :: r1)) (hF : F [some (.ol a1), some (.ol xs)] = .ok (.im x) [some (.ol fin), none]) :
    callE [true, false] F [varE 1, m] (s :: some (.ol a) :: r) = .ok (.im x) (s1 :: some (.ol fin) :: r1) := by
  unfold callE
  simp only [argsO, varE, gt, Res.bind, hm, toPar, pt, Option.map, hF, backs]
theorem callE_any {F : Sl → CRes} {m : ME} {a a1 fin xs : List D} {r r1 : Sl} {x : D} (hm : m (some (.ol a) :: r) = .ok (.tl xs) (some (.ol a1) :: r1)) (hF : F [some (.ol a1), some (.ol xs)] = .ok (.im x) [some (.ol fin), none]) :
    callE [true, false] F [varE 0, m] (some (.ol a) :: r) = .ok (.im x) (some (.ol fin) :: r1) := by
  unfold callE
  simp only [argsO, varE, gt, Res.bind, hm, toPar, pt, Option.map, hF, backs]
theorem finsOf_all {e : Sl} : finsOf [false, false] e = [none, none] := by
  cases e with
  | nil => rfl
  | cons a e => cases e <;> simp [finsOf]
theorem finsOf_all3 {e : Sl} : finsOf [false, false, false] e = [none, none, none] := by
  cases e with
  | nil => rfl
  | cons a e => cases e with
    | nil => rfl
    | cons b e => cases e <;> simp [finsOf]
/-! ### loops -/
/-- an invariant of a for loop -/
theorem forL_inv {tg : MT} {body : MS} (I : Sl → Prop) : ∀ (ds : List D) (e : Sl), I e → (∀ d, d ∈ ds → ∀ e, I e → ∃ e1, tg d e = some e1 ∧ ∃ e2, body e1 = .nx e2 ∧ I e2) → ∃ e', forL tg body ds e = .nx e' ∧ I e'
  | [], e, hI, _ => ⟨e, rfl, hI⟩
  | d :: ds, e, hI, h => by
    obtain ⟨e1, h1, e2, h2, h3⟩ := h d List.mem_cons_self e hI
    obtain ⟨e', h4, h5⟩ := forL_inv I ds e2 h3 fun d hd => h d (List.mem_cons_of_mem _ hd)
    refine ⟨e', ?_, h5⟩
    unfold forL
    rw [h1]
    simp only [h2]
    exact h4
/-- a for loop that may return -/
theorem forL_rt {tg : MT} {body : MS} (I : Sl → Prop) : ∀ (ds : List D) (e : Sl), I e → (∀ d, d ∈ ds → ∀ e, I e → ∃ e1, tg d e = some e1 ∧ ((∃ e2, body e1 = .nx e2 ∧ I e2) ∨ ∃ w e2, body e1 = .rt (.im w) e2)) → (∃ e', forL tg body ds e = .nx e' ∧ I e') ∨ ∃ w e', forL tg body ds e = .rt (.im w) e'
  | [], e, hI, _ => .inl ⟨e, rfl, hI⟩
  | d :: ds, e, hI, h => by
    obtain ⟨e1, h1, h2⟩ := h d List.mem_cons_self e hI
    unfold forL
    rw [h1]
    rcases h2 with ⟨e2, h2, h3⟩ | ⟨w, e2, h2⟩
    · simp only [h2]
      exact forL_rt I ds e2 h3 fun d hd => h d (List.mem_cons_of_mem _ hd)
    · exact .inr ⟨w, e2, by simp only [h2]⟩
/-- a for loop whose turns are a function of a state -/
theorem forL_fold {α : Type} {tg : MT} {body : MS} (S : α → Sl) (f : α → D → α) : ∀ (ds : List D) (a : α), (∀ d, d ∈ ds → ∀ a, ∃ e1, tg d (S a) = some e1 ∧ body e1 = .nx (S (f a d))) → forL tg body ds (S a) = .nx (S (ds.foldl f a))
  | [], a, _ => rfl
  | d :: ds, a, h => by
    obtain ⟨e1, h1, h2⟩ := h d List.mem_cons_self a
    unfold forL
    rw [h1]
    simp only [h2]
    exact forL_fold S f ds (f a d) fun d hd => h d (List.mem_cons_of_mem _ hd)
/-- a comprehension whose element is a function of the item -/
theorem compL_map {own : List Nat} {tg : MT} {cond elt : ME} {e : Sl} (f : D → D) : ∀ (ds acc : List D), (∀ d, d ∈ ds → ∃ e1, tg d e = some e1 ∧ cond e1 = .ok (.im (.bool true)) e1 ∧ elt e1 = .ok (.im (f d)) e1 ∧ wipeS e1 own = e) → acc.length + ds.length ≤ sizeMax →
    compL own tg cond elt ds acc e = .ok (acc ++ ds.map f) e
  | [], acc, _, _ => by simp [compL]
  | d :: ds, acc, h, hl => by
    obtain ⟨e1, h1, h2, h3, h4⟩ := h d List.mem_cons_self
    have l1 : acc.length < sizeMax := by simp only [List.length_cons] at hl; omega
    unfold compL
    simp only [h1, h2, noer, Res.bind, tru, h3, fzO, if_pos l1, h4]
    rw [compL_map f ds (acc ++ [f d]) (fun d hd => h d (List.mem_cons_of_mem _ hd)) (by simp only [List.length_append, List.length_cons, List.length_nil] at hl ⊢; omega)]
    simp
/-- a comprehension that changes a state: each item's element comes of the state -/
theorem compL_inv {own : List Nat} {tg : MT} {cond elt : ME} (I : Sl → Prop) (Q : D → Prop) : ∀ (ds acc : List D) (e : Sl), I e → (∀ d, d ∈ ds → ∀ e, I e → ∃ e1, tg d e = some e1 ∧ cond e1 = .ok (.im (.bool true)) e1 ∧ ∃ r e2, elt e1 = .ok (.im r) e2 ∧ Q r ∧ I (wipeS e2 own)) → acc.length + ds.length ≤ sizeMax →
    ∃ rs e', compL own tg cond elt ds acc e = .ok (acc ++ rs) e' ∧ rs.length = ds.length ∧ (∀ r ∈ rs, Q r) ∧ I e'
  | [], acc, e, hI, _, _ => ⟨[], e, by simp [compL], rfl, by simp, hI⟩
  | d :: ds, acc, e, hI, h, hl => by
    obtain ⟨e1, h1, h2, r, e2, h3, hq, h4⟩ := h d List.mem_cons_self e hI
    have l1 : acc.length < sizeMax := by simp only [List.length_cons] at hl; omega
    obtain ⟨rs, e', h5, h6, h7, h8⟩ := compL_inv I Q ds (acc ++ [r]) (wipeS e2 own) h4 (fun d hd => h d (List.mem_cons_of_mem _ hd)) (by simp only [List.length_append, List.length_cons, List.length_nil] at hl ⊢; omega)
    refine ⟨r :: rs, e', ?_, by simp [h6], fun q hq' => ?_, h8⟩
    · unfold compL
      simp only [h1, h2, noer, Res.bind, tru, h3, fzO, if_pos l1]
      rw [h5]
      simp
    · rcases List.mem_cons.mp hq' with rfl | z
      · exact hq
      · exact h7 q z
theorem compE_map {own : List Nat} {it : MI} {tg : MT} {cond elt : ME} {e e1 : Sl} {ds : List D} (f : D → D) (hit : it e = .ok ⟨ds, []⟩ e1) (hi : imOnly e1 own = true) (hl : ds.length ≤ sizeMax)
    (h : ∀ d, d ∈ ds → ∃ e2, tg d (wipeS e1 own) = some e2 ∧ cond e2 = .ok (.im (.bool true)) e2 ∧ elt e2 = .ok (.im (f d)) e2 ∧ wipeS e2 own = wipeS e1 own) :
    compE own it tg cond elt e = .ok (.tl (ds.map f)) (restS e1 (wipeS e1 own) own) := by
  unfold compE
  rw [hit]
  simp only [Res.bind, hi, if_true]
  rw [compL_map f ds [] h (by simpa using hl)]
  rfl
/-- a comprehension with a condition -/
theorem compL_filter {own : List Nat} {tg : MT} {cond elt : ME} {e : Sl} (p : D → Bool) (f : D → D) : ∀ (ds acc : List D), (∀ d, d ∈ ds → ∃ e1, tg d e = some e1 ∧ cond e1 = .ok (.im (.bool (p d))) e1 ∧ elt e1 = .ok (.im (f d)) e1 ∧ wipeS e1 own = e) → acc.length + ds.length ≤ sizeMax →
    compL own tg cond elt ds acc e = .ok (acc ++ (ds.filter p).map f) e
  | [], acc, _, _ => by simp [compL]
  | d :: ds, acc, h, hl => by
    obtain ⟨e1, h1, h2, h3, h4⟩ := h d List.mem_cons_self
    have l1 : acc.length < sizeMax := by simp only [List.length_cons] at hl; omega
    have rest := fun acc' (hl' : acc'.length + ds.length ≤ sizeMax) => compL_filter p f ds acc' (fun d hd => h d (List.mem_cons_of_mem _ hd)) hl'
    unfold compL
    cases q : p d with
    | true =>
      rw [q] at h2
      simp only [h1, h2, noer, Res.bind, tru, h3, fzO, if_pos l1, h4]
      rw [rest (acc ++ [f d]) (by simp only [List.length_append, List.length_cons, List.length_nil] at hl ⊢; omega)]
      simp [List.filter_cons, q]
    | false =>
      rw [q] at h2
      simp only [h1, h2, noer, Res.bind, tru, h4]
      rw [rest acc (by simp only [List.length_cons] at hl; omega)]
      simp [List.filter_cons, q]
theorem compE_filter {own : List Nat} {it : MI} {tg : MT} {cond elt : ME} {e e1 : Sl} {ds : List D} (p : D → Bool) (f : D → D) (hit : it e = .ok ⟨ds, []⟩ e1) (hi : imOnly e1 own = true) (hl : ds.length ≤ sizeMax)
    (h : ∀ d, d ∈ ds → ∃ e2, tg d (wipeS e1 own) = some e2 ∧ cond e2 = .ok (.im (.bool (p d))) e2 ∧ elt e2 = .ok (.im (f d)) e2 ∧ wipeS e2 own = wipeS e1 own) :
    compE own it tg cond elt e = .ok (.tl ((ds.filter p).map f)) (restS e1 (wipeS e1 own) own) := by
  unfold compE
  rw [hit]
  simp only [Res.bind, hi, if_true]
  rw [compL_filter p f ds [] h (by simpa using hl)]
  rfl
theorem compE_inv {own : List Nat} {it : MI} {tg : MT} {cond elt : ME} {e e1 : Sl} {ds : List D} (I : Sl → Prop) (Q : D → Prop) (hit : it e = .ok ⟨ds, []⟩ e1) (hi : imOnly e1 own = true) (hl : ds.length ≤ sizeMax) (h0 : I (wipeS e1 own))
    (h : ∀ d, d ∈ ds → ∀ e, I e → ∃ e1, tg d e = some e1 ∧ cond e1 = .ok (.im (.bool true)) e1 ∧ ∃ r e2, elt e1 = .ok (.im r) e2 ∧ Q r ∧ I (wipeS e2 own)) :
    ∃ rs e', compE own it tg cond elt e = .ok (.tl rs) (restS e1 e' own) ∧ rs.length = ds.length ∧ (∀ r ∈ rs, Q r) ∧ I e' := by
  obtain ⟨rs, e', h1, h2, h3, h4⟩ := compL_inv I Q ds [] (wipeS e1 own) h0 h (by simpa using hl)
  refine ⟨rs, e', ?_, h2, h3, h4⟩
  unfold compE
  rw [hit]
  simp only [Res.bind, hi, if_true, h1]
  rfl
theorem foldl_max_ge : ∀ (ns : List Int) (n : Int), n ≤ ns.foldl max n ∧ ∀ x ∈ ns, x ≤ ns.foldl max n
  | [], n => ⟨Int.le_refl _, by simp⟩
  | m :: ns, n => by
    obtain ⟨h1, h2⟩ := foldl_max_ge ns (max n m)
    refine ⟨?_, fun x hx => ?_⟩
    · rw [List.foldl_cons]; omega
    · rw [List.foldl_cons]
      rcases List.mem_cons.mp hx with rfl | hx
      · omega
      · exact h2 x hx
theorem foldl_max_mem : ∀ (ns : List Int) (n : Int), ns.foldl max n = n ∨ ns.foldl max n ∈ ns
  | [], n => .inl rfl
  | m :: ns, n => by
    rw [List.foldl_cons]
    rcases foldl_max_mem ns (max n m) with h | h
    · rw [h]
      rcases Int.le_total n m with h' | h'
      · exact .inr (by rw [Int.max_eq_right h']; exact List.mem_cons_self)
      · exact .inl (Int.max_eq_left h')
    · exact .inr (List.mem_cons_of_mem _ h)
/-- two lists, each of whose numbers is at most one of the other: one greatest -/
theorem max_eq {a b : Int} {as bs : List Int} (h : ∀ x ∈ a :: as, ∃ y ∈ b :: bs, x ≤ y) (h' : ∀ x ∈ b :: bs, ∃ y ∈ a :: as, x ≤ y) : as.foldl max a = bs.foldl max b := by
  have ge : ∀ {a : Int} {as : List Int}, ∀ x ∈ a :: as, x ≤ as.foldl max a := fun {a as} x hx => by
    rcases List.mem_cons.mp hx with rfl | hx
    · exact (foldl_max_ge as x).1
    · exact (foldl_max_ge as a).2 x hx
  have mem : ∀ {a : Int} {as : List Int}, as.foldl max a ∈ a :: as := fun {a as} => by
    rcases foldl_max_mem as a with h | h
    · rw [h]; exact List.mem_cons_self
    · exact List.mem_cons_of_mem _ h
  obtain ⟨y, hy, h1⟩ := h _ mem
  obtain ⟨z, hz, h2⟩ := h' _ mem
  have := ge y hy
  have := ge z hz
  omega
theorem rep_one {n : Nat} {x : D} : (List.replicate n [x]).flatten = List.replicate n x := by
  induction n with
  | zero => rfl
  | succ n ih => rw [List.replicate_succ, List.flatten_cons, ih]; rfl
theorem iL_rep {n : Nat} {i : Int} : iL (List.replicate n i) = List.replicate n (.int i) := List.map_replicate
/-- (0,) * n -/
theorem mul_tup {k : Int} {x : D} (h : 0 ≤ k) (h2 : k ≤ 1000) : binD .Mult (.tuple [x]) (.int k) = some (.im (.tuple (List.replicate k.toNat x))) := by
  simp [binD, h, h2, rep_one]
theorem rangeI_len {lo : Int} {n : Nat} : (rangeI lo n).length = n := by
  induction n generalizing lo with
  | zero => rfl
  | succ n ih => simp [rangeI, ih]
theorem imOnly_nil {e : Sl} : imOnly e [] = true := rfl
theorem iL_of : ∀ {rs : List D}, (∀ r ∈ rs, ∃ i : Int, r = .int i) → ∃ ns : List Int, rs = iL ns
  | [], _ => ⟨[], rfl⟩
  | r :: rs, h => by
    obtain ⟨i, rfl⟩ := h r List.mem_cons_self
    obtain ⟨ns, rfl⟩ := iL_of fun r hr => h r (List.mem_cons_of_mem _ hr)
    exact ⟨i :: ns, rfl⟩
end Ev
end
section
set_option maxHeartbeats 4000000
/-! EvH: the laws' hand, a draw. -/
namespace Ev
open PySem
structure Hand where
  cells : List Int
  pos : Int
  big : Int
  seed : Int
  cnt : Int
def Hand.ds (h : Hand) : List D := [.list (iL h.cells), .int h.pos, .int h.big, .int h.seed, .int h.cnt]
def Hand.ok (h : Hand) : Prop := 0 ≤ h.pos ∧ 0 ≤ h.big
def draw0 (B C : Int) : MS := (ifS (andE [(op2 (cmpF .Eq) (op2 subD (varE 0) (immE (.int 2))) (immE (.int 0))), (op2 (cmpF .Lt) (op2 subD (varE 0) (immE (.int 1))) (bltE (bltD .len) [(op2 subD (varE 0) (immE (.int 0)))]))]) (seqS [(asgS (nameG [0] 3) (op2 subD (op2 subD (varE 0) (immE (.int 0))) (op2 subD (varE 0) (immE (.int 1))))), (setiS 0 setF (immE (.int 1)) (op2 (binD .Add) (op2 subD (varE 0) (immE (.int 1))) (immE (.int 1)))), (setiS 0 setF (immE (.int 3)) (op2 (binD .Mod) (bltE (bltD .int) [(op2 (binD .Add) (op2 (binD .Add) (op2 (binD .Mult) (op2 subD (varE 0) (immE (.int 3))) (immE (.int 69621))) (op2 (binD .Mult) (varE 3) (immE (.int B)))) (immE (.int C)))]) (immE (.int 2147483629)))), (ifS (op2 (cmpF .GtE) (varE 3) (op2 (binD .Pow) (immE (.int 10)) (immE (.int 18)))) (seqS [(setiS 0 setF (immE (.int 2)) (varE 3))]) (seqS []))]) (seqS []))
def draw1 : MS := (ifS (op2 (cmpF .Gt) (op2 subD (varE 0) (immE (.int 2))) (immE (.int 0))) (seqS [(asgS (nameG [0] 4) (op2 (binD .Mod) (bltE (bltD .int) [(op2 subD (varE 0) (immE (.int 2)))]) (varE 1))), (setiS 0 setF (immE (.int 2)) (op2 (binD .FloorDiv) (op2 subD (varE 0) (immE (.int 2))) (varE 1))), (retS (varE 4))]) (seqS []))
def draw2 : MS := (setiS 0 setF (immE (.int 4)) (op2 (binD .Add) (op2 subD (varE 0) (immE (.int 4))) (immE (.int 1))))
def draw3 (F : Int) : MS := (asgS (nameG [0] 2) (op2 (binD .Mod) (bltE (bltD .int) [(op2 (binD .Mult) (bltE (bltD .int) [(op2 (binD .Add) (op2 subD (varE 0) (immE (.int 3))) (op2 (binD .Mult) (immE (.int 7919)) (op2 subD (varE 0) (immE (.int 4)))))]) (immE (.int F)))]) (immE (.int 2147483647))))
def draw4 : MS := (asgS (nameG [0] 2) (op2 (binD .Mod) (bltE (bltD .int) [(op2 (binD .Mult) (varE 2) (op2 (binD .Add) (op2 (binD .FloorDiv) (varE 2) (immE (.int 1009))) (immE (.int 69621))))]) (immE (.int 2147483647))))
def draw5 : MS := (asgS (nameG [0] 2) (op2 (binD .Mod) (bltE (bltD .int) [(op2 (binD .Mult) (varE 2) (op2 (binD .Add) (op2 (binD .FloorDiv) (varE 2) (immE (.int 2003))) (immE (.int 40014))))]) (immE (.int 2147483563))))
def draw6 : MS := (retS (op2 (binD .Mod) (bltE (bltD .int) [(op2 (binD .FloorDiv) (varE 2) (immE (.int 16)))]) (varE 1)))
theorem small_mod {a m : Int} (hm : 0 < m) (h : m < 2 ^ 64) : small64 (a.fmod m) = true := by
  have h1 := Int.fmod_nonneg_of_pos a hm
  have h2 := Int.fmod_lt_of_pos a hm
  simp only [small64, Bool.and_eq_true, decide_eq_true_eq]
  omega
theorem ixD_0 {n : Nat} (h : 0 < n) : ixD n 0 = some 0 := by simp [ixD]; omega
theorem ixD_at {n : Nat} {i : Int} (h0 : 0 ≤ i) (h : i < n) : ixD n i = some i.toNat := by simp [ixD, h0, h]
def dw (a b c d f : D) (m : Int) (x y z : Option Sv) : Sl := [some (.ol [a, b, c, d, f]), some (.im (.int m)), x, y, z]
section
variable {a b c d f v : D} {m : Int} {x y z : Option Sv}
theorem dw_m : varE 1 (dw a b c d f m x y z) = .ok (.im (.int m)) (dw a b c d f m x y z) := rfl
theorem dw_0 : op2 subD (varE 0) (immE (.int 0)) (dw a b c d f m x y z) = .ok (.im a) (dw a b c d f m x y z) := rfl
theorem dw_1 : op2 subD (varE 0) (immE (.int 1)) (dw a b c d f m x y z) = .ok (.im b) (dw a b c d f m x y z) := rfl
theorem dw_2 : op2 subD (varE 0) (immE (.int 2)) (dw a b c d f m x y z) = .ok (.im c) (dw a b c d f m x y z) := rfl
theorem dw_3 : op2 subD (varE 0) (immE (.int 3)) (dw a b c d f m x y z) = .ok (.im d) (dw a b c d f m x y z) := rfl
theorem dw_4 : op2 subD (varE 0) (immE (.int 4)) (dw a b c d f m x y z) = .ok (.im f) (dw a b c d f m x y z) := rfl
theorem dw_n {n : D} : varE 2 (dw a b c d f m (some (.im n)) y z) = .ok (.im n) (dw a b c d f m (some (.im n)) y z) := rfl
theorem dw_c {n : D} : varE 3 (dw a b c d f m x (some (.im n)) z) = .ok (.im n) (dw a b c d f m x (some (.im n)) z) := rfl
theorem dw_d {n : D} : varE 4 (dw a b c d f m x y (some (.im n))) = .ok (.im n) (dw a b c d f m x y (some (.im n))) := rfl
theorem op2_ok {g : D → D → Option Op} {p q : ME} {e e1 e2 : Sl} {u w : D} (h1 : p e = .ok (.im u) e1) (h2 : q e1 = .ok (.im w) e2) : op2 g p q e = lift (g u w) e2 := by
  unfold op2
  rw [h1]
  simp only [Res.bind, h2, vw]
theorem op2_to {g : D → D → Option Op} {p q : ME} {e e1 e2 : Sl} {u w : D} {o : Op} (h1 : p e = .ok (.im u) e1) (h2 : q e1 = .ok (.im w) e2) (h3 : g u w = some o) : op2 g p q e = .ok o e2 := by
  rw [op2_ok h1 h2, h3] <;> rfl
theorem blt1_ok {g : List D → Option Op} {p : ME} {e e1 : Sl} {u : D} (h1 : p e = .ok (.im u) e1) : bltE g [p] e = lift (g [u]) e1 := by
  unfold bltE
  simp only [argsO, Res.bind, h1, vws, vw]
end
theorem blt1_to {g : List D → Option Op} {p : ME} {e e1 : Sl} {u : D} {o : Op} (h1 : p e = .ok (.im u) e1) (h3 : g [u] = some o) : bltE g [p] e = .ok o e1 := by
  rw [blt1_ok h1, h3] <;> rfl
theorem imm_ok {d : D} {e : Sl} : immE d e = .ok (.im d) e := rfl
theorem draw_tail {F : Int} (hF : small64 F = true) {a b d f : D} {m s n : Int} {x y z : Option Sv} (hm : 0 < m) (hm2 : m < 1073741824) :
    ∃ i t, (seqS [draw2, draw3 F, draw4, draw5, draw6]) (dw a b (.int 0) (.int s) (.int n) m x y z) = .rt (.im (.int i)) (dw a b (.int 0) (.int s) (.int (n + 1)) m t y z) ∧ 0 ≤ i ∧ i < m := by
  let n1 : Int := ((s + 7919 * (n + 1)) * F).fmod 2147483647
  let n2 : Int := (n1 * (n1.fdiv 1009 + 69621)).fmod 2147483647
  let n3 : Int := (n2 * (n2.fdiv 2003 + 40014)).fmod 2147483563
  have s1 : small64 n1 = true := small_mod (by decide) (by decide)
  have s2 : small64 n2 = true := small_mod (by decide) (by decide)
  refine ⟨(n3.fdiv 16).fmod m, some (.im (.int n3)), ?_, Int.fmod_nonneg_of_pos _ hm, Int.fmod_lt_of_pos _ hm⟩
  have e2 : draw2 (dw a b (.int 0) (.int s) (.int n) m x y z) = .nx (dw a b (.int 0) (.int s) (.int (n + 1)) m x y z) := rfl
  have e3 : draw3 F (dw a b (.int 0) (.int s) (.int (n + 1)) m x y z) = .nx (dw a b (.int 0) (.int s) (.int (n + 1)) m (some (.im (.int n1))) y z) := by
    have h1 : op2 (binD .Mult) (immE (.int 7919)) (op2 subD (varE 0) (immE (.int 4))) (dw a b (.int 0) (.int s) (.int (n + 1)) m x y z) = .ok (.im (.int (7919 * (n + 1)))) (dw a b (.int 0) (.int s) (.int (n + 1)) m x y z) := by
      rw [op2_ok imm_ok dw_4]
      simp [binD, small64, imI, lift]
    have h2 : op2 (binD .Mult) (bltE (bltD .int) [(op2 (binD .Add) (op2 subD (varE 0) (immE (.int 3))) (op2 (binD .Mult) (immE (.int 7919)) (op2 subD (varE 0) (immE (.int 4)))))]) (immE (.int F)) (dw a b (.int 0) (.int s) (.int (n + 1)) m x y z) = .ok (.im (.int ((s + 7919 * (n + 1)) * F))) (dw a b (.int 0) (.int s) (.int (n + 1)) m x y z) := by
      rw [op2_ok (blt1_to (op2_to dw_3 h1 rfl) rfl) imm_ok]
      simp [binD, hF, imI, lift]
    unfold draw3 asgS
    rw [op2_ok (blt1_to h2 rfl) imm_ok]
    rfl
  have e4 : draw4 (dw a b (.int 0) (.int s) (.int (n + 1)) m (some (.im (.int n1))) y z) = .nx (dw a b (.int 0) (.int s) (.int (n + 1)) m (some (.im (.int n2))) y z) := by
    have h1 : op2 (binD .FloorDiv) (varE 2) (immE (.int 1009)) (dw a b (.int 0) (.int s) (.int (n + 1)) m (some (.im (.int n1))) y z) = .ok (.im (.int (n1.fdiv 1009))) (dw a b (.int 0) (.int s) (.int (n + 1)) m (some (.im (.int n1))) y z) := rfl
    have h2 : op2 (binD .Mult) (varE 2) (op2 (binD .Add) (op2 (binD .FloorDiv) (varE 2) (immE (.int 1009))) (immE (.int 69621))) (dw a b (.int 0) (.int s) (.int (n + 1)) m (some (.im (.int n1))) y z) = .ok (.im (.int (n1 * (n1.fdiv 1009 + 69621)))) (dw a b (.int 0) (.int s) (.int (n + 1)) m (some (.im (.int n1))) y z) := by
      rw [op2_ok dw_n (op2_to h1 imm_ok rfl)]
      simp only [binD, s1, Bool.true_or, if_true, imI, lift]
    unfold draw4 asgS
    rw [op2_ok (blt1_to h2 rfl) imm_ok]
    rfl
  have e5 : draw5 (dw a b (.int 0) (.int s) (.int (n + 1)) m (some (.im (.int n2))) y z) = .nx (dw a b (.int 0) (.int s) (.int (n + 1)) m (some (.im (.int n3))) y z) := by
    have h1 : op2 (binD .FloorDiv) (varE 2) (immE (.int 2003)) (dw a b (.int 0) (.int s) (.int (n + 1)) m (some (.im (.int n2))) y z) = .ok (.im (.int (n2.fdiv 2003))) (dw a b (.int 0) (.int s) (.int (n + 1)) m (some (.im (.int n2))) y z) := rfl
    have h2 : op2 (binD .Mult) (varE 2) (op2 (binD .Add) (op2 (binD .FloorDiv) (varE 2) (immE (.int 2003))) (immE (.int 40014))) (dw a b (.int 0) (.int s) (.int (n + 1)) m (some (.im (.int n2))) y z) = .ok (.im (.int (n2 * (n2.fdiv 2003 + 40014)))) (dw a b (.int 0) (.int s) (.int (n + 1)) m (some (.im (.int n2))) y z) := by
      rw [op2_ok dw_n (op2_to h1 imm_ok rfl)]
      simp only [binD, s2, Bool.true_or, if_true, imI, lift]
    unfold draw5 asgS
    rw [op2_ok (blt1_to h2 rfl) imm_ok]
    rfl
  have e6 : draw6 (dw a b (.int 0) (.int s) (.int (n + 1)) m (some (.im (.int n3))) y z) = .rt (.im (.int ((n3.fdiv 16).fmod m))) (dw a b (.int 0) (.int s) (.int (n + 1)) m (some (.im (.int n3))) y z) := by
    have h1 : op2 (binD .FloorDiv) (varE 2) (immE (.int 16)) (dw a b (.int 0) (.int s) (.int (n + 1)) m (some (.im (.int n3))) y z) = .ok (.im (.int (n3.fdiv 16))) (dw a b (.int 0) (.int s) (.int (n + 1)) m (some (.im (.int n3))) y z) := rfl
    unfold draw6 retS
    rw [op2_ok (blt1_to h1 rfl) dw_m]
    have : m ≠ 0 := by omega
    simp [bltD, binD, imI, lift, this, Res.st]
  simp only [seqS, SR.bind, e2, e3, e4, e5, e6]
theorem draw1_big {a b d f : D} {m g : Int} {x y z : Option Sv} (hm : 0 < m) (hm2 : m < 1073741824) (hg : 0 < g) :
    draw1 (dw a b (.int g) d f m x y z) = .rt (.im (.int (g.fmod m))) (dw a b (.int (g.fdiv m)) d f m x y (some (.im (.int (g.fmod m))))) := by
  have m0 : m ≠ 0 := by omega
  have mn : m.natAbs < 1073741824 := by omega
  have ht : op2 (cmpF .Gt) (op2 subD (varE 0) (immE (.int 2))) (immE (.int 0)) (dw a b (.int g) d f m x y z) = .ok (.im (.bool true)) (dw a b (.int g) d f m x y z) := by
    rw [op2_ok dw_2 imm_ok]
    simp only [cmpF, cmpD, ltD_int, Option.bind, imB, lift, decide_eq_true hg]
  have h1 : op2 (binD .Mod) (bltE (bltD .int) [(op2 subD (varE 0) (immE (.int 2)))]) (varE 1) (dw a b (.int g) d f m x y z) = .ok (.im (.int (g.fmod m))) (dw a b (.int g) d f m x y z) := by
    rw [op2_ok (blt1_to dw_2 rfl) dw_m]
    simp [binD, imI, lift, m0]
  have a1 : asgS (nameG [0] 4) (op2 (binD .Mod) (bltE (bltD .int) [(op2 subD (varE 0) (immE (.int 2)))]) (varE 1)) (dw a b (.int g) d f m x y z) = .nx (dw a b (.int g) d f m x y (some (.im (.int (g.fmod m))))) := by
    unfold asgS
    rw [h1]
    rfl
  have h2 : op2 (binD .FloorDiv) (op2 subD (varE 0) (immE (.int 2))) (varE 1) (dw a b (.int g) d f m x y (some (.im (.int (g.fmod m))))) = .ok (.im (.int (g.fdiv m))) (dw a b (.int g) d f m x y (some (.im (.int (g.fmod m))))) := by
    rw [op2_ok dw_2 dw_m]
    simp [binD, imI, lift, m0, mn]
  have a2 : setiS 0 setF (immE (.int 2)) (op2 (binD .FloorDiv) (op2 subD (varE 0) (immE (.int 2))) (varE 1)) (dw a b (.int g) d f m x y (some (.im (.int (g.fmod m))))) = .nx (dw a b (.int (g.fdiv m)) d f m x y (some (.im (.int (g.fmod m))))) := by
    unfold setiS
    rw [h2]
    rfl
  unfold draw1 ifS
  rw [ht]
  simp only [Res.st, tru, seqS, SR.bind, a1, a2]
  rfl
theorem draw1_none {a b d f : D} {m : Int} {x y z : Option Sv} : draw1 (dw a b (.int 0) d f m x y z) = .nx (dw a b (.int 0) d f m x y z) := by
  have ht : op2 (cmpF .Gt) (op2 subD (varE 0) (immE (.int 2))) (immE (.int 0)) (dw a b (.int 0) d f m x y z) = .ok (.im (.bool false)) (dw a b (.int 0) d f m x y z) := by
    rw [op2_ok dw_2 imm_ok]
    simp [cmpF, cmpD, ltD_int, imB, lift]
  unfold draw1 ifS
  rw [ht]
  rfl
theorem draw0_ok {B C : Int} (hB : small64 B = true) {h : Hand} {m : Int} {x y z : Option Sv} (ok : h.ok) : ∃ (h' : Hand) (t : Option Sv), draw0 B C [some (.ol h.ds), some (.im (.int m)), x, y, z] = .nx [some (.ol h'.ds), some (.im (.int m)), x, t, z] ∧ h'.ok ∧ h'.cells = h.cells := by
  obtain ⟨cells, pos, big, seed, cnt⟩ := h
  obtain ⟨p0, b0⟩ := ok
  have p0 : 0 ≤ pos := p0
  have b0 : 0 ≤ big := b0
  show ∃ (h' : Hand) (t : Option Sv), draw0 B C (dw (.list (iL cells)) (.int pos) (.int big) (.int seed) (.int cnt) m x y z) = _ ∧ _
  have t1 : op2 (cmpF .Eq) (op2 subD (varE 0) (immE (.int 2))) (immE (.int 0)) (dw (.list (iL cells)) (.int pos) (.int big) (.int seed) (.int cnt) m x y z) = .ok (.im (.bool (decide (big = 0)))) (dw (.list (iL cells)) (.int pos) (.int big) (.int seed) (.int cnt) m x y z) := by
    rw [op2_ok dw_2 imm_ok]
    simp only [cmpF, cmpD, eqD_int, Option.bind, imB, lift]
  have t2 : op2 (cmpF .Lt) (op2 subD (varE 0) (immE (.int 1))) (bltE (bltD .len) [(op2 subD (varE 0) (immE (.int 0)))]) (dw (.list (iL cells)) (.int pos) (.int big) (.int seed) (.int cnt) m x y z) = .ok (.im (.bool (decide (pos < cells.length)))) (dw (.list (iL cells)) (.int pos) (.int big) (.int seed) (.int cnt) m x y z) := by
    have h1 : bltE (bltD .len) [(op2 subD (varE 0) (immE (.int 0)))] (dw (.list (iL cells)) (.int pos) (.int big) (.int seed) (.int cnt) m x y z) = .ok (.im (.int cells.length)) (dw (.list (iL cells)) (.int pos) (.int big) (.int seed) (.int cnt) m x y z) := by
      rw [blt1_ok dw_0]
      simp only [bltD, imI, lift, iL_len]
    rw [op2_ok dw_1 h1]
    simp only [cmpF, cmpD, ltD_int, Option.bind, imB, lift]
  by_cases hb : big = 0
  · by_cases hp : pos < cells.length
    · subst hb
      have hi : pos.toNat < cells.length := by omega
      let cell := cells[pos.toNat]
      have hc : cells[pos.toNat]? = some cell := List.getElem?_eq_getElem hi
      have g3 : op2 subD (op2 subD (varE 0) (immE (.int 0))) (op2 subD (varE 0) (immE (.int 1))) (dw (.list (iL cells)) (.int pos) (.int 0) (.int seed) (.int cnt) m x y z) = .ok (.im (.int cell)) (dw (.list (iL cells)) (.int pos) (.int 0) (.int seed) (.int cnt) m x y z) := by
        rw [op2_ok dw_0 dw_1]
        simp only [subD, ixD_at p0 (show pos < ((iL cells).length : Int) by rw [iL_len]; exact hp), iL_get, hc, Option.map, lift]
      have a1 : asgS (nameG [0] 3) (op2 subD (op2 subD (varE 0) (immE (.int 0))) (op2 subD (varE 0) (immE (.int 1)))) (dw (.list (iL cells)) (.int pos) (.int 0) (.int seed) (.int cnt) m x y z) = .nx (dw (.list (iL cells)) (.int pos) (.int 0) (.int seed) (.int cnt) m x (some (.im (.int cell))) z) := by
        unfold asgS
        rw [g3]
        rfl
      have a2 : setiS 0 setF (immE (.int 1)) (op2 (binD .Add) (op2 subD (varE 0) (immE (.int 1))) (immE (.int 1))) (dw (.list (iL cells)) (.int pos) (.int 0) (.int seed) (.int cnt) m x (some (.im (.int cell))) z) = .nx (dw (.list (iL cells)) (.int (pos + 1)) (.int 0) (.int seed) (.int cnt) m x (some (.im (.int cell))) z) := rfl
      let s2 : Int := (seed * 69621 + cell * B + C).fmod 2147483629
      have g4 : op2 (binD .Mod) (bltE (bltD .int) [(op2 (binD .Add) (op2 (binD .Add) (op2 (binD .Mult) (op2 subD (varE 0) (immE (.int 3))) (immE (.int 69621))) (op2 (binD .Mult) (varE 3) (immE (.int B)))) (immE (.int C)))]) (immE (.int 2147483629)) (dw (.list (iL cells)) (.int (pos + 1)) (.int 0) (.int seed) (.int cnt) m x (some (.im (.int cell))) z) = .ok (.im (.int s2)) (dw (.list (iL cells)) (.int (pos + 1)) (.int 0) (.int seed) (.int cnt) m x (some (.im (.int cell))) z) := by
        have m1 : op2 (binD .Mult) (op2 subD (varE 0) (immE (.int 3))) (immE (.int 69621)) (dw (.list (iL cells)) (.int (pos + 1)) (.int 0) (.int seed) (.int cnt) m x (some (.im (.int cell))) z) = .ok (.im (.int (seed * 69621))) (dw (.list (iL cells)) (.int (pos + 1)) (.int 0) (.int seed) (.int cnt) m x (some (.im (.int cell))) z) := by
          rw [op2_ok dw_3 imm_ok]
          simp [binD, small64, imI, lift]
        have m2 : op2 (binD .Mult) (varE 3) (immE (.int B)) (dw (.list (iL cells)) (.int (pos + 1)) (.int 0) (.int seed) (.int cnt) m x (some (.im (.int cell))) z) = .ok (.im (.int (cell * B))) (dw (.list (iL cells)) (.int (pos + 1)) (.int 0) (.int seed) (.int cnt) m x (some (.im (.int cell))) z) := by
          rw [op2_ok dw_c imm_ok]
          simp [binD, hB, imI, lift]
        rw [op2_ok (blt1_to (op2_to (op2_to m1 m2 rfl) imm_ok rfl) rfl) imm_ok]
        rfl
      have a3 : setiS 0 setF (immE (.int 3)) (op2 (binD .Mod) (bltE (bltD .int) [(op2 (binD .Add) (op2 (binD .Add) (op2 (binD .Mult) (op2 subD (varE 0) (immE (.int 3))) (immE (.int 69621))) (op2 (binD .Mult) (varE 3) (immE (.int B)))) (immE (.int C)))]) (immE (.int 2147483629))) (dw (.list (iL cells)) (.int (pos + 1)) (.int 0) (.int seed) (.int cnt) m x (some (.im (.int cell))) z) = .nx (dw (.list (iL cells)) (.int (pos + 1)) (.int 0) (.int s2) (.int cnt) m x (some (.im (.int cell))) z) := by
        unfold setiS
        rw [g4]
        rfl
      have g5 : op2 (cmpF .GtE) (varE 3) (op2 (binD .Pow) (immE (.int 10)) (immE (.int 18))) (dw (.list (iL cells)) (.int (pos + 1)) (.int 0) (.int s2) (.int cnt) m x (some (.im (.int cell))) z) = .ok (.im (.bool (decide (10 ^ 18 ≤ cell)))) (dw (.list (iL cells)) (.int (pos + 1)) (.int 0) (.int s2) (.int cnt) m x (some (.im (.int cell))) z) := by
        have p1 : op2 (binD .Pow) (immE (.int 10)) (immE (.int 18)) (dw (.list (iL cells)) (.int (pos + 1)) (.int 0) (.int s2) (.int cnt) m x (some (.im (.int cell))) z) = .ok (.im (.int (10 ^ 18))) (dw (.list (iL cells)) (.int (pos + 1)) (.int 0) (.int s2) (.int cnt) m x (some (.im (.int cell))) z) := by
          rw [op2_ok imm_ok imm_ok]
          simp [binD, imI, lift]
        rw [op2_ok dw_c p1]
        simp only [cmpF, cmpD, leD_int, Option.bind, imB, lift]
      have front : draw0 B C (dw (.list (iL cells)) (.int pos) (.int 0) (.int seed) (.int cnt) m x y z) = ifS (op2 (cmpF .GtE) (varE 3) (op2 (binD .Pow) (immE (.int 10)) (immE (.int 18)))) (seqS [(setiS 0 setF (immE (.int 2)) (varE 3))]) (seqS []) (dw (.list (iL cells)) (.int (pos + 1)) (.int 0) (.int s2) (.int cnt) m x (some (.im (.int cell))) z) := by
        have tt : andE [(op2 (cmpF .Eq) (op2 subD (varE 0) (immE (.int 2))) (immE (.int 0))), (op2 (cmpF .Lt) (op2 subD (varE 0) (immE (.int 1))) (bltE (bltD .len) [(op2 subD (varE 0) (immE (.int 0)))]))] (dw (.list (iL cells)) (.int pos) (.int 0) (.int seed) (.int cnt) m x y z) = .ok (.im (.bool true)) (dw (.list (iL cells)) (.int pos) (.int 0) (.int seed) (.int cnt) m x y z) := by
          simp only [andE, t1, t2, Res.bind, tru, decide_true, decide_eq_true hp]
        unfold draw0
        rw [ifS_true tt, seqS_nx a1, seqS_nx a2, seqS_nx a3, seqS_one]
      by_cases hbig : (10 : Int) ^ 18 ≤ cell
      · refine ⟨⟨cells, pos + 1, cell, s2, cnt⟩, some (.im (.int cell)), ?_, ⟨by show 0 ≤ pos + 1; omega, by show 0 ≤ cell; omega⟩, rfl⟩
        rw [front]
        unfold ifS
        rw [g5, decide_eq_true hbig]
        rfl
      · refine ⟨⟨cells, pos + 1, 0, s2, cnt⟩, some (.im (.int cell)), ?_, ⟨by show 0 ≤ pos + 1; omega, by show (0 : Int) ≤ 0; omega⟩, rfl⟩
        rw [front]
        unfold ifS
        rw [g5, decide_eq_false hbig]
        rfl
    · refine ⟨⟨cells, pos, big, seed, cnt⟩, y, ?_, ⟨p0, b0⟩, rfl⟩
      unfold draw0 ifS
      simp only [andE, t1, t2, Res.bind, tru, decide_eq_true hb, decide_eq_false hp, Res.st]
      rfl
  · refine ⟨⟨cells, pos, big, seed, cnt⟩, y, ?_, ⟨p0, b0⟩, rfl⟩
    unfold draw0 ifS
    simp only [andE, t1, Res.bind, tru, decide_eq_false hb, Res.st]
    rfl
/-- a draw: a number below m -/
theorem draw_ok {B C F : Int} (hB : small64 B = true) (hF : small64 F = true) {h : Hand} {m : Int} (ok : h.ok) (hm : 0 < m) (hm2 : m < 1073741824) :
    ∃ (h' : Hand) (i : Int), endF [true, false] (seqS [draw0 B C, draw1, draw2, draw3 F, draw4, draw5, draw6] [some (.ol h.ds), some (.im (.int m)), none, none, none]) = .ok (.im (.int i)) [some (.ol h'.ds), none] ∧ 0 ≤ i ∧ i < m ∧ h'.ok := by
  obtain ⟨h1, t, e0, ok1, _⟩ := draw0_ok (C := C) hB (m := m) (x := none) (y := none) (z := none) ok
  obtain ⟨cells, pos, big, seed, cnt⟩ := h1
  obtain ⟨p1, b1⟩ := ok1
  have b1 : 0 ≤ big := b1
  have e0' : draw0 B C [some (.ol h.ds), some (.im (.int m)), none, none, none] = .nx (dw (.list (iL cells)) (.int pos) (.int big) (.int seed) (.int cnt) m none t none) := e0
  by_cases hb : big = 0
  · subst hb
    obtain ⟨i, u, e2, i0, i1⟩ := draw_tail hF (a := .list (iL cells)) (b := .int pos) (d := .none) (f := .none) (s := seed) (n := cnt) (x := none) (y := t) (z := none) hm hm2
    refine ⟨⟨cells, pos, 0, seed, cnt + 1⟩, i, ?_, i0, i1, p1, b1⟩
    have e1 : (draw1 (dw (.list (iL cells)) (.int pos) (.int 0) (.int seed) (.int cnt) m none t none)).bind (seqS [draw2, draw3 F, draw4, draw5, draw6]) = .rt (.im (.int i)) (dw (.list (iL cells)) (.int pos) (.int 0) (.int seed) (.int (cnt + 1)) m u t none) := by
      rw [draw1_none]
      exact e2
    have e3 : seqS [draw0 B C, draw1, draw2, draw3 F, draw4, draw5, draw6] [some (.ol h.ds), some (.im (.int m)), none, none, none] = .rt (.im (.int i)) (dw (.list (iL cells)) (.int pos) (.int 0) (.int seed) (.int (cnt + 1)) m u t none) := by
      show (draw0 B C _).bind (fun e => (draw1 e).bind (seqS [draw2, draw3 F, draw4, draw5, draw6])) = _
      rw [e0']
      exact e1
    rw [e3]
    rfl
  · have hg : 0 < big := by omega
    refine ⟨⟨cells, pos, big.fdiv m, seed, cnt⟩, big.fmod m, ?_, Int.fmod_nonneg_of_pos _ hm, Int.fmod_lt_of_pos _ hm, p1, Int.fdiv_nonneg b1 (by omega)⟩
    have e3 : seqS [draw0 B C, draw1, draw2, draw3 F, draw4, draw5, draw6] [some (.ol h.ds), some (.im (.int m)), none, none, none] = .rt (.im (.int (big.fmod m))) (dw (.list (iL cells)) (.int pos) (.int (big.fdiv m)) (.int seed) (.int cnt) m none t (some (.im (.int (big.fmod m))))) := by
      show (draw0 B C _).bind (fun e => (draw1 e).bind (seqS [draw2, draw3 F, draw4, draw5, draw6])) = _
      rw [e0']
      show (draw1 _).bind _ = _
      rw [draw1_big hm hm2 hg]
      rfl
    rw [e3]
    rfl
end Ev
end
section
set_option maxHeartbeats 4000000
/-! EvH2: a draw of other laws' hands. -/
namespace Ev
open PySem
def drew0 : MS := (ifS (andE [(op2 (cmpF .Eq) (op2 subD (varE 0) (immE (.int 2))) (immE (.int 0))), (op2 (cmpF .Lt) (op2 subD (varE 0) (immE (.int 1))) (bltE (bltD .len) [(op2 subD (varE 0) (immE (.int 0)))]))]) (seqS [(asgS (nameG [0] 3) (op2 subD (op2 subD (varE 0) (immE (.int 0))) (op2 subD (varE 0) (immE (.int 1))))), (setiS 0 setF (immE (.int 1)) (op2 (binD .Add) (op2 subD (varE 0) (immE (.int 1))) (immE (.int 1)))), (setiS 0 setF (immE (.int 3)) (op2 (binD .Mod) (bltE (bltD .int) [(op2 (binD .Add) (op2 (binD .Add) (op2 (binD .Mult) (op2 subD (varE 0) (immE (.int 3))) (immE (.int 48271))) (varE 3)) (immE (.int 31)))]) (immE (.int 2147483647)))), (ifS (op2 (cmpF .GtE) (varE 3) (op2 (binD .Pow) (immE (.int 10)) (immE (.int 18)))) (seqS [(setiS 0 setF (immE (.int 2)) (varE 3))]) (seqS []))]) (seqS []))
def drew1 : MS := (ifS (op2 (cmpF .Gt) (op2 subD (varE 0) (immE (.int 2))) (immE (.int 0))) (seqS [(asgS (nameG [0] 4) (op2 (binD .Mod) (bltE (bltD .int) [(op2 subD (varE 0) (immE (.int 2)))]) (varE 1))), (setiS 0 setF (immE (.int 2)) (op2 (binD .FloorDiv) (op2 subD (varE 0) (immE (.int 2))) (varE 1))), (retS (varE 4))]) (seqS []))
def drew2 : MS := (setiS 0 setF (immE (.int 4)) (op2 (binD .Add) (op2 subD (varE 0) (immE (.int 4))) (immE (.int 1))))
def drew3 : MS := (asgS (nameG [0] 2) (op2 (binD .Mod) (bltE (bltD .int) [(op2 (binD .Mult) (bltE (bltD .int) [(op2 (binD .Add) (op2 subD (varE 0) (immE (.int 3))) (op2 (binD .Mult) (immE (.int 6151)) (op2 subD (varE 0) (immE (.int 4)))))]) (immE (.int 40692)))]) (immE (.int 2147483399))))
def drew4 : MS := (asgS (nameG [0] 2) (op2 (binD .Mod) (bltE (bltD .int) [(op2 (binD .Mult) (varE 2) (op2 (binD .Add) (op2 (binD .FloorDiv) (varE 2) (immE (.int 1223))) (immE (.int 52027))))]) (immE (.int 2147483629))))
def drew5 : MS := (asgS (nameG [0] 2) (op2 (binD .Mod) (bltE (bltD .int) [(op2 (binD .Mult) (varE 2) (op2 (binD .Add) (op2 (binD .FloorDiv) (varE 2) (immE (.int 2671))) (immE (.int 69621))))]) (immE (.int 2147483647))))
def drew6 : MS := (retS (op2 (binD .Mod) (bltE (bltD .int) [(op2 (binD .FloorDiv) (varE 2) (immE (.int 32)))]) (varE 1)))
theorem drew_tail {a b d f : D} {m s n : Int} {x y z : Option Sv} (hm : 0 < m) (hm2 : m < 1073741824) :
    ∃ i t, (seqS [drew2, drew3, drew4, drew5, drew6]) (dw a b (.int 0) (.int s) (.int n) m x y z) = .rt (.im (.int i)) (dw a b (.int 0) (.int s) (.int (n + 1)) m t y z) ∧ 0 ≤ i ∧ i < m := by
  let n1 : Int := ((s + 6151 * (n + 1)) * 40692).fmod 2147483399
  let n2 : Int := (n1 * (n1.fdiv 1223 + 52027)).fmod 2147483629
  let n3 : Int := (n2 * (n2.fdiv 2671 + 69621)).fmod 2147483647
  have s1 : small64 n1 = true := small_mod (by decide) (by decide)
  have s2 : small64 n2 = true := small_mod (by decide) (by decide)
  refine ⟨(n3.fdiv 32).fmod m, some (.im (.int n3)), ?_, Int.fmod_nonneg_of_pos _ hm, Int.fmod_lt_of_pos _ hm⟩
  have e2 : drew2 (dw a b (.int 0) (.int s) (.int n) m x y z) = .nx (dw a b (.int 0) (.int s) (.int (n + 1)) m x y z) := rfl
  have e3 : drew3 (dw a b (.int 0) (.int s) (.int (n + 1)) m x y z) = .nx (dw a b (.int 0) (.int s) (.int (n + 1)) m (some (.im (.int n1))) y z) := by
    have h1 : op2 (binD .Mult) (immE (.int 6151)) (op2 subD (varE 0) (immE (.int 4))) (dw a b (.int 0) (.int s) (.int (n + 1)) m x y z) = .ok (.im (.int (6151 * (n + 1)))) (dw a b (.int 0) (.int s) (.int (n + 1)) m x y z) := by
      rw [op2_ok imm_ok dw_4]
      simp [binD, small64, imI, lift]
    have h2 : op2 (binD .Mult) (bltE (bltD .int) [(op2 (binD .Add) (op2 subD (varE 0) (immE (.int 3))) (op2 (binD .Mult) (immE (.int 6151)) (op2 subD (varE 0) (immE (.int 4)))))]) (immE (.int 40692)) (dw a b (.int 0) (.int s) (.int (n + 1)) m x y z) = .ok (.im (.int ((s + 6151 * (n + 1)) * 40692))) (dw a b (.int 0) (.int s) (.int (n + 1)) m x y z) := by
      rw [op2_ok (blt1_to (op2_to dw_3 h1 rfl) rfl) imm_ok]
      simp [binD, small64, imI, lift]
    unfold drew3 asgS
    rw [op2_ok (blt1_to h2 rfl) imm_ok]
    rfl
  have e4 : drew4 (dw a b (.int 0) (.int s) (.int (n + 1)) m (some (.im (.int n1))) y z) = .nx (dw a b (.int 0) (.int s) (.int (n + 1)) m (some (.im (.int n2))) y z) := by
    have h1 : op2 (binD .FloorDiv) (varE 2) (immE (.int 1223)) (dw a b (.int 0) (.int s) (.int (n + 1)) m (some (.im (.int n1))) y z) = .ok (.im (.int (n1.fdiv 1223))) (dw a b (.int 0) (.int s) (.int (n + 1)) m (some (.im (.int n1))) y z) := rfl
    have h2 : op2 (binD .Mult) (varE 2) (op2 (binD .Add) (op2 (binD .FloorDiv) (varE 2) (immE (.int 1223))) (immE (.int 52027))) (dw a b (.int 0) (.int s) (.int (n + 1)) m (some (.im (.int n1))) y z) = .ok (.im (.int (n1 * (n1.fdiv 1223 + 52027)))) (dw a b (.int 0) (.int s) (.int (n + 1)) m (some (.im (.int n1))) y z) := by
      rw [op2_ok dw_n (op2_to h1 imm_ok rfl)]
      simp only [binD, s1, Bool.true_or, if_true, imI, lift]
    unfold drew4 asgS
    rw [op2_ok (blt1_to h2 rfl) imm_ok]
    rfl
  have e5 : drew5 (dw a b (.int 0) (.int s) (.int (n + 1)) m (some (.im (.int n2))) y z) = .nx (dw a b (.int 0) (.int s) (.int (n + 1)) m (some (.im (.int n3))) y z) := by
    have h1 : op2 (binD .FloorDiv) (varE 2) (immE (.int 2671)) (dw a b (.int 0) (.int s) (.int (n + 1)) m (some (.im (.int n2))) y z) = .ok (.im (.int (n2.fdiv 2671))) (dw a b (.int 0) (.int s) (.int (n + 1)) m (some (.im (.int n2))) y z) := rfl
    have h2 : op2 (binD .Mult) (varE 2) (op2 (binD .Add) (op2 (binD .FloorDiv) (varE 2) (immE (.int 2671))) (immE (.int 69621))) (dw a b (.int 0) (.int s) (.int (n + 1)) m (some (.im (.int n2))) y z) = .ok (.im (.int (n2 * (n2.fdiv 2671 + 69621)))) (dw a b (.int 0) (.int s) (.int (n + 1)) m (some (.im (.int n2))) y z) := by
      rw [op2_ok dw_n (op2_to h1 imm_ok rfl)]
      simp only [binD, s2, Bool.true_or, if_true, imI, lift]
    unfold drew5 asgS
    rw [op2_ok (blt1_to h2 rfl) imm_ok]
    rfl
  have e6 : drew6 (dw a b (.int 0) (.int s) (.int (n + 1)) m (some (.im (.int n3))) y z) = .rt (.im (.int ((n3.fdiv 32).fmod m))) (dw a b (.int 0) (.int s) (.int (n + 1)) m (some (.im (.int n3))) y z) := by
    have h1 : op2 (binD .FloorDiv) (varE 2) (immE (.int 32)) (dw a b (.int 0) (.int s) (.int (n + 1)) m (some (.im (.int n3))) y z) = .ok (.im (.int (n3.fdiv 32))) (dw a b (.int 0) (.int s) (.int (n + 1)) m (some (.im (.int n3))) y z) := rfl
    unfold drew6 retS
    rw [op2_ok (blt1_to h1 rfl) dw_m]
    have : m ≠ 0 := by omega
    simp [bltD, binD, imI, lift, this, Res.st]
  simp only [seqS, SR.bind, e2, e3, e4, e5, e6]
theorem drew1_big {a b d f : D} {m g : Int} {x y z : Option Sv} (hm : 0 < m) (hm2 : m < 1073741824) (hg : 0 < g) :
    drew1 (dw a b (.int g) d f m x y z) = .rt (.im (.int (g.fmod m))) (dw a b (.int (g.fdiv m)) d f m x y (some (.im (.int (g.fmod m))))) := by
  have m0 : m ≠ 0 := by omega
  have mn : m.natAbs < 1073741824 := by omega
  have ht : op2 (cmpF .Gt) (op2 subD (varE 0) (immE (.int 2))) (immE (.int 0)) (dw a b (.int g) d f m x y z) = .ok (.im (.bool true)) (dw a b (.int g) d f m x y z) := by
    rw [op2_ok dw_2 imm_ok]
    simp only [cmpF, cmpD, ltD_int, Option.bind, imB, lift, decide_eq_true hg]
  have h1 : op2 (binD .Mod) (bltE (bltD .int) [(op2 subD (varE 0) (immE (.int 2)))]) (varE 1) (dw a b (.int g) d f m x y z) = .ok (.im (.int (g.fmod m))) (dw a b (.int g) d f m x y z) := by
    rw [op2_ok (blt1_to dw_2 rfl) dw_m]
    simp [binD, imI, lift, m0]
  have a1 : asgS (nameG [0] 4) (op2 (binD .Mod) (bltE (bltD .int) [(op2 subD (varE 0) (immE (.int 2)))]) (varE 1)) (dw a b (.int g) d f m x y z) = .nx (dw a b (.int g) d f m x y (some (.im (.int (g.fmod m))))) := by
    unfold asgS
    rw [h1]
    rfl
  have h2 : op2 (binD .FloorDiv) (op2 subD (varE 0) (immE (.int 2))) (varE 1) (dw a b (.int g) d f m x y (some (.im (.int (g.fmod m))))) = .ok (.im (.int (g.fdiv m))) (dw a b (.int g) d f m x y (some (.im (.int (g.fmod m))))) := by
    rw [op2_ok dw_2 dw_m]
    simp [binD, imI, lift, m0, mn]
  have a2 : setiS 0 setF (immE (.int 2)) (op2 (binD .FloorDiv) (op2 subD (varE 0) (immE (.int 2))) (varE 1)) (dw a b (.int g) d f m x y (some (.im (.int (g.fmod m))))) = .nx (dw a b (.int (g.fdiv m)) d f m x y (some (.im (.int (g.fmod m))))) := by
    unfold setiS
    rw [h2]
    rfl
  unfold drew1 ifS
  rw [ht]
  simp only [Res.st, tru, seqS, SR.bind, a1, a2]
  rfl
theorem drew1_none {a b d f : D} {m : Int} {x y z : Option Sv} : drew1 (dw a b (.int 0) d f m x y z) = .nx (dw a b (.int 0) d f m x y z) := by
  have ht : op2 (cmpF .Gt) (op2 subD (varE 0) (immE (.int 2))) (immE (.int 0)) (dw a b (.int 0) d f m x y z) = .ok (.im (.bool false)) (dw a b (.int 0) d f m x y z) := by
    rw [op2_ok dw_2 imm_ok]
    simp [cmpF, cmpD, ltD_int, imB, lift]
  unfold drew1 ifS
  rw [ht]
  rfl
theorem drew0_ok {h : Hand} {m : Int} {x y z : Option Sv} (ok : h.ok) : ∃ (h' : Hand) (t : Option Sv), drew0 [some (.ol h.ds), some (.im (.int m)), x, y, z] = .nx [some (.ol h'.ds), some (.im (.int m)), x, t, z] ∧ h'.ok ∧ h'.cells = h.cells := by
  obtain ⟨cells, pos, big, seed, cnt⟩ := h
  obtain ⟨p0, b0⟩ := ok
  have p0 : 0 ≤ pos := p0
  have b0 : 0 ≤ big := b0
  show ∃ (h' : Hand) (t : Option Sv), drew0 (dw (.list (iL cells)) (.int pos) (.int big) (.int seed) (.int cnt) m x y z) = _ ∧ _
  have t1 : op2 (cmpF .Eq) (op2 subD (varE 0) (immE (.int 2))) (immE (.int 0)) (dw (.list (iL cells)) (.int pos) (.int big) (.int seed) (.int cnt) m x y z) = .ok (.im (.bool (decide (big = 0)))) (dw (.list (iL cells)) (.int pos) (.int big) (.int seed) (.int cnt) m x y z) := by
    rw [op2_ok dw_2 imm_ok]
    simp only [cmpF, cmpD, eqD_int, Option.bind, imB, lift]
  have t2 : op2 (cmpF .Lt) (op2 subD (varE 0) (immE (.int 1))) (bltE (bltD .len) [(op2 subD (varE 0) (immE (.int 0)))]) (dw (.list (iL cells)) (.int pos) (.int big) (.int seed) (.int cnt) m x y z) = .ok (.im (.bool (decide (pos < cells.length)))) (dw (.list (iL cells)) (.int pos) (.int big) (.int seed) (.int cnt) m x y z) := by
    have h1 : bltE (bltD .len) [(op2 subD (varE 0) (immE (.int 0)))] (dw (.list (iL cells)) (.int pos) (.int big) (.int seed) (.int cnt) m x y z) = .ok (.im (.int cells.length)) (dw (.list (iL cells)) (.int pos) (.int big) (.int seed) (.int cnt) m x y z) := by
      rw [blt1_ok dw_0]
      simp only [bltD, imI, lift, iL_len]
    rw [op2_ok dw_1 h1]
    simp only [cmpF, cmpD, ltD_int, Option.bind, imB, lift]
  by_cases hb : big = 0
  · by_cases hp : pos < cells.length
    · subst hb
      have hi : pos.toNat < cells.length := by omega
      let cell := cells[pos.toNat]
      have hc : cells[pos.toNat]? = some cell := List.getElem?_eq_getElem hi
      have g3 : op2 subD (op2 subD (varE 0) (immE (.int 0))) (op2 subD (varE 0) (immE (.int 1))) (dw (.list (iL cells)) (.int pos) (.int 0) (.int seed) (.int cnt) m x y z) = .ok (.im (.int cell)) (dw (.list (iL cells)) (.int pos) (.int 0) (.int seed) (.int cnt) m x y z) := by
        rw [op2_ok dw_0 dw_1]
        simp only [subD, ixD_at p0 (show pos < ((iL cells).length : Int) by rw [iL_len]; exact hp), iL_get, hc, Option.map, lift]
      have a1 : asgS (nameG [0] 3) (op2 subD (op2 subD (varE 0) (immE (.int 0))) (op2 subD (varE 0) (immE (.int 1)))) (dw (.list (iL cells)) (.int pos) (.int 0) (.int seed) (.int cnt) m x y z) = .nx (dw (.list (iL cells)) (.int pos) (.int 0) (.int seed) (.int cnt) m x (some (.im (.int cell))) z) := by
        unfold asgS
        rw [g3]
        rfl
      have a2 : setiS 0 setF (immE (.int 1)) (op2 (binD .Add) (op2 subD (varE 0) (immE (.int 1))) (immE (.int 1))) (dw (.list (iL cells)) (.int pos) (.int 0) (.int seed) (.int cnt) m x (some (.im (.int cell))) z) = .nx (dw (.list (iL cells)) (.int (pos + 1)) (.int 0) (.int seed) (.int cnt) m x (some (.im (.int cell))) z) := rfl
      let s2 : Int := (seed * 48271 + cell + 31).fmod 2147483647
      have g4 : op2 (binD .Mod) (bltE (bltD .int) [(op2 (binD .Add) (op2 (binD .Add) (op2 (binD .Mult) (op2 subD (varE 0) (immE (.int 3))) (immE (.int 48271))) (varE 3)) (immE (.int 31)))]) (immE (.int 2147483647)) (dw (.list (iL cells)) (.int (pos + 1)) (.int 0) (.int seed) (.int cnt) m x (some (.im (.int cell))) z) = .ok (.im (.int s2)) (dw (.list (iL cells)) (.int (pos + 1)) (.int 0) (.int seed) (.int cnt) m x (some (.im (.int cell))) z) := by
        have m1 : op2 (binD .Mult) (op2 subD (varE 0) (immE (.int 3))) (immE (.int 48271)) (dw (.list (iL cells)) (.int (pos + 1)) (.int 0) (.int seed) (.int cnt) m x (some (.im (.int cell))) z) = .ok (.im (.int (seed * 48271))) (dw (.list (iL cells)) (.int (pos + 1)) (.int 0) (.int seed) (.int cnt) m x (some (.im (.int cell))) z) := by
          rw [op2_ok dw_3 imm_ok]
          simp [binD, small64, imI, lift]
        rw [op2_ok (blt1_to (op2_to (op2_to m1 dw_c rfl) imm_ok rfl) rfl) imm_ok]
        rfl
      have a3 : setiS 0 setF (immE (.int 3)) (op2 (binD .Mod) (bltE (bltD .int) [(op2 (binD .Add) (op2 (binD .Add) (op2 (binD .Mult) (op2 subD (varE 0) (immE (.int 3))) (immE (.int 48271))) (varE 3)) (immE (.int 31)))]) (immE (.int 2147483647))) (dw (.list (iL cells)) (.int (pos + 1)) (.int 0) (.int seed) (.int cnt) m x (some (.im (.int cell))) z) = .nx (dw (.list (iL cells)) (.int (pos + 1)) (.int 0) (.int s2) (.int cnt) m x (some (.im (.int cell))) z) := by
        unfold setiS
        rw [g4]
        rfl
      have g5 : op2 (cmpF .GtE) (varE 3) (op2 (binD .Pow) (immE (.int 10)) (immE (.int 18))) (dw (.list (iL cells)) (.int (pos + 1)) (.int 0) (.int s2) (.int cnt) m x (some (.im (.int cell))) z) = .ok (.im (.bool (decide (10 ^ 18 ≤ cell)))) (dw (.list (iL cells)) (.int (pos + 1)) (.int 0) (.int s2) (.int cnt) m x (some (.im (.int cell))) z) := by
        have p1 : op2 (binD .Pow) (immE (.int 10)) (immE (.int 18)) (dw (.list (iL cells)) (.int (pos + 1)) (.int 0) (.int s2) (.int cnt) m x (some (.im (.int cell))) z) = .ok (.im (.int (10 ^ 18))) (dw (.list (iL cells)) (.int (pos + 1)) (.int 0) (.int s2) (.int cnt) m x (some (.im (.int cell))) z) := by
          rw [op2_ok imm_ok imm_ok]
          simp [binD, imI, lift]
        rw [op2_ok dw_c p1]
        simp only [cmpF, cmpD, leD_int, Option.bind, imB, lift]
      have front : drew0 (dw (.list (iL cells)) (.int pos) (.int 0) (.int seed) (.int cnt) m x y z) = ifS (op2 (cmpF .GtE) (varE 3) (op2 (binD .Pow) (immE (.int 10)) (immE (.int 18)))) (seqS [(setiS 0 setF (immE (.int 2)) (varE 3))]) (seqS []) (dw (.list (iL cells)) (.int (pos + 1)) (.int 0) (.int s2) (.int cnt) m x (some (.im (.int cell))) z) := by
        have tt : andE [(op2 (cmpF .Eq) (op2 subD (varE 0) (immE (.int 2))) (immE (.int 0))), (op2 (cmpF .Lt) (op2 subD (varE 0) (immE (.int 1))) (bltE (bltD .len) [(op2 subD (varE 0) (immE (.int 0)))]))] (dw (.list (iL cells)) (.int pos) (.int 0) (.int seed) (.int cnt) m x y z) = .ok (.im (.bool true)) (dw (.list (iL cells)) (.int pos) (.int 0) (.int seed) (.int cnt) m x y z) := by
          simp only [andE, t1, t2, Res.bind, tru, decide_true, decide_eq_true hp]
        unfold drew0
        rw [ifS_true tt, seqS_nx a1, seqS_nx a2, seqS_nx a3, seqS_one]
      by_cases hbig : (10 : Int) ^ 18 ≤ cell
      · refine ⟨⟨cells, pos + 1, cell, s2, cnt⟩, some (.im (.int cell)), ?_, ⟨by show 0 ≤ pos + 1; omega, by show 0 ≤ cell; omega⟩, rfl⟩
        rw [front]
        unfold ifS
        rw [g5, decide_eq_true hbig]
        rfl
      · refine ⟨⟨cells, pos + 1, 0, s2, cnt⟩, some (.im (.int cell)), ?_, ⟨by show 0 ≤ pos + 1; omega, by show (0 : Int) ≤ 0; omega⟩, rfl⟩
        rw [front]
        unfold ifS
        rw [g5, decide_eq_false hbig]
        rfl
    · refine ⟨⟨cells, pos, big, seed, cnt⟩, y, ?_, ⟨p0, b0⟩, rfl⟩
      unfold drew0 ifS
      simp only [andE, t1, t2, Res.bind, tru, decide_eq_true hb, decide_eq_false hp, Res.st]
      rfl
  · refine ⟨⟨cells, pos, big, seed, cnt⟩, y, ?_, ⟨p0, b0⟩, rfl⟩
    unfold drew0 ifS
    simp only [andE, t1, Res.bind, tru, decide_eq_false hb, Res.st]
    rfl
/-- a drew: a number below m -/
theorem drew_ok {h : Hand} {m : Int} (ok : h.ok) (hm : 0 < m) (hm2 : m < 1073741824) :
    ∃ (h' : Hand) (i : Int), endF [true, false] (seqS [drew0, drew1, drew2, drew3, drew4, drew5, drew6] [some (.ol h.ds), some (.im (.int m)), none, none, none]) = .ok (.im (.int i)) [some (.ol h'.ds), none] ∧ 0 ≤ i ∧ i < m ∧ h'.ok := by
  obtain ⟨h1, t, e0, ok1, _⟩ := drew0_ok (m := m) (x := none) (y := none) (z := none) ok
  obtain ⟨cells, pos, big, seed, cnt⟩ := h1
  obtain ⟨p1, b1⟩ := ok1
  have b1 : 0 ≤ big := b1
  have e0' : drew0 [some (.ol h.ds), some (.im (.int m)), none, none, none] = .nx (dw (.list (iL cells)) (.int pos) (.int big) (.int seed) (.int cnt) m none t none) := e0
  by_cases hb : big = 0
  · subst hb
    obtain ⟨i, u, e2, i0, i1⟩ := drew_tail (a := .list (iL cells)) (b := .int pos) (d := .none) (f := .none) (s := seed) (n := cnt) (x := none) (y := t) (z := none) hm hm2
    refine ⟨⟨cells, pos, 0, seed, cnt + 1⟩, i, ?_, i0, i1, p1, b1⟩
    have e1 : (drew1 (dw (.list (iL cells)) (.int pos) (.int 0) (.int seed) (.int cnt) m none t none)).bind (seqS [drew2, drew3, drew4, drew5, drew6]) = .rt (.im (.int i)) (dw (.list (iL cells)) (.int pos) (.int 0) (.int seed) (.int (cnt + 1)) m u t none) := by
      rw [drew1_none]
      exact e2
    have e3 : seqS [drew0, drew1, drew2, drew3, drew4, drew5, drew6] [some (.ol h.ds), some (.im (.int m)), none, none, none] = .rt (.im (.int i)) (dw (.list (iL cells)) (.int pos) (.int 0) (.int seed) (.int (cnt + 1)) m u t none) := by
      show (drew0 _).bind (fun e => (drew1 e).bind (seqS [drew2, drew3, drew4, drew5, drew6])) = _
      rw [e0']
      exact e1
    rw [e3]
    rfl
  · have hg : 0 < big := by omega
    refine ⟨⟨cells, pos, big.fdiv m, seed, cnt⟩, big.fmod m, ?_, Int.fmod_nonneg_of_pos _ hm, Int.fmod_lt_of_pos _ hm, p1, Int.fdiv_nonneg b1 (by omega)⟩
    have e3 : seqS [drew0, drew1, drew2, drew3, drew4, drew5, drew6] [some (.ol h.ds), some (.im (.int m)), none, none, none] = .rt (.im (.int (big.fmod m))) (dw (.list (iL cells)) (.int pos) (.int (big.fdiv m)) (.int seed) (.int cnt) m none t (some (.im (.int (big.fmod m))))) := by
      show (drew0 _).bind (fun e => (drew1 e).bind (seqS [drew2, drew3, drew4, drew5, drew6])) = _
      rw [e0']
      show (drew1 _).bind _ = _
      rw [drew1_big hm hm2 hg]
      rfl
    rw [e3]
    rfl
end Ev
end
section
set_option maxHeartbeats 0
namespace Lw
open PySem PySem.Spec PyProof.Rows L2 Ev
def top (i : Nat) : Stmt := PySem.Challenge.pw_washhouse_k97_whole_starch.main.body.getD i (.Pass ⟨0, 0, 0, 0⟩)
abbrev s_is_integer : Stmt := top 1
abbrev d_is_integer : Df := ⟨["thing"], defScope s_is_integer, [false], false, defBody s_is_integer⟩
abbrev s_is_within : Stmt := top 2
abbrev d_is_within : Df := ⟨["thing", "low", "high"], defScope s_is_within, [false, false, false], false, defBody s_is_within⟩
abbrev s_is_sized : Stmt := top 3
abbrev d_is_sized : Df := ⟨["thing", "low", "high"], defScope s_is_sized, [false, false, false], false, defBody s_is_sized⟩
abbrev s_common : Stmt := top 10
abbrev d_common : Df := ⟨["one", "other"], defScope s_common, [false, false], false, defBody s_common⟩
abbrev s_share : Stmt := top 11
abbrev d_share : Df := ⟨["top", "bottom", "divisor"], defScope s_share, [false, false], false, defBody s_share⟩
abbrev s_is_share : Stmt := top 12
abbrev d_is_share : Df := ⟨["thing", "one"], defScope s_is_share, [false], false, defBody s_is_share⟩
abbrev s_minus : Stmt := top 13
abbrev d_minus : Df := ⟨["one", "other"], defScope s_minus, [false, false], false, defBody s_minus⟩
abbrev s_is_less : Stmt := top 14
abbrev d_is_less : Df := ⟨["one", "other"], defScope s_is_less, [false, false], false, defBody s_is_less⟩
abbrev s_is_vat : Stmt := top 21
abbrev d_is_vat : Df := ⟨["thing"], defScope s_is_vat, [false], false, defBody s_is_vat⟩
abbrev s_check_vat : Stmt := top 22
abbrev d_check_vat : Df := ⟨["thing"], defScope s_check_vat, [false], false, defBody s_check_vat⟩
abbrev s_strength_of : Stmt := top 23
abbrev d_strength_of : Df := ⟨["vat"], defScope s_strength_of, [false], false, defBody s_strength_of⟩
abbrev s_check_starch : Stmt := top 24
abbrev d_check_starch : Df := ⟨["vat", "bounds", "room", "bound"], defScope s_check_starch, [false, false, false], false, defBody s_check_starch⟩
abbrev s_is_between : Stmt := top 25
abbrev d_is_between : Df := ⟨["strength", "bounds"], defScope s_is_between, [false, false], false, defBody s_is_between⟩
abbrev s_far_off : Stmt := top 26
abbrev d_far_off : Df := ⟨["strength", "bounds"], defScope s_far_off, [false, false], false, defBody s_far_off⟩
abbrev s_all_adds : Stmt := top 27
abbrev d_all_adds : Df := ⟨["vat", "room", "found", "scoops", "pails"], defScope s_all_adds, [false, false], false, defBody s_all_adds⟩
abbrev s_raw_told : Stmt := top 28
abbrev d_raw_told : Df := ⟨["vat", "bounds", "room", "best", "both", "scoops", "pails", "strength", "off"], defScope s_raw_told, [false, false, false], false, defBody s_raw_told⟩
abbrev s_starched_told : Stmt := top 29
abbrev d_starched_told : Df := ⟨["vat", "bounds", "room"], defScope s_starched_told, [false, false, false], false, defBody s_starched_told⟩
abbrev s_is_starched_told : Stmt := top 30
abbrev d_is_starched_told : Df := ⟨["vat", "bounds", "room", "thing", "due"], defScope s_is_starched_told, [false, false, false, false], false, defBody s_is_starched_told⟩
abbrev s__law_hand : Stmt := top 32
abbrev d__law_hand : Df := ⟨["script", "cells", "cell"], defScope s__law_hand, [false], false, defBody s__law_hand⟩
abbrev s__law_draw : Stmt := top 33
abbrev d__law_draw : Df := ⟨["hand", "many", "number", "cell", "figure"], defScope s__law_draw, [true, false], false, defBody s__law_draw⟩
abbrev s__law_some : Stmt := top 34
abbrev d__law_some : Df := ⟨["hand", "things"], defScope s__law_some, [true, false], false, defBody s__law_some⟩
abbrev s__law_is_number : Stmt := top 35
abbrev d__law_is_number : Df := ⟨["thing"], defScope s__law_is_number, [false], false, defBody s__law_is_number⟩
abbrev s__law_low : Stmt := top 36
abbrev d__law_low : Df := ⟨["top", "bottom", "other", "one"], defScope s__law_low, [false, false], false, defBody s__law_low⟩
abbrev s__law_plus : Stmt := top 37
abbrev d__law_plus : Df := ⟨["one", "other"], defScope s__law_plus, [false, false], false, defBody s__law_plus⟩
abbrev s__law_minus : Stmt := top 38
abbrev d__law_minus : Df := ⟨["one", "other"], defScope s__law_minus, [false, false], false, defBody s__law_minus⟩
abbrev s__law_less : Stmt := top 39
abbrev d__law_less : Df := ⟨["one", "other"], defScope s__law_less, [false, false], false, defBody s__law_less⟩
abbrev s__law_deep : Stmt := top 40
abbrev d__law_deep : Df := ⟨["hand", "found", "turn"], defScope s__law_deep, [true], false, defBody s__law_deep⟩
abbrev s__law_odd : Stmt := top 41
abbrev d__law_odd : Df := ⟨["hand"], defScope s__law_odd, [true], false, defBody s__law_odd⟩
abbrev s__law_is : Stmt := top 42
abbrev d__law_is : Df := ⟨["told", "due", "key", "one", "two"], defScope s__law_is, [false, false], false, defBody s__law_is⟩
abbrev s__law_is_vat : Stmt := top 43
abbrev d__law_is_vat : Df := ⟨["thing", "one"], defScope s__law_is_vat, [false], false, defBody s__law_is_vat⟩
abbrev s__law_far : Stmt := top 44
abbrev d__law_far : Df := ⟨["low", "high", "strength"], defScope s__law_far, [false, false, false], false, defBody s__law_far⟩
abbrev s__law_due : Stmt := top 45
abbrev d__law_due : Df := ⟨["vat", "bounds", "room", "scoops", "good", "near", "pails", "far"], defScope s__law_due, [false, false, false], false, defBody s__law_due⟩
abbrev s__law_does : Stmt := top 46
abbrev d__law_does : Df := ⟨["vat", "bounds", "room", "thing", "scoops", "pails", "one"], defScope s__law_does, [false, false, false, false], false, defBody s__law_does⟩
abbrev s_law : Stmt := top 47
abbrev d_law : Df := ⟨["script", "hand", "turn", "vat", "room", "some", "high", "bounds", "due", "told", "things", "thing", "low", "is_right", "bound"], defScope s_law, [false], false, defBody s_law⟩
def P : Prg where
  defs := [(("is_integer" : Str), d_is_integer), (("is_within" : Str), d_is_within), (("is_sized" : Str), d_is_sized), (("common" : Str), d_common), (("share" : Str), d_share), (("is_share" : Str), d_is_share), (("minus" : Str), d_minus), (("is_less" : Str), d_is_less), (("is_vat" : Str), d_is_vat), (("check_vat" : Str), d_check_vat), (("strength_of" : Str), d_strength_of), (("check_starch" : Str), d_check_starch), (("is_between" : Str), d_is_between), (("far_off" : Str), d_far_off), (("all_adds" : Str), d_all_adds), (("raw_told" : Str), d_raw_told), (("starched_told" : Str), d_starched_told), (("is_starched_told" : Str), d_is_starched_told), (("_law_hand" : Str), d__law_hand), (("_law_draw" : Str), d__law_draw), (("_law_some" : Str), d__law_some), (("_law_is_number" : Str), d__law_is_number), (("_law_low" : Str), d__law_low), (("_law_plus" : Str), d__law_plus), (("_law_minus" : Str), d__law_minus), (("_law_less" : Str), d__law_less), (("_law_deep" : Str), d__law_deep), (("_law_odd" : Str), d__law_odd), (("_law_is" : Str), d__law_is), (("_law_is_vat" : Str), d__law_is_vat), (("_law_far" : Str), d__law_far), (("_law_due" : Str), d__law_due), (("_law_does" : Str), d__law_does), (("law" : Str), d_law)]
  lams := []
  tabs := []
  cst := [(("MOST_SCOOPS" : Str), .int 50), (("MOST_PAILS" : Str), .int 20), (("MOST_ROOM" : Str), .int 30), (("NONE" : Str), .str "none"), (("ADD" : Str), .str "add")]
  exs := ["NoVat", "NoBounds", "NoRoom"]
  sub := [(("NoVat" : Str), []), (("NoBounds" : Str), []), (("NoRoom" : Str), [])]
  W := 1000
end Lw
namespace Lw
open PySem Ev
def subP : Str → Str → Option Bool := fun x y => (P.sub.lookup x).bind fun r => r.lookup y
abbrev bad1 : Df → Sl → CRes := fun _ _ => .bad
abbrev bad2 : Df → LRes → CRes := fun _ _ => .bad
def b_is_integer_0 (k : Nat) : MS := (retS (andE [(isiE .int (varE 0)), (notE (isiE .bool (varE 0)))]))
theorem r_is_integer (k : Nat) (ps : Sl) : P.run (k + 3) d_is_integer ps = endF [false] (seqS [b_is_integer_0 k] (ps ++ List.replicate 0 none)) := by kernel_rfl
def b_is_within_0 (k : Nat) : MS := (retS (andE [(callE [false] (P.run (k + 2) d_is_integer) [(varE 0)]), (chainE (cmpD .LtE) (cmpD .LtE) (varE 1) (varE 0) (varE 2))]))
theorem r_is_within (k : Nat) (ps : Sl) : P.run (k + 3) d_is_within ps = endF [false, false, false] (seqS [b_is_within_0 k] (ps ++ List.replicate 0 none)) := by kernel_rfl
def b_is_sized_0 (k : Nat) : MS := (retS (andE [(isiE .tuple (varE 0)), (chainE (cmpD .LtE) (cmpD .LtE) (varE 1) (bltE (bltD .len) [(varE 0)]) (varE 2))]))
theorem r_is_sized (k : Nat) (ps : Sl) : P.run (k + 3) d_is_sized ps = endF [false, false, false] (seqS [b_is_sized_0 k] (ps ++ List.replicate 0 none)) := by kernel_rfl
def b_common_0 (k : Nat) : MS := (whL (op2 (cmpF .NotEq) (varE 1) (immE (.int 0))) (seqS [(parS [nameG [] 0, nameG [] 1] [(varE 1), (op2 (binD .Mod) (varE 0) (varE 1))])]) 1000)
def b_common_1 (k : Nat) : MS := (retS (bltE (bltD .abs) [(varE 0)]))
theorem r_common (k : Nat) (ps : Sl) : P.run (k + 3) d_common ps = endF [false, false] (seqS [b_common_0 k, b_common_1 k] (ps ++ List.replicate 0 none)) := by kernel_rfl
def b_share_0 (k : Nat) : MS := (asgS (nameG [] 2) (callE [false, false] (P.run (k + 2) d_common) [(varE 0), (varE 1)]))
def b_share_1 (k : Nat) : MS := (asgS (nameG [] 2) (ifE (op2 (cmpF .Gt) (varE 1) (immE (.int 0))) (varE 2) (op2 (binD .Sub) (immE (.int 0)) (varE 2))))
def b_share_2 (k : Nat) : MS := (retS (tupE [(op2 (binD .FloorDiv) (varE 0) (varE 2)), (op2 (binD .FloorDiv) (varE 1) (varE 2))]))
theorem r_share (k : Nat) (ps : Sl) : P.run (k + 3) d_share ps = endF [false, false] (seqS [b_share_0 k, b_share_1 k, b_share_2 k] (ps ++ List.replicate 1 none)) := by kernel_rfl
def ce_is_share_0 (k : Nat) : ME := (callE [false] (P.run (k + 2) d_is_integer) [(varE 1)])
def c_is_share_0 (k : Nat) : ME := compE [1] (itE [] seqF [(varE 0)]) (nameT [] 1) (condE []) (ce_is_share_0 k)
def b_is_share_0 (k : Nat) : MS := (ifS (orE [(notE (callE [false, false, false] (P.run (k + 2) d_is_sized) [(varE 0), (immE (.int 2)), (immE (.int 2))])), (notE (bltE (bltD .all) [(c_is_share_0 k)]))]) (seqS [(retS (immE (.bool false)))]) (seqS []))
def b_is_share_1 (k : Nat) : MS := (retS (andE [(op2 (cmpF .Gt) (op2 subD (varE 0) (immE (.int 1))) (immE (.int 0))), (op2 (cmpF .Eq) (callE [false, false] (P.run (k + 2) d_common) [(op2 subD (varE 0) (immE (.int 0))), (op2 subD (varE 0) (immE (.int 1)))]) (immE (.int 1)))]))
theorem r_is_share (k : Nat) (ps : Sl) : P.run (k + 3) d_is_share ps = endF [false] (seqS [b_is_share_0 k, b_is_share_1 k] (ps ++ List.replicate 1 none)) := by kernel_rfl
def b_minus_0 (k : Nat) : MS := (retS (callE [false, false] (P.run (k + 2) d_share) [(op2 (binD .Sub) (op2 (binD .Mult) (op2 subD (varE 0) (immE (.int 0))) (op2 subD (varE 1) (immE (.int 1)))) (op2 (binD .Mult) (op2 subD (varE 1) (immE (.int 0))) (op2 subD (varE 0) (immE (.int 1))))), (op2 (binD .Mult) (op2 subD (varE 0) (immE (.int 1))) (op2 subD (varE 1) (immE (.int 1))))]))
theorem r_minus (k : Nat) (ps : Sl) : P.run (k + 3) d_minus ps = endF [false, false] (seqS [b_minus_0 k] (ps ++ List.replicate 0 none)) := by kernel_rfl
def b_is_less_0 (k : Nat) : MS := (retS (op2 (cmpF .Lt) (op2 (binD .Mult) (op2 subD (varE 0) (immE (.int 0))) (op2 subD (varE 1) (immE (.int 1)))) (op2 (binD .Mult) (op2 subD (varE 1) (immE (.int 0))) (op2 subD (varE 0) (immE (.int 1))))))
theorem r_is_less (k : Nat) (ps : Sl) : P.run (k + 3) d_is_less ps = endF [false, false] (seqS [b_is_less_0 k] (ps ++ List.replicate 0 none)) := by kernel_rfl
def b_is_vat_0 (k : Nat) : MS := (retS (andE [(callE [false, false, false] (P.run (k + 2) d_is_sized) [(varE 0), (immE (.int 2)), (immE (.int 2))]), (callE [false, false, false] (P.run (k + 2) d_is_within) [(op2 subD (varE 0) (immE (.int 0))), (immE (.int 0)), (immE (.int 50))]), (callE [false, false, false] (P.run (k + 2) d_is_within) [(op2 subD (varE 0) (immE (.int 1))), (immE (.int 1)), (immE (.int 20))])]))
theorem r_is_vat (k : Nat) (ps : Sl) : P.run (k + 3) d_is_vat ps = endF [false] (seqS [b_is_vat_0 k] (ps ++ List.replicate 0 none)) := by kernel_rfl
def b_check_vat_0 (k : Nat) : MS := (ifS (notE (callE [false] (P.run (k + 2) d_is_vat) [(varE 0)])) (seqS [(raiseS "NoVat")]) (seqS []))
theorem r_check_vat (k : Nat) (ps : Sl) : P.run (k + 3) d_check_vat ps = endF [false] (seqS [b_check_vat_0 k] (ps ++ List.replicate 0 none)) := by kernel_rfl
def b_strength_of_0 (k : Nat) : MS := (exprS (callE [false] (P.run (k + 2) d_check_vat) [(varE 0)]))
def b_strength_of_1 (k : Nat) : MS := (retS (callE [false, false] (P.run (k + 2) d_share) [(op2 subD (varE 0) (immE (.int 0))), (op2 subD (varE 0) (immE (.int 1)))]))
theorem r_strength_of (k : Nat) (ps : Sl) : P.run (k + 3) d_strength_of ps = endF [false] (seqS [b_strength_of_0 k, b_strength_of_1 k] (ps ++ List.replicate 0 none)) := by kernel_rfl
def ce_check_starch_0 (k : Nat) : ME := (andE [(callE [false] (P.run (k + 2) d_is_share) [(varE 3)]), (op2 (cmpF .GtE) (op2 subD (varE 3) (immE (.int 0))) (immE (.int 0)))])
def c_check_starch_0 (k : Nat) : ME := compE [3] (itE [] seqF [(varE 1)]) (nameT [] 3) (condE []) (ce_check_starch_0 k)
def b_check_starch_0 (k : Nat) : MS := (exprS (callE [false] (P.run (k + 2) d_check_vat) [(varE 0)]))
def b_check_starch_1 (k : Nat) : MS := (ifS (orE [(notE (callE [false, false, false] (P.run (k + 2) d_is_sized) [(varE 1), (immE (.int 2)), (immE (.int 2))])), (notE (bltE (bltD .all) [(c_check_starch_0 k)]))]) (seqS [(raiseS "NoBounds")]) (seqS []))
def b_check_starch_2 (k : Nat) : MS := (ifS (callE [false, false] (P.run (k + 2) d_is_less) [(op2 subD (varE 1) (immE (.int 1))), (op2 subD (varE 1) (immE (.int 0)))]) (seqS [(raiseS "NoBounds")]) (seqS []))
def b_check_starch_3 (k : Nat) : MS := (ifS (notE (callE [false, false, false] (P.run (k + 2) d_is_within) [(varE 2), (op2 subD (varE 0) (immE (.int 1))), (immE (.int 30))])) (seqS [(raiseS "NoRoom")]) (seqS []))
theorem r_check_starch (k : Nat) (ps : Sl) : P.run (k + 3) d_check_starch ps = endF [false, false, false] (seqS [b_check_starch_0 k, b_check_starch_1 k, b_check_starch_2 k, b_check_starch_3 k] (ps ++ List.replicate 1 none)) := by kernel_rfl
def b_is_between_0 (k : Nat) : MS := (retS (andE [(notE (callE [false, false] (P.run (k + 2) d_is_less) [(varE 0), (op2 subD (varE 1) (immE (.int 0)))])), (notE (callE [false, false] (P.run (k + 2) d_is_less) [(op2 subD (varE 1) (immE (.int 1))), (varE 0)]))]))
theorem r_is_between (k : Nat) (ps : Sl) : P.run (k + 3) d_is_between ps = endF [false, false] (seqS [b_is_between_0 k] (ps ++ List.replicate 0 none)) := by kernel_rfl
def b_far_off_0 (k : Nat) : MS := (ifS (callE [false, false] (P.run (k + 2) d_is_less) [(varE 0), (op2 subD (varE 1) (immE (.int 0)))]) (seqS [(retS (callE [false, false] (P.run (k + 2) d_minus) [(op2 subD (varE 1) (immE (.int 0))), (varE 0)]))]) (seqS []))
def b_far_off_1 (k : Nat) : MS := (retS (callE [false, false] (P.run (k + 2) d_minus) [(varE 0), (op2 subD (varE 1) (immE (.int 1)))]))
theorem r_far_off (k : Nat) (ps : Sl) : P.run (k + 3) d_far_off ps = endF [false, false] (seqS [b_far_off_0 k, b_far_off_1 k] (ps ++ List.replicate 0 none)) := by kernel_rfl
def ce_all_adds_0 (k : Nat) : ME := (tupE [(op2 (binD .Add) (varE 3) (varE 4)), (varE 3), (varE 4)])
def c_all_adds_0 (k : Nat) : ME := compE [4] (itE [] rangeF1 [(op2 (binD .Add) (op2 (binD .Sub) (varE 1) (op2 subD (varE 0) (immE (.int 1)))) (immE (.int 1)))]) (nameT [] 4) (condE []) (ce_all_adds_0 k)
def w_all_adds_0_0 (k : Nat) : MS := (exprS (mutE 2 (mtF .extend) [(c_all_adds_0 k)]))
def lb_all_adds_0 (k : Nat) : MS := seqS [w_all_adds_0_0 k]
def l_all_adds_0 (k : Nat) : MS := forS (itE [] rangeF1 [(op2 (binD .Add) (op2 (binD .Sub) (immE (.int 50)) (op2 subD (varE 0) (immE (.int 0)))) (immE (.int 1)))]) (nameT [] 3) (lb_all_adds_0 k)
def b_all_adds_0 (k : Nat) : MS := (asgS (nameG [] 2) (lstE []))
def b_all_adds_1 (k : Nat) : MS := (l_all_adds_0 k)
def b_all_adds_2 (k : Nat) : MS := (retS (bltE (bltD .sorted) [(varE 2)]))
theorem r_all_adds (k : Nat) (ps : Sl) : P.run (k + 3) d_all_adds ps = endF [false, false] (seqS [b_all_adds_0 k, b_all_adds_1 k, b_all_adds_2 k] (ps ++ List.replicate 3 none)) := by kernel_rfl
def w_raw_told_0_0 (k : Nat) : MS := (asgS (nameG [] 7) (callE [false, false] (P.run (k + 2) d_share) [(op2 (binD .Add) (op2 subD (varE 0) (immE (.int 0))) (varE 5)), (op2 (binD .Add) (op2 subD (varE 0) (immE (.int 1))) (varE 6))]))
def w_raw_told_0_1 (k : Nat) : MS := (ifS (callE [false, false] (P.run (k + 2) d_is_between) [(varE 7), (varE 1)]) (seqS [(retS (tupE [(immE (.str "add")), (varE 5), (varE 6)]))]) (seqS []))
def w_raw_told_0_2 (k : Nat) : MS := (asgS (nameG [] 8) (callE [false, false] (P.run (k + 2) d_far_off) [(varE 7), (varE 1)]))
def w_raw_told_0_3 (k : Nat) : MS := (asgS (nameG [] 3) (ifE (orE [(op2 (cmpF .Is) (varE 3) (immE (.none))), (callE [false, false] (P.run (k + 2) d_is_less) [(varE 8), (varE 3)])]) (varE 8) (varE 3)))
def lb_raw_told_0 (k : Nat) : MS := seqS [w_raw_told_0_0 k, w_raw_told_0_1 k, w_raw_told_0_2 k, w_raw_told_0_3 k]
def l_raw_told_0 (k : Nat) : MS := forS (itE [] seqF [(callE [false, false] (P.run (k + 2) d_all_adds) [(varE 0), (varE 2)])]) (unpT [(nameT [] 4), (nameT [] 5), (nameT [] 6)]) (lb_raw_told_0 k)
def b_raw_told_0 (k : Nat) : MS := (asgS (nameG [] 3) (immE (.none)))
def b_raw_told_1 (k : Nat) : MS := (l_raw_told_0 k)
def b_raw_told_2 (k : Nat) : MS := (retS (tupE [(immE (.str "none")), (varE 3)]))
theorem r_raw_told (k : Nat) (ps : Sl) : P.run (k + 3) d_raw_told ps = endF [false, false, false] (seqS [b_raw_told_0 k, b_raw_told_1 k, b_raw_told_2 k] (ps ++ List.replicate 6 none)) := by kernel_rfl
def b_starched_told_0 (k : Nat) : MS := (exprS (callE [false, false, false] (P.run (k + 2) d_check_starch) [(varE 0), (varE 1), (varE 2)]))
def b_starched_told_1 (k : Nat) : MS := (retS (callE [false, false, false] (P.run (k + 2) d_raw_told) [(varE 0), (varE 1), (varE 2)]))
theorem r_starched_told (k : Nat) (ps : Sl) : P.run (k + 3) d_starched_told ps = endF [false, false, false] (seqS [b_starched_told_0 k, b_starched_told_1 k] (ps ++ List.replicate 0 none)) := by kernel_rfl
def b_is_starched_told_0 (k : Nat) : MS := (exprS (callE [false, false, false] (P.run (k + 2) d_check_starch) [(varE 0), (varE 1), (varE 2)]))
def b_is_starched_told_1 (k : Nat) : MS := (ifS (orE [(notE (isiE .tuple (varE 3))), (op2 (cmpF .NotIn) (bltE (bltD .len) [(varE 3)]) (tupE [(immE (.int 2)), (immE (.int 3))])), (notE (isiE .str (op2 subD (varE 3) (immE (.int 0)))))]) (seqS [(retS (immE (.bool false)))]) (seqS []))
def b_is_starched_told_2 (k : Nat) : MS := (ifS (op2 (cmpF .Eq) (bltE (bltD .len) [(varE 3)]) (immE (.int 3))) (seqS [(ifS (orE [(op2 (cmpF .NotEq) (op2 subD (varE 3) (immE (.int 0))) (immE (.str "add"))), (notE (callE [false, false, false] (P.run (k + 2) d_is_within) [(op2 subD (varE 3) (immE (.int 1))), (immE (.int 0)), (op2 (binD .Sub) (immE (.int 50)) (op2 subD (varE 0) (immE (.int 0))))]))]) (seqS [(retS (immE (.bool false)))]) (seqS [])), (ifS (notE (callE [false, false, false] (P.run (k + 2) d_is_within) [(op2 subD (varE 3) (immE (.int 2))), (immE (.int 0)), (op2 (binD .Sub) (varE 2) (op2 subD (varE 0) (immE (.int 1))))])) (seqS [(retS (immE (.bool false)))]) (seqS [])), (retS (callE [false, false] (P.run (k + 2) d_is_between) [(callE [false, false] (P.run (k + 2) d_share) [(op2 (binD .Add) (op2 subD (varE 0) (immE (.int 0))) (op2 subD (varE 3) (immE (.int 1)))), (op2 (binD .Add) (op2 subD (varE 0) (immE (.int 1))) (op2 subD (varE 3) (immE (.int 2))))]), (varE 1)]))]) (seqS []))
def b_is_starched_told_3 (k : Nat) : MS := (asgS (nameG [] 4) (callE [false, false, false] (P.run (k + 2) d_raw_told) [(varE 0), (varE 1), (varE 2)]))
def b_is_starched_told_4 (k : Nat) : MS := (retS (andE [(op2 (cmpF .Eq) (op2 subD (varE 3) (immE (.int 0))) (immE (.str "none"))), (op2 (cmpF .Eq) (op2 subD (varE 4) (immE (.int 0))) (immE (.str "none"))), (callE [false] (P.run (k + 2) d_is_share) [(op2 subD (varE 3) (immE (.int 1)))]), (op2 (cmpF .Eq) (op2 subD (varE 3) (immE (.int 1))) (op2 subD (varE 4) (immE (.int 1))))]))
theorem r_is_starched_told (k : Nat) (ps : Sl) : P.run (k + 3) d_is_starched_told ps = endF [false, false, false, false] (seqS [b_is_starched_told_0 k, b_is_starched_told_1 k, b_is_starched_told_2 k, b_is_starched_told_3 k, b_is_starched_told_4 k] (ps ++ List.replicate 1 none)) := by kernel_rfl
def ce__law_hand_0 (k : Nat) : ME := (bltE (bltD .abs) [(bltE (bltD .int) [(varE 2)])])
def c__law_hand_0 (k : Nat) : ME := compE [2] (itE [] seqF [(sliE (varE 0) none (some (immE (.int 63))))]) (nameT [] 2) (condE []) (ce__law_hand_0 k)
def b__law_hand_0 (k : Nat) : MS := (asgS (nameG [] 1) (c__law_hand_0 k))
def b__law_hand_1 (k : Nat) : MS := (retS (lstE [(varE 1), (immE (.int 0)), (immE (.int 0)), (op2 (binD .Add) (immE (.int 97)) (op2 (binD .Mult) (immE (.int 5)) (bltE (bltD .len) [(varE 1)]))), (immE (.int 0))]))
theorem r__law_hand (k : Nat) (ps : Sl) : P.run (k + 3) d__law_hand ps = endF [false] (seqS [b__law_hand_0 k, b__law_hand_1 k] (ps ++ List.replicate 2 none)) := by kernel_rfl
def b__law_draw_0 (k : Nat) : MS := (ifS (andE [(op2 (cmpF .Eq) (op2 subD (varE 0) (immE (.int 2))) (immE (.int 0))), (op2 (cmpF .Lt) (op2 subD (varE 0) (immE (.int 1))) (bltE (bltD .len) [(op2 subD (varE 0) (immE (.int 0)))]))]) (seqS [(asgS (nameG [0] 3) (op2 subD (op2 subD (varE 0) (immE (.int 0))) (op2 subD (varE 0) (immE (.int 1))))), (setiS 0 setF (immE (.int 1)) (op2 (binD .Add) (op2 subD (varE 0) (immE (.int 1))) (immE (.int 1)))), (setiS 0 setF (immE (.int 3)) (op2 (binD .Mod) (bltE (bltD .int) [(op2 (binD .Add) (op2 (binD .Add) (op2 (binD .Mult) (op2 subD (varE 0) (immE (.int 3))) (immE (.int 48271))) (varE 3)) (immE (.int 31)))]) (immE (.int 2147483647)))), (ifS (op2 (cmpF .GtE) (varE 3) (op2 (binD .Pow) (immE (.int 10)) (immE (.int 18)))) (seqS [(setiS 0 setF (immE (.int 2)) (varE 3))]) (seqS []))]) (seqS []))
def b__law_draw_1 (k : Nat) : MS := (ifS (op2 (cmpF .Gt) (op2 subD (varE 0) (immE (.int 2))) (immE (.int 0))) (seqS [(asgS (nameG [0] 4) (op2 (binD .Mod) (bltE (bltD .int) [(op2 subD (varE 0) (immE (.int 2)))]) (varE 1))), (setiS 0 setF (immE (.int 2)) (op2 (binD .FloorDiv) (op2 subD (varE 0) (immE (.int 2))) (varE 1))), (retS (varE 4))]) (seqS []))
def b__law_draw_2 (k : Nat) : MS := (setiS 0 setF (immE (.int 4)) (op2 (binD .Add) (op2 subD (varE 0) (immE (.int 4))) (immE (.int 1))))
def b__law_draw_3 (k : Nat) : MS := (asgS (nameG [0] 2) (op2 (binD .Mod) (bltE (bltD .int) [(op2 (binD .Mult) (bltE (bltD .int) [(op2 (binD .Add) (op2 subD (varE 0) (immE (.int 3))) (op2 (binD .Mult) (immE (.int 6151)) (op2 subD (varE 0) (immE (.int 4)))))]) (immE (.int 40692)))]) (immE (.int 2147483399))))
def b__law_draw_4 (k : Nat) : MS := (asgS (nameG [0] 2) (op2 (binD .Mod) (bltE (bltD .int) [(op2 (binD .Mult) (varE 2) (op2 (binD .Add) (op2 (binD .FloorDiv) (varE 2) (immE (.int 1223))) (immE (.int 52027))))]) (immE (.int 2147483629))))
def b__law_draw_5 (k : Nat) : MS := (asgS (nameG [0] 2) (op2 (binD .Mod) (bltE (bltD .int) [(op2 (binD .Mult) (varE 2) (op2 (binD .Add) (op2 (binD .FloorDiv) (varE 2) (immE (.int 2671))) (immE (.int 69621))))]) (immE (.int 2147483647))))
def b__law_draw_6 (k : Nat) : MS := (retS (op2 (binD .Mod) (bltE (bltD .int) [(op2 (binD .FloorDiv) (varE 2) (immE (.int 32)))]) (varE 1)))
theorem r__law_draw (k : Nat) (ps : Sl) : P.run (k + 3) d__law_draw ps = endF [true, false] (seqS [b__law_draw_0 k, b__law_draw_1 k, b__law_draw_2 k, b__law_draw_3 k, b__law_draw_4 k, b__law_draw_5 k, b__law_draw_6 k] (ps ++ List.replicate 3 none)) := by kernel_rfl
def b__law_some_0 (k : Nat) : MS := (retS (op2 subD (varE 1) (callE [true, false] (P.run (k + 2) d__law_draw) [(varE 0), (bltE (bltD .len) [(varE 1)])])))
theorem r__law_some (k : Nat) (ps : Sl) : P.run (k + 3) d__law_some ps = endF [true, false] (seqS [b__law_some_0 k] (ps ++ List.replicate 0 none)) := by kernel_rfl
def b__law_is_number_0 (k : Nat) : MS := (retS (andE [(isiE .int (varE 0)), (notE (isiE .bool (varE 0)))]))
theorem r__law_is_number (k : Nat) (ps : Sl) : P.run (k + 3) d__law_is_number ps = endF [false] (seqS [b__law_is_number_0 k] (ps ++ List.replicate 0 none)) := by kernel_rfl
def b__law_low_0 (k : Nat) : MS := (parS [nameG [] 3, nameG [] 2] [(bltE (bltD .abs) [(varE 0)]), (bltE (bltD .abs) [(varE 1)])])
def b__law_low_1 (k : Nat) : MS := (whL (op2 (cmpF .Gt) (varE 3) (immE (.int 0))) (seqS [(parS [nameG [] 3, nameG [] 2] [(op2 (binD .Mod) (bltE (bltD .int) [(varE 2)]) (varE 3)), (varE 3)])]) 1000)
def b__law_low_2 (k : Nat) : MS := (asgS (nameG [] 2) (ifE (op2 (cmpF .Gt) (varE 1) (immE (.int 0))) (varE 2) (op2 (binD .Sub) (immE (.int 0)) (varE 2))))
def b__law_low_3 (k : Nat) : MS := (retS (tupE [(op2 (binD .FloorDiv) (varE 0) (varE 2)), (op2 (binD .FloorDiv) (varE 1) (varE 2))]))
theorem r__law_low (k : Nat) (ps : Sl) : P.run (k + 3) d__law_low ps = endF [false, false] (seqS [b__law_low_0 k, b__law_low_1 k, b__law_low_2 k, b__law_low_3 k] (ps ++ List.replicate 2 none)) := by kernel_rfl
def b__law_plus_0 (k : Nat) : MS := (retS (callE [false, false] (P.run (k + 2) d__law_low) [(op2 (binD .Add) (op2 (binD .Mult) (op2 subD (varE 0) (immE (.int 0))) (op2 subD (varE 1) (immE (.int 1)))) (op2 (binD .Mult) (op2 subD (varE 1) (immE (.int 0))) (op2 subD (varE 0) (immE (.int 1))))), (op2 (binD .Mult) (op2 subD (varE 0) (immE (.int 1))) (op2 subD (varE 1) (immE (.int 1))))]))
theorem r__law_plus (k : Nat) (ps : Sl) : P.run (k + 3) d__law_plus ps = endF [false, false] (seqS [b__law_plus_0 k] (ps ++ List.replicate 0 none)) := by kernel_rfl
def b__law_minus_0 (k : Nat) : MS := (retS (callE [false, false] (P.run (k + 2) d__law_plus) [(varE 0), (tupE [(op2 (binD .Sub) (immE (.int 0)) (op2 subD (varE 1) (immE (.int 0)))), (op2 subD (varE 1) (immE (.int 1)))])]))
theorem r__law_minus (k : Nat) (ps : Sl) : P.run (k + 3) d__law_minus ps = endF [false, false] (seqS [b__law_minus_0 k] (ps ++ List.replicate 0 none)) := by kernel_rfl
def b__law_less_0 (k : Nat) : MS := (retS (op2 (cmpF .Lt) (op2 (binD .Mult) (op2 subD (varE 0) (immE (.int 0))) (op2 subD (varE 1) (immE (.int 1)))) (op2 (binD .Mult) (op2 subD (varE 1) (immE (.int 0))) (op2 subD (varE 0) (immE (.int 1))))))
theorem r__law_less (k : Nat) (ps : Sl) : P.run (k + 3) d__law_less ps = endF [false, false] (seqS [b__law_less_0 k] (ps ++ List.replicate 0 none)) := by kernel_rfl
def w__law_deep_0_0 (k : Nat) : MS := (asgS (nameG [0] 1) (op2 subD (lstE [(tupE [(varE 1)]), (lstE [(varE 1)]), (dct1E (immE (.int 0)) (varE 1))]) (callE [true, false] (P.run (k + 2) d__law_draw) [(varE 0), (immE (.int 3))])))
def lb__law_deep_0 (k : Nat) : MS := seqS [w__law_deep_0_0 k]
def l__law_deep_0 (k : Nat) : MS := forS (itE [0] rangeF1 [(op2 (binD .Add) (immE (.int 5)) (callE [true, false] (P.run (k + 2) d__law_draw) [(varE 0), (immE (.int 24))]))]) (nameT [0] 2) (lb__law_deep_0 k)
def b__law_deep_0 (k : Nat) : MS := (asgS (nameG [0] 1) (op2 subD (lstE [(immE (.none)), (immE (.int 5)), (un1 negD (immE (.int 1))), (fun e => .ok (.td []) e), (immE (.bool true))]) (callE [true, false] (P.run (k + 2) d__law_draw) [(varE 0), (immE (.int 5))])))
def b__law_deep_1 (k : Nat) : MS := (l__law_deep_0 k)
def b__law_deep_2 (k : Nat) : MS := (retS (varE 1))
theorem r__law_deep (k : Nat) (ps : Sl) : P.run (k + 3) d__law_deep ps = endF [true] (seqS [b__law_deep_0 k, b__law_deep_1 k, b__law_deep_2 k] (ps ++ List.replicate 2 none)) := by kernel_rfl
def b__law_odd_0 (k : Nat) : MS := (retS (callE [true, false] (P.run (k + 2) d__law_some) [(varE 0), (lstE [(immE (.none)), (immE (.bool true)), (immE (.bool false)), (immE (.int 0)), (un1 negD (immE (.int 1))), (immE (.int 999)), (op2 (binD .LShift) (immE (.int 1)) (immE (.int 63))), (immE (.str "p")), (immE (.str "")), (tupE []), (lstE []), (fun e => .ok (.td []) e), (tupE [(immE (.int 1))]), (tupE [(immE (.str "a"))]), (callE [true] (P.run (k + 2) d__law_deep) [(varE 0)])])]))
theorem r__law_odd (k : Nat) (ps : Sl) : P.run (k + 3) d__law_odd ps = endF [true] (seqS [b__law_odd_0 k] (ps ++ List.replicate 0 none)) := by kernel_rfl
def ce__law_is_0 (k : Nat) : ME := (callE [false, false] (P.run (k + 2) d__law_is) [(varE 3), (varE 4)])
def c__law_is_0 (k : Nat) : ME := compE [3, 4] (itE [] zipF [(varE 0), (varE 1)]) (unpT [(nameT [] 3), (nameT [] 4)]) (condE []) (ce__law_is_0 k)
def ce__law_is_1 (k : Nat) : ME := (andE [(op2 (cmpF .In) (varE 2) (varE 0)), (callE [false, false] (P.run (k + 2) d__law_is) [(op2 subD (varE 0) (varE 2)), (op2 subD (varE 1) (varE 2))])])
def c__law_is_1 (k : Nat) : ME := compE [2] (itE [] seqF [(varE 1)]) (nameT [] 2) (condE []) (ce__law_is_1 k)
def b__law_is_0 (k : Nat) : MS := (ifS (isisE [.tuple, .list] (varE 1)) (seqS [(ifS (orE [(op2 (cmpF .NotEq) (isiE .tuple (varE 0)) (isiE .tuple (varE 1))), (notE (isisE [.tuple, .list] (varE 0)))]) (seqS [(retS (immE (.bool false)))]) (seqS [])), (retS (andE [(op2 (cmpF .Eq) (bltE (bltD .len) [(varE 0)]) (bltE (bltD .len) [(varE 1)])), (bltE (bltD .all) [(c__law_is_0 k)])]))]) (seqS []))
def b__law_is_1 (k : Nat) : MS := (ifS (isiE .dict (varE 1)) (seqS [(ifS (orE [(notE (isiE .dict (varE 0))), (op2 (cmpF .NotEq) (bltE (bltD .len) [(varE 0)]) (bltE (bltD .len) [(varE 1)]))]) (seqS [(retS (immE (.bool false)))]) (seqS [])), (retS (bltE (bltD .all) [(c__law_is_1 k)]))]) (seqS []))
def b__law_is_2 (k : Nat) : MS := (ifS (orE [(isiE .str (varE 1)), (op2 (cmpF .Is) (varE 1) (immE (.none)))]) (seqS [(retS (andE [(op2 (cmpF .Eq) (isiE .str (varE 0)) (isiE .str (varE 1))), (op2 (cmpF .Eq) (varE 0) (varE 1))]))]) (seqS []))
def b__law_is_3 (k : Nat) : MS := (retS (andE [(isiE .int (varE 0)), (op2 (cmpF .Eq) (isiE .bool (varE 0)) (isiE .bool (varE 1))), (op2 (cmpF .Eq) (varE 0) (varE 1))]))
theorem r__law_is (k : Nat) (ps : Sl) : P.run (k + 3) d__law_is ps = endF [false, false] (seqS [b__law_is_0 k, b__law_is_1 k, b__law_is_2 k, b__law_is_3 k] (ps ++ List.replicate 3 none)) := by kernel_rfl
def ce__law_is_vat_0 (k : Nat) : ME := (callE [false] (P.run (k + 2) d__law_is_number) [(varE 1)])
def c__law_is_vat_0 (k : Nat) : ME := compE [1] (itE [] seqF [(varE 0)]) (nameT [] 1) (condE []) (ce__law_is_vat_0 k)
def b__law_is_vat_0 (k : Nat) : MS := (ifS (orE [(notE (isiE .tuple (varE 0))), (op2 (cmpF .NotEq) (bltE (bltD .len) [(varE 0)]) (immE (.int 2))), (notE (bltE (bltD .all) [(c__law_is_vat_0 k)]))]) (seqS [(retS (immE (.bool false)))]) (seqS []))
def b__law_is_vat_1 (k : Nat) : MS := (retS (andE [(chainE (cmpD .LtE) (cmpD .LtE) (immE (.int 0)) (op2 subD (varE 0) (immE (.int 0))) (immE (.int 50))), (chainE (cmpD .LtE) (cmpD .LtE) (immE (.int 1)) (op2 subD (varE 0) (immE (.int 1))) (immE (.int 20)))]))
theorem r__law_is_vat (k : Nat) (ps : Sl) : P.run (k + 3) d__law_is_vat ps = endF [false] (seqS [b__law_is_vat_0 k, b__law_is_vat_1 k] (ps ++ List.replicate 1 none)) := by kernel_rfl
def b__law_far_0 (k : Nat) : MS := (ifS (callE [false, false] (P.run (k + 2) d__law_less) [(varE 2), (varE 0)]) (seqS [(retS (callE [false, false] (P.run (k + 2) d__law_minus) [(varE 0), (varE 2)]))]) (seqS []))
def b__law_far_1 (k : Nat) : MS := (retS (ifE (callE [false, false] (P.run (k + 2) d__law_less) [(varE 1), (varE 2)]) (callE [false, false] (P.run (k + 2) d__law_minus) [(varE 2), (varE 1)]) (tupE [(immE (.int 0)), (immE (.int 1))])))
theorem r__law_far (k : Nat) (ps : Sl) : P.run (k + 3) d__law_far ps = endF [false, false, false] (seqS [b__law_far_0 k, b__law_far_1 k] (ps ++ List.replicate 0 none)) := by kernel_rfl
def w__law_due_0_0 (k : Nat) : MS := (asgS (nameG [] 7) (callE [false, false, false] (P.run (k + 2) d__law_far) [(op2 subD (varE 1) (immE (.int 0))), (op2 subD (varE 1) (immE (.int 1))), (callE [false, false] (P.run (k + 2) d__law_low) [(op2 (binD .Add) (op2 subD (varE 0) (immE (.int 0))) (varE 3)), (op2 (binD .Add) (op2 subD (varE 0) (immE (.int 1))) (varE 6))])]))
def w__law_due_0_1 (k : Nat) : MS := (asgS (nameG [] 4) (op2 (binD .Add) (varE 4) (ifE (op2 (cmpF .Eq) (varE 7) (tupE [(immE (.int 0)), (immE (.int 1))])) (lstE [(tupE [(op2 (binD .Add) (varE 3) (varE 6)), (varE 3), (varE 6)])]) (lstE []))))
def w__law_due_0_2 (k : Nat) : MS := (asgS (nameG [] 5) (ifE (orE [(op2 (cmpF .Is) (varE 5) (immE (.none))), (callE [false, false] (P.run (k + 2) d__law_less) [(varE 7), (varE 5)])]) (varE 7) (varE 5)))
def lb__law_due_0 (k : Nat) : MS := seqS [w__law_due_0_0 k, w__law_due_0_1 k, w__law_due_0_2 k]
def l__law_due_0 (k : Nat) : MS := forS (itE [] rangeF1 [(op2 (binD .Add) (op2 (binD .Sub) (varE 2) (op2 subD (varE 0) (immE (.int 1)))) (immE (.int 1)))]) (nameT [] 6) (lb__law_due_0 k)
def w__law_due_1_0 (k : Nat) : MS := (l__law_due_0 k)
def lb__law_due_1 (k : Nat) : MS := seqS [w__law_due_1_0 k]
def l__law_due_1 (k : Nat) : MS := forS (itE [] rangeF1 [(op2 (binD .Sub) (immE (.int 51)) (op2 subD (varE 0) (immE (.int 0))))]) (nameT [] 3) (lb__law_due_1 k)
def b__law_due_0 (k : Nat) : MS := (parS [nameG [] 4, nameG [] 5] [(lstE []), (immE (.none))])
def b__law_due_1 (k : Nat) : MS := (l__law_due_1 k)
def b__law_due_2 (k : Nat) : MS := (retS (ifE (op2 (cmpF .Gt) (bltE (bltD .len) [(varE 4)]) (immE (.int 0))) (op2 (binD .Add) (tupE [(immE (.str "add"))]) (sliE (bltE (bltD .min) [(varE 4)]) (some (immE (.int 1))) none)) (tupE [(immE (.str "none")), (varE 5)])))
theorem r__law_due (k : Nat) (ps : Sl) : P.run (k + 3) d__law_due ps = endF [false, false, false] (seqS [b__law_due_0 k, b__law_due_1 k, b__law_due_2 k] (ps ++ List.replicate 5 none)) := by kernel_rfl
def ce__law_does_0 (k : Nat) : ME := (andE [(callE [false] (P.run (k + 2) d__law_is_number) [(varE 6)]), (op2 (cmpF .GtE) (varE 6) (immE (.int 0)))])
def c__law_does_0 (k : Nat) : ME := compE [6] (itE [] seqF [(sliE (varE 3) (some (immE (.int 1))) none)]) (nameT [] 6) (condE []) (ce__law_does_0 k)
def b__law_does_0 (k : Nat) : MS := (ifS (notE (bltE (bltD .all) [(c__law_does_0 k)])) (seqS [(retS (immE (.bool false)))]) (seqS []))
def b__law_does_1 (k : Nat) : MS := (parS [nameG [] 4, nameG [] 5] [(op2 (binD .Add) (op2 subD (varE 0) (immE (.int 0))) (op2 subD (varE 3) (immE (.int 1)))), (op2 (binD .Add) (op2 subD (varE 0) (immE (.int 1))) (op2 subD (varE 3) (immE (.int 2))))])
def b__law_does_2 (k : Nat) : MS := (retS (andE [(op2 (cmpF .LtE) (varE 4) (immE (.int 50))), (op2 (cmpF .LtE) (varE 5) (varE 2)), (op2 (cmpF .Eq) (callE [false, false, false] (P.run (k + 2) d__law_far) [(op2 subD (varE 1) (immE (.int 0))), (op2 subD (varE 1) (immE (.int 1))), (callE [false, false] (P.run (k + 2) d__law_low) [(varE 4), (varE 5)])]) (tupE [(immE (.int 0)), (immE (.int 1))]))]))
theorem r__law_does (k : Nat) (ps : Sl) : P.run (k + 3) d__law_does ps = endF [false, false, false, false] (seqS [b__law_does_0 k, b__law_does_1 k, b__law_does_2 k] (ps ++ List.replicate 3 none)) := by kernel_rfl
def ce_law_0 (k : Nat) : ME := (callE [false, false] (P.run (k + 2) d__law_low) [(callE [true, false] (P.run (k + 2) d__law_draw) [(varE 1), (immE (.int 60))]), (op2 (binD .Add) (immE (.int 1)) (callE [true, false] (P.run (k + 2) d__law_draw) [(varE 1), (immE (.int 12))]))])
def c_law_0 (k : Nat) : ME := compE [14] (itE [] rangeF1 [(immE (.int 2))]) (nameT [] 14) (condE []) (ce_law_0 k)
def w_law_0_0 (k : Nat) : MS := (asgS (nameG [] 13) (andE [(isiE .tuple (varE 11)), (op2 (cmpF .Eq) (op2 subD (varE 8) (immE (.int 0))) (immE (.str "none"))), (callE [false, false] (P.run (k + 2) d__law_is) [(varE 11), (varE 8)])]))
def w_law_0_1 (k : Nat) : MS := (ifS (andE [(isiE .tuple (varE 11)), (op2 (cmpF .Eq) (bltE (bltD .len) [(varE 11)]) (immE (.int 3))), (op2 (cmpF .Eq) (op2 subD (varE 11) (immE (.int 0))) (immE (.str "add")))]) (seqS [(asgS (nameG [] 13) (callE [false, false, false, false] (P.run (k + 2) d__law_does) [(varE 3), (varE 7), (varE 4), (varE 11)]))]) (seqS []))
def w_law_0_2 (k : Nat) : MS := (ifS (notE (callE [false, false] (P.run (k + 2) d__law_is) [(callE [false, false, false, false] (P.run (k + 2) d_is_starched_told) [(varE 3), (varE 7), (varE 4), (varE 11)]), (varE 13)])) (seqS [(retS (immE (.bool false)))]) (seqS []))
def lb_law_0 (k : Nat) : MS := seqS [w_law_0_0 k, w_law_0_1 k, w_law_0_2 k]
def l_law_0 (k : Nat) : MS := forS (itE [] seqF [(op2 (binD .Add) (varE 10) (lstE [(callE [true] (P.run (k + 2) d__law_odd) [(varE 1)])]))]) (nameT [] 11) (lb_law_0 k)
def w_law_1_0 (k : Nat) : MS := (ifS (notE (callE [false, false] (P.run (k + 2) d__law_is) [(callE [false] (P.run (k + 2) d_is_vat) [(varE 11)]), (callE [false] (P.run (k + 2) d__law_is_vat) [(varE 11)])])) (seqS [(retS (immE (.bool false)))]) (seqS []))
def lb_law_1 (k : Nat) : MS := seqS [w_law_1_0 k]
def l_law_1 (k : Nat) : MS := forS (itE [] seqF [(tupE [(varE 3), (bltE (bltD .list) [(varE 3)]), (tupE [(immE (.int 51)), (immE (.int 1))]), (tupE [(un1 negD (immE (.int 1))), (immE (.int 1))]), (tupE [(immE (.int 0)), (immE (.int 0))]), (tupE [(immE (.int 0)), (immE (.int 21))]), (tupE [(immE (.bool true)), (immE (.int 1))]), (tupE [(immE (.int 1))]), (tupE []), (immE (.none)), (callE [true] (P.run (k + 2) d__law_odd) [(varE 1)])])]) (nameT [] 11) (lb_law_1 k)
def w_law_2_0 (k : Nat) : MS := (asgS (nameG [] 3) (tupE [(callE [true, false] (P.run (k + 2) d__law_draw) [(varE 1), (callE [true, false] (P.run (k + 2) d__law_some) [(varE 1), (lstE [(immE (.int 4)), (immE (.int 51))])])]), (op2 (binD .Add) (immE (.int 1)) (callE [true, false] (P.run (k + 2) d__law_draw) [(varE 1), (immE (.int 20))]))]))
def w_law_2_1 (k : Nat) : MS := (ifS (notE (callE [false, false] (P.run (k + 2) d__law_is) [(callE [false] (P.run (k + 2) d_strength_of) [(varE 3)]), (callE [false, false] (P.run (k + 2) d__law_low) [(op2 subD (varE 3) (immE (.int 0))), (op2 subD (varE 3) (immE (.int 1)))])])) (seqS [(retS (immE (.bool false)))]) (seqS []))
def w_law_2_2 (k : Nat) : MS := (asgS (nameG [] 4) (bltE (bltD .min) [(immE (.int 30)), (op2 (binD .Add) (op2 subD (varE 3) (immE (.int 1))) (callE [true, false] (P.run (k + 2) d__law_draw) [(varE 1), (callE [true, false] (P.run (k + 2) d__law_some) [(varE 1), (lstE [(immE (.int 1)), (immE (.int 5)), (immE (.int 29))])])]))]))
def w_law_2_3 (k : Nat) : MS := (asgS (nameG [] 5) (c_law_0 k))
def w_law_2_4 (k : Nat) : MS := (asgT (unpT [(nameT [] 12), (nameT [] 6)]) (ifE (callE [false, false] (P.run (k + 2) d__law_less) [(op2 subD (varE 5) (immE (.int 1))), (op2 subD (varE 5) (immE (.int 0)))]) (tupE [(op2 subD (varE 5) (immE (.int 1))), (op2 subD (varE 5) (immE (.int 0)))]) (tupE [(op2 subD (varE 5) (immE (.int 0))), (op2 subD (varE 5) (immE (.int 1)))])))
def w_law_2_5 (k : Nat) : MS := (asgS (nameG [] 6) (callE [true, false] (P.run (k + 2) d__law_some) [(varE 1), (lstE [(varE 12), (varE 6)])]))
def w_law_2_6 (k : Nat) : MS := (asgS (nameG [] 7) (tupE [(varE 12), (varE 6)]))
def w_law_2_7 (k : Nat) : MS := (asgS (nameG [] 8) (callE [false, false, false] (P.run (k + 2) d__law_due) [(varE 3), (varE 7), (varE 4)]))
def w_law_2_8 (k : Nat) : MS := (asgS (nameG [] 9) (callE [false, false, false] (P.run (k + 2) d_starched_told) [(varE 3), (varE 7), (varE 4)]))
def w_law_2_9 (k : Nat) : MS := (ifS (orE [(notE (callE [false, false] (P.run (k + 2) d__law_is) [(varE 9), (varE 8)])), (op2 (cmpF .IsNot) (callE [false, false, false, false] (P.run (k + 2) d_is_starched_told) [(varE 3), (varE 7), (varE 4), (varE 9)]) (immE (.bool true)))]) (seqS [(retS (immE (.bool false)))]) (seqS []))
def w_law_2_10 (k : Nat) : MS := (asgS (nameG [] 10) (lstE [(tupE [(immE (.str "add")), (immE (.int 0)), (immE (.int 0))]), (tupE [(immE (.str "add")), (immE (.int 1)), (immE (.int 0))]), (tupE [(immE (.str "add")), (immE (.int 0)), (varE 4)]), (tupE [(immE (.str "none")), (tupE [(immE (.int 0)), (immE (.int 1))])]), (tupE [(immE (.str "none")), (tupE [(immE (.int 1)), (immE (.int 1))])]), (bltE (bltD .list) [(varE 9)]), (immE (.none))]))
def w_law_2_11 (k : Nat) : MS := (asgS (nameG [] 10) (op2 (binD .Add) (varE 10) (lstE [(tupE [(immE (.str "add")), (callE [true, false] (P.run (k + 2) d__law_draw) [(varE 1), (immE (.int 20))]), (callE [true, false] (P.run (k + 2) d__law_draw) [(varE 1), (immE (.int 10))])]), (tupE [(immE (.str "add")), (immE (.bool true)), (immE (.int 0))]), (tupE [(immE (.str "add")), (un1 negD (immE (.int 1))), (immE (.int 0))])])))
def w_law_2_12 (k : Nat) : MS := (asgS (nameG [] 10) (op2 (binD .Add) (varE 10) (lstE [(op2 (binD .Add) (varE 9) (tupE [(immE (.int 0))])), (sliE (varE 9) none (some (immE (.int 1))))])))
def w_law_2_13 (k : Nat) : MS := (l_law_0 k)
def w_law_2_14 (k : Nat) : MS := (l_law_1 k)
def lb_law_2 (k : Nat) : MS := seqS [w_law_2_0 k, w_law_2_1 k, w_law_2_2 k, w_law_2_3 k, w_law_2_4 k, w_law_2_5 k, w_law_2_6 k, w_law_2_7 k, w_law_2_8 k, w_law_2_9 k, w_law_2_10 k, w_law_2_11 k, w_law_2_12 k, w_law_2_13 k, w_law_2_14 k]
def l_law_2 (k : Nat) : MS := forS (itE [] rangeF1 [(immE (.int 4))]) (nameT [] 2) (lb_law_2 k)
def b_law_0 (k : Nat) : MS := (asgS (nameG [] 1) (callE [false] (P.run (k + 2) d__law_hand) [(varE 0)]))
def b_law_1 (k : Nat) : MS := (l_law_2 k)
def b_law_2 (k : Nat) : MS := (retS (immE (.bool true)))
theorem r_law (k : Nat) (ps : Sl) : P.run (k + 3) d_law ps = endF [false] (seqS [b_law_0 k, b_law_1 k, b_law_2 k] (ps ++ List.replicate 14 none)) := by kernel_rfl
end Lw
end
section
set_option maxHeartbeats 1000000
namespace Lw
open PySem Ev
theorem t_is_integer (k : Nat) (i : Int) : P.run (k + 3) d_is_integer [some (.im (.int i))] = .ok (.im (.bool true)) [none] := by rw [r_is_integer] <;> rfl
theorem t_is_within (k : Nat) {i lo hi : Int} (h : lo ≤ i) (h' : i ≤ hi) : P.run (k + 4) d_is_within [some (.im (.int i)), some (.im (.int lo)), some (.im (.int hi))] = .ok (.im (.bool true)) [none, none, none] := by
  rw [r_is_within (k + 1)]
  simp only [b_is_within_0, t_is_integer, seqS, SR.bind, Res.st, Res.bind, retS, exprS, ifS, asgS, nameG, stS_n, stS_1, stS_2, stS_3, stS_4, stS_5, stS_6, stS_7, stS_8, stS_9, stS_10, stS_11, stS_12, stS_13, stS_14, stS_15, asgT, unpT, tupT, parS, argsP, parG, immE, varE, lift, un1, op2, andE, orE, notE, ifE, chainE, tru, argsD, tupE, lstE, argsO, toPar, backs, callE, vw, vws, fzO, gt, pt, bltE, isiE, isisE, tyD, imB, imI, cmpF, cmpD, binD_add, binD_sub, augD, sliE, optE, sliD, itE, argsI, hid_im, hid_tl, hid_n, mutE, mtF, appF, isOl, setiS, setF, endF, outO, finsOf_f, finsOf_t, finsOf_n, fxOf, raiseS, seqF, seqD, nameT, unhS, List.replicate, List.cons_append, List.nil_append, List.contains, List.elem, Option.map, Option.bind, ltD_int, leD_int, eqD_int, eqD_str, Bool.not_true, Bool.not_false, Bool.false_eq_true, if_true, if_false]
  simp [h, h']
theorem t_is_sized (k : Nat) {xs : List D} {lo hi : Int} (h : lo ≤ xs.length) (h' : (xs.length : Int) ≤ hi) : P.run (k + 3) d_is_sized [some (.im (.tuple xs)), some (.im (.int lo)), some (.im (.int hi))] = .ok (.im (.bool true)) [none, none, none] := by
  rw [r_is_sized]
  simp only [b_is_sized_0, bltD, seqS, SR.bind, Res.st, Res.bind, retS, exprS, ifS, asgS, nameG, stS_n, stS_1, stS_2, stS_3, stS_4, stS_5, stS_6, stS_7, stS_8, stS_9, stS_10, stS_11, stS_12, stS_13, stS_14, stS_15, asgT, unpT, tupT, parS, argsP, parG, immE, varE, lift, un1, op2, andE, orE, notE, ifE, chainE, tru, argsD, tupE, lstE, argsO, toPar, backs, callE, vw, vws, fzO, gt, pt, bltE, isiE, isisE, tyD, imB, imI, cmpF, cmpD, binD_add, binD_sub, augD, sliE, optE, sliD, itE, argsI, hid_im, hid_tl, hid_n, mutE, mtF, appF, isOl, setiS, setF, endF, outO, finsOf_f, finsOf_t, finsOf_n, fxOf, raiseS, seqF, seqD, nameT, unhS, List.replicate, List.cons_append, List.nil_append, List.contains, List.elem, Option.map, Option.bind, ltD_int, leD_int, eqD_int, eqD_str, Bool.not_true, Bool.not_false, Bool.false_eq_true, if_true, if_false]
  simp [h, h']
abbrev im (d : D) : Option Sv := some (.im d)
abbrev pr (p : Int × Int) : D := .tuple [.int p.1, .int p.2]
theorem sub0 {p : Int × Int} : subD (pr p) (.int 0) = some (.im (.int p.1)) := rfl
theorem sub1 {p : Int × Int} : subD (pr p) (.int 1) = some (.im (.int p.2)) := rfl
theorem n_int (k : Nat) {x : D} (h : x = .none ∨ (∃ b, x = .bool b) ∨ (∃ s, x = .str s) ∨ (∃ ys, x = .list ys) ∨ ∃ ys, x = .tuple ys) : P.run (k + 3) d_is_integer [im x] = .ok (.im (.bool false)) [none] := by
  rw [r_is_integer]
  rcases h with rfl | ⟨b, rfl⟩ | ⟨s, rfl⟩ | ⟨ys, rfl⟩ | ⟨ys, rfl⟩ <;> rfl
theorem n_within (k : Nat) {x : D} {lo hi : Int} (h : x = .none ∨ (∃ b, x = .bool b) ∨ (∃ s, x = .str s) ∨ (∃ ys, x = .list ys) ∨ ∃ ys, x = .tuple ys) : P.run (k + 4) d_is_within [im x, im (.int lo), im (.int hi)] = .ok (.im (.bool false)) [none, none, none] := by
  rw [r_is_within (k + 1)]
  have := n_int k h
  simp only [im] at this
  simp only [b_is_within_0, im, this, seqS, SR.bind, Res.st, Res.bind, retS, exprS, ifS, asgS, nameG, stS_n, stS_1, stS_2, stS_3, stS_4, stS_5, stS_6, stS_7, stS_8, stS_9, stS_10, stS_11, stS_12, stS_13, stS_14, stS_15, asgT, unpT, tupT, parS, argsP, parG, immE, varE, lift, un1, op2, andE, orE, notE, ifE, chainE, tru, argsD, tupE, lstE, argsO, toPar, backs, callE, vw, vws, fzO, gt, pt, bltE, isiE, isisE, tyD, imB, imI, cmpF, cmpD, binD_add, binD_sub, augD, sliE, optE, sliD, itE, argsI, hid_im, hid_tl, hid_n, mutE, mtF, appF, isOl, setiS, setF, endF, outO, finsOf_f, finsOf_t, finsOf_n, fxOf, raiseS, seqF, seqD, nameT, unhS, List.replicate, List.cons_append, List.nil_append, List.contains, List.elem, Option.map, Option.bind, ltD_int, leD_int, eqD_int, eqD_str, Bool.not_true, Bool.not_false, Bool.false_eq_true, if_true, if_false]
theorem n_within_i (k : Nat) {i lo hi : Int} (h : i < lo ∨ hi < i) : P.run (k + 4) d_is_within [im (.int i), im (.int lo), im (.int hi)] = .ok (.im (.bool false)) [none, none, none] := by
  rw [r_is_within (k + 1)]
  simp only [b_is_within_0, im, t_is_integer, seqS, SR.bind, Res.st, Res.bind, retS, exprS, ifS, asgS, nameG, stS_n, stS_1, stS_2, stS_3, stS_4, stS_5, stS_6, stS_7, stS_8, stS_9, stS_10, stS_11, stS_12, stS_13, stS_14, stS_15, asgT, unpT, tupT, parS, argsP, parG, immE, varE, lift, un1, op2, andE, orE, notE, ifE, chainE, tru, argsD, tupE, lstE, argsO, toPar, backs, callE, vw, vws, fzO, gt, pt, bltE, isiE, isisE, tyD, imB, imI, cmpF, cmpD, binD_add, binD_sub, augD, sliE, optE, sliD, itE, argsI, hid_im, hid_tl, hid_n, mutE, mtF, appF, isOl, setiS, setF, endF, outO, finsOf_f, finsOf_t, finsOf_n, fxOf, raiseS, seqF, seqD, nameT, unhS, List.replicate, List.cons_append, List.nil_append, List.contains, List.elem, Option.map, Option.bind, ltD_int, leD_int, eqD_int, eqD_str, Bool.not_true, Bool.not_false, Bool.false_eq_true, if_true, if_false]
  by_cases h1 : lo ≤ i
  · have h2 : ¬ i ≤ hi := by omega
    simp [h1, h2]
  · simp [h1]
theorem n_sized (k : Nat) {x : D} {lo hi : Int} (h : x = .none ∨ (∃ i, x = .int i) ∨ (∃ s, x = .str s) ∨ (∃ ys, x = .list ys) ∨ x = .dict []) : P.run (k + 3) d_is_sized [im x, im (.int lo), im (.int hi)] = .ok (.im (.bool false)) [none, none, none] := by
  rw [r_is_sized]
  rcases h with rfl | ⟨b, rfl⟩ | ⟨s, rfl⟩ | ⟨ys, rfl⟩ | rfl <;> rfl
theorem n_sized_t (k : Nat) {xs : List D} {lo hi : Int} (h : (xs.length : Int) < lo ∨ hi < xs.length) : P.run (k + 3) d_is_sized [im (.tuple xs), im (.int lo), im (.int hi)] = .ok (.im (.bool false)) [none, none, none] := by
  rw [r_is_sized]
  simp only [b_is_sized_0, im, bltD, seqS, SR.bind, Res.st, Res.bind, retS, exprS, ifS, asgS, nameG, stS_n, stS_1, stS_2, stS_3, stS_4, stS_5, stS_6, stS_7, stS_8, stS_9, stS_10, stS_11, stS_12, stS_13, stS_14, stS_15, asgT, unpT, tupT, parS, argsP, parG, immE, varE, lift, un1, op2, andE, orE, notE, ifE, chainE, tru, argsD, tupE, lstE, argsO, toPar, backs, callE, vw, vws, fzO, gt, pt, bltE, isiE, isisE, tyD, imB, imI, cmpF, cmpD, binD_add, binD_sub, augD, sliE, optE, sliD, itE, argsI, hid_im, hid_tl, hid_n, mutE, mtF, appF, isOl, setiS, setF, endF, outO, finsOf_f, finsOf_t, finsOf_n, fxOf, raiseS, seqF, seqD, nameT, unhS, List.replicate, List.cons_append, List.nil_append, List.contains, List.elem, Option.map, Option.bind, ltD_int, leD_int, eqD_int, eqD_str, Bool.not_true, Bool.not_false, Bool.false_eq_true, if_true, if_false]
  by_cases h1 : lo ≤ xs.length
  · have h2 : ¬ (xs.length : Int) ≤ hi := by omega
    simp [h1, h2]
  · simp [h1]
/-- Euclid's way, by the evaluator -/
theorem gcd_step {a b : Int} (ha : 0 ≤ a) (hb : 0 < b) : Int.gcd b (a.fmod b) = Int.gcd a b := by
  obtain ⟨n, rfl⟩ := Int.eq_ofNat_of_zero_le ha
  obtain ⟨m, rfl⟩ := Int.eq_ofNat_of_zero_le (Int.le_of_lt hb)
  rw [Int.fmod_eq_emod_of_nonneg _ (Int.le_of_lt hb)]
  have e : ((n : Int) % (m : Int)) = ((n % m : Nat) : Int) := rfl
  rw [e, Int.gcd_natCast_natCast, Int.gcd_natCast_natCast, Nat.gcd_comm n m, Nat.gcd_rec m n, Nat.gcd_comm m (n % m)]
theorem binD_mod {i j : Int} (h : j ≠ 0) : binD .Mod (.int i) (.int j) = some (.im (.int (i.fmod j))) := by simp [binD, h, imI]
theorem binD_div {i j : Int} (h : j ≠ 0) (h2 : j.natAbs < 1073741824) : binD .FloorDiv (.int i) (.int j) = some (.im (.int (i.fdiv j))) := by simp [binD, h, h2, imI]
theorem binD_mul {i j : Int} (h : small64 i = true) : binD .Mult (.int i) (.int j) = some (.im (.int (i * j))) := by simp [binD, h, imI]
theorem mod_half {b r : Int} (hr : 0 < r) (h : r < b) : 2 * b.fmod r < b := by
  have e := Int.mul_fdiv_add_fmod b r
  have l := Int.fmod_lt_of_pos b hr
  have g := Int.fmod_nonneg_of_pos b hr
  have q : 1 ≤ b.fdiv r := by
    rw [Int.fdiv_eq_ediv_of_nonneg _ (by omega)]
    exact (Int.le_ediv_iff_mul_le hr).mpr (by omega)
  have : r ≤ r * b.fdiv r := by
    calc r = r * 1 := by omega
      _ ≤ r * b.fdiv r := Int.mul_le_mul_of_nonneg_left q (by omega)
  omega
theorem gcd_zero' {a : Int} (h : 0 ≤ a) : (Int.gcd a 0 : Int) = a := by rw [Int.gcd_zero]; omega
theorem one_common {w : Nat} {a b : Int} (hb : b ≠ 0) : whL (op2 (cmpF .NotEq) (varE 1) (immE (.int 0))) (seqS [(parS [nameG [] 0, nameG [] 1] [(varE 1), (op2 (binD .Mod) (varE 0) (varE 1))])]) (w + 1) [im (.int a), im (.int b)] = whL (op2 (cmpF .NotEq) (varE 1) (immE (.int 0))) (seqS [(parS [nameG [] 0, nameG [] 1] [(varE 1), (op2 (binD .Mod) (varE 0) (varE 1))])]) w [im (.int b), im (.int (a.fmod b))] := by
  conv => lhs; unfold whL
  simp only [im, hb, decide_false, binD_mod hb, seqS, SR.bind, Res.st, Res.bind, retS, exprS, ifS, asgS, nameG, stS_n, stS_1, stS_2, stS_3, stS_4, stS_5, stS_6, stS_7, stS_8, stS_9, stS_10, stS_11, stS_12, stS_13, stS_14, stS_15, asgT, unpT, tupT, parS, argsP, parG, immE, varE, lift, un1, op2, andE, orE, notE, ifE, chainE, tru, argsD, tupE, lstE, argsO, toPar, backs, callE, vw, vws, fzO, gt, pt, bltE, isiE, isisE, tyD, imB, imI, cmpF, cmpD, binD_add, binD_sub, augD, sliE, optE, sliD, itE, argsI, hid_im, hid_tl, hid_n, mutE, mtF, appF, isOl, setiS, setF, endF, outO, finsOf_f, finsOf_t, finsOf_n, fxOf, raiseS, seqF, seqD, nameT, unhS, List.replicate, List.cons_append, List.nil_append, List.contains, List.elem, Option.map, Option.bind, ltD_int, leD_int, eqD_int, eqD_str, Bool.not_true, Bool.not_false, Bool.false_eq_true, if_true, if_false]
theorem end_common {w : Nat} {a : Int} : whL (op2 (cmpF .NotEq) (varE 1) (immE (.int 0))) (seqS [(parS [nameG [] 0, nameG [] 1] [(varE 1), (op2 (binD .Mod) (varE 0) (varE 1))])]) (w + 1) [im (.int a), im (.int 0)] = .nx [im (.int a), im (.int 0)] := by
  unfold whL
  simp only [im, decide_true, seqS, SR.bind, Res.st, Res.bind, retS, exprS, ifS, asgS, nameG, stS_n, stS_1, stS_2, stS_3, stS_4, stS_5, stS_6, stS_7, stS_8, stS_9, stS_10, stS_11, stS_12, stS_13, stS_14, stS_15, asgT, unpT, tupT, parS, argsP, parG, immE, varE, lift, un1, op2, andE, orE, notE, ifE, chainE, tru, argsD, tupE, lstE, argsO, toPar, backs, callE, vw, vws, fzO, gt, pt, bltE, isiE, isisE, tyD, imB, imI, cmpF, cmpD, binD_add, binD_sub, augD, sliE, optE, sliD, itE, argsI, hid_im, hid_tl, hid_n, mutE, mtF, appF, isOl, setiS, setF, endF, outO, finsOf_f, finsOf_t, finsOf_n, fxOf, raiseS, seqF, seqD, nameT, unhS, List.replicate, List.cons_append, List.nil_append, List.contains, List.elem, Option.map, Option.bind, ltD_int, leD_int, eqD_int, eqD_str, Bool.not_true, Bool.not_false, Bool.false_eq_true, if_true, if_false]
theorem whl_common : ∀ (n w : Nat) (a b : Int), 0 ≤ a → 0 ≤ b → b < 2 ^ n → 2 * n + 1 ≤ w → whL (op2 (cmpF .NotEq) (varE 1) (immE (.int 0))) (seqS [(parS [nameG [] 0, nameG [] 1] [(varE 1), (op2 (binD .Mod) (varE 0) (varE 1))])]) w [im (.int a), im (.int b)] = .nx [im (.int (Int.gcd a b)), im (.int 0)]
  | n, 0, a, b, _, _, _, h => absurd h (by omega)
  | n, w + 1, a, b, ha, hb, hn, h => by
    by_cases e : b = 0
    · subst e
      rw [end_common, gcd_zero' ha]
    · cases n with
      | zero => exact absurd hn (by simp; omega)
      | succ n =>
        have hb0 : 0 < b := by omega
        have lt := Int.fmod_lt_of_pos a hb0
        have ge := Int.fmod_nonneg_of_pos a hb0
        rw [one_common e, ← gcd_step ha hb0]
        by_cases r : a.fmod b = 0
        · rw [r]
          obtain ⟨v, rfl⟩ : ∃ v, w = v + 1 := ⟨w - 1, by omega⟩
          rw [end_common, gcd_zero' hb]
        · have hr : 0 < a.fmod b := by omega
          obtain ⟨v, rfl⟩ : ∃ v, w = v + 1 := ⟨w - 1, by omega⟩
          have lt2 := mod_half hr lt
          have ge2 := Int.fmod_nonneg_of_pos b hr
          rw [one_common r, ← gcd_step hb hr]
          refine whl_common n v (a.fmod b) (b.fmod (a.fmod b)) ge ge2 ?_ (by omega)
          have : (2 : Int) ^ (n + 1) = 2 * 2 ^ n := by rw [Int.pow_succ]; omega
          omega
def big : Int := 2 ^ 490
theorem t_common (k : Nat) {a b : Int} (ha : 0 ≤ a) (hb : 0 ≤ b) (h : b < big) : P.run (k + 3) d_common [im (.int a), im (.int b)] = .ok (.im (.int (Int.gcd a b))) [none, none] := by
  rw [r_common]
  have h0 : b_common_0 k [im (.int a), im (.int b)] = .nx [im (.int (Int.gcd a b)), im (.int 0)] := whl_common 490 1000 a b ha hb h (by decide)
  have n : ¬ ((Int.gcd a b : Int) < 0) := by omega
  show endF [false, false] (seqS _ [im (.int a), im (.int b)]) = _
  rw [seqS_nx h0]
  simp only [b_common_1, bltD, im, n, seqS, SR.bind, Res.st, Res.bind, retS, exprS, ifS, asgS, nameG, stS_n, stS_1, stS_2, stS_3, stS_4, stS_5, stS_6, stS_7, stS_8, stS_9, stS_10, stS_11, stS_12, stS_13, stS_14, stS_15, asgT, unpT, tupT, parS, argsP, parG, immE, varE, lift, un1, op2, andE, orE, notE, ifE, chainE, tru, argsD, tupE, lstE, argsO, toPar, backs, callE, vw, vws, fzO, gt, pt, bltE, isiE, isisE, tyD, imB, imI, cmpF, cmpD, binD_add, binD_sub, augD, sliE, optE, sliD, itE, argsI, hid_im, hid_tl, hid_n, mutE, mtF, appF, isOl, setiS, setF, endF, outO, finsOf_f, finsOf_t, finsOf_n, fxOf, raiseS, seqF, seqD, nameT, unhS, List.replicate, List.cons_append, List.nil_append, List.contains, List.elem, Option.map, Option.bind, ltD_int, leD_int, eqD_int, eqD_str, Bool.not_true, Bool.not_false, Bool.false_eq_true, if_true, if_false]
/-- in lowest terms -/
def low (t b : Int) : Int × Int := (t.fdiv (Int.gcd t b), b.fdiv (Int.gcd t b))
/-- what may be made low -/
def Lw (t b : Int) : Prop := 0 ≤ t ∧ 1 ≤ b ∧ b < big ∧ t < big ∧ Int.gcd t b < 1073741824
theorem Lw.g {t b : Int} (h : Lw t b) : 0 < Int.gcd t b := Int.gcd_pos_of_ne_zero_right t (by have := h.2.1; omega)
theorem t_share (k : Nat) {t b : Int} (h : Lw t b) : P.run (k + 4) d_share [im (.int t), im (.int b)] = .ok (.im (pr (low t b))) [none, none] := by
  have g := h.g
  obtain ⟨h0, h1, h2, h3, h4⟩ := h
  rw [r_share (k + 1)]
  have c := t_common k h0 (show 0 ≤ b by omega) h2
  simp only [im] at c
  have p : 0 < b := by omega
  simp only [b_share_0, b_share_1, b_share_2, im, c, p, decide_true, binD_div (j := (Int.gcd t b : Int)) (by omega) (by omega), low, seqS, SR.bind, Res.st, Res.bind, retS, exprS, ifS, asgS, nameG, stS_n, stS_1, stS_2, stS_3, stS_4, stS_5, stS_6, stS_7, stS_8, stS_9, stS_10, stS_11, stS_12, stS_13, stS_14, stS_15, asgT, unpT, tupT, parS, argsP, parG, immE, varE, lift, un1, op2, andE, orE, notE, ifE, chainE, tru, argsD, tupE, lstE, argsO, toPar, backs, callE, vw, vws, fzO, gt, pt, bltE, isiE, isisE, tyD, imB, imI, cmpF, cmpD, binD_add, binD_sub, augD, sliE, optE, sliD, itE, argsI, hid_im, hid_tl, hid_n, mutE, mtF, appF, isOl, setiS, setF, endF, outO, finsOf_f, finsOf_t, finsOf_n, fxOf, raiseS, seqF, seqD, nameT, unhS, List.replicate, List.cons_append, List.nil_append, List.contains, List.elem, Option.map, Option.bind, ltD_int, leD_int, eqD_int, eqD_str, Bool.not_true, Bool.not_false, Bool.false_eq_true, if_true, if_false]
theorem one_low {w : Nat} {x y : Option Sv} {a b : Int} (hb : 0 < b) : whL (op2 (cmpF .Gt) (varE 3) (immE (.int 0))) (seqS [(parS [nameG [] 3, nameG [] 2] [(op2 (binD .Mod) (bltE (bltD .int) [(varE 2)]) (varE 3)), (varE 3)])]) (w + 1) [x, y, im (.int a), im (.int b)] = whL (op2 (cmpF .Gt) (varE 3) (immE (.int 0))) (seqS [(parS [nameG [] 3, nameG [] 2] [(op2 (binD .Mod) (bltE (bltD .int) [(varE 2)]) (varE 3)), (varE 3)])]) w [x, y, im (.int b), im (.int (a.fmod b))] := by
  conv => lhs; unfold whL
  have e : b ≠ 0 := by omega
  simp only [im, hb, decide_true, bltD, binD_mod e, seqS, SR.bind, Res.st, Res.bind, retS, exprS, ifS, asgS, nameG, stS_n, stS_1, stS_2, stS_3, stS_4, stS_5, stS_6, stS_7, stS_8, stS_9, stS_10, stS_11, stS_12, stS_13, stS_14, stS_15, asgT, unpT, tupT, parS, argsP, parG, immE, varE, lift, un1, op2, andE, orE, notE, ifE, chainE, tru, argsD, tupE, lstE, argsO, toPar, backs, callE, vw, vws, fzO, gt, pt, bltE, isiE, isisE, tyD, imB, imI, cmpF, cmpD, binD_add, binD_sub, augD, sliE, optE, sliD, itE, argsI, hid_im, hid_tl, hid_n, mutE, mtF, appF, isOl, setiS, setF, endF, outO, finsOf_f, finsOf_t, finsOf_n, fxOf, raiseS, seqF, seqD, nameT, unhS, List.replicate, List.cons_append, List.nil_append, List.contains, List.elem, Option.map, Option.bind, ltD_int, leD_int, eqD_int, eqD_str, Bool.not_true, Bool.not_false, Bool.false_eq_true, if_true, if_false]
theorem end_low {w : Nat} {x y : Option Sv} {a : Int} : whL (op2 (cmpF .Gt) (varE 3) (immE (.int 0))) (seqS [(parS [nameG [] 3, nameG [] 2] [(op2 (binD .Mod) (bltE (bltD .int) [(varE 2)]) (varE 3)), (varE 3)])]) (w + 1) [x, y, im (.int a), im (.int 0)] = .nx [x, y, im (.int a), im (.int 0)] := by
  unfold whL
  simp only [im, Int.lt_irrefl, decide_false, seqS, SR.bind, Res.st, Res.bind, retS, exprS, ifS, asgS, nameG, stS_n, stS_1, stS_2, stS_3, stS_4, stS_5, stS_6, stS_7, stS_8, stS_9, stS_10, stS_11, stS_12, stS_13, stS_14, stS_15, asgT, unpT, tupT, parS, argsP, parG, immE, varE, lift, un1, op2, andE, orE, notE, ifE, chainE, tru, argsD, tupE, lstE, argsO, toPar, backs, callE, vw, vws, fzO, gt, pt, bltE, isiE, isisE, tyD, imB, imI, cmpF, cmpD, binD_add, binD_sub, augD, sliE, optE, sliD, itE, argsI, hid_im, hid_tl, hid_n, mutE, mtF, appF, isOl, setiS, setF, endF, outO, finsOf_f, finsOf_t, finsOf_n, fxOf, raiseS, seqF, seqD, nameT, unhS, List.replicate, List.cons_append, List.nil_append, List.contains, List.elem, Option.map, Option.bind, ltD_int, leD_int, eqD_int, eqD_str, Bool.not_true, Bool.not_false, Bool.false_eq_true, if_true, if_false]
theorem whl_low (x y : Option Sv) : ∀ (n w : Nat) (a b : Int), 0 ≤ a → 0 ≤ b → b < 2 ^ n → 2 * n + 1 ≤ w → whL (op2 (cmpF .Gt) (varE 3) (immE (.int 0))) (seqS [(parS [nameG [] 3, nameG [] 2] [(op2 (binD .Mod) (bltE (bltD .int) [(varE 2)]) (varE 3)), (varE 3)])]) w [x, y, im (.int a), im (.int b)] = .nx [x, y, im (.int (Int.gcd a b)), im (.int 0)]
  | n, 0, a, b, _, _, _, h => absurd h (by omega)
  | n, w + 1, a, b, ha, hb, hn, h => by
    by_cases e : b = 0
    · subst e
      rw [end_low, gcd_zero' ha]
    · cases n with
      | zero => exact absurd hn (by simp; omega)
      | succ n =>
        have hb0 : 0 < b := by omega
        have lt := Int.fmod_lt_of_pos a hb0
        have ge := Int.fmod_nonneg_of_pos a hb0
        rw [one_low hb0, ← gcd_step ha hb0]
        by_cases r : a.fmod b = 0
        · rw [r]
          obtain ⟨v, rfl⟩ : ∃ v, w = v + 1 := ⟨w - 1, by omega⟩
          rw [end_low, gcd_zero' hb]
        · have hr : 0 < a.fmod b := by omega
          obtain ⟨v, rfl⟩ : ∃ v, w = v + 1 := ⟨w - 1, by omega⟩
          have lt2 := mod_half hr lt
          have ge2 := Int.fmod_nonneg_of_pos b hr
          rw [one_low hr, ← gcd_step hb hr]
          refine whl_low x y n v (a.fmod b) (b.fmod (a.fmod b)) ge ge2 ?_ (by omega)
          have : (2 : Int) ^ (n + 1) = 2 * 2 ^ n := by rw [Int.pow_succ]; omega
          omega
theorem t_low (k : Nat) {t b : Int} (h : Lw t b) : P.run (k + 3) d__law_low [im (.int t), im (.int b)] = .ok (.im (pr (low t b))) [none, none] := by
  have g := h.g
  obtain ⟨h0, h1, h2, h3, h4⟩ := h
  rw [r__law_low]
  have n1 : ¬ t < 0 := by omega
  have n2 : ¬ b < 0 := by omega
  have p : 0 < b := by omega
  have s0 : b__law_low_0 k [im (.int t), im (.int b), none, none] = .nx [im (.int t), im (.int b), im (.int b), im (.int t)] := by
    simp only [b__law_low_0, bltD, im, n1, n2, seqS, SR.bind, Res.st, Res.bind, retS, exprS, ifS, asgS, nameG, stS_n, stS_1, stS_2, stS_3, stS_4, stS_5, stS_6, stS_7, stS_8, stS_9, stS_10, stS_11, stS_12, stS_13, stS_14, stS_15, asgT, unpT, tupT, parS, argsP, parG, immE, varE, lift, un1, op2, andE, orE, notE, ifE, chainE, tru, argsD, tupE, lstE, argsO, toPar, backs, callE, vw, vws, fzO, gt, pt, bltE, isiE, isisE, tyD, imB, imI, cmpF, cmpD, binD_add, binD_sub, augD, sliE, optE, sliD, itE, argsI, hid_im, hid_tl, hid_n, mutE, mtF, appF, isOl, setiS, setF, endF, outO, finsOf_f, finsOf_t, finsOf_n, fxOf, raiseS, seqF, seqD, nameT, unhS, List.replicate, List.cons_append, List.nil_append, List.contains, List.elem, Option.map, Option.bind, ltD_int, leD_int, eqD_int, eqD_str, Bool.not_true, Bool.not_false, Bool.false_eq_true, if_true, if_false]
  have s1 : b__law_low_1 k [im (.int t), im (.int b), im (.int b), im (.int t)] = .nx [im (.int t), im (.int b), im (.int (Int.gcd t b)), im (.int 0)] := by
    rw [Int.gcd_comm t b]
    exact whl_low _ _ 490 1000 b t (by omega) h0 h3 (by decide)
  show endF [false, false] (seqS _ [im (.int t), im (.int b), none, none]) = _
  rw [seqS_nx s0, seqS_nx s1]
  simp only [b__law_low_2, b__law_low_3, im, p, decide_true, binD_div (j := (Int.gcd t b : Int)) (by omega) (by omega), low, seqS, SR.bind, Res.st, Res.bind, retS, exprS, ifS, asgS, nameG, stS_n, stS_1, stS_2, stS_3, stS_4, stS_5, stS_6, stS_7, stS_8, stS_9, stS_10, stS_11, stS_12, stS_13, stS_14, stS_15, asgT, unpT, tupT, parS, argsP, parG, immE, varE, lift, un1, op2, andE, orE, notE, ifE, chainE, tru, argsD, tupE, lstE, argsO, toPar, backs, callE, vw, vws, fzO, gt, pt, bltE, isiE, isisE, tyD, imB, imI, cmpF, cmpD, binD_add, binD_sub, augD, sliE, optE, sliD, itE, argsI, hid_im, hid_tl, hid_n, mutE, mtF, appF, isOl, setiS, setF, endF, outO, finsOf_f, finsOf_t, finsOf_n, fxOf, raiseS, seqF, seqD, nameT, unhS, List.replicate, List.cons_append, List.nil_append, List.contains, List.elem, Option.map, Option.bind, ltD_int, leD_int, eqD_int, eqD_str, Bool.not_true, Bool.not_false, Bool.false_eq_true, if_true, if_false]
/-! ### vats -/
/-- a vat: scoops, pails -/
def Va (v : Int × Int) : Prop := 0 ≤ v.1 ∧ v.1 ≤ 50 ∧ 1 ≤ v.2 ∧ v.2 ≤ 20
theorem big_ge : (1000000 : Int) < big := by decide +kernel
theorem gcd_le_of {t b : Int} (h : 1 ≤ b) : (Int.gcd t b : Int) ≤ b := by
  have := Int.gcd_le_right (a := t) (b := b) (by omega)
  omega
theorem lw_small {t b : Int} (h0 : 0 ≤ t) (h1 : 1 ≤ b) (h2 : b ≤ 1000000) (h3 : t ≤ 1000000) : Lw t b := by
  have := big_ge
  have := gcd_le_of (t := t) h1
  exact ⟨h0, h1, by omega, by omega, by omega⟩
theorem low_ok {t b : Int} (h0 : 0 ≤ t) (h1 : 1 ≤ b) : 0 ≤ (low t b).1 ∧ (low t b).1 ≤ t ∧ 1 ≤ (low t b).2 ∧ (low t b).2 ≤ b ∧ Int.gcd (low t b).1 (low t b).2 = 1 := by
  obtain ⟨n, rfl⟩ := Int.eq_ofNat_of_zero_le h0
  obtain ⟨m, rfl⟩ := Int.eq_ofNat_of_zero_le (show 0 ≤ b by omega)
  unfold low
  rw [Int.gcd_natCast_natCast]
  have hm : 0 < m := by omega
  have hg : 0 < Nat.gcd n m := Nat.gcd_pos_of_pos_right n hm
  have e1 : (n : Int).fdiv (Nat.gcd n m : Nat) = ((n / Nat.gcd n m : Nat) : Int) := by rw [Int.fdiv_eq_ediv_of_nonneg _ (by omega)]; rfl
  have e2 : (m : Int).fdiv (Nat.gcd n m : Nat) = ((m / Nat.gcd n m : Nat) : Int) := by rw [Int.fdiv_eq_ediv_of_nonneg _ (by omega)]; rfl
  rw [e1, e2]
  have d1 : 0 < m / Nat.gcd n m := Nat.div_pos (Nat.gcd_le_right n hm) hg
  have d3 : m / Nat.gcd n m ≤ m := Nat.div_le_self ..
  have d4 : n / Nat.gcd n m ≤ n := Nat.div_le_self ..
  refine ⟨Int.natCast_nonneg _, by show ((n / Nat.gcd n m : Nat) : Int) ≤ n; omega, by show (1 : Int) ≤ ((m / Nat.gcd n m : Nat) : Int); omega, by show ((m / Nat.gcd n m : Nat) : Int) ≤ m; omega, ?_⟩
  show Int.gcd ((n / Nat.gcd n m : Nat) : Int) ((m / Nat.gcd n m : Nat) : Int) = 1
  rw [Int.gcd_natCast_natCast, Nat.gcd_div (Nat.gcd_dvd_left n m) (Nat.gcd_dvd_right n m)]
  exact Nat.div_self hg
theorem small_of {l : Int} (h1 : -1000000 ≤ l) (h2 : l ≤ 1000000) : small64 l = true := by simp [small64]; omega
theorem binD_mulr {i j : Int} (h : small64 j = true) : binD .Mult (.int i) (.int j) = some (.im (.int (i * j))) := by simp [binD, h, imI]
theorem t_is_vat (k : Nat) {v : Int × Int} (h : Va v) : P.run (k + 5) d_is_vat [im (pr v)] = .ok (.im (.bool true)) [none] := by
  obtain ⟨h1, h2, h3, h4⟩ := h
  rw [r_is_vat (k + 2)]
  simp only [b_is_vat_0, im, t_is_sized (k + 1) (xs := [PyData.int v.1, .int v.2]) (lo := 2) (hi := 2) (by simp) (by simp), sub0, sub1, t_is_within k h1 h2, t_is_within k h3 h4, seqS, SR.bind, Res.st, Res.bind, retS, exprS, ifS, asgS, nameG, stS_n, stS_1, stS_2, stS_3, stS_4, stS_5, stS_6, stS_7, stS_8, stS_9, stS_10, stS_11, stS_12, stS_13, stS_14, stS_15, asgT, unpT, tupT, parS, argsP, parG, immE, varE, lift, un1, op2, andE, orE, notE, ifE, chainE, tru, argsD, tupE, lstE, argsO, toPar, backs, callE, vw, vws, fzO, gt, pt, bltE, isiE, isisE, tyD, imB, imI, cmpF, cmpD, binD_add, binD_sub, augD, sliE, optE, sliD, itE, argsI, hid_im, hid_tl, hid_n, mutE, mtF, appF, isOl, setiS, setF, endF, outO, finsOf_f, finsOf_t, finsOf_n, fxOf, raiseS, seqF, seqD, nameT, unhS, List.replicate, List.cons_append, List.nil_append, List.contains, List.elem, Option.map, Option.bind, ltD_int, leD_int, eqD_int, eqD_str, Bool.not_true, Bool.not_false, Bool.false_eq_true, if_true, if_false]
theorem t_check_vat (k : Nat) {v : Int × Int} (h : Va v) : P.run (k + 6) d_check_vat [im (pr v)] = .ok (.im .none) [none] := by
  rw [r_check_vat (k + 3)]
  simp only [b_check_vat_0, im, t_is_vat k h, seqS, SR.bind, Res.st, Res.bind, retS, exprS, ifS, asgS, nameG, stS_n, stS_1, stS_2, stS_3, stS_4, stS_5, stS_6, stS_7, stS_8, stS_9, stS_10, stS_11, stS_12, stS_13, stS_14, stS_15, asgT, unpT, tupT, parS, argsP, parG, immE, varE, lift, un1, op2, andE, orE, notE, ifE, chainE, tru, argsD, tupE, lstE, argsO, toPar, backs, callE, vw, vws, fzO, gt, pt, bltE, isiE, isisE, tyD, imB, imI, cmpF, cmpD, binD_add, binD_sub, augD, sliE, optE, sliD, itE, argsI, hid_im, hid_tl, hid_n, mutE, mtF, appF, isOl, setiS, setF, endF, outO, finsOf_f, finsOf_t, finsOf_n, fxOf, raiseS, seqF, seqD, nameT, unhS, List.replicate, List.cons_append, List.nil_append, List.contains, List.elem, Option.map, Option.bind, ltD_int, leD_int, eqD_int, eqD_str, Bool.not_true, Bool.not_false, Bool.false_eq_true, if_true, if_false]
theorem t_strength (k : Nat) {v : Int × Int} (h : Va v) : P.run (k + 7) d_strength_of [im (pr v)] = .ok (.im (pr (low v.1 v.2))) [none] := by
  obtain ⟨h1, h2, h3, h4⟩ := h
  have hv : Va v := ⟨h1, h2, h3, h4⟩
  rw [r_strength_of (k + 4)]
  simp only [b_strength_of_0, b_strength_of_1, im, t_check_vat k hv, sub0, sub1, t_share (k + 2) (lw_small h1 h3 (by omega) (by omega)), seqS, SR.bind, Res.st, Res.bind, retS, exprS, ifS, asgS, nameG, stS_n, stS_1, stS_2, stS_3, stS_4, stS_5, stS_6, stS_7, stS_8, stS_9, stS_10, stS_11, stS_12, stS_13, stS_14, stS_15, asgT, unpT, tupT, parS, argsP, parG, immE, varE, lift, un1, op2, andE, orE, notE, ifE, chainE, tru, argsD, tupE, lstE, argsO, toPar, backs, callE, vw, vws, fzO, gt, pt, bltE, isiE, isisE, tyD, imB, imI, cmpF, cmpD, binD_add, binD_sub, augD, sliE, optE, sliD, itE, argsI, hid_im, hid_tl, hid_n, mutE, mtF, appF, isOl, setiS, setF, endF, outO, finsOf_f, finsOf_t, finsOf_n, fxOf, raiseS, seqF, seqD, nameT, unhS, List.replicate, List.cons_append, List.nil_append, List.contains, List.elem, Option.map, Option.bind, ltD_int, leD_int, eqD_int, eqD_str, Bool.not_true, Bool.not_false, Bool.false_eq_true, if_true, if_false]
end Lw
end
section
set_option maxHeartbeats 1000000
namespace Lw
open PySem Ev
abbrev ls (s b : Int × Int) : Prop := s.1 * b.2 < b.1 * s.2
theorem t_is_less (k : Nat) {s b : Int × Int} (h1 : small64 b.1 = true) (h2 : small64 b.2 = true) : P.run (k + 3) d_is_less [im (pr s), im (pr b)] = .ok (.im (.bool (decide (ls s b)))) [none, none] := by
  rw [r_is_less]
  simp only [b_is_less_0, im, sub0, sub1, binD_mulr h2, binD_mul h1, ls, seqS, SR.bind, Res.st, Res.bind, retS, exprS, ifS, asgS, nameG, stS_n, stS_1, stS_2, stS_3, stS_4, stS_5, stS_6, stS_7, stS_8, stS_9, stS_10, stS_11, stS_12, stS_13, stS_14, stS_15, asgT, unpT, tupT, parS, argsP, parG, immE, varE, lift, un1, op2, andE, orE, notE, ifE, chainE, tru, argsD, tupE, lstE, argsO, toPar, backs, callE, vw, vws, fzO, gt, pt, bltE, isiE, isisE, tyD, imB, imI, cmpF, cmpD, binD_add, binD_sub, augD, sliE, optE, sliD, itE, argsI, hid_im, hid_tl, hid_n, mutE, mtF, appF, isOl, setiS, setF, endF, outO, finsOf_f, finsOf_t, finsOf_n, fxOf, raiseS, seqF, seqD, nameT, unhS, List.replicate, List.cons_append, List.nil_append, List.contains, List.elem, Option.map, Option.bind, ltD_int, leD_int, eqD_int, eqD_str, Bool.not_true, Bool.not_false, Bool.false_eq_true, if_true, if_false]
theorem t_lless (k : Nat) {s b : Int × Int} (h1 : small64 b.1 = true) (h2 : small64 b.2 = true) : P.run (k + 3) d__law_less [im (pr s), im (pr b)] = .ok (.im (.bool (decide (ls s b)))) [none, none] := by
  rw [r__law_less]
  simp only [b__law_less_0, im, sub0, sub1, binD_mulr h2, binD_mul h1, ls, seqS, SR.bind, Res.st, Res.bind, retS, exprS, ifS, asgS, nameG, stS_n, stS_1, stS_2, stS_3, stS_4, stS_5, stS_6, stS_7, stS_8, stS_9, stS_10, stS_11, stS_12, stS_13, stS_14, stS_15, asgT, unpT, tupT, parS, argsP, parG, immE, varE, lift, un1, op2, andE, orE, notE, ifE, chainE, tru, argsD, tupE, lstE, argsO, toPar, backs, callE, vw, vws, fzO, gt, pt, bltE, isiE, isisE, tyD, imB, imI, cmpF, cmpD, binD_add, binD_sub, augD, sliE, optE, sliD, itE, argsI, hid_im, hid_tl, hid_n, mutE, mtF, appF, isOl, setiS, setF, endF, outO, finsOf_f, finsOf_t, finsOf_n, fxOf, raiseS, seqF, seqD, nameT, unhS, List.replicate, List.cons_append, List.nil_append, List.contains, List.elem, Option.map, Option.bind, ltD_int, leD_int, eqD_int, eqD_str, Bool.not_true, Bool.not_false, Bool.false_eq_true, if_true, if_false]
theorem t_is_share (k : Nat) {p : Int × Int} (h1 : 0 ≤ p.1) (h2 : 1 ≤ p.2) (h3 : p.2 ≤ 10000) (h4 : Int.gcd p.1 p.2 = 1) : P.run (k + 4) d_is_share [im (pr p)] = .ok (.im (.bool true)) [none] := by
  rw [r_is_share (k + 1)]
  have e : c_is_share_0 (k + 1) [im (pr p), none] = .ok (.tl (bL ([PyData.int p.1, .int p.2].map fun _ => true))) [im (pr p), none] := by
    rw [all_true]
    refine compE_map (fun _ => .bool true) rfl rfl (by simp [sizeMax]) fun d hd => ?_
    have : ∃ i, d = .int i := by
      simp only [List.mem_cons, List.not_mem_nil, or_false] at hd
      rcases hd with rfl | rfl <;> exact ⟨_, rfl⟩
    obtain ⟨i, rfl⟩ := this
    refine ⟨_, rfl, rfl, ?_, rfl⟩
    simp only [ce_is_share_0, im, wipeS, t_is_integer k, seqS, SR.bind, Res.st, Res.bind, retS, exprS, ifS, asgS, nameG, stS_n, stS_1, stS_2, stS_3, stS_4, stS_5, stS_6, stS_7, stS_8, stS_9, stS_10, stS_11, stS_12, stS_13, stS_14, stS_15, asgT, unpT, tupT, parS, argsP, parG, immE, varE, lift, un1, op2, andE, orE, notE, ifE, chainE, tru, argsD, tupE, lstE, argsO, toPar, backs, callE, vw, vws, fzO, gt, pt, bltE, isiE, isisE, tyD, imB, imI, cmpF, cmpD, binD_add, binD_sub, augD, sliE, optE, sliD, itE, argsI, hid_im, hid_tl, hid_n, mutE, mtF, appF, isOl, setiS, setF, endF, outO, finsOf_f, finsOf_t, finsOf_n, fxOf, raiseS, seqF, seqD, nameT, unhS, List.replicate, List.cons_append, List.nil_append, List.contains, List.elem, Option.map, Option.bind, ltD_int, leD_int, eqD_int, eqD_str, Bool.not_true, Bool.not_false, Bool.false_eq_true, if_true, if_false]
  have bg := big_ge
  have g := t_common k (a := p.1) (b := p.2) h1 (by omega) (by omega)
  rw [h4] at g
  have n : 0 < p.2 := by omega
  have z : ((1 : Nat) : Int) = 1 := rfl
  simp only [im] at g
  simp only [b_is_share_0, b_is_share_1, im, t_is_sized k (xs := [PyData.int p.1, .int p.2]) (lo := 2) (hi := 2) (by simp) (by simp), e, bltD_allT, sub0, sub1, g, n, z, decide_true, seqS, SR.bind, Res.st, Res.bind, retS, exprS, ifS, asgS, nameG, stS_n, stS_1, stS_2, stS_3, stS_4, stS_5, stS_6, stS_7, stS_8, stS_9, stS_10, stS_11, stS_12, stS_13, stS_14, stS_15, asgT, unpT, tupT, parS, argsP, parG, immE, varE, lift, un1, op2, andE, orE, notE, ifE, chainE, tru, argsD, tupE, lstE, argsO, toPar, backs, callE, vw, vws, fzO, gt, pt, bltE, isiE, isisE, tyD, imB, imI, cmpF, cmpD, binD_add, binD_sub, augD, sliE, optE, sliD, itE, argsI, hid_im, hid_tl, hid_n, mutE, mtF, appF, isOl, setiS, setF, endF, outO, finsOf_f, finsOf_t, finsOf_n, fxOf, raiseS, seqF, seqD, nameT, unhS, List.replicate, List.cons_append, List.nil_append, List.contains, List.elem, Option.map, Option.bind, ltD_int, leD_int, eqD_int, eqD_str, Bool.not_true, Bool.not_false, Bool.false_eq_true, if_true, if_false]
/-! ### told alike -/
theorem is_int (k : Nat) (i : Int) : P.run (k + 3) d__law_is [im (.int i), im (.int i)] = .ok (.im (.bool true)) [none, none] := by
  rw [r__law_is]
  have e : eqD (.bool false) (.bool false) = some true := eqD_self shp_bool
  have s0 : b__law_is_0 k [im (.int i), im (.int i), none, none, none] = .nx [im (.int i), im (.int i), none, none, none] := by kernel_rfl
  have s1 : b__law_is_1 k [im (.int i), im (.int i), none, none, none] = .nx [im (.int i), im (.int i), none, none, none] := by kernel_rfl
  have s2 : b__law_is_2 k [im (.int i), im (.int i), none, none, none] = .nx [im (.int i), im (.int i), none, none, none] := by kernel_rfl
  have s3 : b__law_is_3 k [im (.int i), im (.int i), none, none, none] = .rt (.im (.bool true)) [im (.int i), im (.int i), none, none, none] := by
    simp only [b__law_is_3, im, reduceCtorEq, decide_true, decide_false, e, seqS, SR.bind, Res.st, Res.bind, retS, exprS, ifS, asgS, nameG, stS_n, stS_1, stS_2, stS_3, stS_4, stS_5, stS_6, stS_7, stS_8, stS_9, stS_10, stS_11, stS_12, stS_13, stS_14, stS_15, asgT, unpT, tupT, parS, argsP, parG, immE, varE, lift, un1, op2, andE, orE, notE, ifE, chainE, tru, argsD, tupE, lstE, argsO, toPar, backs, callE, vw, vws, fzO, gt, pt, bltE, isiE, isisE, tyD, imB, imI, cmpF, cmpD, binD_add, binD_sub, augD, sliE, optE, sliD, itE, argsI, hid_im, hid_tl, hid_n, mutE, mtF, appF, isOl, setiS, setF, endF, outO, finsOf_f, finsOf_t, finsOf_n, fxOf, raiseS, seqF, seqD, nameT, unhS, List.replicate, List.cons_append, List.nil_append, List.contains, List.elem, Option.map, Option.bind, ltD_int, leD_int, eqD_int, eqD_str, Bool.not_true, Bool.not_false, Bool.false_eq_true, if_true, if_false]
  show endF [false, false] (seqS _ [im (.int i), im (.int i), none, none, none]) = _
  rw [seqS_nx s0, seqS_nx s1, seqS_nx s2, seqS_one, s3]
  rfl
theorem is_non (k : Nat) : P.run (k + 3) d__law_is [im .none, im .none] = .ok (.im (.bool true)) [none, none] := by
  rw [r__law_is] <;> kernel_rfl
theorem zip_self {d : D} : ∀ {ds : List D}, d ∈ zipI ds ds → ∃ x ∈ ds, d = .tuple [x, x]
  | [], h => by simp [zipI] at h
  | x :: ds, h => by
    rw [zipI] at h
    rcases List.mem_cons.mp h with rfl | h
    · exact ⟨x, List.mem_cons_self, rfl⟩
    · obtain ⟨y, hy, e⟩ := zip_self h
      exact ⟨y, List.mem_cons_of_mem _ hy, e⟩
theorem is_tup (k : Nat) {ds : List D} (hl : ds.length < 100) (h : ∀ d ∈ ds, P.run (k + 3) d__law_is [im d, im d] = .ok (.im (.bool true)) [none, none]) : P.run (k + 4) d__law_is [im (.tuple ds), im (.tuple ds)] = .ok (.im (.bool true)) [none, none] := by
  rw [r__law_is (k + 1)]
  have e : c__law_is_0 (k + 1) [im (.tuple ds), im (.tuple ds), none, none, none] = .ok (.tl (bL ((zipI ds ds).map fun _ => true))) [im (.tuple ds), im (.tuple ds), none, none, none] := by
    rw [all_true]
    refine compE_map (fun _ => .bool true) rfl rfl (by rw [zipI_len]; simp [sizeMax]; omega) fun d hd => ?_
    obtain ⟨x, hx, rfl⟩ := zip_self hd
    refine ⟨[im (.tuple ds), im (.tuple ds), none, im x, im x], rfl, rfl, ?_, rfl⟩
    have hx := h x hx
    simp only [im] at hx
    simp only [ce__law_is_0, im, hx, seqS, SR.bind, Res.st, Res.bind, retS, exprS, ifS, asgS, nameG, stS_n, stS_1, stS_2, stS_3, stS_4, stS_5, stS_6, stS_7, stS_8, stS_9, stS_10, stS_11, stS_12, stS_13, stS_14, stS_15, asgT, unpT, tupT, parS, argsP, parG, immE, varE, lift, un1, op2, andE, orE, notE, ifE, chainE, tru, argsD, tupE, lstE, argsO, toPar, backs, callE, vw, vws, fzO, gt, pt, bltE, isiE, isisE, tyD, imB, imI, cmpF, cmpD, binD_add, binD_sub, augD, sliE, optE, sliD, itE, argsI, hid_im, hid_tl, hid_n, mutE, mtF, appF, isOl, setiS, setF, endF, outO, finsOf_f, finsOf_t, finsOf_n, fxOf, raiseS, seqF, seqD, nameT, unhS, List.replicate, List.cons_append, List.nil_append, List.contains, List.elem, Option.map, Option.bind, ltD_int, leD_int, eqD_int, eqD_str, Bool.not_true, Bool.not_false, Bool.false_eq_true, if_true, if_false]
  have ba : bltD .all [.list (bL ((zipI ds ds).map fun _ => true))] = some (.im (.bool true)) := bltD_allT
  have s0 : b__law_is_0 (k + 1) [im (.tuple ds), im (.tuple ds), none, none, none] = .rt (.im (.bool true)) [im (.tuple ds), im (.tuple ds), none, none, none] := by
    refine (ifS_true (e1 := [im (.tuple ds), im (.tuple ds), none, none, none]) (by kernel_rfl)).trans ?_
    rw [seqS_nx (e1 := [im (.tuple ds), im (.tuple ds), none, none, none]) (by kernel_rfl), seqS_one]
    have bl : bltD .len [.tuple ds] = some (.im (.int ds.length)) := rfl
    simp only [im] at e
    simp only [im, e, bl, ba, decide_true, seqS, SR.bind, Res.st, Res.bind, retS, exprS, ifS, asgS, nameG, stS_n, stS_1, stS_2, stS_3, stS_4, stS_5, stS_6, stS_7, stS_8, stS_9, stS_10, stS_11, stS_12, stS_13, stS_14, stS_15, asgT, unpT, tupT, parS, argsP, parG, immE, varE, lift, un1, op2, andE, orE, notE, ifE, chainE, tru, argsD, tupE, lstE, argsO, toPar, backs, callE, vw, vws, fzO, gt, pt, bltE, isiE, isisE, tyD, imB, imI, cmpF, cmpD, binD_add, binD_sub, augD, sliE, optE, sliD, itE, argsI, hid_im, hid_tl, hid_n, mutE, mtF, appF, isOl, setiS, setF, endF, outO, finsOf_f, finsOf_t, finsOf_n, fxOf, raiseS, seqF, seqD, nameT, unhS, List.replicate, List.cons_append, List.nil_append, List.contains, List.elem, Option.map, Option.bind, ltD_int, leD_int, eqD_int, eqD_str, Bool.not_true, Bool.not_false, Bool.false_eq_true, if_true, if_false]
  show endF [false, false] (seqS _ [im (.tuple ds), im (.tuple ds), none, none, none]) = _
  rw [seqS_rt s0]
  rfl
theorem t_draw (k : Nat) {h : Hand} {m : Int} (ok : h.ok) (hm : 0 < m) (hm2 : m < 1073741824) : ∃ (h' : Hand) (i : Int), P.run (k + 3) d__law_draw [some (.ol h.ds), some (.im (.int m))] = .ok (.im (.int i)) [some (.ol h'.ds), none] ∧ 0 ≤ i ∧ i < m ∧ h'.ok := by
  rw [r__law_draw]
  exact drew_ok ok hm hm2
theorem sub_lst {xs : List D} {i : Int} (i0 : 0 ≤ i) (i1 : i < xs.length) : ∃ x ∈ xs, subD (.list xs) (.int i) = some (.im x) := by
  have hi : i.toNat < xs.length := by omega
  refine ⟨xs[i.toNat], List.getElem_mem _, ?_⟩
  simp only [subD, ixD_at i0 i1, List.getElem?_eq_getElem hi]
  rfl
theorem t_some (k : Nat) {h : Hand} {xs : List D} (ok : h.ok) (hx : 0 < xs.length) (hx2 : xs.length < 1000) : ∃ (h' : Hand) (x : D), P.run (k + 4) d__law_some [some (.ol h.ds), some (.ol xs)] = .ok (.im x) [some (.ol h'.ds), none] ∧ x ∈ xs ∧ h'.ok := by
  obtain ⟨h', i, e, i0, i1, ok'⟩ := t_draw k (m := (xs.length : Int)) ok (by omega) (by omega)
  obtain ⟨x, hm, g⟩ := sub_lst i0 i1
  refine ⟨h', x, ?_, hm, ok'⟩
  rw [r__law_some (k + 1)]
  simp only [b__law_some_0, e, g, bltD, seqS, SR.bind, Res.st, Res.bind, retS, exprS, ifS, asgS, nameG, stS_n, stS_1, stS_2, stS_3, stS_4, stS_5, stS_6, stS_7, stS_8, stS_9, stS_10, stS_11, stS_12, stS_13, stS_14, stS_15, asgT, unpT, tupT, parS, argsP, parG, immE, varE, lift, un1, op2, andE, orE, notE, ifE, chainE, tru, argsD, tupE, lstE, argsO, toPar, backs, callE, vw, vws, fzO, gt, pt, bltE, isiE, isisE, tyD, imB, imI, cmpF, cmpD, binD_add, binD_sub, augD, sliE, optE, sliD, itE, argsI, hid_im, hid_tl, hid_n, mutE, mtF, appF, isOl, setiS, setF, endF, outO, finsOf_f, finsOf_t, finsOf_n, fxOf, raiseS, seqF, seqD, nameT, unhS, List.replicate, List.cons_append, List.nil_append, List.contains, List.elem, Option.map, Option.bind, ltD_int, leD_int, eqD_int, eqD_str, Bool.not_true, Bool.not_false, Bool.false_eq_true, if_true, if_false]
theorem shpNs_all {n : Nat} : ∀ {xs : List D}, (∀ d ∈ xs, shpN n d = true) → shpNs n xs = true
  | [], _ => shpNs_nil
  | x :: xs, h => by rw [shpNs_cons, h x List.mem_cons_self, shpNs_all fun d hd => h d (List.mem_cons_of_mem _ hd)]; rfl
theorem rangeI_mem : ∀ {n : Nat} {lo : Int} {d : D}, d ∈ rangeI lo n → ∃ i, d = .int i ∧ lo ≤ i ∧ i < lo + n
  | 0, lo, d, h => by simp [rangeI] at h
  | n + 1, lo, d, h => by
    rw [rangeI] at h
    rcases List.mem_cons.mp h with rfl | h
    · exact ⟨lo, rfl, by omega, by omega⟩
    · obtain ⟨i, e, h1, h2⟩ := rangeI_mem h
      exact ⟨i, e, by omega, by omega⟩
def trF (s : Int) : D → D
  | .int p => .tuple [.int (s + p), .int s, .int p]
  | d => d
theorem t_minus (k : Nat) {a b : Int × Int} (ha : small64 a.1 = true) (ha2 : small64 a.2 = true) (hb : small64 b.1 = true) (hb2 : small64 b.2 = true) (l : Lw (a.1 * b.2 - b.1 * a.2) (a.2 * b.2)) : P.run (k + 5) d_minus [im (pr a), im (pr b)] = .ok (.im (pr (low (a.1 * b.2 - b.1 * a.2) (a.2 * b.2)))) [none, none] := by
  rw [r_minus (k + 2)]
  have sh := t_share k l
  simp only [im] at sh
  simp only [b_minus_0, im, sub0, sub1, binD_mul ha, binD_mul hb, binD_mul ha2, sh, seqS, SR.bind, Res.st, Res.bind, retS, exprS, ifS, asgS, nameG, stS_n, stS_1, stS_2, stS_3, stS_4, stS_5, stS_6, stS_7, stS_8, stS_9, stS_10, stS_11, stS_12, stS_13, stS_14, stS_15, asgT, unpT, tupT, parS, argsP, parG, immE, varE, lift, un1, op2, andE, orE, notE, ifE, chainE, tru, argsD, tupE, lstE, argsO, toPar, backs, callE, vw, vws, fzO, gt, pt, bltE, isiE, isisE, tyD, imB, imI, cmpF, cmpD, binD_add, binD_sub, augD, sliE, optE, sliD, itE, argsI, hid_im, hid_tl, hid_n, mutE, mtF, appF, isOl, setiS, setF, endF, outO, finsOf_f, finsOf_t, finsOf_n, fxOf, raiseS, seqF, seqD, nameT, unhS, List.replicate, List.cons_append, List.nil_append, List.contains, List.elem, Option.map, Option.bind, ltD_int, leD_int, eqD_int, eqD_str, Bool.not_true, Bool.not_false, Bool.false_eq_true, if_true, if_false]
end Lw
end
section
set_option maxHeartbeats 1000000
namespace Lw
open PySem Ev
/-- a share of so small numbers -/
def Sm (s : Int × Int) : Prop := 0 ≤ s.1 ∧ s.1 ≤ 100 ∧ 1 ≤ s.2 ∧ s.2 ≤ 100 ∧ Int.gcd s.1 s.2 = 1
theorem Sm.s1 {s : Int × Int} (h : Sm s) : small64 s.1 = true := small_of (by have := h.1; omega) (by have := h.2.1; omega)
theorem Sm.s2 {s : Int × Int} (h : Sm s) : small64 s.2 = true := small_of (by have := h.2.2.1; omega) (by have := h.2.2.2.1; omega)
theorem sm_low {t b : Int} (h0 : 0 ≤ t) (h1 : t ≤ 100) (h2 : 1 ≤ b) (h3 : b ≤ 100) : Sm (low t b) := by
  obtain ⟨y1, y2, y3, y4, y5⟩ := low_ok h0 h2
  exact ⟨y1, by omega, y3, by omega, y5⟩
theorem mul_le {a b m n : Int} (a0 : 0 ≤ a) (am : a ≤ m) (b0 : 0 ≤ b) (bn : b ≤ n) : 0 ≤ a * b ∧ a * b ≤ m * n := by
  refine ⟨Int.mul_nonneg a0 b0, ?_⟩
  calc a * b ≤ m * b := Int.mul_le_mul_of_nonneg_right am b0
    _ ≤ m * n := Int.mul_le_mul_of_nonneg_left bn (by omega)
theorem mul_pos' {a b : Int} (a0 : 1 ≤ a) (b0 : 1 ≤ b) : 1 ≤ a * b := by
  have := Int.mul_pos (show 0 < a by omega) (show 0 < b by omega)
  omega
/-- how far off -/
def far (lo hi s : Int × Int) : Int × Int :=
  if ls s lo then low (lo.1 * s.2 - s.1 * lo.2) (lo.2 * s.2)
  else if ls hi s then low (s.1 * hi.2 - hi.1 * s.2) (s.2 * hi.2) else (0, 1)
def btw (lo hi s : Int × Int) : Bool := !decide (ls s lo) && !decide (ls hi s)
/-- what may be made of two shares -/
theorem dif {a b : Int × Int} (ha : Sm a) (hb : Sm b) (h : ls b a) : Lw (a.1 * b.2 - b.1 * a.2) (a.2 * b.2) ∧ 1 ≤ a.1 * b.2 - b.1 * a.2 ∧ a.1 * b.2 - b.1 * a.2 ≤ 10000 ∧ 1 ≤ a.2 * b.2 ∧ a.2 * b.2 ≤ 10000 := by
  have h' : b.1 * a.2 < a.1 * b.2 := h
  obtain ⟨a1, a2, a3, a4, _⟩ := ha
  obtain ⟨b1, b2, b3, b4, _⟩ := hb
  have m1 := mul_le a1 a2 (show 0 ≤ b.2 by omega) b4
  have m2 := mul_le b1 b2 (show 0 ≤ a.2 by omega) a4
  have m3 := mul_le (show 0 ≤ a.2 by omega) a4 (show 0 ≤ b.2 by omega) b4
  have m4 := mul_pos' a3 b3
  exact ⟨lw_small (by omega) m4 (by omega) (by omega), by omega, by omega, m4, by omega⟩
/-- a distance: a share of not so large numbers -/
def Fr (q : Int × Int) : Prop := 0 ≤ q.1 ∧ q.1 ≤ 10000 ∧ 1 ≤ q.2 ∧ q.2 ≤ 10000 ∧ Int.gcd q.1 q.2 = 1
theorem Fr.s1 {s : Int × Int} (h : Fr s) : small64 s.1 = true := small_of (by have := h.1; omega) (by have := h.2.1; omega)
theorem Fr.s2 {s : Int × Int} (h : Fr s) : small64 s.2 = true := small_of (by have := h.2.2.1; omega) (by have := h.2.2.2.1; omega)
theorem fr_far {lo hi s : Int × Int} (h1 : Sm lo) (h2 : Sm hi) (h3 : Sm s) : Fr (far lo hi s) ∧ (far lo hi s = (0, 1) ↔ btw lo hi s = true) := by
  have key : ∀ t b : Int, 1 ≤ t → t ≤ 10000 → 1 ≤ b → b ≤ 10000 → Fr (low t b) ∧ ¬ low t b = (0, 1) := fun t b t1 t2 b1 b2 => by
    obtain ⟨y1, y2, y3, y4, y5⟩ := low_ok (show 0 ≤ t by omega) b1
    refine ⟨⟨y1, by omega, y3, by omega, y5⟩, fun e => ?_⟩
    have e1 : (low t b).1 = 0 := by rw [e]
    unfold low at e1
    have d : (Int.gcd t b : Int) ∣ t := Int.gcd_dvd_left ..
    have : t = 0 := by
      have := Int.fdiv_mul_cancel d
      simp only at e1
      rw [e1] at this
      omega
    omega
  unfold far btw
  by_cases z : ls s lo
  · obtain ⟨_, d1, d2, d3, d4⟩ := dif h1 h3 z
    obtain ⟨k1, k2⟩ := key _ _ d1 d2 d3 d4
    rw [if_pos z]
    refine ⟨k1, fun e => absurd e k2, fun e => ?_⟩
    rw [decide_eq_true z] at e
    cases e
  · rw [if_neg z]
    by_cases y : ls hi s
    · obtain ⟨_, d1, d2, d3, d4⟩ := dif h3 h2 y
      obtain ⟨k1, k2⟩ := key _ _ d1 d2 d3 d4
      rw [if_pos y]
      refine ⟨k1, fun e => absurd e k2, fun e => ?_⟩
      rw [decide_eq_true y, Bool.not_true, Bool.and_false] at e
      cases e
    · rw [if_neg y, decide_eq_false z, decide_eq_false y]
      exact ⟨⟨by decide, by decide, by decide, by decide, by decide⟩, fun _ => rfl, fun _ => rfl⟩
/-- bounds -/
abbrev bo (lo hi : Int × Int) : D := .tuple [pr lo, pr hi]
theorem bo0 {lo hi : Int × Int} : subD (bo lo hi) (.int 0) = some (.im (pr lo)) := rfl
theorem bo1 {lo hi : Int × Int} : subD (bo lo hi) (.int 1) = some (.im (pr hi)) := rfl
theorem t_between (k : Nat) {lo hi s : Int × Int} (hl : Sm lo) (h : Sm s) : P.run (k + 4) d_is_between [im (pr s), im (bo lo hi)] = .ok (.im (.bool (btw lo hi s))) [none, none] := by
  rw [r_is_between (k + 1)]
  have a := t_is_less k (s := s) (b := lo) hl.s1 hl.s2
  have b := t_is_less k (s := hi) (b := s) h.s1 h.s2
  unfold btw
  simp only [im] at a b
  by_cases z : ls s lo
  · simp only [b_is_between_0, im, bo0, bo1, a, b, z, decide_true, Bool.not_true, Bool.false_and, seqS, SR.bind, Res.st, Res.bind, retS, exprS, ifS, asgS, nameG, stS_n, stS_1, stS_2, stS_3, stS_4, stS_5, stS_6, stS_7, stS_8, stS_9, stS_10, stS_11, stS_12, stS_13, stS_14, stS_15, asgT, unpT, tupT, parS, argsP, parG, immE, varE, lift, un1, op2, andE, orE, notE, ifE, chainE, tru, argsD, tupE, lstE, argsO, toPar, backs, callE, vw, vws, fzO, gt, pt, bltE, isiE, isisE, tyD, imB, imI, cmpF, cmpD, binD_add, binD_sub, augD, sliE, optE, sliD, itE, argsI, hid_im, hid_tl, hid_n, mutE, mtF, appF, isOl, setiS, setF, endF, outO, finsOf_f, finsOf_t, finsOf_n, fxOf, raiseS, seqF, seqD, nameT, unhS, List.replicate, List.cons_append, List.nil_append, List.contains, List.elem, Option.map, Option.bind, ltD_int, leD_int, eqD_int, eqD_str, Bool.not_true, Bool.not_false, Bool.false_eq_true, if_true, if_false]
  · simp only [b_is_between_0, im, bo0, bo1, a, b, z, decide_false, Bool.not_false, Bool.true_and, seqS, SR.bind, Res.st, Res.bind, retS, exprS, ifS, asgS, nameG, stS_n, stS_1, stS_2, stS_3, stS_4, stS_5, stS_6, stS_7, stS_8, stS_9, stS_10, stS_11, stS_12, stS_13, stS_14, stS_15, asgT, unpT, tupT, parS, argsP, parG, immE, varE, lift, un1, op2, andE, orE, notE, ifE, chainE, tru, argsD, tupE, lstE, argsO, toPar, backs, callE, vw, vws, fzO, gt, pt, bltE, isiE, isisE, tyD, imB, imI, cmpF, cmpD, binD_add, binD_sub, augD, sliE, optE, sliD, itE, argsI, hid_im, hid_tl, hid_n, mutE, mtF, appF, isOl, setiS, setF, endF, outO, finsOf_f, finsOf_t, finsOf_n, fxOf, raiseS, seqF, seqD, nameT, unhS, List.replicate, List.cons_append, List.nil_append, List.contains, List.elem, Option.map, Option.bind, ltD_int, leD_int, eqD_int, eqD_str, Bool.not_true, Bool.not_false, Bool.false_eq_true, if_true, if_false]
theorem t_far (k : Nat) {lo hi s : Int × Int} (hl : Sm lo) (hh : Sm hi) (h : Sm s) (hn : btw lo hi s = false) : P.run (k + 6) d_far_off [im (pr s), im (bo lo hi)] = .ok (.im (pr (far lo hi s))) [none, none] := by
  have lt := t_is_less (k + 2) (s := s) (b := lo) hl.s1 hl.s2
  rw [r_far_off (k + 3)]
  unfold far
  by_cases z : ls s lo
  · have m := t_minus k (a := lo) (b := s) hl.s1 hl.s2 h.s1 h.s2 (dif hl h z).1
    rw [if_pos z]
    simp only [im] at m lt
    simp only [b_far_off_0, b_far_off_1, im, bo0, bo1, lt, z, decide_true, m, seqS, SR.bind, Res.st, Res.bind, retS, exprS, ifS, asgS, nameG, stS_n, stS_1, stS_2, stS_3, stS_4, stS_5, stS_6, stS_7, stS_8, stS_9, stS_10, stS_11, stS_12, stS_13, stS_14, stS_15, asgT, unpT, tupT, parS, argsP, parG, immE, varE, lift, un1, op2, andE, orE, notE, ifE, chainE, tru, argsD, tupE, lstE, argsO, toPar, backs, callE, vw, vws, fzO, gt, pt, bltE, isiE, isisE, tyD, imB, imI, cmpF, cmpD, binD_add, binD_sub, augD, sliE, optE, sliD, itE, argsI, hid_im, hid_tl, hid_n, mutE, mtF, appF, isOl, setiS, setF, endF, outO, finsOf_f, finsOf_t, finsOf_n, fxOf, raiseS, seqF, seqD, nameT, unhS, List.replicate, List.cons_append, List.nil_append, List.contains, List.elem, Option.map, Option.bind, ltD_int, leD_int, eqD_int, eqD_str, Bool.not_true, Bool.not_false, Bool.false_eq_true, if_true, if_false]
  · have y : ls hi s := by
      by_cases y : ls hi s
      · exact y
      · unfold btw at hn
        rw [decide_eq_false z, decide_eq_false y] at hn
        cases hn
    have m := t_minus k (a := s) (b := hi) h.s1 h.s2 hh.s1 hh.s2 (dif h hh y).1
    rw [if_neg z, if_pos y]
    simp only [im] at m lt
    simp only [b_far_off_0, b_far_off_1, im, bo0, bo1, lt, z, decide_false, m, seqS, SR.bind, Res.st, Res.bind, retS, exprS, ifS, asgS, nameG, stS_n, stS_1, stS_2, stS_3, stS_4, stS_5, stS_6, stS_7, stS_8, stS_9, stS_10, stS_11, stS_12, stS_13, stS_14, stS_15, asgT, unpT, tupT, parS, argsP, parG, immE, varE, lift, un1, op2, andE, orE, notE, ifE, chainE, tru, argsD, tupE, lstE, argsO, toPar, backs, callE, vw, vws, fzO, gt, pt, bltE, isiE, isisE, tyD, imB, imI, cmpF, cmpD, binD_add, binD_sub, augD, sliE, optE, sliD, itE, argsI, hid_im, hid_tl, hid_n, mutE, mtF, appF, isOl, setiS, setF, endF, outO, finsOf_f, finsOf_t, finsOf_n, fxOf, raiseS, seqF, seqD, nameT, unhS, List.replicate, List.cons_append, List.nil_append, List.contains, List.elem, Option.map, Option.bind, ltD_int, leD_int, eqD_int, eqD_str, Bool.not_true, Bool.not_false, Bool.false_eq_true, if_true, if_false]
theorem t_lminus (k : Nat) {a b : Int × Int} (ha : Sm a) (hb : Sm b) (l : Lw (a.1 * b.2 - b.1 * a.2) (a.2 * b.2)) : P.run (k + 5) d__law_minus [im (pr a), im (pr b)] = .ok (.im (pr (low (a.1 * b.2 - b.1 * a.2) (a.2 * b.2)))) [none, none] := by
  rw [r__law_minus (k + 2)]
  have sh := t_low k l
  have e : a.1 * b.2 + (0 - b.1) * a.2 = a.1 * b.2 - b.1 * a.2 := by rw [Int.sub_mul]; omega
  have sb : small64 (0 - b.1) = true := small_of (by have := hb.2.1; omega) (by have := hb.1; omega)
  have pl : P.run (k + 4) d__law_plus [im (pr a), im (.tuple [.int (0 - b.1), .int b.2])] = .ok (.im (pr (low (a.1 * b.2 - b.1 * a.2) (a.2 * b.2)))) [none, none] := by
    rw [r__law_plus (k + 1)]
    have s0 : ∀ x y : D, subD (.tuple [x, y]) (.int 0) = some (.im x) := fun _ _ => rfl
    have s1 : ∀ x y : D, subD (.tuple [x, y]) (.int 1) = some (.im y) := fun _ _ => rfl
    simp only [im] at sh
    simp only [b__law_plus_0, im, s0, s1, binD_mul ha.s1, binD_mul sb, binD_mul ha.s2, e, sh, seqS, SR.bind, Res.st, Res.bind, retS, exprS, ifS, asgS, nameG, stS_n, stS_1, stS_2, stS_3, stS_4, stS_5, stS_6, stS_7, stS_8, stS_9, stS_10, stS_11, stS_12, stS_13, stS_14, stS_15, asgT, unpT, tupT, parS, argsP, parG, immE, varE, lift, un1, op2, andE, orE, notE, ifE, chainE, tru, argsD, tupE, lstE, argsO, toPar, backs, callE, vw, vws, fzO, gt, pt, bltE, isiE, isisE, tyD, imB, imI, cmpF, cmpD, binD_add, binD_sub, augD, sliE, optE, sliD, itE, argsI, hid_im, hid_tl, hid_n, mutE, mtF, appF, isOl, setiS, setF, endF, outO, finsOf_f, finsOf_t, finsOf_n, fxOf, raiseS, seqF, seqD, nameT, unhS, List.replicate, List.cons_append, List.nil_append, List.contains, List.elem, Option.map, Option.bind, ltD_int, leD_int, eqD_int, eqD_str, Bool.not_true, Bool.not_false, Bool.false_eq_true, if_true, if_false]
  simp only [im] at pl
  simp only [b__law_minus_0, im, sub0, sub1, pl, seqS, SR.bind, Res.st, Res.bind, retS, exprS, ifS, asgS, nameG, stS_n, stS_1, stS_2, stS_3, stS_4, stS_5, stS_6, stS_7, stS_8, stS_9, stS_10, stS_11, stS_12, stS_13, stS_14, stS_15, asgT, unpT, tupT, parS, argsP, parG, immE, varE, lift, un1, op2, andE, orE, notE, ifE, chainE, tru, argsD, tupE, lstE, argsO, toPar, backs, callE, vw, vws, fzO, gt, pt, bltE, isiE, isisE, tyD, imB, imI, cmpF, cmpD, binD_add, binD_sub, augD, sliE, optE, sliD, itE, argsI, hid_im, hid_tl, hid_n, mutE, mtF, appF, isOl, setiS, setF, endF, outO, finsOf_f, finsOf_t, finsOf_n, fxOf, raiseS, seqF, seqD, nameT, unhS, List.replicate, List.cons_append, List.nil_append, List.contains, List.elem, Option.map, Option.bind, ltD_int, leD_int, eqD_int, eqD_str, Bool.not_true, Bool.not_false, Bool.false_eq_true, if_true, if_false]
theorem t_lfar (k : Nat) {lo hi s : Int × Int} (hl : Sm lo) (hh : Sm hi) (h : Sm s) : P.run (k + 6) d__law_far [im (pr lo), im (pr hi), im (pr s)] = .ok (.im (pr (far lo hi s))) [none, none, none] := by
  have lt := t_lless (k + 2) (s := s) (b := lo) hl.s1 hl.s2
  have lt2 := t_lless (k + 2) (s := hi) (b := s) h.s1 h.s2
  rw [r__law_far (k + 3)]
  unfold far
  by_cases z : ls s lo
  · have m := t_lminus k (a := lo) (b := s) hl h (dif hl h z).1
    rw [if_pos z]
    simp only [im] at m lt
    simp only [b__law_far_0, b__law_far_1, im, lt, z, decide_true, m, seqS, SR.bind, Res.st, Res.bind, retS, exprS, ifS, asgS, nameG, stS_n, stS_1, stS_2, stS_3, stS_4, stS_5, stS_6, stS_7, stS_8, stS_9, stS_10, stS_11, stS_12, stS_13, stS_14, stS_15, asgT, unpT, tupT, parS, argsP, parG, immE, varE, lift, un1, op2, andE, orE, notE, ifE, chainE, tru, argsD, tupE, lstE, argsO, toPar, backs, callE, vw, vws, fzO, gt, pt, bltE, isiE, isisE, tyD, imB, imI, cmpF, cmpD, binD_add, binD_sub, augD, sliE, optE, sliD, itE, argsI, hid_im, hid_tl, hid_n, mutE, mtF, appF, isOl, setiS, setF, endF, outO, finsOf_f, finsOf_t, finsOf_n, fxOf, raiseS, seqF, seqD, nameT, unhS, List.replicate, List.cons_append, List.nil_append, List.contains, List.elem, Option.map, Option.bind, ltD_int, leD_int, eqD_int, eqD_str, Bool.not_true, Bool.not_false, Bool.false_eq_true, if_true, if_false]
  · rw [if_neg z]
    by_cases y : ls hi s
    · have m := t_lminus k (a := s) (b := hi) h hh (dif h hh y).1
      rw [if_pos y]
      simp only [im] at m lt lt2
      simp only [b__law_far_0, b__law_far_1, im, lt, lt2, z, y, decide_false, decide_true, m, seqS, SR.bind, Res.st, Res.bind, retS, exprS, ifS, asgS, nameG, stS_n, stS_1, stS_2, stS_3, stS_4, stS_5, stS_6, stS_7, stS_8, stS_9, stS_10, stS_11, stS_12, stS_13, stS_14, stS_15, asgT, unpT, tupT, parS, argsP, parG, immE, varE, lift, un1, op2, andE, orE, notE, ifE, chainE, tru, argsD, tupE, lstE, argsO, toPar, backs, callE, vw, vws, fzO, gt, pt, bltE, isiE, isisE, tyD, imB, imI, cmpF, cmpD, binD_add, binD_sub, augD, sliE, optE, sliD, itE, argsI, hid_im, hid_tl, hid_n, mutE, mtF, appF, isOl, setiS, setF, endF, outO, finsOf_f, finsOf_t, finsOf_n, fxOf, raiseS, seqF, seqD, nameT, unhS, List.replicate, List.cons_append, List.nil_append, List.contains, List.elem, Option.map, Option.bind, ltD_int, leD_int, eqD_int, eqD_str, Bool.not_true, Bool.not_false, Bool.false_eq_true, if_true, if_false]
    · rw [if_neg y]
      simp only [im] at lt lt2
      simp only [b__law_far_0, b__law_far_1, im, lt, lt2, z, y, decide_false, seqS, SR.bind, Res.st, Res.bind, retS, exprS, ifS, asgS, nameG, stS_n, stS_1, stS_2, stS_3, stS_4, stS_5, stS_6, stS_7, stS_8, stS_9, stS_10, stS_11, stS_12, stS_13, stS_14, stS_15, asgT, unpT, tupT, parS, argsP, parG, immE, varE, lift, un1, op2, andE, orE, notE, ifE, chainE, tru, argsD, tupE, lstE, argsO, toPar, backs, callE, vw, vws, fzO, gt, pt, bltE, isiE, isisE, tyD, imB, imI, cmpF, cmpD, binD_add, binD_sub, augD, sliE, optE, sliD, itE, argsI, hid_im, hid_tl, hid_n, mutE, mtF, appF, isOl, setiS, setF, endF, outO, finsOf_f, finsOf_t, finsOf_n, fxOf, raiseS, seqF, seqD, nameT, unhS, List.replicate, List.cons_append, List.nil_append, List.contains, List.elem, Option.map, Option.bind, ltD_int, leD_int, eqD_int, eqD_str, Bool.not_true, Bool.not_false, Bool.false_eq_true, if_true, if_false]
/-! ### the nearest -/
/-- the nearer of two -/
def nr (a : Option (Int × Int)) (q : Int × Int) : Option (Int × Int) := match a with
  | none => some q
  | some p => if ls q p then some q else some p
theorem ls_trans {a b c : Int × Int} (ha : 1 ≤ a.2) (hb : 1 ≤ b.2) (hc : 1 ≤ c.2) (h : ¬ ls a b) (h' : ¬ ls b c) : ¬ ls a c := by
  have h1 : b.1 * a.2 ≤ a.1 * b.2 := Int.not_lt.mp h
  have h2 : c.1 * b.2 ≤ b.1 * c.2 := Int.not_lt.mp h'
  intro h3
  have h3 : a.1 * c.2 < c.1 * a.2 := h3
  have x1 : b.1 * a.2 * c.2 ≤ a.1 * b.2 * c.2 := Int.mul_le_mul_of_nonneg_right h1 (by omega)
  have x2 : c.1 * b.2 * a.2 ≤ b.1 * c.2 * a.2 := Int.mul_le_mul_of_nonneg_right h2 (by omega)
  have x3 : a.1 * c.2 * b.2 < c.1 * a.2 * b.2 := Int.mul_lt_mul_of_pos_right h3 (by omega)
  have e1 : b.1 * a.2 * c.2 = b.1 * c.2 * a.2 := by rw [Int.mul_assoc, Int.mul_assoc, Int.mul_comm a.2]
  have e2 : a.1 * b.2 * c.2 = a.1 * c.2 * b.2 := by rw [Int.mul_assoc, Int.mul_assoc, Int.mul_comm b.2]
  have e3 : c.1 * b.2 * a.2 = c.1 * a.2 * b.2 := by rw [Int.mul_assoc, Int.mul_assoc, Int.mul_comm b.2]
  omega
theorem co_dvd {k m n : Int} (g : Int.gcd k m = 1) (h : k ∣ m * n) : k ∣ n := by
  rw [← Int.natAbs_dvd_natAbs] at h ⊢
  rw [Int.natAbs_mul] at h
  exact Nat.Coprime.dvd_of_dvd_mul_left g h
theorem ls_eq {a b : Int × Int} (ha : Fr a) (hb : Fr b) (h : ¬ ls a b) (h' : ¬ ls b a) : a = b := by
  have h1 : b.1 * a.2 ≤ a.1 * b.2 := Int.not_lt.mp h
  have h2 : a.1 * b.2 ≤ b.1 * a.2 := Int.not_lt.mp h'
  have e : a.1 * b.2 = b.1 * a.2 := by omega
  obtain ⟨a0, _, a2, _, ag⟩ := ha
  obtain ⟨b0, _, b2, _, bg⟩ := hb
  have d1 : a.2 ∣ b.2 := by
    have : a.2 ∣ a.1 * b.2 := ⟨b.1, by rw [e, Int.mul_comm]⟩
    exact co_dvd (by rw [Int.gcd_comm]; exact ag) this
  have d2 : b.2 ∣ a.2 := by
    have : b.2 ∣ b.1 * a.2 := ⟨a.1, by rw [← e, Int.mul_comm]⟩
    exact co_dvd (by rw [Int.gcd_comm]; exact bg) this
  have e2 : a.2 = b.2 := Int.le_antisymm (Int.le_of_dvd (by omega) d1) (Int.le_of_dvd (by omega) d2)
  rw [e2] at e
  have e1 : a.1 = b.1 := Int.eq_of_mul_eq_mul_right (by omega) e
  exact Prod.ext e1 e2
/-- the nearest is one of them, none is nearer -/
theorem nr_spec : ∀ {qs : List (Int × Int)} {p : Int × Int}, Fr p → (∀ q ∈ qs, Fr q) → ∃ m, qs.foldl nr (some p) = some m ∧ (m = p ∨ m ∈ qs) ∧ ¬ ls p m ∧ ∀ q ∈ qs, ¬ ls q m
  | [], p, hp, _ => ⟨p, rfl, .inl rfl, Int.lt_irrefl _, by simp⟩
  | q :: qs, p, hp, h => by
    have hq := h q List.mem_cons_self
    rw [List.foldl_cons]
    by_cases z : ls q p
    · have e : nr (some p) q = some q := if_pos z
      rw [e]
      obtain ⟨m, e1, e2, e3, e4⟩ := nr_spec hq fun q hq => h q (List.mem_cons_of_mem _ hq)
      have hm : Fr m := by
        rcases e2 with rfl | e2
        · exact hq
        · exact h m (List.mem_cons_of_mem _ e2)
      refine ⟨m, e1, ?_, ?_, fun x hx => ?_⟩
      · rcases e2 with rfl | e2
        · exact .inr List.mem_cons_self
        · exact .inr (List.mem_cons_of_mem _ e2)
      · refine ls_trans hp.2.2.1 hq.2.2.1 hm.2.2.1 ?_ e3
        intro y
        have y : p.1 * q.2 < q.1 * p.2 := y
        have z : q.1 * p.2 < p.1 * q.2 := z
        omega
      · rcases List.mem_cons.mp hx with rfl | hx
        · exact e3
        · exact e4 x hx
    · have e : nr (some p) q = some p := if_neg z
      rw [e]
      obtain ⟨m, e1, e2, e3, e4⟩ := nr_spec hp fun q hq => h q (List.mem_cons_of_mem _ hq)
      have hm : Fr m := by
        rcases e2 with rfl | e2
        · exact hp
        · exact h m (List.mem_cons_of_mem _ e2)
      refine ⟨m, e1, ?_, e3, fun x hx => ?_⟩
      · rcases e2 with rfl | e2
        · exact .inl rfl
        · exact .inr (List.mem_cons_of_mem _ e2)
      · rcases List.mem_cons.mp hx with rfl | hx
        · exact ls_trans hq.2.2.1 hp.2.2.1 hm.2.2.1 z e3
        · exact e4 x hx
/-- the nearest of the same ones is the same -/
theorem nr_same {as bs : List (Int × Int)} (ha : ∀ q ∈ as, Fr q) (h : ∀ q, q ∈ as ↔ q ∈ bs) : as.foldl nr none = bs.foldl nr none := by
  have key : ∀ {as : List (Int × Int)}, (∀ q ∈ as, Fr q) → as ≠ [] → ∃ m ∈ as, as.foldl nr none = some m ∧ ∀ q ∈ as, ¬ ls q m := fun {as} ha hn => by
    cases as with
    | nil => exact absurd rfl hn
    | cons p r =>
      obtain ⟨m, e1, e2, e3, e4⟩ := nr_spec (ha p List.mem_cons_self) fun q hq => ha q (List.mem_cons_of_mem _ hq)
      refine ⟨m, ?_, e1, fun q hq => ?_⟩
      · rcases e2 with rfl | e2
        · exact List.mem_cons_self
        · exact List.mem_cons_of_mem _ e2
      · rcases List.mem_cons.mp hq with rfl | hq
        · exact e3
        · exact e4 q hq
  by_cases n : as = []
  · subst n
    have : bs = [] := List.eq_nil_iff_forall_not_mem.mpr fun q hq => by simpa using (h q).mpr hq
    rw [this]
  · have hb : ∀ q ∈ bs, Fr q := fun q hq => ha q ((h q).mpr hq)
    have n' : bs ≠ [] := fun e => n (List.eq_nil_iff_forall_not_mem.mpr fun q hq => by have := (h q).mp hq; rw [e] at this; simp at this)
    obtain ⟨m, m1, m2, m3⟩ := key ha n
    obtain ⟨m', n1, n2, n3⟩ := key hb n'
    rw [m2, n2, ls_eq (ha m m1) (hb m' n1) (n3 m ((h m).mp m1)) (m3 m' ((h m').mpr n1))]
end Lw
end
section
set_option maxHeartbeats 1000000
namespace Lw
open PySem Ev
/-- both, scoops, pails -/
abbrev T3 := Int × Int × Int
abbrev tD (t : T3) : D := .tuple [.int t.1, .int t.2.1, .int t.2.2]
def tL (ts : List T3) : List D := ts.map tD
theorem tL_len {ts : List T3} : (tL ts).length = ts.length := List.length_map ..
theorem tL_app {a b : List T3} : tL (a ++ b) = tL a ++ tL b := List.map_append ..
def ltT (a b : T3) : Prop := a.1 < b.1 ∨ (a.1 = b.1 ∧ (a.2.1 < b.2.1 ∨ (a.2.1 = b.2.1 ∧ a.2.2 < b.2.2)))
instance {a b : T3} : Decidable (ltT a b) := by unfold ltT; exact inferInstance
theorem dlt3 {a b : T3} : PySem.W.dataLt (tD a) (tD b) = decide (ltT a b) := by
  have e : PySem.W.dataLt (tD a) (tD b) = PySem.W.rowLt ([a.1, a.2.1, a.2.2].map .int) ([b.1, b.2.1, b.2.2].map .int) := PySem.W.dataLt_tuple ..
  rw [e, PySem.W.dataLt_ints]
  congr 1
  simp [List.cons_lt_cons_iff, ltT]
def leT (a b : T3) : Bool := !decide (ltT b a)
theorem leB_tD {a b : T3} : leB (tD a) (tD b) = leT a b := by
  unfold leB leT
  rw [dlt3]
theorem leT_iff {a b : T3} : leT a b = true ↔ a.1 < b.1 ∨ (a.1 = b.1 ∧ (a.2.1 < b.2.1 ∨ (a.2.1 = b.2.1 ∧ a.2.2 ≤ b.2.2))) := by
  unfold leT
  rw [Bool.not_eq_true', decide_eq_false_iff_not]
  unfold ltT
  omega
theorem leT_trans (a b c : T3) (h : leT a b = true) (h' : leT b c = true) : leT a c = true := by
  rw [leT_iff] at *
  omega
theorem leT_total (a b : T3) : (leT a b || leT b a) = true := by
  rw [Bool.or_eq_true, leT_iff, leT_iff]
  omega
theorem leT_anti {a b : T3} (h : leT a b = true) (h' : leT b a = true) : a = b := by
  rw [leT_iff] at *
  have e1 : a.1 = b.1 := by omega
  have e2 : a.2.1 = b.2.1 := by omega
  have e3 : a.2.2 = b.2.2 := by omega
  exact Prod.ext e1 (Prod.ext e2 e3)
theorem alike_tL {ts : List T3} : alikeB (tL ts) = true ∧ shps (tL ts) = true := by
  constructor
  · unfold alikeB
    rw [Bool.and_eq_true_iff]
    refine ⟨List.all_eq_true.mpr fun x hx => List.all_eq_true.mpr fun y hy => ?_, List.all_eq_true.mpr fun x hx => ?_⟩
    · obtain ⟨_, _, rfl⟩ := List.mem_map.mp hx
      obtain ⟨_, _, rfl⟩ := List.mem_map.mp hy
      simp [PySem.W.alike, PySem.W.alikeAll]
    · obtain ⟨_, _, rfl⟩ := List.mem_map.mp hx
      rfl
  · refine shpNs_all fun d hd => ?_
    obtain ⟨_, _, rfl⟩ := List.mem_map.mp hd
    simp only [maxDepth, shpN_tuple, shpNs_cons, shpN_int, shpNs_nil, Bool.and_self]
theorem sorted_tL {ts : List T3} (hl : ts.length ≤ 10000) : bltD .sorted [.list (tL ts)] = some (.tl (tL (ts.mergeSort leT))) := by
  obtain ⟨a, b⟩ := alike_tL (ts := ts)
  have c : sortB (tL ts) = true := by
    unfold sortB
    rw [Bool.or_eq_true]
    left
    exact List.all_eq_true.mpr fun x hx => by
      obtain ⟨_, _, rfl⟩ := List.mem_map.mp hx
      rfl
  have l : (tL ts).length ≤ sizeMax := by rw [tL_len]; simp [sizeMax]; omega
  have m : tL (ts.mergeSort leT) = (tL ts).mergeSort leB := List.map_mergeSort fun a _ b _ => leB_tD.symm
  rw [m]
  simp only [bltD, a, b, c, decide_eq_true l, Bool.and_self, if_true]
def pick (a y : T3) : T3 := if ltT y a then y else a
theorem min_tL {g : T3} {gs : List T3} : bltD .min [.list (tL (g :: gs))] = some (.im (tD (gs.foldl pick g))) := by
  obtain ⟨a, b⟩ := alike_tL (ts := g :: gs)
  have e : tL (g :: gs) = tD g :: tL gs := rfl
  rw [e] at a b ⊢
  have f : ∀ (gs : List T3) (g : T3), (tL gs).foldl (fun a y => if PySem.W.dataLt y a then y else a) (tD g) = tD (gs.foldl pick g) := fun gs => by
    induction gs with
    | nil => intro g; rfl
    | cons y gs ih =>
      intro g
      have e : tL (y :: gs) = tD y :: tL gs := rfl
      rw [e, List.foldl_cons, List.foldl_cons, dlt3, ← ih]
      congr 1
      unfold pick
      by_cases z : ltT y g <;> simp [z]
  simp only [bltD, seqD, a, b, Bool.and_self, if_true, PySem.W.minD, f]
theorem pick_spec : ∀ {gs : List T3} {g : T3}, (gs.foldl pick g = g ∨ gs.foldl pick g ∈ gs) ∧ leT (gs.foldl pick g) g = true ∧ ∀ y ∈ gs, leT (gs.foldl pick g) y = true
  | [], g => ⟨.inl rfl, by simpa using leT_total g g, by simp⟩
  | y :: gs, g => by
    rw [List.foldl_cons]
    obtain ⟨a, b, c⟩ := pick_spec (gs := gs) (g := pick g y)
    have p : leT (pick g y) g = true ∧ leT (pick g y) y = true ∧ (pick g y = g ∨ pick g y = y) := by
      unfold pick
      split
      · rename_i h
        refine ⟨?_, by simpa using leT_total y y, .inr rfl⟩
        rw [leT_iff]
        unfold ltT at h
        omega
      · rename_i h
        refine ⟨by simpa using leT_total g g, ?_, .inl rfl⟩
        simpa [leT] using h
    refine ⟨?_, leT_trans _ _ _ b p.1, fun z hz => ?_⟩
    · rcases a with a | a
      · rw [a]
        rcases p.2.2 with q | q
        · exact .inl q
        · rw [q]; exact .inr List.mem_cons_self
      · exact .inr (List.mem_cons_of_mem _ a)
    · rcases List.mem_cons.mp hz with rfl | hz
      · exact leT_trans _ _ _ b p.2.1
      · exact c z hz
/-- the first hit in order is the least of all hits -/
theorem first_least {ts : List T3} {p : T3 → Bool} {g : T3} {gs : List T3} (h : ts.filter p = g :: gs) : (ts.mergeSort leT).find? p = some (gs.foldl pick g) := by
  obtain ⟨a, b, c⟩ := pick_spec (gs := gs) (g := g)
  generalize hm : gs.foldl pick g = m at a b c ⊢
  have mm : m ∈ ts.filter p := by
    rw [h]
    rcases a with rfl | a
    · exact List.mem_cons_self
    · exact List.mem_cons_of_mem _ a
  have ml : ∀ y ∈ ts, p y = true → leT m y = true := fun y hy hp => by
    have : y ∈ g :: gs := by rw [← h]; exact List.mem_filter.mpr ⟨hy, hp⟩
    rcases List.mem_cons.mp this with rfl | this
    · exact b
    · exact c y this
  obtain ⟨m1, m2⟩ := List.mem_filter.mp mm
  cases f : (ts.mergeSort leT).find? p with
  | none =>
    have := List.find?_eq_none.mp f m (List.mem_mergeSort.mpr m1)
    exact absurd m2 this
  | some t =>
    obtain ⟨q, as, bs, e, hn⟩ := List.find?_eq_some_iff_append.mp f
    have so := List.pairwise_mergeSort leT_trans leT_total ts
    rw [e] at so
    have tm : t ∈ ts := List.mem_mergeSort.mp (by rw [e]; simp)
    have h1 : leT m t = true := ml t tm q
    have mi : m ∈ as ++ t :: bs := by rw [← e]; exact List.mem_mergeSort.mpr m1
    have h2 : leT t m = true := by
      rcases List.mem_append.mp mi with z | z
      · have := hn m z
        rw [m2] at this
        cases this
      · rcases List.mem_cons.mp z with rfl | z
        · simpa using leT_total m m
        · exact (List.pairwise_cons.mp (List.pairwise_append.mp so).2.1).1 m z
    rw [leT_anti h2 h1]
/-! ### all that may be added -/
def rowT (s lo : Int) : Nat → List T3
  | 0 => []
  | m + 1 => (s + lo, s, lo) :: rowT s (lo + 1) m
def gridT (m : Nat) (lo : Int) : Nat → List T3
  | 0 => []
  | n + 1 => rowT lo 0 m ++ gridT m (lo + 1) n
theorem rowT_map {s : Int} : ∀ {m : Nat} {lo : Int}, (rangeI lo m).map (trF s) = tL (rowT s lo m)
  | 0, _ => rfl
  | m + 1, lo => by rw [rangeI, List.map_cons, rowT_map]; rfl
theorem rowT_len {s : Int} : ∀ {m : Nat} {lo : Int}, (rowT s lo m).length = m
  | 0, _ => rfl
  | m + 1, lo => by rw [rowT, List.length_cons, rowT_len]
theorem gridT_len {m : Nat} : ∀ {n : Nat} {lo : Int}, (gridT m lo n).length = m * n
  | 0, _ => by simp [gridT]
  | n + 1, lo => by rw [gridT, List.length_append, rowT_len, gridT_len, Nat.mul_succ]; omega
theorem rowT_mem {s : Int} {t : T3} : ∀ {m : Nat} {lo : Int}, t ∈ rowT s lo m → t.2.1 = s ∧ lo ≤ t.2.2 ∧ t.2.2 < lo + m
  | 0, _, h => by simp [rowT] at h
  | m + 1, lo, h => by
    rw [rowT] at h
    rcases List.mem_cons.mp h with rfl | h
    · exact ⟨rfl, by show lo ≤ lo; omega, by show lo < lo + _; omega⟩
    · have := rowT_mem h
      omega
theorem gridT_mem {m : Nat} {t : T3} : ∀ {n : Nat} {lo : Int}, t ∈ gridT m lo n → lo ≤ t.2.1 ∧ t.2.1 < lo + n ∧ 0 ≤ t.2.2 ∧ t.2.2 < m
  | 0, _, h => by simp [gridT] at h
  | n + 1, lo, h => by
    rw [gridT] at h
    rcases List.mem_append.mp h with h | h
    · have := rowT_mem h
      omega
    · have := gridT_mem h
      omega
section
variable {v : Int × Int} {r : Int}
/-- how many scoops, pails -/
abbrev nS (v : Int × Int) : Nat := (50 - v.1 + 1).toNat
abbrev nP (v : Int × Int) (r : Int) : Nat := (r - v.2 + 1).toNat
theorem adds_loop (k : Nat) (hv : Va v) (h1 : v.2 ≤ r) (h2 : r ≤ 30) : ∀ (n : Nat) (lo : Int) (ts : List T3) (x : Option Sv), ts.length + nP v r * n ≤ 10000 →
    ∃ x', forL (nameT [] 3) (lb_all_adds_0 k) (rangeI lo n) [im (pr v), im (.int r), some (.ol (tL ts)), x, none] = .nx [im (pr v), im (.int r), some (.ol (tL (ts ++ gridT (nP v r) lo n))), x', none]
  | 0, lo, ts, x, hl => ⟨x, by rw [gridT, List.append_nil]; rfl⟩
  | n + 1, lo, ts, x, hl => by
    rw [Nat.mul_succ] at hl
    have hr : rngB (r - v.2 + 1) = true := by obtain ⟨_, _, a, b⟩ := hv; simp [rngB]; omega
    have hit : itE [] rangeF1 [(op2 (binD .Add) (op2 (binD .Sub) (varE 1) (op2 subD (varE 0) (immE (.int 1)))) (immE (.int 1)))] [im (pr v), im (.int r), some (.ol (tL ts)), im (.int lo), none] = .ok ⟨rangeI 0 (nP v r), []⟩ [im (pr v), im (.int r), some (.ol (tL ts)), im (.int lo), none] := by
      simp only [im, sub1, rangeF1, hr, List.append_nil, seqS, SR.bind, Res.st, Res.bind, retS, exprS, ifS, asgS, nameG, stS_n, stS_1, stS_2, stS_3, stS_4, stS_5, stS_6, stS_7, stS_8, stS_9, stS_10, stS_11, stS_12, stS_13, stS_14, stS_15, asgT, unpT, tupT, parS, argsP, parG, immE, varE, lift, un1, op2, andE, orE, notE, ifE, chainE, tru, argsD, tupE, lstE, argsO, toPar, backs, callE, vw, vws, fzO, gt, pt, bltE, isiE, isisE, tyD, imB, imI, cmpF, cmpD, binD_add, binD_sub, augD, sliE, optE, sliD, itE, argsI, hid_im, hid_tl, hid_n, mutE, mtF, appF, isOl, setiS, setF, endF, outO, finsOf_f, finsOf_t, finsOf_n, fxOf, raiseS, seqF, seqD, nameT, unhS, List.replicate, List.cons_append, List.nil_append, List.contains, List.elem, Option.map, Option.bind, ltD_int, leD_int, eqD_int, eqD_str, Bool.not_true, Bool.not_false, Bool.false_eq_true, if_true, if_false]
    have hc : c_all_adds_0 k [im (pr v), im (.int r), some (.ol (tL ts)), im (.int lo), none] = .ok (.tl ((rangeI 0 (nP v r)).map (trF lo))) [im (pr v), im (.int r), some (.ol (tL ts)), im (.int lo), none] := by
      refine compE_map (trF lo) hit rfl (by rw [rangeI_len]; have := hv.2.2.1; simp [sizeMax]; omega) fun d hd => ?_
      obtain ⟨p, rfl, _, _⟩ := rangeI_mem hd
      exact ⟨_, rfl, rfl, rfl, rfl⟩
    rw [rowT_map] at hc
    have ll : (tL ts).length + (tL (rowT lo 0 (nP v r))).length ≤ sizeMax := by rw [tL_len, tL_len, rowT_len]; simp [sizeMax]; omega
    have hb : lb_all_adds_0 k [im (pr v), im (.int r), some (.ol (tL ts)), im (.int lo), none] = .nx [im (pr v), im (.int r), some (.ol (tL (ts ++ rowT lo 0 (nP v r)))), im (.int lo), none] := by
      simp only [im] at hc
      simp only [lb_all_adds_0, w_all_adds_0_0, im, hc, extF, if_pos ll, tL_app, seqS, SR.bind, Res.st, Res.bind, retS, exprS, ifS, asgS, nameG, stS_n, stS_1, stS_2, stS_3, stS_4, stS_5, stS_6, stS_7, stS_8, stS_9, stS_10, stS_11, stS_12, stS_13, stS_14, stS_15, asgT, unpT, tupT, parS, argsP, parG, immE, varE, lift, un1, op2, andE, orE, notE, ifE, chainE, tru, argsD, tupE, lstE, argsO, toPar, backs, callE, vw, vws, fzO, gt, pt, bltE, isiE, isisE, tyD, imB, imI, cmpF, cmpD, binD_add, binD_sub, augD, sliE, optE, sliD, itE, argsI, hid_im, hid_tl, hid_n, mutE, mtF, appF, isOl, setiS, setF, endF, outO, finsOf_f, finsOf_t, finsOf_n, fxOf, raiseS, seqF, seqD, nameT, unhS, List.replicate, List.cons_append, List.nil_append, List.contains, List.elem, Option.map, Option.bind, ltD_int, leD_int, eqD_int, eqD_str, Bool.not_true, Bool.not_false, Bool.false_eq_true, if_true, if_false]
    obtain ⟨x', e⟩ := adds_loop k hv h1 h2 n (lo + 1) (ts ++ rowT lo 0 (nP v r)) (im (.int lo)) (by rw [List.length_append, rowT_len]; omega)
    refine ⟨x', ?_⟩
    rw [rangeI]
    unfold forL
    have t0 : nameT [] 3 (.int lo) [im (pr v), im (.int r), some (.ol (tL ts)), x, none] = some [im (pr v), im (.int r), some (.ol (tL ts)), im (.int lo), none] := rfl
    simp only [t0, hb]
    rw [e, gridT, List.append_assoc]
theorem grid_small (hv : Va v) (h1 : v.2 ≤ r) (h2 : r ≤ 30) : nP v r * nS v ≤ 1530 := by
  obtain ⟨a, b, c, d⟩ := hv
  calc nP v r * nS v ≤ 30 * 51 := Nat.mul_le_mul (show (r - v.2 + 1).toNat ≤ 30 by omega) (show (50 - v.1 + 1).toNat ≤ 51 by omega)
    _ = 1530 := rfl
abbrev grid (v : Int × Int) (r : Int) : List T3 := gridT (nP v r) 0 (nS v)
theorem t_all_adds (k : Nat) (hv : Va v) (h1 : v.2 ≤ r) (h2 : r ≤ 30) : P.run (k + 3) d_all_adds [im (pr v), im (.int r)] = .ok (.tl (tL ((grid v r).mergeSort leT))) [none, none] := by
  have gs := grid_small hv h1 h2
  obtain ⟨x', e⟩ := adds_loop k hv h1 h2 (nS v) 0 [] none (by simp only [List.length_nil]; omega)
  rw [r_all_adds]
  have s0 : b_all_adds_0 k [im (pr v), im (.int r), none, none, none] = .nx [im (pr v), im (.int r), some (.ol (tL [])), none, none] := rfl
  have hr : rngB (50 - v.1 + 1) = true := by obtain ⟨a, b, _, _⟩ := hv; simp [rngB]; omega
  have hit : itE [] rangeF1 [(op2 (binD .Add) (op2 (binD .Sub) (immE (.int 50)) (op2 subD (varE 0) (immE (.int 0)))) (immE (.int 1)))] [im (pr v), im (.int r), some (.ol (tL [])), none, none] = .ok ⟨rangeI 0 (nS v), []⟩ [im (pr v), im (.int r), some (.ol (tL [])), none, none] := by
    simp only [im, sub0, rangeF1, hr, List.append_nil, seqS, SR.bind, Res.st, Res.bind, retS, exprS, ifS, asgS, nameG, stS_n, stS_1, stS_2, stS_3, stS_4, stS_5, stS_6, stS_7, stS_8, stS_9, stS_10, stS_11, stS_12, stS_13, stS_14, stS_15, asgT, unpT, tupT, parS, argsP, parG, immE, varE, lift, un1, op2, andE, orE, notE, ifE, chainE, tru, argsD, tupE, lstE, argsO, toPar, backs, callE, vw, vws, fzO, gt, pt, bltE, isiE, isisE, tyD, imB, imI, cmpF, cmpD, binD_add, binD_sub, augD, sliE, optE, sliD, itE, argsI, hid_im, hid_tl, hid_n, mutE, mtF, appF, isOl, setiS, setF, endF, outO, finsOf_f, finsOf_t, finsOf_n, fxOf, raiseS, seqF, seqD, nameT, unhS, List.replicate, List.cons_append, List.nil_append, List.contains, List.elem, Option.map, Option.bind, ltD_int, leD_int, eqD_int, eqD_str, Bool.not_true, Bool.not_false, Bool.false_eq_true, if_true, if_false]
  have s1 : b_all_adds_1 k [im (pr v), im (.int r), some (.ol (tL [])), none, none] = .nx [im (pr v), im (.int r), some (.ol (tL (grid v r))), x', none] := by
    unfold b_all_adds_1 l_all_adds_0
    exact forS_nx hit e
  have so := sorted_tL (ts := grid v r) (by rw [gridT_len]; omega)
  generalize grid v r = ts at s1 so ⊢
  have s2 : b_all_adds_2 k [im (pr v), im (.int r), some (.ol (tL ts)), x', none] = .rt (.tl (tL (ts.mergeSort leT))) [im (pr v), im (.int r), some (.ol (tL ts)), x', none] := by
    simp only [b_all_adds_2, im, so, seqS, SR.bind, Res.st, Res.bind, retS, exprS, ifS, asgS, nameG, stS_n, stS_1, stS_2, stS_3, stS_4, stS_5, stS_6, stS_7, stS_8, stS_9, stS_10, stS_11, stS_12, stS_13, stS_14, stS_15, asgT, unpT, tupT, parS, argsP, parG, immE, varE, lift, un1, op2, andE, orE, notE, ifE, chainE, tru, argsD, tupE, lstE, argsO, toPar, backs, callE, vw, vws, fzO, gt, pt, bltE, isiE, isisE, tyD, imB, imI, cmpF, cmpD, binD_add, binD_sub, augD, sliE, optE, sliD, itE, argsI, hid_im, hid_tl, hid_n, mutE, mtF, appF, isOl, setiS, setF, endF, outO, finsOf_f, finsOf_t, finsOf_n, fxOf, raiseS, seqF, seqD, nameT, unhS, List.replicate, List.cons_append, List.nil_append, List.contains, List.elem, Option.map, Option.bind, ltD_int, leD_int, eqD_int, eqD_str, Bool.not_true, Bool.not_false, Bool.false_eq_true, if_true, if_false]
  show endF [false, false] (seqS _ [im (pr v), im (.int r), none, none, none]) = _
  rw [seqS_nx s0, seqS_nx s1, seqS_one, s2]
  rfl
end
end Lw
end
section
set_option maxHeartbeats 1000000
namespace Lw
open PySem Ev
section
variable {v lo hi : Int × Int} {r : Int}
def accD : Option (Int × Int) → D
  | none => .none
  | some q => pr q
/-- the strength behind t -/
def st (v : Int × Int) (t : T3) : Int × Int := low (v.1 + t.2.1) (v.2 + t.2.2)
def hitT (v lo hi : Int × Int) (t : T3) : Bool := btw lo hi (st v t)
def fa (v lo hi : Int × Int) (t : T3) : Int × Int := far lo hi (st v t)
/-- what may be added to v -/
def Ok (v : Int × Int) (t : T3) : Prop := 0 ≤ t.2.1 ∧ v.1 + t.2.1 ≤ 50 ∧ 0 ≤ t.2.2 ∧ v.2 + t.2.2 ≤ 30
theorem ok_lw {t : T3} (hv : Va v) (h : Ok v t) : Lw (v.1 + t.2.1) (v.2 + t.2.2) ∧ Sm (st v t) := by
  obtain ⟨a, b, c, d⟩ := h
  obtain ⟨e, f, g, i⟩ := hv
  exact ⟨lw_small (by omega) (by omega) (by omega) (by omega), sm_low (by omega) (by omega) (by omega) (by omega)⟩
theorem grid_ok {t : T3} (hv : Va v) (h1 : v.2 ≤ r) (h2 : r ≤ 30) (h : t ∈ grid v r) : Ok v t := by
  have := gridT_mem h
  obtain ⟨e, f, g, i⟩ := hv
  have n1 : ((nS v : Nat) : Int) = 50 - v.1 + 1 := by show (((50 - v.1 + 1).toNat : Nat) : Int) = _; omega
  have n2 : ((nP v r : Nat) : Int) = r - v.2 + 1 := by show (((r - v.2 + 1).toNat : Nat) : Int) = _; omega
  exact ⟨by omega, by omega, by omega, by omega⟩
abbrev Rt (v lo hi : Int × Int) (r : Int) (a : Option (Int × Int)) (x4 x5 x6 x7 x8 : Option Sv) : Sl := [im (pr v), im (bo lo hi), im (.int r), im (accD a), x4, x5, x6, x7, x8]
theorem rt_loop (k : Nat) (hv : Va v) (hl : Sm lo) (hh : Sm hi) : ∀ (ts : List T3) (a : Option (Int × Int)) (x4 x5 x6 x7 x8 : Option Sv), (∀ t ∈ ts, Ok v t) → (∀ q, a = some q → Fr q) →
    (∃ t, ts.find? (hitT v lo hi) = some t ∧ ∃ e', forL (unpT [(nameT [] 4), (nameT [] 5), (nameT [] 6)]) (lb_raw_told_0 (k + 6)) (tL ts) (Rt v lo hi r a x4 x5 x6 x7 x8) = .rt (.im (.tuple [.str "add", .int t.2.1, .int t.2.2])) e') ∨
    (ts.find? (hitT v lo hi) = none ∧ ∃ y4 y5 y6 y7 y8, forL (unpT [(nameT [] 4), (nameT [] 5), (nameT [] 6)]) (lb_raw_told_0 (k + 6)) (tL ts) (Rt v lo hi r a x4 x5 x6 x7 x8) = .nx (Rt v lo hi r ((ts.map (fa v lo hi)).foldl nr a) y4 y5 y6 y7 y8))
  | [], a, x4, x5, x6, x7, x8, _, _ => .inr ⟨rfl, x4, x5, x6, x7, x8, rfl⟩
  | t :: ts, a, x4, x5, x6, x7, x8, h, hf => by
    obtain ⟨l, sm⟩ := ok_lw hv (h t List.mem_cons_self)
    have sh := t_share (k + 4) l
    have bt := t_between (k + 4) (hi := hi) hl sm
    have ek : low (v.1 + t.2.1) (v.2 + t.2.2) = st v t := rfl
    rw [ek] at sh
    simp only [im] at sh bt
    have e : tL (t :: ts) = tD t :: tL ts := rfl
    rw [e]
    have t0 : unpT [(nameT [] 4), (nameT [] 5), (nameT [] 6)] (tD t) (Rt v lo hi r a x4 x5 x6 x7 x8) = some (Rt v lo hi r a (im (.int t.1)) (im (.int t.2.1)) (im (.int t.2.2)) x7 x8) := rfl
    have b0 : w_raw_told_0_0 (k + 6) (Rt v lo hi r a (im (.int t.1)) (im (.int t.2.1)) (im (.int t.2.2)) x7 x8) = .nx (Rt v lo hi r a (im (.int t.1)) (im (.int t.2.1)) (im (.int t.2.2)) (im (pr (st v t))) x8) := by
      simp only [w_raw_told_0_0, Rt, im, sub0, sub1, sh, seqS, SR.bind, Res.st, Res.bind, retS, exprS, ifS, asgS, nameG, stS_n, stS_1, stS_2, stS_3, stS_4, stS_5, stS_6, stS_7, stS_8, stS_9, stS_10, stS_11, stS_12, stS_13, stS_14, stS_15, asgT, unpT, tupT, parS, argsP, parG, immE, varE, lift, un1, op2, andE, orE, notE, ifE, chainE, tru, argsD, tupE, lstE, argsO, toPar, backs, callE, vw, vws, fzO, gt, pt, bltE, isiE, isisE, tyD, imB, imI, cmpF, cmpD, binD_add, binD_sub, augD, sliE, optE, sliD, itE, argsI, hid_im, hid_tl, hid_n, mutE, mtF, appF, isOl, setiS, setF, endF, outO, finsOf_f, finsOf_t, finsOf_n, fxOf, raiseS, seqF, seqD, nameT, unhS, List.replicate, List.cons_append, List.nil_append, List.contains, List.elem, Option.map, Option.bind, ltD_int, leD_int, eqD_int, eqD_str, Bool.not_true, Bool.not_false, Bool.false_eq_true, if_true, if_false]
    unfold forL
    simp only [t0]
    cases hn : btw lo hi (st v t) with
    | true =>
      left
      rw [hn] at bt
      have b1 : w_raw_told_0_1 (k + 6) (Rt v lo hi r a (im (.int t.1)) (im (.int t.2.1)) (im (.int t.2.2)) (im (pr (st v t))) x8) = .rt (.im (.tuple [.str "add", .int t.2.1, .int t.2.2])) (Rt v lo hi r a (im (.int t.1)) (im (.int t.2.1)) (im (.int t.2.2)) (im (pr (st v t))) x8) := by
        simp only [w_raw_told_0_1, Rt, im, bt, seqS, SR.bind, Res.st, Res.bind, retS, exprS, ifS, asgS, nameG, stS_n, stS_1, stS_2, stS_3, stS_4, stS_5, stS_6, stS_7, stS_8, stS_9, stS_10, stS_11, stS_12, stS_13, stS_14, stS_15, asgT, unpT, tupT, parS, argsP, parG, immE, varE, lift, un1, op2, andE, orE, notE, ifE, chainE, tru, argsD, tupE, lstE, argsO, toPar, backs, callE, vw, vws, fzO, gt, pt, bltE, isiE, isisE, tyD, imB, imI, cmpF, cmpD, binD_add, binD_sub, augD, sliE, optE, sliD, itE, argsI, hid_im, hid_tl, hid_n, mutE, mtF, appF, isOl, setiS, setF, endF, outO, finsOf_f, finsOf_t, finsOf_n, fxOf, raiseS, seqF, seqD, nameT, unhS, List.replicate, List.cons_append, List.nil_append, List.contains, List.elem, Option.map, Option.bind, ltD_int, leD_int, eqD_int, eqD_str, Bool.not_true, Bool.not_false, Bool.false_eq_true, if_true, if_false]
      refine ⟨t, ?_, Rt v lo hi r a (im (.int t.1)) (im (.int t.2.1)) (im (.int t.2.2)) (im (pr (st v t))) x8, ?_⟩
      · rw [List.find?_cons_of_pos]
        exact hn
      · have b : lb_raw_told_0 (k + 6) (Rt v lo hi r a (im (.int t.1)) (im (.int t.2.1)) (im (.int t.2.2)) x7 x8) = .rt (.im (.tuple [.str "add", .int t.2.1, .int t.2.2])) (Rt v lo hi r a (im (.int t.1)) (im (.int t.2.1)) (im (.int t.2.2)) (im (pr (st v t))) x8) := by
          unfold lb_raw_told_0
          rw [seqS_nx b0, seqS_rt b1]
        simp only [b]
    | false =>
      rw [hn] at bt
      have fq := t_far (k + 2) hl hh sm hn
      have ff := (fr_far hl hh sm).1
      simp only [im] at fq
      have b1 : w_raw_told_0_1 (k + 6) (Rt v lo hi r a (im (.int t.1)) (im (.int t.2.1)) (im (.int t.2.2)) (im (pr (st v t))) x8) = .nx (Rt v lo hi r a (im (.int t.1)) (im (.int t.2.1)) (im (.int t.2.2)) (im (pr (st v t))) x8) := by
        simp only [w_raw_told_0_1, Rt, im, bt, seqS, SR.bind, Res.st, Res.bind, retS, exprS, ifS, asgS, nameG, stS_n, stS_1, stS_2, stS_3, stS_4, stS_5, stS_6, stS_7, stS_8, stS_9, stS_10, stS_11, stS_12, stS_13, stS_14, stS_15, asgT, unpT, tupT, parS, argsP, parG, immE, varE, lift, un1, op2, andE, orE, notE, ifE, chainE, tru, argsD, tupE, lstE, argsO, toPar, backs, callE, vw, vws, fzO, gt, pt, bltE, isiE, isisE, tyD, imB, imI, cmpF, cmpD, binD_add, binD_sub, augD, sliE, optE, sliD, itE, argsI, hid_im, hid_tl, hid_n, mutE, mtF, appF, isOl, setiS, setF, endF, outO, finsOf_f, finsOf_t, finsOf_n, fxOf, raiseS, seqF, seqD, nameT, unhS, List.replicate, List.cons_append, List.nil_append, List.contains, List.elem, Option.map, Option.bind, ltD_int, leD_int, eqD_int, eqD_str, Bool.not_true, Bool.not_false, Bool.false_eq_true, if_true, if_false]
      have b2 : w_raw_told_0_2 (k + 6) (Rt v lo hi r a (im (.int t.1)) (im (.int t.2.1)) (im (.int t.2.2)) (im (pr (st v t))) x8) = .nx (Rt v lo hi r a (im (.int t.1)) (im (.int t.2.1)) (im (.int t.2.2)) (im (pr (st v t))) (im (pr (fa v lo hi t)))) := by
        unfold fa
        simp only [w_raw_told_0_2, Rt, im, fq, seqS, SR.bind, Res.st, Res.bind, retS, exprS, ifS, asgS, nameG, stS_n, stS_1, stS_2, stS_3, stS_4, stS_5, stS_6, stS_7, stS_8, stS_9, stS_10, stS_11, stS_12, stS_13, stS_14, stS_15, asgT, unpT, tupT, parS, argsP, parG, immE, varE, lift, un1, op2, andE, orE, notE, ifE, chainE, tru, argsD, tupE, lstE, argsO, toPar, backs, callE, vw, vws, fzO, gt, pt, bltE, isiE, isisE, tyD, imB, imI, cmpF, cmpD, binD_add, binD_sub, augD, sliE, optE, sliD, itE, argsI, hid_im, hid_tl, hid_n, mutE, mtF, appF, isOl, setiS, setF, endF, outO, finsOf_f, finsOf_t, finsOf_n, fxOf, raiseS, seqF, seqD, nameT, unhS, List.replicate, List.cons_append, List.nil_append, List.contains, List.elem, Option.map, Option.bind, ltD_int, leD_int, eqD_int, eqD_str, Bool.not_true, Bool.not_false, Bool.false_eq_true, if_true, if_false]
      have b3 : w_raw_told_0_3 (k + 6) (Rt v lo hi r a (im (.int t.1)) (im (.int t.2.1)) (im (.int t.2.2)) (im (pr (st v t))) (im (pr (fa v lo hi t)))) = .nx (Rt v lo hi r (nr a (fa v lo hi t)) (im (.int t.1)) (im (.int t.2.1)) (im (.int t.2.2)) (im (pr (st v t))) (im (pr (fa v lo hi t)))) := by
        cases a with
        | none =>
          simp only [w_raw_told_0_3, Rt, im, accD, nr, isD, isNone, seqS, SR.bind, Res.st, Res.bind, retS, exprS, ifS, asgS, nameG, stS_n, stS_1, stS_2, stS_3, stS_4, stS_5, stS_6, stS_7, stS_8, stS_9, stS_10, stS_11, stS_12, stS_13, stS_14, stS_15, asgT, unpT, tupT, parS, argsP, parG, immE, varE, lift, un1, op2, andE, orE, notE, ifE, chainE, tru, argsD, tupE, lstE, argsO, toPar, backs, callE, vw, vws, fzO, gt, pt, bltE, isiE, isisE, tyD, imB, imI, cmpF, cmpD, binD_add, binD_sub, augD, sliE, optE, sliD, itE, argsI, hid_im, hid_tl, hid_n, mutE, mtF, appF, isOl, setiS, setF, endF, outO, finsOf_f, finsOf_t, finsOf_n, fxOf, raiseS, seqF, seqD, nameT, unhS, List.replicate, List.cons_append, List.nil_append, List.contains, List.elem, Option.map, Option.bind, ltD_int, leD_int, eqD_int, eqD_str, Bool.not_true, Bool.not_false, Bool.false_eq_true, if_true, if_false]
        | some w =>
          have hw := hf w rfl
          have lt := t_is_less (k + 5) (s := fa v lo hi t) (b := w) hw.s1 hw.s2
          simp only [im] at lt
          by_cases z : ls (fa v lo hi t) w
          · have e : nr (some w) (fa v lo hi t) = some (fa v lo hi t) := if_pos z
            rw [e]
            simp only [w_raw_told_0_3, Rt, im, accD, isD, isNone, lt, z, decide_true, seqS, SR.bind, Res.st, Res.bind, retS, exprS, ifS, asgS, nameG, stS_n, stS_1, stS_2, stS_3, stS_4, stS_5, stS_6, stS_7, stS_8, stS_9, stS_10, stS_11, stS_12, stS_13, stS_14, stS_15, asgT, unpT, tupT, parS, argsP, parG, immE, varE, lift, un1, op2, andE, orE, notE, ifE, chainE, tru, argsD, tupE, lstE, argsO, toPar, backs, callE, vw, vws, fzO, gt, pt, bltE, isiE, isisE, tyD, imB, imI, cmpF, cmpD, binD_add, binD_sub, augD, sliE, optE, sliD, itE, argsI, hid_im, hid_tl, hid_n, mutE, mtF, appF, isOl, setiS, setF, endF, outO, finsOf_f, finsOf_t, finsOf_n, fxOf, raiseS, seqF, seqD, nameT, unhS, List.replicate, List.cons_append, List.nil_append, List.contains, List.elem, Option.map, Option.bind, ltD_int, leD_int, eqD_int, eqD_str, Bool.not_true, Bool.not_false, Bool.false_eq_true, if_true, if_false]
          · have e : nr (some w) (fa v lo hi t) = some w := if_neg z
            rw [e]
            simp only [w_raw_told_0_3, Rt, im, accD, isD, isNone, lt, z, decide_false, seqS, SR.bind, Res.st, Res.bind, retS, exprS, ifS, asgS, nameG, stS_n, stS_1, stS_2, stS_3, stS_4, stS_5, stS_6, stS_7, stS_8, stS_9, stS_10, stS_11, stS_12, stS_13, stS_14, stS_15, asgT, unpT, tupT, parS, argsP, parG, immE, varE, lift, un1, op2, andE, orE, notE, ifE, chainE, tru, argsD, tupE, lstE, argsO, toPar, backs, callE, vw, vws, fzO, gt, pt, bltE, isiE, isisE, tyD, imB, imI, cmpF, cmpD, binD_add, binD_sub, augD, sliE, optE, sliD, itE, argsI, hid_im, hid_tl, hid_n, mutE, mtF, appF, isOl, setiS, setF, endF, outO, finsOf_f, finsOf_t, finsOf_n, fxOf, raiseS, seqF, seqD, nameT, unhS, List.replicate, List.cons_append, List.nil_append, List.contains, List.elem, Option.map, Option.bind, ltD_int, leD_int, eqD_int, eqD_str, Bool.not_true, Bool.not_false, Bool.false_eq_true, if_true, if_false]
      have b : lb_raw_told_0 (k + 6) (Rt v lo hi r a (im (.int t.1)) (im (.int t.2.1)) (im (.int t.2.2)) x7 x8) = .nx (Rt v lo hi r (nr a (fa v lo hi t)) (im (.int t.1)) (im (.int t.2.1)) (im (.int t.2.2)) (im (pr (st v t))) (im (pr (fa v lo hi t)))) := by
        unfold lb_raw_told_0
        rw [seqS_nx b0, seqS_nx b1, seqS_nx b2, seqS_one]
        exact b3
      simp only [b]
      have ih := rt_loop k hv hl hh ts (nr a (fa v lo hi t)) (im (.int t.1)) (im (.int t.2.1)) (im (.int t.2.2)) (im (pr (st v t))) (im (pr (fa v lo hi t))) (fun t ht => h t (List.mem_cons_of_mem _ ht)) (fun q hq => by
        cases a with
        | none => cases hq; exact ff
        | some w =>
          unfold nr at hq
          simp only at hq
          split at hq
          · cases hq; exact ff
          · cases hq; exact hf _ rfl)
      have fn : (t :: ts).find? (hitT v lo hi) = ts.find? (hitT v lo hi) := List.find?_cons_of_neg (by unfold hitT; rw [hn]; decide)
      rw [fn]
      exact ih
/-- what is told -/
def told (v lo hi : Int × Int) (ts : List T3) : D := match ts.find? (hitT v lo hi) with
  | some t => .tuple [.str "add", .int t.2.1, .int t.2.2]
  | none => .tuple [.str "none", accD ((ts.map (fa v lo hi)).foldl nr none)]
theorem t_raw_told (k : Nat) (hv : Va v) (hl : Sm lo) (hh : Sm hi) (h1 : v.2 ≤ r) (h2 : r ≤ 30) : P.run (k + 9) d_raw_told [im (pr v), im (bo lo hi), im (.int r)] = .ok (.im (told v lo hi ((grid v r).mergeSort leT))) [none, none, none] := by
  rw [r_raw_told (k + 6)]
  have ef := t_all_adds (k + 5) hv h1 h2
  have okt : ∀ t ∈ (grid v r).mergeSort leT, Ok v t := fun t ht => grid_ok hv h1 h2 (List.mem_mergeSort.mp ht)
  generalize (grid v r).mergeSort leT = ts at ef okt ⊢
  have s0 : b_raw_told_0 (k + 6) [im (pr v), im (bo lo hi), im (.int r), none, none, none, none, none, none] = .nx (Rt v lo hi r none none none none none none) := rfl
  have hit : itE [] seqF [(callE [false, false] (P.run (k + 6 + 2) d_all_adds) [(varE 0), (varE 2)])] (Rt v lo hi r none none none none none none) = .ok ⟨tL ts, []⟩ (Rt v lo hi r none none none none none none) := by
    simp only [im] at ef
    simp only [Rt, im, ef, List.append_nil, seqS, SR.bind, Res.st, Res.bind, retS, exprS, ifS, asgS, nameG, stS_n, stS_1, stS_2, stS_3, stS_4, stS_5, stS_6, stS_7, stS_8, stS_9, stS_10, stS_11, stS_12, stS_13, stS_14, stS_15, asgT, unpT, tupT, parS, argsP, parG, immE, varE, lift, un1, op2, andE, orE, notE, ifE, chainE, tru, argsD, tupE, lstE, argsO, toPar, backs, callE, vw, vws, fzO, gt, pt, bltE, isiE, isisE, tyD, imB, imI, cmpF, cmpD, binD_add, binD_sub, augD, sliE, optE, sliD, itE, argsI, hid_im, hid_tl, hid_n, mutE, mtF, appF, isOl, setiS, setF, endF, outO, finsOf_f, finsOf_t, finsOf_n, fxOf, raiseS, seqF, seqD, nameT, unhS, List.replicate, List.cons_append, List.nil_append, List.contains, List.elem, Option.map, Option.bind, ltD_int, leD_int, eqD_int, eqD_str, Bool.not_true, Bool.not_false, Bool.false_eq_true, if_true, if_false]
  show endF [false, false, false] (seqS _ [im (pr v), im (bo lo hi), im (.int r), none, none, none, none, none, none]) = _
  rw [seqS_nx s0]
  unfold told
  rcases rt_loop k (r := r) hv hl hh ts none none none none none none okt (by simp) with ⟨t, f, e', hl⟩ | ⟨f, y4, y5, y6, y7, y8, hl⟩
  · have s1 : b_raw_told_1 (k + 6) (Rt v lo hi r none none none none none none) = .rt (.im (.tuple [.str "add", .int t.2.1, .int t.2.2])) e' := by
      unfold b_raw_told_1 l_raw_told_0 forS
      rw [hit]
      simp only [Res.st, hl, endL, unhS]
    rw [seqS_rt s1, f]
    simp only [endF, outO, finsOf_all3]
  · have s1 : b_raw_told_1 (k + 6) (Rt v lo hi r none none none none none none) = .nx (Rt v lo hi r ((ts.map (fa v lo hi)).foldl nr none) y4 y5 y6 y7 y8) := by
      unfold b_raw_told_1 l_raw_told_0
      exact forS_nx hit hl
    rw [seqS_nx s1, f]
    simp only [b_raw_told_2, Rt, im, seqS, SR.bind, Res.st, Res.bind, retS, exprS, ifS, asgS, nameG, stS_n, stS_1, stS_2, stS_3, stS_4, stS_5, stS_6, stS_7, stS_8, stS_9, stS_10, stS_11, stS_12, stS_13, stS_14, stS_15, asgT, unpT, tupT, parS, argsP, parG, immE, varE, lift, un1, op2, andE, orE, notE, ifE, chainE, tru, argsD, tupE, lstE, argsO, toPar, backs, callE, vw, vws, fzO, gt, pt, bltE, isiE, isisE, tyD, imB, imI, cmpF, cmpD, binD_add, binD_sub, augD, sliE, optE, sliD, itE, argsI, hid_im, hid_tl, hid_n, mutE, mtF, appF, isOl, setiS, setF, endF, outO, finsOf_f, finsOf_t, finsOf_n, fxOf, raiseS, seqF, seqD, nameT, unhS, List.replicate, List.cons_append, List.nil_append, List.contains, List.elem, Option.map, Option.bind, ltD_int, leD_int, eqD_int, eqD_str, Bool.not_true, Bool.not_false, Bool.false_eq_true, if_true, if_false]
/-! ### the law's own -/
theorem eq_pr {q : Int × Int} : eqD (pr q) (.tuple [.int 0, .int 1]) = some (decide (q = (0, 1))) := by
  have a : shp (pr q) = true := by simp only [shp_N, shpN_tuple, shpNs_cons, shpN_int, shpNs_nil, Bool.and_self]
  have b : shp (.tuple [.int 0, .int 1]) = true := by decide
  simp only [eqD, a, b, Bool.and_self, if_true]
  obtain ⟨x, y⟩ := q
  congr 1
  by_cases h1 : x = 0 <;> by_cases h2 : y = 1 <;> simp [PyData.eqv, PyData.eqvAll, h1, h2]
abbrev Du (v lo hi : Int × Int) (r : Int) (x3 : Option Sv) (gs : List T3) (a : Option (Int × Int)) (x6 x7 : Option Sv) : Sl := [im (pr v), im (bo lo hi), im (.int r), x3, some (.ol (tL gs)), im (accD a), x6, x7]
theorem du_turn (k : Nat) (hv : Va v) (hl : Sm lo) (hh : Sm hi) {s p : Int} {gs : List T3} {a : Option (Int × Int)} {x7 : Option Sv} (ht : Ok v (s + p, s, p)) (hf : ∀ q, a = some q → Fr q) (hg : gs.length ≤ 10000) :
    lb__law_due_0 (k + 5) (Du v lo hi r (im (.int s)) gs a (im (.int p)) x7) = .nx (Du v lo hi r (im (.int s)) (gs ++ [(s + p, s, p)].filter (hitT v lo hi)) (nr a (fa v lo hi (s + p, s, p))) (im (.int p)) (im (pr (fa v lo hi (s + p, s, p))))) := by
  obtain ⟨l, sm⟩ := ok_lw hv ht
  obtain ⟨ff, fz⟩ := fr_far hl hh sm
  have sh := t_low (k + 4) l
  have lf := t_lfar (k + 1) hl hh sm
  have ek : low (v.1 + s) (v.2 + p) = st v (s + p, s, p) := rfl
  have ef : far lo hi (st v (s + p, s, p)) = fa v lo hi (s + p, s, p) := rfl
  simp only at sh
  rw [ek] at sh
  have fz' : fa v lo hi (s + p, s, p) = (0, 1) ↔ hitT v lo hi (s + p, s, p) = true := fz
  rw [ef] at lf ff
  generalize hfa : fa v lo hi (s + p, s, p) = f at lf ff fz' ⊢
  simp only [im] at sh lf
  have b0 : w__law_due_0_0 (k + 5) (Du v lo hi r (im (.int s)) gs a (im (.int p)) x7) = .nx (Du v lo hi r (im (.int s)) gs a (im (.int p)) (im (pr f))) := by
    simp only [w__law_due_0_0, Du, im, bo0, bo1, sub0, sub1, sh, lf, seqS, SR.bind, Res.st, Res.bind, retS, exprS, ifS, asgS, nameG, stS_n, stS_1, stS_2, stS_3, stS_4, stS_5, stS_6, stS_7, stS_8, stS_9, stS_10, stS_11, stS_12, stS_13, stS_14, stS_15, asgT, unpT, tupT, parS, argsP, parG, immE, varE, lift, un1, op2, andE, orE, notE, ifE, chainE, tru, argsD, tupE, lstE, argsO, toPar, backs, callE, vw, vws, fzO, gt, pt, bltE, isiE, isisE, tyD, imB, imI, cmpF, cmpD, binD_add, binD_sub, augD, sliE, optE, sliD, itE, argsI, hid_im, hid_tl, hid_n, mutE, mtF, appF, isOl, setiS, setF, endF, outO, finsOf_f, finsOf_t, finsOf_n, fxOf, raiseS, seqF, seqD, nameT, unhS, List.replicate, List.cons_append, List.nil_append, List.contains, List.elem, Option.map, Option.bind, ltD_int, leD_int, eqD_int, eqD_str, Bool.not_true, Bool.not_false, Bool.false_eq_true, if_true, if_false]
  have b1 : w__law_due_0_1 (k + 5) (Du v lo hi r (im (.int s)) gs a (im (.int p)) (im (pr f))) = .nx (Du v lo hi r (im (.int s)) (gs ++ [(s + p, s, p)].filter (hitT v lo hi)) a (im (.int p)) (im (pr f))) := by
    by_cases z : f = (0, 1)
    · have h := fz'.mp z
      have e : [(s + p, s, p)].filter (hitT v lo hi) = [(s + p, s, p)] := by simp [h]
      have a1 : binD .Add (.list (tL gs)) (.list [.tuple [.int (s + p), .int s, .int p]]) = some (.tl (tL (gs ++ [(s + p, s, p)]))) := by
        rw [binD_addL (by rw [tL_len]; simp [sizeMax]; omega), tL_app]
        rfl
      rw [e]
      simp only [w__law_due_0_1, Du, im, eq_pr, decide_eq_true z, a1, seqS, SR.bind, Res.st, Res.bind, retS, exprS, ifS, asgS, nameG, stS_n, stS_1, stS_2, stS_3, stS_4, stS_5, stS_6, stS_7, stS_8, stS_9, stS_10, stS_11, stS_12, stS_13, stS_14, stS_15, asgT, unpT, tupT, parS, argsP, parG, immE, varE, lift, un1, op2, andE, orE, notE, ifE, chainE, tru, argsD, tupE, lstE, argsO, toPar, backs, callE, vw, vws, fzO, gt, pt, bltE, isiE, isisE, tyD, imB, imI, cmpF, cmpD, binD_add, binD_sub, augD, sliE, optE, sliD, itE, argsI, hid_im, hid_tl, hid_n, mutE, mtF, appF, isOl, setiS, setF, endF, outO, finsOf_f, finsOf_t, finsOf_n, fxOf, raiseS, seqF, seqD, nameT, unhS, List.replicate, List.cons_append, List.nil_append, List.contains, List.elem, Option.map, Option.bind, ltD_int, leD_int, eqD_int, eqD_str, Bool.not_true, Bool.not_false, Bool.false_eq_true, if_true, if_false]
    · have h : hitT v lo hi (s + p, s, p) = false := by
        cases q : hitT v lo hi (s + p, s, p) with
        | false => rfl
        | true => exact absurd (fz'.mpr q) z
      have e : [(s + p, s, p)].filter (hitT v lo hi) = [] := by simp [h]
      have a1 : binD .Add (.list (tL gs)) (.list []) = some (.tl (tL gs)) := by
        rw [binD_addL (by rw [tL_len]; simp [sizeMax]; omega), List.append_nil]
      rw [e, List.append_nil]
      simp only [w__law_due_0_1, Du, im, eq_pr, decide_eq_false z, a1, seqS, SR.bind, Res.st, Res.bind, retS, exprS, ifS, asgS, nameG, stS_n, stS_1, stS_2, stS_3, stS_4, stS_5, stS_6, stS_7, stS_8, stS_9, stS_10, stS_11, stS_12, stS_13, stS_14, stS_15, asgT, unpT, tupT, parS, argsP, parG, immE, varE, lift, un1, op2, andE, orE, notE, ifE, chainE, tru, argsD, tupE, lstE, argsO, toPar, backs, callE, vw, vws, fzO, gt, pt, bltE, isiE, isisE, tyD, imB, imI, cmpF, cmpD, binD_add, binD_sub, augD, sliE, optE, sliD, itE, argsI, hid_im, hid_tl, hid_n, mutE, mtF, appF, isOl, setiS, setF, endF, outO, finsOf_f, finsOf_t, finsOf_n, fxOf, raiseS, seqF, seqD, nameT, unhS, List.replicate, List.cons_append, List.nil_append, List.contains, List.elem, Option.map, Option.bind, ltD_int, leD_int, eqD_int, eqD_str, Bool.not_true, Bool.not_false, Bool.false_eq_true, if_true, if_false]
  generalize gs ++ [(s + p, s, p)].filter (hitT v lo hi) = gs' at b1 ⊢
  have b2 : w__law_due_0_2 (k + 5) (Du v lo hi r (im (.int s)) gs' a (im (.int p)) (im (pr f))) = .nx (Du v lo hi r (im (.int s)) gs' (nr a f) (im (.int p)) (im (pr f))) := by
    cases a with
    | none =>
      simp only [w__law_due_0_2, Du, im, accD, nr, isD, isNone, seqS, SR.bind, Res.st, Res.bind, retS, exprS, ifS, asgS, nameG, stS_n, stS_1, stS_2, stS_3, stS_4, stS_5, stS_6, stS_7, stS_8, stS_9, stS_10, stS_11, stS_12, stS_13, stS_14, stS_15, asgT, unpT, tupT, parS, argsP, parG, immE, varE, lift, un1, op2, andE, orE, notE, ifE, chainE, tru, argsD, tupE, lstE, argsO, toPar, backs, callE, vw, vws, fzO, gt, pt, bltE, isiE, isisE, tyD, imB, imI, cmpF, cmpD, binD_add, binD_sub, augD, sliE, optE, sliD, itE, argsI, hid_im, hid_tl, hid_n, mutE, mtF, appF, isOl, setiS, setF, endF, outO, finsOf_f, finsOf_t, finsOf_n, fxOf, raiseS, seqF, seqD, nameT, unhS, List.replicate, List.cons_append, List.nil_append, List.contains, List.elem, Option.map, Option.bind, ltD_int, leD_int, eqD_int, eqD_str, Bool.not_true, Bool.not_false, Bool.false_eq_true, if_true, if_false]
    | some w =>
      have hw := hf w rfl
      have lt := t_lless (k + 4) (s := f) (b := w) hw.s1 hw.s2
      simp only [im] at lt
      by_cases z : ls f w
      · have e : nr (some w) f = some f := if_pos z
        rw [e]
        simp only [w__law_due_0_2, Du, im, accD, isD, isNone, lt, z, decide_true, seqS, SR.bind, Res.st, Res.bind, retS, exprS, ifS, asgS, nameG, stS_n, stS_1, stS_2, stS_3, stS_4, stS_5, stS_6, stS_7, stS_8, stS_9, stS_10, stS_11, stS_12, stS_13, stS_14, stS_15, asgT, unpT, tupT, parS, argsP, parG, immE, varE, lift, un1, op2, andE, orE, notE, ifE, chainE, tru, argsD, tupE, lstE, argsO, toPar, backs, callE, vw, vws, fzO, gt, pt, bltE, isiE, isisE, tyD, imB, imI, cmpF, cmpD, binD_add, binD_sub, augD, sliE, optE, sliD, itE, argsI, hid_im, hid_tl, hid_n, mutE, mtF, appF, isOl, setiS, setF, endF, outO, finsOf_f, finsOf_t, finsOf_n, fxOf, raiseS, seqF, seqD, nameT, unhS, List.replicate, List.cons_append, List.nil_append, List.contains, List.elem, Option.map, Option.bind, ltD_int, leD_int, eqD_int, eqD_str, Bool.not_true, Bool.not_false, Bool.false_eq_true, if_true, if_false]
      · have e : nr (some w) f = some w := if_neg z
        rw [e]
        simp only [w__law_due_0_2, Du, im, accD, isD, isNone, lt, z, decide_false, seqS, SR.bind, Res.st, Res.bind, retS, exprS, ifS, asgS, nameG, stS_n, stS_1, stS_2, stS_3, stS_4, stS_5, stS_6, stS_7, stS_8, stS_9, stS_10, stS_11, stS_12, stS_13, stS_14, stS_15, asgT, unpT, tupT, parS, argsP, parG, immE, varE, lift, un1, op2, andE, orE, notE, ifE, chainE, tru, argsD, tupE, lstE, argsO, toPar, backs, callE, vw, vws, fzO, gt, pt, bltE, isiE, isisE, tyD, imB, imI, cmpF, cmpD, binD_add, binD_sub, augD, sliE, optE, sliD, itE, argsI, hid_im, hid_tl, hid_n, mutE, mtF, appF, isOl, setiS, setF, endF, outO, finsOf_f, finsOf_t, finsOf_n, fxOf, raiseS, seqF, seqD, nameT, unhS, List.replicate, List.cons_append, List.nil_append, List.contains, List.elem, Option.map, Option.bind, ltD_int, leD_int, eqD_int, eqD_str, Bool.not_true, Bool.not_false, Bool.false_eq_true, if_true, if_false]
  unfold lb__law_due_0
  rw [seqS_nx b0, seqS_nx b1, seqS_one]
  exact b2
theorem nr_fr {a : Option (Int × Int)} {f : Int × Int} (hf : ∀ q, a = some q → Fr q) (h : Fr f) : ∀ q, nr a f = some q → Fr q := fun q hq => by
  cases a with
  | none => cases hq; exact h
  | some w =>
    unfold nr at hq
    simp only at hq
    split at hq
    · cases hq; exact h
    · cases hq; exact hf _ rfl
theorem nrs_fr : ∀ {fs : List (Int × Int)} {a : Option (Int × Int)}, (∀ q, a = some q → Fr q) → (∀ f ∈ fs, Fr f) → ∀ q, fs.foldl nr a = some q → Fr q
  | [], a, ha, _ => ha
  | f :: fs, a, ha, h => nrs_fr (fs := fs) (a := nr a f) (nr_fr ha (h f List.mem_cons_self)) fun g hg => h g (List.mem_cons_of_mem _ hg)
theorem du_row (k : Nat) (hv : Va v) (hl : Sm lo) (hh : Sm hi) {s : Int} : ∀ (m : Nat) (p : Int) (gs : List T3) (a : Option (Int × Int)) (x6 x7 : Option Sv), (∀ t ∈ rowT s p m, Ok v t) → (∀ q, a = some q → Fr q) → gs.length + m ≤ 10000 →
    ∃ y6 y7, forL (nameT [] 6) (lb__law_due_0 (k + 5)) (rangeI p m) (Du v lo hi r (im (.int s)) gs a x6 x7) = .nx (Du v lo hi r (im (.int s)) (gs ++ (rowT s p m).filter (hitT v lo hi)) (((rowT s p m).map (fa v lo hi)).foldl nr a) y6 y7)
  | 0, p, gs, a, x6, x7, _, _, _ => ⟨x6, x7, by rw [rowT, List.filter_nil, List.append_nil]; rfl⟩
  | m + 1, p, gs, a, x6, x7, h, hf, hg => by
    rw [rowT] at h ⊢
    have ht := h _ List.mem_cons_self
    have t := du_turn k (r := r) (x7 := x7) hv hl hh ht hf (by omega : gs.length ≤ 10000)
    obtain ⟨y6, y7, ih⟩ := du_row k hv hl hh m (p + 1) (gs ++ [(s + p, s, p)].filter (hitT v lo hi)) (nr a (fa v lo hi (s + p, s, p))) (im (.int p)) (im (pr (fa v lo hi (s + p, s, p)))) (fun t ht => h t (List.mem_cons_of_mem _ ht)) (nr_fr hf (fr_far hl hh (ok_lw hv ht).2).1) (by
      have := List.length_filter_le (hitT v lo hi) [(s + p, s, p)]
      rw [List.length_append]
      simp only [List.length_cons, List.length_nil] at this
      omega)
    refine ⟨y6, y7, ?_⟩
    rw [rangeI]
    unfold forL
    have t0 : nameT [] 6 (.int p) (Du v lo hi r (im (.int s)) gs a x6 x7) = some (Du v lo hi r (im (.int s)) gs a (im (.int p)) x7) := rfl
    simp only [t0, t]
    rw [ih, List.append_assoc, ← List.filter_append]
    rfl
theorem du_grid (k : Nat) (hv : Va v) (hl : Sm lo) (hh : Sm hi) (h1 : v.2 ≤ r) (h2 : r ≤ 30) : ∀ (n : Nat) (s : Int) (gs : List T3) (a : Option (Int × Int)) (x3 x6 x7 : Option Sv), (∀ t ∈ gridT (nP v r) s n, Ok v t) → (∀ q, a = some q → Fr q) → gs.length + nP v r * n ≤ 10000 →
    ∃ y3 y6 y7, forL (nameT [] 3) (lb__law_due_1 (k + 5)) (rangeI s n) (Du v lo hi r x3 gs a x6 x7) = .nx (Du v lo hi r y3 (gs ++ (gridT (nP v r) s n).filter (hitT v lo hi)) (((gridT (nP v r) s n).map (fa v lo hi)).foldl nr a) y6 y7)
  | 0, s, gs, a, x3, x6, x7, _, _, _ => ⟨x3, x6, x7, by rw [gridT, List.filter_nil, List.append_nil]; rfl⟩
  | n + 1, s, gs, a, x3, x6, x7, h, hf, hg => by
    rw [gridT] at h ⊢
    rw [Nat.mul_succ] at hg
    have hrow : ∀ t ∈ rowT s 0 (nP v r), Ok v t := fun t ht => h t (List.mem_append_left _ ht)
    obtain ⟨z6, z7, t⟩ := du_row k (r := r) hv hl hh (nP v r) 0 gs a x6 x7 hrow hf (by omega)
    obtain ⟨y3, y6, y7, ih⟩ := du_grid k hv hl hh h1 h2 n (s + 1) (gs ++ (rowT s 0 (nP v r)).filter (hitT v lo hi)) (((rowT s 0 (nP v r)).map (fa v lo hi)).foldl nr a) (im (.int s)) z6 z7 (fun t ht => h t (List.mem_append_right _ ht)) (nrs_fr hf fun f hf => by
      obtain ⟨t, ht, rfl⟩ := List.mem_map.mp hf
      exact (fr_far hl hh (ok_lw hv (hrow t ht)).2).1) (by
      have := List.length_filter_le (hitT v lo hi) (rowT s 0 (nP v r))
      rw [rowT_len] at this
      rw [List.length_append]
      omega)
    refine ⟨y3, y6, y7, ?_⟩
    rw [rangeI]
    unfold forL
    have t0 : nameT [] 3 (.int s) (Du v lo hi r x3 gs a x6 x7) = some (Du v lo hi r (im (.int s)) gs a x6 x7) := rfl
    have hr : rngB (r - v.2 + 1) = true := by obtain ⟨_, _, a, b⟩ := hv; simp [rngB]; omega
    have hit : itE [] rangeF1 [(op2 (binD .Add) (op2 (binD .Sub) (varE 2) (op2 subD (varE 0) (immE (.int 1)))) (immE (.int 1)))] (Du v lo hi r (im (.int s)) gs a x6 x7) = .ok ⟨rangeI 0 (nP v r), []⟩ (Du v lo hi r (im (.int s)) gs a x6 x7) := by
      simp only [Du, im, sub1, rangeF1, hr, List.append_nil, seqS, SR.bind, Res.st, Res.bind, retS, exprS, ifS, asgS, nameG, stS_n, stS_1, stS_2, stS_3, stS_4, stS_5, stS_6, stS_7, stS_8, stS_9, stS_10, stS_11, stS_12, stS_13, stS_14, stS_15, asgT, unpT, tupT, parS, argsP, parG, immE, varE, lift, un1, op2, andE, orE, notE, ifE, chainE, tru, argsD, tupE, lstE, argsO, toPar, backs, callE, vw, vws, fzO, gt, pt, bltE, isiE, isisE, tyD, imB, imI, cmpF, cmpD, binD_add, binD_sub, augD, sliE, optE, sliD, itE, argsI, hid_im, hid_tl, hid_n, mutE, mtF, appF, isOl, setiS, setF, endF, outO, finsOf_f, finsOf_t, finsOf_n, fxOf, raiseS, seqF, seqD, nameT, unhS, List.replicate, List.cons_append, List.nil_append, List.contains, List.elem, Option.map, Option.bind, ltD_int, leD_int, eqD_int, eqD_str, Bool.not_true, Bool.not_false, Bool.false_eq_true, if_true, if_false]
    have b : lb__law_due_1 (k + 5) (Du v lo hi r (im (.int s)) gs a x6 x7) = .nx (Du v lo hi r (im (.int s)) (gs ++ (rowT s 0 (nP v r)).filter (hitT v lo hi)) (((rowT s 0 (nP v r)).map (fa v lo hi)).foldl nr a) z6 z7) := by
      unfold lb__law_due_1 w__law_due_1_0 l__law_due_0
      rw [seqS_one]
      exact forS_nx hit t
    simp only [t0, b]
    rw [ih, List.append_assoc, ← List.filter_append, List.map_append, List.foldl_append]
theorem t_ldue (k : Nat) (hv : Va v) (hl : Sm lo) (hh : Sm hi) (h1 : v.2 ≤ r) (h2 : r ≤ 30) : P.run (k + 8) d__law_due [im (pr v), im (bo lo hi), im (.int r)] = .ok (.im (told v lo hi ((grid v r).mergeSort leT))) [none, none, none] := by
  rw [r__law_due (k + 5)]
  have gsm := grid_small hv h1 h2
  have okg : ∀ t ∈ grid v r, Ok v t := fun t ht => grid_ok hv h1 h2 ht
  obtain ⟨y3, y6, y7, e⟩ := du_grid k hv hl hh h1 h2 (nS v) 0 [] none none none none okg (by simp) (by simp only [List.length_nil]; omega)
  have s0 : b__law_due_0 (k + 5) [im (pr v), im (bo lo hi), im (.int r), none, none, none, none, none] = .nx (Du v lo hi r none [] none none none) := rfl
  have hr : rngB (51 - v.1) = true := by obtain ⟨a, b, _, _⟩ := hv; simp [rngB]; omega
  have hn : (51 - v.1).toNat = nS v := by show _ = (50 - v.1 + 1).toNat; omega
  have hit : itE [] rangeF1 [(op2 (binD .Sub) (immE (.int 51)) (op2 subD (varE 0) (immE (.int 0))))] (Du v lo hi r none [] none none none) = .ok ⟨rangeI 0 (nS v), []⟩ (Du v lo hi r none [] none none none) := by
    simp only [Du, im, sub0, rangeF1, hr, hn, List.append_nil, seqS, SR.bind, Res.st, Res.bind, retS, exprS, ifS, asgS, nameG, stS_n, stS_1, stS_2, stS_3, stS_4, stS_5, stS_6, stS_7, stS_8, stS_9, stS_10, stS_11, stS_12, stS_13, stS_14, stS_15, asgT, unpT, tupT, parS, argsP, parG, immE, varE, lift, un1, op2, andE, orE, notE, ifE, chainE, tru, argsD, tupE, lstE, argsO, toPar, backs, callE, vw, vws, fzO, gt, pt, bltE, isiE, isisE, tyD, imB, imI, cmpF, cmpD, binD_add, binD_sub, augD, sliE, optE, sliD, itE, argsI, hid_im, hid_tl, hid_n, mutE, mtF, appF, isOl, setiS, setF, endF, outO, finsOf_f, finsOf_t, finsOf_n, fxOf, raiseS, seqF, seqD, nameT, unhS, List.replicate, List.cons_append, List.nil_append, List.contains, List.elem, Option.map, Option.bind, ltD_int, leD_int, eqD_int, eqD_str, Bool.not_true, Bool.not_false, Bool.false_eq_true, if_true, if_false]
  have s1 : b__law_due_1 (k + 5) (Du v lo hi r none [] none none none) = .nx (Du v lo hi r y3 ((grid v r).filter (hitT v lo hi)) (((grid v r).map (fa v lo hi)).foldl nr none) y6 y7) := by
    unfold b__law_due_1 l__law_due_1
    exact forS_nx hit e
  show endF [false, false, false] (seqS _ [im (pr v), im (bo lo hi), im (.int r), none, none, none, none, none]) = _
  rw [seqS_nx s0, seqS_nx s1, seqS_one]
  unfold told
  cases hg : (grid v r).filter (hitT v lo hi) with
  | nil =>
    have f : ((grid v r).mergeSort leT).find? (hitT v lo hi) = none := List.find?_eq_none.mpr fun t ht hq => by
      have : t ∈ (grid v r).filter (hitT v lo hi) := List.mem_filter.mpr ⟨List.mem_mergeSort.mp ht, hq⟩
      rw [hg] at this
      simp at this
    have same : ((grid v r).map (fa v lo hi)).foldl nr none = (((grid v r).mergeSort leT).map (fa v lo hi)).foldl nr none := by
      refine nr_same (fun q hq => ?_) fun q => ?_
      · obtain ⟨t, ht, rfl⟩ := List.mem_map.mp hq
        exact (fr_far hl hh (ok_lw hv (okg t ht)).2).1
      · simp only [List.mem_map, List.mem_mergeSort]
    rw [f, same]
    generalize (((grid v r).mergeSort leT).map (fa v lo hi)).foldl nr none = a
    have z : bltD .len [.list (tL [])] = some (.im (.int 0)) := rfl
    simp only [b__law_due_2, Du, im, z, Int.lt_irrefl, decide_false, seqS, SR.bind, Res.st, Res.bind, retS, exprS, ifS, asgS, nameG, stS_n, stS_1, stS_2, stS_3, stS_4, stS_5, stS_6, stS_7, stS_8, stS_9, stS_10, stS_11, stS_12, stS_13, stS_14, stS_15, asgT, unpT, tupT, parS, argsP, parG, immE, varE, lift, un1, op2, andE, orE, notE, ifE, chainE, tru, argsD, tupE, lstE, argsO, toPar, backs, callE, vw, vws, fzO, gt, pt, bltE, isiE, isisE, tyD, imB, imI, cmpF, cmpD, binD_add, binD_sub, augD, sliE, optE, sliD, itE, argsI, hid_im, hid_tl, hid_n, mutE, mtF, appF, isOl, setiS, setF, endF, outO, finsOf_f, finsOf_t, finsOf_n, fxOf, raiseS, seqF, seqD, nameT, unhS, List.replicate, List.cons_append, List.nil_append, List.contains, List.elem, Option.map, Option.bind, ltD_int, leD_int, eqD_int, eqD_str, Bool.not_true, Bool.not_false, Bool.false_eq_true, if_true, if_false]
  | cons g gs =>
    rw [first_least hg]
    have mn := min_tL (g := g) (gs := gs)
    generalize gs.foldl pick g = m at mn ⊢
    have z : bltD .len [.list (tL (g :: gs))] = some (.im (.int ((tL (g :: gs)).length))) := rfl
    have p : (0 : Int) < ((tL (g :: gs)).length : Int) := by rw [tL_len, List.length_cons]; omega
    have sl : cutL [PyData.int m.1, .int m.2.1, .int m.2.2] (some 1) none = [.int m.2.1, .int m.2.2] := cutL_tail (by simp)
    have ad : binD .Add (.tuple [.str "add"]) (.tuple [.int m.2.1, .int m.2.2]) = some (.im (.tuple [.str "add", .int m.2.1, .int m.2.2])) := binD_addT (by simp [sizeMax])
    generalize ((grid v r).map (fa v lo hi)).foldl nr none = a
    simp only [b__law_due_2, Du, im, z, p, decide_true, mn, sl, ad, seqS, SR.bind, Res.st, Res.bind, retS, exprS, ifS, asgS, nameG, stS_n, stS_1, stS_2, stS_3, stS_4, stS_5, stS_6, stS_7, stS_8, stS_9, stS_10, stS_11, stS_12, stS_13, stS_14, stS_15, asgT, unpT, tupT, parS, argsP, parG, immE, varE, lift, un1, op2, andE, orE, notE, ifE, chainE, tru, argsD, tupE, lstE, argsO, toPar, backs, callE, vw, vws, fzO, gt, pt, bltE, isiE, isisE, tyD, imB, imI, cmpF, cmpD, binD_add, binD_sub, augD, sliE, optE, sliD, itE, argsI, hid_im, hid_tl, hid_n, mutE, mtF, appF, isOl, setiS, setF, endF, outO, finsOf_f, finsOf_t, finsOf_n, fxOf, raiseS, seqF, seqD, nameT, unhS, List.replicate, List.cons_append, List.nil_append, List.contains, List.elem, Option.map, Option.bind, ltD_int, leD_int, eqD_int, eqD_str, Bool.not_true, Bool.not_false, Bool.false_eq_true, if_true, if_false]
end
end Lw
end
section
set_option maxHeartbeats 1000000
namespace Lw
open PySem Ev
/-! ### told alike -/
theorem is_int2 (k : Nat) (i j : Int) : P.run (k + 3) d__law_is [im (.int i), im (.int j)] = .ok (.im (.bool (decide (i = j)))) [none, none] := by
  rw [r__law_is]
  have e : eqD (.bool false) (.bool false) = some true := eqD_self shp_bool
  have s0 : b__law_is_0 k [im (.int i), im (.int j), none, none, none] = .nx [im (.int i), im (.int j), none, none, none] := by kernel_rfl
  have s1 : b__law_is_1 k [im (.int i), im (.int j), none, none, none] = .nx [im (.int i), im (.int j), none, none, none] := by kernel_rfl
  have s2 : b__law_is_2 k [im (.int i), im (.int j), none, none, none] = .nx [im (.int i), im (.int j), none, none, none] := by kernel_rfl
  have s3 : b__law_is_3 k [im (.int i), im (.int j), none, none, none] = .rt (.im (.bool (decide (i = j)))) [im (.int i), im (.int j), none, none, none] := by
    simp only [b__law_is_3, im, reduceCtorEq, decide_true, decide_false, e, seqS, SR.bind, Res.st, Res.bind, retS, exprS, ifS, asgS, nameG, stS_n, stS_1, stS_2, stS_3, stS_4, stS_5, stS_6, stS_7, stS_8, stS_9, stS_10, stS_11, stS_12, stS_13, stS_14, stS_15, asgT, unpT, tupT, parS, argsP, parG, immE, varE, lift, un1, op2, andE, orE, notE, ifE, chainE, tru, argsD, tupE, lstE, argsO, toPar, backs, callE, vw, vws, fzO, gt, pt, bltE, isiE, isisE, tyD, imB, imI, cmpF, cmpD, binD_add, binD_sub, augD, sliE, optE, sliD, itE, argsI, hid_im, hid_tl, hid_n, mutE, mtF, appF, isOl, setiS, setF, endF, outO, finsOf_f, finsOf_t, finsOf_n, fxOf, raiseS, seqF, seqD, nameT, unhS, List.replicate, List.cons_append, List.nil_append, List.contains, List.elem, Option.map, Option.bind, ltD_int, leD_int, eqD_int, eqD_str, Bool.not_true, Bool.not_false, Bool.false_eq_true, if_true, if_false]
  show endF [false, false] (seqS _ [im (.int i), im (.int j), none, none, none]) = _
  rw [seqS_nx s0, seqS_nx s1, seqS_nx s2, seqS_one, s3]
  rfl
theorem is_true (k : Nat) : P.run (k + 3) d__law_is [im (.bool true), im (.bool true)] = .ok (.im (.bool true)) [none, none] := by
  rw [r__law_is] <;> kernel_rfl
theorem is_false (k : Nat) : P.run (k + 3) d__law_is [im (.bool false), im (.bool false)] = .ok (.im (.bool true)) [none, none] := by
  rw [r__law_is] <;> kernel_rfl
theorem is_bool (k : Nat) (b : Bool) : P.run (k + 3) d__law_is [im (.bool b), im (.bool b)] = .ok (.im (.bool true)) [none, none] := by
  cases b
  · exact is_false k
  · exact is_true k
theorem is_add (k : Nat) : P.run (k + 3) d__law_is [im (.str "add"), im (.str "add")] = .ok (.im (.bool true)) [none, none] := by
  rw [r__law_is] <;> kernel_rfl
theorem is_nil (k : Nat) : P.run (k + 3) d__law_is [im (.str "none"), im (.str "none")] = .ok (.im (.bool true)) [none, none] := by
  rw [r__law_is] <;> kernel_rfl
theorem is_len (k : Nat) {xs ys : List D} (h : xs.length ≠ ys.length) : P.run (k + 3) d__law_is [im (.tuple xs), im (.tuple ys)] = .ok (.im (.bool false)) [none, none] := by
  rw [r__law_is]
  have s0 : b__law_is_0 k [im (.tuple xs), im (.tuple ys), none, none, none] = .rt (.im (.bool false)) [im (.tuple xs), im (.tuple ys), none, none, none] := by
    refine (ifS_true (e1 := [im (.tuple xs), im (.tuple ys), none, none, none]) (by kernel_rfl)).trans ?_
    rw [seqS_nx (e1 := [im (.tuple xs), im (.tuple ys), none, none, none]) (by kernel_rfl), seqS_one]
    have bl : bltD .len [.tuple xs] = some (.im (.int xs.length)) := rfl
    have bl2 : bltD .len [.tuple ys] = some (.im (.int ys.length)) := rfl
    have h' : ¬ (xs.length : Int) = ys.length := by omega
    simp only [im, bl, bl2, h', decide_false, seqS, SR.bind, Res.st, Res.bind, retS, exprS, ifS, asgS, nameG, stS_n, stS_1, stS_2, stS_3, stS_4, stS_5, stS_6, stS_7, stS_8, stS_9, stS_10, stS_11, stS_12, stS_13, stS_14, stS_15, asgT, unpT, tupT, parS, argsP, parG, immE, varE, lift, un1, op2, andE, orE, notE, ifE, chainE, tru, argsD, tupE, lstE, argsO, toPar, backs, callE, vw, vws, fzO, gt, pt, bltE, isiE, isisE, tyD, imB, imI, cmpF, cmpD, binD_add, binD_sub, augD, sliE, optE, sliD, itE, argsI, hid_im, hid_tl, hid_n, mutE, mtF, appF, isOl, setiS, setF, endF, outO, finsOf_f, finsOf_t, finsOf_n, fxOf, raiseS, seqF, seqD, nameT, unhS, List.replicate, List.cons_append, List.nil_append, List.contains, List.elem, Option.map, Option.bind, ltD_int, leD_int, eqD_int, eqD_str, Bool.not_true, Bool.not_false, Bool.false_eq_true, if_true, if_false]
  show endF [false, false] (seqS _ [im (.tuple xs), im (.tuple ys), none, none, none]) = _
  rw [seqS_rt s0]
  rfl
/-- item by item -/
theorem is_all (k : Nat) {xs ys : List D} {bs : List Bool} (f : D → Bool) (h : xs.length = ys.length) (hl : xs.length < 100) (hb : (zipI xs ys).map f = bs) (hf : ∀ x y, .tuple [x, y] ∈ zipI xs ys → P.run (k + 3) d__law_is [im x, im y] = .ok (.im (.bool (f (.tuple [x, y])))) [none, none]) (hz : ∀ d ∈ zipI xs ys, ∃ x y, d = .tuple [x, y]) : P.run (k + 4) d__law_is [im (.tuple xs), im (.tuple ys)] = .ok (.im (.bool (bs.all id))) [none, none] := by
  rw [r__law_is (k + 1)]
  have e : c__law_is_0 (k + 1) [im (.tuple xs), im (.tuple ys), none, none, none] = .ok (.tl ((zipI xs ys).map fun d => .bool (f d))) [im (.tuple xs), im (.tuple ys), none, none, none] := by
    refine compE_map (fun d => .bool (f d)) rfl rfl (by rw [zipI_len]; simp [sizeMax]; omega) fun d hd => ?_
    obtain ⟨x, y, rfl⟩ := hz d hd
    refine ⟨[im (.tuple xs), im (.tuple ys), none, im x, im y], rfl, rfl, ?_, rfl⟩
    have hx := hf x y hd
    simp only [im] at hx
    simp only [ce__law_is_0, im, hx, seqS, SR.bind, Res.st, Res.bind, retS, exprS, ifS, asgS, nameG, stS_n, stS_1, stS_2, stS_3, stS_4, stS_5, stS_6, stS_7, stS_8, stS_9, stS_10, stS_11, stS_12, stS_13, stS_14, stS_15, asgT, unpT, tupT, parS, argsP, parG, immE, varE, lift, un1, op2, andE, orE, notE, ifE, chainE, tru, argsD, tupE, lstE, argsO, toPar, backs, callE, vw, vws, fzO, gt, pt, bltE, isiE, isisE, tyD, imB, imI, cmpF, cmpD, binD_add, binD_sub, augD, sliE, optE, sliD, itE, argsI, hid_im, hid_tl, hid_n, mutE, mtF, appF, isOl, setiS, setF, endF, outO, finsOf_f, finsOf_t, finsOf_n, fxOf, raiseS, seqF, seqD, nameT, unhS, List.replicate, List.cons_append, List.nil_append, List.contains, List.elem, Option.map, Option.bind, ltD_int, leD_int, eqD_int, eqD_str, Bool.not_true, Bool.not_false, Bool.false_eq_true, if_true, if_false]
  have eb : ((zipI xs ys).map fun d => PyData.bool (f d)) = bL bs := by
    rw [← hb, bL, List.map_map]
    rfl
  rw [eb] at e
  have s0 : b__law_is_0 (k + 1) [im (.tuple xs), im (.tuple ys), none, none, none] = .rt (.im (.bool (bs.all id))) [im (.tuple xs), im (.tuple ys), none, none, none] := by
    refine (ifS_true (e1 := [im (.tuple xs), im (.tuple ys), none, none, none]) (by kernel_rfl)).trans ?_
    rw [seqS_nx (e1 := [im (.tuple xs), im (.tuple ys), none, none, none]) (by kernel_rfl), seqS_one]
    have bl : bltD .len [.tuple xs] = some (.im (.int xs.length)) := rfl
    have bl2 : bltD .len [.tuple ys] = some (.im (.int ys.length)) := rfl
    have h' : (xs.length : Int) = ys.length := by omega
    have ba : bltD .all [.list (bL bs)] = some (.im (.bool (bs.all id))) := bltD_all
    simp only [im] at e
    simp only [im, e, bl, bl2, h', ba, decide_true, seqS, SR.bind, Res.st, Res.bind, retS, exprS, ifS, asgS, nameG, stS_n, stS_1, stS_2, stS_3, stS_4, stS_5, stS_6, stS_7, stS_8, stS_9, stS_10, stS_11, stS_12, stS_13, stS_14, stS_15, asgT, unpT, tupT, parS, argsP, parG, immE, varE, lift, un1, op2, andE, orE, notE, ifE, chainE, tru, argsD, tupE, lstE, argsO, toPar, backs, callE, vw, vws, fzO, gt, pt, bltE, isiE, isisE, tyD, imB, imI, cmpF, cmpD, binD_add, binD_sub, augD, sliE, optE, sliD, itE, argsI, hid_im, hid_tl, hid_n, mutE, mtF, appF, isOl, setiS, setF, endF, outO, finsOf_f, finsOf_t, finsOf_n, fxOf, raiseS, seqF, seqD, nameT, unhS, List.replicate, List.cons_append, List.nil_append, List.contains, List.elem, Option.map, Option.bind, ltD_int, leD_int, eqD_int, eqD_str, Bool.not_true, Bool.not_false, Bool.false_eq_true, if_true, if_false]
  show endF [false, false] (seqS _ [im (.tuple xs), im (.tuple ys), none, none, none]) = _
  rw [seqS_rt s0]
  rfl
theorem is_pr2 (k : Nat) {p q : Int × Int} : P.run (k + 4) d__law_is [im (pr p), im (pr q)] = .ok (.im (.bool (decide (p = q)))) [none, none] := by
  have e : decide (p = q) = [decide (p.1 = q.1), decide (p.2 = q.2)].all id := by
    obtain ⟨a, b⟩ := p
    obtain ⟨c, d⟩ := q
    simp
  rw [e]
  refine is_all k (xs := [.int p.1, .int p.2]) (ys := [.int q.1, .int q.2]) (fun d => match d with
    | .tuple [.int i, .int j] => decide (i = j)
    | _ => false) rfl (by simp) rfl (fun x y h => ?_) fun d h => ?_
  · have h' : PyData.tuple [x, y] ∈ [PyData.tuple [.int p.1, .int q.1], .tuple [.int p.2, .int q.2]] := h
    simp only [List.mem_cons, List.not_mem_nil, or_false, PyData.tuple.injEq, List.cons.injEq, and_true] at h'
    rcases h' with ⟨rfl, rfl⟩ | ⟨rfl, rfl⟩ <;> exact is_int2 k _ _
  · have h' : d ∈ [PyData.tuple [.int p.1, .int q.1], .tuple [.int p.2, .int q.2]] := h
    simp only [List.mem_cons, List.not_mem_nil, or_false] at h'
    rcases h' with rfl | rfl <;> exact ⟨_, _, rfl⟩
theorem is_non2 (k : Nat) {p q : Int × Int} : P.run (k + 5) d__law_is [im (.tuple [.str "none", pr p]), im (.tuple [.str "none", pr q])] = .ok (.im (.bool (decide (p = q)))) [none, none] := by
  have e : decide (p = q) = [true, decide (p = q)].all id := by simp
  rw [e]
  refine is_all (k + 1) (xs := [.str "none", pr p]) (ys := [.str "none", pr q]) (fun d => match d with
    | .tuple [.str _, _] => true
    | _ => decide (p = q)) rfl (by simp) rfl (fun x y h => ?_) fun d h => ?_
  · have h' : PyData.tuple [x, y] ∈ [PyData.tuple [.str "none", .str "none"], .tuple [pr p, pr q]] := h
    simp only [List.mem_cons, List.not_mem_nil, or_false, PyData.tuple.injEq, List.cons.injEq, and_true] at h'
    rcases h' with ⟨rfl, rfl⟩ | ⟨rfl, rfl⟩
    · exact is_nil (k + 1)
    · exact is_pr2 k
  · have h' : d ∈ [PyData.tuple [.str "none", .str "none"], .tuple [pr p, pr q]] := h
    simp only [List.mem_cons, List.not_mem_nil, or_false] at h'
    rcases h' with rfl | rfl <;> exact ⟨_, _, rfl⟩
theorem is_add3 (k : Nat) {a b : Int} : P.run (k + 5) d__law_is [im (.tuple [.str "add", .int a, .int b]), im (.tuple [.str "add", .int a, .int b])] = .ok (.im (.bool true)) [none, none] :=
  is_tup (k + 1) (by simp) fun d hd => by
    simp only [List.mem_cons, List.not_mem_nil, or_false] at hd
    rcases hd with rfl | rfl | rfl
    · exact is_add (k + 1)
    · exact is_int (k + 1) _
    · exact is_int (k + 1) _
section
variable {v lo hi : Int × Int} {r : Int}
/-- right vat, bounds, room -/
structure Ri (v lo hi : Int × Int) (r : Int) : Prop where
  hv : Va v
  hl : Sm lo
  hh : Sm hi
  hb : ¬ ls hi lo
  h1 : v.2 ≤ r
  h2 : r ≤ 30
theorem t_chk (k : Nat) (R : Ri v lo hi r) : P.run (k + 7) d_check_starch [im (pr v), im (bo lo hi), im (.int r)] = .ok (.im .none) [none, none, none] := by
  rw [r_check_starch (k + 4)]
  have cv := t_check_vat k R.hv
  have e : c_check_starch_0 (k + 4) [im (pr v), im (bo lo hi), im (.int r), none] = .ok (.tl (bL ([pr lo, pr hi].map fun _ => true))) [im (pr v), im (bo lo hi), im (.int r), none] := by
    rw [all_true]
    refine compE_map (fun _ => .bool true) rfl rfl (by simp [sizeMax]) fun d hd => ?_
    have : ∃ p : Int × Int, d = pr p ∧ Sm p := by
      simp only [List.mem_cons, List.not_mem_nil, or_false] at hd
      rcases hd with rfl | rfl
      · exact ⟨lo, rfl, R.hl⟩
      · exact ⟨hi, rfl, R.hh⟩
    obtain ⟨p, rfl, p1, p2, p3, p4, p5⟩ := this
    refine ⟨[im (pr v), im (bo lo hi), im (.int r), im (pr p)], rfl, rfl, ?_, rfl⟩
    have is := t_is_share (k + 2) p1 p3 (by omega) p5
    simp only [im] at is
    simp only [ce_check_starch_0, im, is, sub0, p1, decide_true, seqS, SR.bind, Res.st, Res.bind, retS, exprS, ifS, asgS, nameG, stS_n, stS_1, stS_2, stS_3, stS_4, stS_5, stS_6, stS_7, stS_8, stS_9, stS_10, stS_11, stS_12, stS_13, stS_14, stS_15, asgT, unpT, tupT, parS, argsP, parG, immE, varE, lift, un1, op2, andE, orE, notE, ifE, chainE, tru, argsD, tupE, lstE, argsO, toPar, backs, callE, vw, vws, fzO, gt, pt, bltE, isiE, isisE, tyD, imB, imI, cmpF, cmpD, binD_add, binD_sub, augD, sliE, optE, sliD, itE, argsI, hid_im, hid_tl, hid_n, mutE, mtF, appF, isOl, setiS, setF, endF, outO, finsOf_f, finsOf_t, finsOf_n, fxOf, raiseS, seqF, seqD, nameT, unhS, List.replicate, List.cons_append, List.nil_append, List.contains, List.elem, Option.map, Option.bind, ltD_int, leD_int, eqD_int, eqD_str, Bool.not_true, Bool.not_false, Bool.false_eq_true, if_true, if_false]
  have lt := t_is_less (k + 3) (s := hi) (b := lo) R.hl.s1 R.hl.s2
  rw [decide_eq_false R.hb] at lt
  have sz := t_is_sized (k + 3) (xs := [pr lo, pr hi]) (lo := 2) (hi := 2) (by simp) (by simp)
  have wi := t_is_within (k + 2) R.h1 R.h2
  have q0 : b_check_starch_0 (k + 4) [im (pr v), im (bo lo hi), im (.int r), none] = .nx [im (pr v), im (bo lo hi), im (.int r), none] := by
    simp only [im] at cv
    simp only [b_check_starch_0, im, cv, seqS, SR.bind, Res.st, Res.bind, retS, exprS, ifS, asgS, nameG, stS_n, stS_1, stS_2, stS_3, stS_4, stS_5, stS_6, stS_7, stS_8, stS_9, stS_10, stS_11, stS_12, stS_13, stS_14, stS_15, asgT, unpT, tupT, parS, argsP, parG, immE, varE, lift, un1, op2, andE, orE, notE, ifE, chainE, tru, argsD, tupE, lstE, argsO, toPar, backs, callE, vw, vws, fzO, gt, pt, bltE, isiE, isisE, tyD, imB, imI, cmpF, cmpD, binD_add, binD_sub, augD, sliE, optE, sliD, itE, argsI, hid_im, hid_tl, hid_n, mutE, mtF, appF, isOl, setiS, setF, endF, outO, finsOf_f, finsOf_t, finsOf_n, fxOf, raiseS, seqF, seqD, nameT, unhS, List.replicate, List.cons_append, List.nil_append, List.contains, List.elem, Option.map, Option.bind, ltD_int, leD_int, eqD_int, eqD_str, Bool.not_true, Bool.not_false, Bool.false_eq_true, if_true, if_false]
  have q1 : b_check_starch_1 (k + 4) [im (pr v), im (bo lo hi), im (.int r), none] = .nx [im (pr v), im (bo lo hi), im (.int r), none] := by
    simp only [im] at e
    simp only [b_check_starch_1, im, sz, e, bltD_allT, seqS, SR.bind, Res.st, Res.bind, retS, exprS, ifS, asgS, nameG, stS_n, stS_1, stS_2, stS_3, stS_4, stS_5, stS_6, stS_7, stS_8, stS_9, stS_10, stS_11, stS_12, stS_13, stS_14, stS_15, asgT, unpT, tupT, parS, argsP, parG, immE, varE, lift, un1, op2, andE, orE, notE, ifE, chainE, tru, argsD, tupE, lstE, argsO, toPar, backs, callE, vw, vws, fzO, gt, pt, bltE, isiE, isisE, tyD, imB, imI, cmpF, cmpD, binD_add, binD_sub, augD, sliE, optE, sliD, itE, argsI, hid_im, hid_tl, hid_n, mutE, mtF, appF, isOl, setiS, setF, endF, outO, finsOf_f, finsOf_t, finsOf_n, fxOf, raiseS, seqF, seqD, nameT, unhS, List.replicate, List.cons_append, List.nil_append, List.contains, List.elem, Option.map, Option.bind, ltD_int, leD_int, eqD_int, eqD_str, Bool.not_true, Bool.not_false, Bool.false_eq_true, if_true, if_false]
  have q2 : b_check_starch_2 (k + 4) [im (pr v), im (bo lo hi), im (.int r), none] = .nx [im (pr v), im (bo lo hi), im (.int r), none] := by
    simp only [im] at lt
    simp only [b_check_starch_2, im, bo0, bo1, lt, seqS, SR.bind, Res.st, Res.bind, retS, exprS, ifS, asgS, nameG, stS_n, stS_1, stS_2, stS_3, stS_4, stS_5, stS_6, stS_7, stS_8, stS_9, stS_10, stS_11, stS_12, stS_13, stS_14, stS_15, asgT, unpT, tupT, parS, argsP, parG, immE, varE, lift, un1, op2, andE, orE, notE, ifE, chainE, tru, argsD, tupE, lstE, argsO, toPar, backs, callE, vw, vws, fzO, gt, pt, bltE, isiE, isisE, tyD, imB, imI, cmpF, cmpD, binD_add, binD_sub, augD, sliE, optE, sliD, itE, argsI, hid_im, hid_tl, hid_n, mutE, mtF, appF, isOl, setiS, setF, endF, outO, finsOf_f, finsOf_t, finsOf_n, fxOf, raiseS, seqF, seqD, nameT, unhS, List.replicate, List.cons_append, List.nil_append, List.contains, List.elem, Option.map, Option.bind, ltD_int, leD_int, eqD_int, eqD_str, Bool.not_true, Bool.not_false, Bool.false_eq_true, if_true, if_false]
  have q3 : b_check_starch_3 (k + 4) [im (pr v), im (bo lo hi), im (.int r), none] = .nx [im (pr v), im (bo lo hi), im (.int r), none] := by
    simp only [b_check_starch_3, im, sub1, wi, seqS, SR.bind, Res.st, Res.bind, retS, exprS, ifS, asgS, nameG, stS_n, stS_1, stS_2, stS_3, stS_4, stS_5, stS_6, stS_7, stS_8, stS_9, stS_10, stS_11, stS_12, stS_13, stS_14, stS_15, asgT, unpT, tupT, parS, argsP, parG, immE, varE, lift, un1, op2, andE, orE, notE, ifE, chainE, tru, argsD, tupE, lstE, argsO, toPar, backs, callE, vw, vws, fzO, gt, pt, bltE, isiE, isisE, tyD, imB, imI, cmpF, cmpD, binD_add, binD_sub, augD, sliE, optE, sliD, itE, argsI, hid_im, hid_tl, hid_n, mutE, mtF, appF, isOl, setiS, setF, endF, outO, finsOf_f, finsOf_t, finsOf_n, fxOf, raiseS, seqF, seqD, nameT, unhS, List.replicate, List.cons_append, List.nil_append, List.contains, List.elem, Option.map, Option.bind, ltD_int, leD_int, eqD_int, eqD_str, Bool.not_true, Bool.not_false, Bool.false_eq_true, if_true, if_false]
  show endF [false, false, false] (seqS _ [im (pr v), im (bo lo hi), im (.int r), none]) = _
  rw [seqS_nx q0, seqS_nx q1, seqS_nx q2, seqS_one, q3]
  rfl
abbrev tld (v lo hi : Int × Int) (r : Int) : D := told v lo hi ((grid v r).mergeSort leT)
theorem t_starched (k : Nat) (R : Ri v lo hi r) : P.run (k + 10) d_starched_told [im (pr v), im (bo lo hi), im (.int r)] = .ok (.im (tld v lo hi r)) [none, none, none] := by
  have c := t_chk (k + 2) R
  have t := t_raw_told k R.hv R.hl R.hh R.h1 R.h2
  rw [r_starched_told (k + 7)]
  simp only [im] at c t
  simp only [b_starched_told_0, b_starched_told_1, im, c, t, seqS, SR.bind, Res.st, Res.bind, retS, exprS, ifS, asgS, nameG, stS_n, stS_1, stS_2, stS_3, stS_4, stS_5, stS_6, stS_7, stS_8, stS_9, stS_10, stS_11, stS_12, stS_13, stS_14, stS_15, asgT, unpT, tupT, parS, argsP, parG, immE, varE, lift, un1, op2, andE, orE, notE, ifE, chainE, tru, argsD, tupE, lstE, argsO, toPar, backs, callE, vw, vws, fzO, gt, pt, bltE, isiE, isisE, tyD, imB, imI, cmpF, cmpD, binD_add, binD_sub, augD, sliE, optE, sliD, itE, argsI, hid_im, hid_tl, hid_n, mutE, mtF, appF, isOl, setiS, setF, endF, outO, finsOf_f, finsOf_t, finsOf_n, fxOf, raiseS, seqF, seqD, nameT, unhS, List.replicate, List.cons_append, List.nil_append, List.contains, List.elem, Option.map, Option.bind, ltD_int, leD_int, eqD_int, eqD_str, Bool.not_true, Bool.not_false, Bool.false_eq_true, if_true, if_false]
theorem told_form (R : Ri v lo hi r) : (∃ t, tld v lo hi r = .tuple [.str "add", .int t.2.1, .int t.2.2] ∧ Ok v t ∧ hitT v lo hi t = true ∧ t.2.2 ≤ r - v.2) ∨ ∃ q, tld v lo hi r = .tuple [.str "none", pr q] ∧ Fr q := by
  have okt : ∀ t ∈ (grid v r).mergeSort leT, Ok v t := fun t ht => grid_ok R.hv R.h1 R.h2 (List.mem_mergeSort.mp ht)
  have okr : ∀ t ∈ (grid v r).mergeSort leT, t.2.2 ≤ r - v.2 := fun t ht => by
    have := gridT_mem (List.mem_mergeSort.mp ht)
    have n2 : ((nP v r : Nat) : Int) = r - v.2 + 1 := by show (((r - v.2 + 1).toNat : Nat) : Int) = _; have := R.h1; omega
    omega
  have ne : (grid v r).mergeSort leT ≠ [] := fun e => by
    have l : ((grid v r).mergeSort leT).length = nP v r * nS v := by rw [List.length_mergeSort, gridT_len]
    rw [e] at l
    have p1 : 0 < nP v r := by show 0 < (r - v.2 + 1).toNat; have := R.h1; omega
    have p2 : 0 < nS v := by show 0 < (50 - v.1 + 1).toNat; have := R.hv.2.1; omega
    have := Nat.mul_pos p1 p2
    simp only [List.length_nil] at l
    omega
  unfold tld
  generalize (grid v r).mergeSort leT = ts at okt okr ne ⊢
  unfold told
  cases f : ts.find? (hitT v lo hi) with
  | some t => exact .inl ⟨t, rfl, okt t (List.mem_of_find?_eq_some f), List.find?_some f, okr t (List.mem_of_find?_eq_some f)⟩
  | none =>
    right
    cases ts with
    | nil => exact absurd rfl ne
    | cons t ts =>
      have fr : ∀ q ∈ (t :: ts).map (fa v lo hi), Fr q := fun q hq => by
        obtain ⟨t, ht, rfl⟩ := List.mem_map.mp hq
        exact (fr_far R.hl R.hh (ok_lw R.hv (okt t ht)).2).1
      rw [List.map_cons] at fr ⊢
      obtain ⟨m, e1, e2, _⟩ := nr_spec (fr _ List.mem_cons_self) fun q hq => fr q (List.mem_cons_of_mem _ hq)
      have e : (fa v lo hi t :: ts.map (fa v lo hi)).foldl nr none = some m := e1
      refine ⟨m, ?_, ?_⟩
      · simp only [e]
        rfl
      · rcases e2 with rfl | e2
        · exact fr _ List.mem_cons_self
        · exact fr _ (List.mem_cons_of_mem _ e2)
/-! ### what is told is judged -/
theorem w_any (k : Nat) {i lo hi : Int} : P.run (k + 4) d_is_within [im (.int i), im (.int lo), im (.int hi)] = .ok (.im (.bool (decide (lo ≤ i) && decide (i ≤ hi)))) [none, none, none] := by
  by_cases a : lo ≤ i
  · by_cases b : i ≤ hi
    · rw [decide_eq_true a, decide_eq_true b]
      exact t_is_within k a b
    · rw [decide_eq_false b, Bool.and_false]
      exact n_within_i k (.inr (by omega))
  · rw [decide_eq_false a, Bool.false_and]
    exact n_within_i k (.inl (by omega))
abbrev J (v lo hi : Int × Int) (r : Int) (x : D) (y : Option Sv) : Sl := [im (pr v), im (bo lo hi), im (.int r), im x, y]
theorem finsOf_all4 {e : Sl} : finsOf [false, false, false, false] e = [none, none, none, none] := by
  cases e with
  | nil => rfl
  | cons a e => cases e with
    | nil => rfl
    | cons b e => cases e with
      | nil => rfl
      | cons c e => cases e <;> rfl
/-- what is no tuple, or a tuple of one at most -/
def Odd (x : D) : Prop := x = .none ∨ (∃ b, x = .bool b) ∨ (∃ i, x = .int i) ∨ (∃ s, x = .str s) ∨ (∃ ys, x = .list ys) ∨ x = .dict [] ∨ (∃ y, x = .dict [(.int 0, y)]) ∨ x = .tuple [] ∨ ∃ y, x = .tuple [y]
theorem j0 (k : Nat) (R : Ri v lo hi r) {x : D} : b_is_starched_told_0 (k + 7) (J v lo hi r x none) = .nx (J v lo hi r x none) := by
  have c := t_chk (k + 2) R
  simp only [im] at c
  simp only [b_is_starched_told_0, J, im, c, seqS, SR.bind, Res.st, Res.bind, retS, exprS, ifS, asgS, nameG, stS_n, stS_1, stS_2, stS_3, stS_4, stS_5, stS_6, stS_7, stS_8, stS_9, stS_10, stS_11, stS_12, stS_13, stS_14, stS_15, asgT, unpT, tupT, parS, argsP, parG, immE, varE, lift, un1, op2, andE, orE, notE, ifE, chainE, tru, argsD, tupE, lstE, argsO, toPar, backs, callE, vw, vws, fzO, gt, pt, bltE, isiE, isisE, tyD, imB, imI, cmpF, cmpD, binD_add, binD_sub, augD, sliE, optE, sliD, itE, argsI, hid_im, hid_tl, hid_n, mutE, mtF, appF, isOl, setiS, setF, endF, outO, finsOf_f, finsOf_t, finsOf_n, fxOf, raiseS, seqF, seqD, nameT, unhS, List.replicate, List.cons_append, List.nil_append, List.contains, List.elem, Option.map, Option.bind, ltD_int, leD_int, eqD_int, eqD_str, Bool.not_true, Bool.not_false, Bool.false_eq_true, if_true, if_false]
theorem j_rt (k : Nat) (R : Ri v lo hi r) {x : D} {b : Bool} {e : Sl} (h : b_is_starched_told_1 (k + 7) (J v lo hi r x none) = .rt (.im (.bool b)) e) : P.run (k + 10) d_is_starched_told [im (pr v), im (bo lo hi), im (.int r), im x] = .ok (.im (.bool b)) [none, none, none, none] := by
  rw [r_is_starched_told (k + 7)]
  show endF [false, false, false, false] (seqS _ (J v lo hi r x none)) = _
  rw [seqS_nx (j0 k R), seqS_rt h]
  simp only [endF, outO, finsOf_all4]
theorem j_odd (k : Nat) (R : Ri v lo hi r) {x : D} (h : Odd x) : P.run (k + 10) d_is_starched_told [im (pr v), im (bo lo hi), im (.int r), im x] = .ok (.im (.bool false)) [none, none, none, none] := by
  refine j_rt k R (e := J v lo hi r x none) ?_
  rcases h with rfl | ⟨b, rfl⟩ | ⟨b, rfl⟩ | ⟨b, rfl⟩ | ⟨b, rfl⟩ | rfl | ⟨b, rfl⟩ | rfl | ⟨y, rfl⟩ <;> kernel_rfl
theorem j_four (k : Nat) (R : Ri v lo hi r) {a b c d : D} : P.run (k + 10) d_is_starched_told [im (pr v), im (bo lo hi), im (.int r), im (.tuple [a, b, c, d])] = .ok (.im (.bool false)) [none, none, none, none] :=
  j_rt k R (e := J v lo hi r (.tuple [a, b, c, d]) none) (by kernel_rfl)
theorem j2_rt (k : Nat) (R : Ri v lo hi r) {x : D} {b : Bool} {e : Sl} (h0 : b_is_starched_told_1 (k + 7) (J v lo hi r x none) = .nx (J v lo hi r x none)) (h : b_is_starched_told_2 (k + 7) (J v lo hi r x none) = .rt (.im (.bool b)) e) : P.run (k + 10) d_is_starched_told [im (pr v), im (bo lo hi), im (.int r), im x] = .ok (.im (.bool b)) [none, none, none, none] := by
  rw [r_is_starched_told (k + 7)]
  show endF [false, false, false, false] (seqS _ (J v lo hi r x none)) = _
  rw [seqS_nx (j0 k R), seqS_nx h0, seqS_rt h]
  simp only [endF, outO, finsOf_all4]
theorem j_n3 (k : Nat) (R : Ri v lo hi r) {a b : D} : P.run (k + 10) d_is_starched_told [im (pr v), im (bo lo hi), im (.int r), im (.tuple [.str "none", a, b])] = .ok (.im (.bool false)) [none, none, none, none] :=
  j2_rt k R (e := J v lo hi r (.tuple [.str "none", a, b]) none) (by kernel_rfl) (by kernel_rfl)
/-- may so many scoops, pails be added -/
def may (v lo hi : Int × Int) (r a b : Int) : Bool := decide (0 ≤ a) && decide (a ≤ 50 - v.1) && (decide (0 ≤ b) && decide (b ≤ r - v.2)) && hitT v lo hi (a + b, a, b)
theorem j_t (k : Nat) (R : Ri v lo hi r) : P.run (k + 10) d_is_starched_told [im (pr v), im (bo lo hi), im (.int r), im (.tuple [.str "add", .bool true, .int 0])] = .ok (.im (.bool false)) [none, none, none, none] := by
  refine j2_rt k R (e := J v lo hi r (.tuple [.str "add", .bool true, .int 0]) none) (by kernel_rfl) ?_
  have n := n_within (k + 5) (x := .bool true) (lo := 0) (hi := 50 - v.1) (.inr (.inl ⟨_, rfl⟩))
  have s0 : subD (.tuple [.str "add", .bool true, .int 0]) (.int 0) = some (.im (.str "add")) := rfl
  have s1 : subD (.tuple [.str "add", .bool true, .int 0]) (.int 1) = some (.im (.bool true)) := rfl
  have bl : bltD .len [.tuple [.str "add", .bool true, .int 0]] = some (.im (.int 3)) := rfl
  simp only [im] at n
  simp only [b_is_starched_told_2, J, im, s0, s1, bl, sub0, n, decide_true, seqS, SR.bind, Res.st, Res.bind, retS, exprS, ifS, asgS, nameG, stS_n, stS_1, stS_2, stS_3, stS_4, stS_5, stS_6, stS_7, stS_8, stS_9, stS_10, stS_11, stS_12, stS_13, stS_14, stS_15, asgT, unpT, tupT, parS, argsP, parG, immE, varE, lift, un1, op2, andE, orE, notE, ifE, chainE, tru, argsD, tupE, lstE, argsO, toPar, backs, callE, vw, vws, fzO, gt, pt, bltE, isiE, isisE, tyD, imB, imI, cmpF, cmpD, binD_add, binD_sub, augD, sliE, optE, sliD, itE, argsI, hid_im, hid_tl, hid_n, mutE, mtF, appF, isOl, setiS, setF, endF, outO, finsOf_f, finsOf_t, finsOf_n, fxOf, raiseS, seqF, seqD, nameT, unhS, List.replicate, List.cons_append, List.nil_append, List.contains, List.elem, Option.map, Option.bind, ltD_int, leD_int, eqD_int, eqD_str, Bool.not_true, Bool.not_false, Bool.false_eq_true, if_true, if_false]
theorem j_add (k : Nat) (R : Ri v lo hi r) {a b : Int} : P.run (k + 10) d_is_starched_told [im (pr v), im (bo lo hi), im (.int r), im (.tuple [.str "add", .int a, .int b])] = .ok (.im (.bool (may v lo hi r a b))) [none, none, none, none] := by
  refine j2_rt k R (e := J v lo hi r (.tuple [.str "add", .int a, .int b]) none) (by kernel_rfl) ?_
  have w1 := w_any (k + 5) (i := a) (lo := 0) (hi := 50 - v.1)
  have w2 := w_any (k + 5) (i := b) (lo := 0) (hi := r - v.2)
  have s0 : subD (.tuple [.str "add", .int a, .int b]) (.int 0) = some (.im (.str "add")) := rfl
  have s1 : subD (.tuple [.str "add", .int a, .int b]) (.int 1) = some (.im (.int a)) := rfl
  have s2 : subD (.tuple [.str "add", .int a, .int b]) (.int 2) = some (.im (.int b)) := rfl
  have bl : bltD .len [.tuple [.str "add", .int a, .int b]] = some (.im (.int 3)) := rfl
  simp only [im] at w1 w2
  unfold may
  cases z : decide (0 ≤ a) && decide (a ≤ 50 - v.1) with
  | false =>
    rw [z] at w1
    simp only [b_is_starched_told_2, J, im, s0, s1, s2, bl, sub0, sub1, w1, decide_true, Bool.false_and, seqS, SR.bind, Res.st, Res.bind, retS, exprS, ifS, asgS, nameG, stS_n, stS_1, stS_2, stS_3, stS_4, stS_5, stS_6, stS_7, stS_8, stS_9, stS_10, stS_11, stS_12, stS_13, stS_14, stS_15, asgT, unpT, tupT, parS, argsP, parG, immE, varE, lift, un1, op2, andE, orE, notE, ifE, chainE, tru, argsD, tupE, lstE, argsO, toPar, backs, callE, vw, vws, fzO, gt, pt, bltE, isiE, isisE, tyD, imB, imI, cmpF, cmpD, binD_add, binD_sub, augD, sliE, optE, sliD, itE, argsI, hid_im, hid_tl, hid_n, mutE, mtF, appF, isOl, setiS, setF, endF, outO, finsOf_f, finsOf_t, finsOf_n, fxOf, raiseS, seqF, seqD, nameT, unhS, List.replicate, List.cons_append, List.nil_append, List.contains, List.elem, Option.map, Option.bind, ltD_int, leD_int, eqD_int, eqD_str, Bool.not_true, Bool.not_false, Bool.false_eq_true, if_true, if_false]
  | true =>
    rw [z] at w1
    cases y : decide (0 ≤ b) && decide (b ≤ r - v.2) with
    | false =>
      rw [y] at w2
      simp only [b_is_starched_told_2, J, im, s0, s1, s2, bl, sub0, sub1, w1, w2, decide_true, Bool.and_false, Bool.false_and, seqS, SR.bind, Res.st, Res.bind, retS, exprS, ifS, asgS, nameG, stS_n, stS_1, stS_2, stS_3, stS_4, stS_5, stS_6, stS_7, stS_8, stS_9, stS_10, stS_11, stS_12, stS_13, stS_14, stS_15, asgT, unpT, tupT, parS, argsP, parG, immE, varE, lift, un1, op2, andE, orE, notE, ifE, chainE, tru, argsD, tupE, lstE, argsO, toPar, backs, callE, vw, vws, fzO, gt, pt, bltE, isiE, isisE, tyD, imB, imI, cmpF, cmpD, binD_add, binD_sub, augD, sliE, optE, sliD, itE, argsI, hid_im, hid_tl, hid_n, mutE, mtF, appF, isOl, setiS, setF, endF, outO, finsOf_f, finsOf_t, finsOf_n, fxOf, raiseS, seqF, seqD, nameT, unhS, List.replicate, List.cons_append, List.nil_append, List.contains, List.elem, Option.map, Option.bind, ltD_int, leD_int, eqD_int, eqD_str, Bool.not_true, Bool.not_false, Bool.false_eq_true, if_true, if_false]
    | true =>
      rw [y] at w2
      simp only [Bool.and_eq_true, decide_eq_true_eq] at z y
      have ok : Ok v (a + b, a, b) := ⟨z.1, by show v.1 + a ≤ 50; omega, y.1, by show v.2 + b ≤ 30; have := R.h2; omega⟩
      obtain ⟨l, sm⟩ := ok_lw R.hv ok
      have sh := t_share (k + 5) l
      have bt := t_between (k + 5) (hi := hi) R.hl sm
      have ek : low (v.1 + a) (v.2 + b) = st v (a + b, a, b) := rfl
      have eh : btw lo hi (st v (a + b, a, b)) = hitT v lo hi (a + b, a, b) := rfl
      simp only at sh
      rw [ek] at sh
      rw [eh] at bt
      simp only [im] at sh bt
      generalize st v (a + b, a, b) = s at sh bt
      simp only [b_is_starched_told_2, J, im, s0, s1, s2, bl, sub0, sub1, w1, w2, sh, bt, decide_true, Bool.true_and, Bool.and_self, seqS, SR.bind, Res.st, Res.bind, retS, exprS, ifS, asgS, nameG, stS_n, stS_1, stS_2, stS_3, stS_4, stS_5, stS_6, stS_7, stS_8, stS_9, stS_10, stS_11, stS_12, stS_13, stS_14, stS_15, asgT, unpT, tupT, parS, argsP, parG, immE, varE, lift, un1, op2, andE, orE, notE, ifE, chainE, tru, argsD, tupE, lstE, argsO, toPar, backs, callE, vw, vws, fzO, gt, pt, bltE, isiE, isisE, tyD, imB, imI, cmpF, cmpD, binD_add, binD_sub, augD, sliE, optE, sliD, itE, argsI, hid_im, hid_tl, hid_n, mutE, mtF, appF, isOl, setiS, setF, endF, outO, finsOf_f, finsOf_t, finsOf_n, fxOf, raiseS, seqF, seqD, nameT, unhS, List.replicate, List.cons_append, List.nil_append, List.contains, List.elem, Option.map, Option.bind, ltD_int, leD_int, eqD_int, eqD_str, Bool.not_true, Bool.not_false, Bool.false_eq_true, if_true, if_false]
theorem eq_pr2 {p q : Int × Int} : eqD (pr p) (pr q) = some (decide (p = q)) := by
  have a : ∀ p : Int × Int, shp (pr p) = true := fun p => by simp only [shp_N, shpN_tuple, shpNs_cons, shpN_int, shpNs_nil, Bool.and_self]
  simp only [eqD, a, Bool.and_self, if_true]
  obtain ⟨x, y⟩ := p
  obtain ⟨z, w⟩ := q
  congr 1
  by_cases h1 : x = z <;> by_cases h2 : y = w <;> simp [PyData.eqv, PyData.eqvAll, h1, h2]
/-- is it the same nearest -/
def nst : D → Int × Int → Bool
  | .tuple [_, .tuple [.int a, .int b]], p => decide (p = (a, b))
  | _, _ => false
theorem j_none (k : Nat) (R : Ri v lo hi r) {p : Int × Int} (hp : Fr p) : P.run (k + 10) d_is_starched_told [im (pr v), im (bo lo hi), im (.int r), im (.tuple [.str "none", pr p])] = .ok (.im (.bool (nst (tld v lo hi r) p))) [none, none, none, none] := by
  have t := t_raw_told k R.hv R.hl R.hh R.h1 R.h2
  have is := t_is_share (k + 5) hp.1 hp.2.2.1 hp.2.2.2.1 hp.2.2.2.2
  have s0 : subD (.tuple [.str "none", pr p]) (.int 0) = some (.im (.str "none")) := rfl
  have s1 : subD (.tuple [.str "none", pr p]) (.int 1) = some (.im (pr p)) := rfl
  have b1 : b_is_starched_told_1 (k + 7) (J v lo hi r (.tuple [.str "none", pr p]) none) = .nx (J v lo hi r (.tuple [.str "none", pr p]) none) := by kernel_rfl
  have b2 : b_is_starched_told_2 (k + 7) (J v lo hi r (.tuple [.str "none", pr p]) none) = .nx (J v lo hi r (.tuple [.str "none", pr p]) none) := by kernel_rfl
  have b3 : b_is_starched_told_3 (k + 7) (J v lo hi r (.tuple [.str "none", pr p]) none) = .nx (J v lo hi r (.tuple [.str "none", pr p]) (im (tld v lo hi r))) := by
    simp only [im] at t
    simp only [b_is_starched_told_3, J, im, t, seqS, SR.bind, Res.st, Res.bind, retS, exprS, ifS, asgS, nameG, stS_n, stS_1, stS_2, stS_3, stS_4, stS_5, stS_6, stS_7, stS_8, stS_9, stS_10, stS_11, stS_12, stS_13, stS_14, stS_15, asgT, unpT, tupT, parS, argsP, parG, immE, varE, lift, un1, op2, andE, orE, notE, ifE, chainE, tru, argsD, tupE, lstE, argsO, toPar, backs, callE, vw, vws, fzO, gt, pt, bltE, isiE, isisE, tyD, imB, imI, cmpF, cmpD, binD_add, binD_sub, augD, sliE, optE, sliD, itE, argsI, hid_im, hid_tl, hid_n, mutE, mtF, appF, isOl, setiS, setF, endF, outO, finsOf_f, finsOf_t, finsOf_n, fxOf, raiseS, seqF, seqD, nameT, unhS, List.replicate, List.cons_append, List.nil_append, List.contains, List.elem, Option.map, Option.bind, ltD_int, leD_int, eqD_int, eqD_str, Bool.not_true, Bool.not_false, Bool.false_eq_true, if_true, if_false]
  have b4 : b_is_starched_told_4 (k + 7) (J v lo hi r (.tuple [.str "none", pr p]) (im (tld v lo hi r))) = .rt (.im (.bool (nst (tld v lo hi r) p))) (J v lo hi r (.tuple [.str "none", pr p]) (im (tld v lo hi r))) := by
    simp only [im] at is
    rcases told_form R with ⟨t, e, _, _⟩ | ⟨q, e, _⟩
    · rw [e]
      have u0 : subD (.tuple [.str "add", .int t.2.1, .int t.2.2]) (.int 0) = some (.im (.str "add")) := rfl
      have nn : decide (("add" : Str) = "none") = false := by decide
      simp only [b_is_starched_told_4, J, im, s0, u0, nn, nst, decide_true, seqS, SR.bind, Res.st, Res.bind, retS, exprS, ifS, asgS, nameG, stS_n, stS_1, stS_2, stS_3, stS_4, stS_5, stS_6, stS_7, stS_8, stS_9, stS_10, stS_11, stS_12, stS_13, stS_14, stS_15, asgT, unpT, tupT, parS, argsP, parG, immE, varE, lift, un1, op2, andE, orE, notE, ifE, chainE, tru, argsD, tupE, lstE, argsO, toPar, backs, callE, vw, vws, fzO, gt, pt, bltE, isiE, isisE, tyD, imB, imI, cmpF, cmpD, binD_add, binD_sub, augD, sliE, optE, sliD, itE, argsI, hid_im, hid_tl, hid_n, mutE, mtF, appF, isOl, setiS, setF, endF, outO, finsOf_f, finsOf_t, finsOf_n, fxOf, raiseS, seqF, seqD, nameT, unhS, List.replicate, List.cons_append, List.nil_append, List.contains, List.elem, Option.map, Option.bind, ltD_int, leD_int, eqD_int, eqD_str, Bool.not_true, Bool.not_false, Bool.false_eq_true, if_true, if_false]
    · rw [e]
      have u0 : subD (.tuple [.str "none", pr q]) (.int 0) = some (.im (.str "none")) := rfl
      have u1 : subD (.tuple [.str "none", pr q]) (.int 1) = some (.im (pr q)) := rfl
      simp only [b_is_starched_told_4, J, im, s0, s1, u0, u1, is, eq_pr2, nst, decide_true, seqS, SR.bind, Res.st, Res.bind, retS, exprS, ifS, asgS, nameG, stS_n, stS_1, stS_2, stS_3, stS_4, stS_5, stS_6, stS_7, stS_8, stS_9, stS_10, stS_11, stS_12, stS_13, stS_14, stS_15, asgT, unpT, tupT, parS, argsP, parG, immE, varE, lift, un1, op2, andE, orE, notE, ifE, chainE, tru, argsD, tupE, lstE, argsO, toPar, backs, callE, vw, vws, fzO, gt, pt, bltE, isiE, isisE, tyD, imB, imI, cmpF, cmpD, binD_add, binD_sub, augD, sliE, optE, sliD, itE, argsI, hid_im, hid_tl, hid_n, mutE, mtF, appF, isOl, setiS, setF, endF, outO, finsOf_f, finsOf_t, finsOf_n, fxOf, raiseS, seqF, seqD, nameT, unhS, List.replicate, List.cons_append, List.nil_append, List.contains, List.elem, Option.map, Option.bind, ltD_int, leD_int, eqD_int, eqD_str, Bool.not_true, Bool.not_false, Bool.false_eq_true, if_true, if_false]
  rw [r_is_starched_told (k + 7)]
  show endF [false, false, false, false] (seqS _ (J v lo hi r (.tuple [.str "none", pr p]) none)) = _
  rw [seqS_nx (j0 k R), seqS_nx b1, seqS_nx b2, seqS_nx b3, seqS_one, b4]
  rfl
/-! ### the law's own judge -/
theorem t_number (k : Nat) (i : Int) : P.run (k + 3) d__law_is_number [im (.int i)] = .ok (.im (.bool true)) [none] := by rw [r__law_is_number] <;> rfl
theorem t_number_b (k : Nat) (b : Bool) : P.run (k + 3) d__law_is_number [im (.bool b)] = .ok (.im (.bool false)) [none] := by rw [r__law_is_number] <;> rfl
abbrev E (v lo hi : Int × Int) (r : Int) (x : D) (y z : Option Sv) : Sl := [im (pr v), im (bo lo hi), im (.int r), im x, y, z, none]
theorem d_add (k : Nat) (R : Ri v lo hi r) {a b : Int} : P.run (k + 9) d__law_does [im (pr v), im (bo lo hi), im (.int r), im (.tuple [.str "add", .int a, .int b])] = .ok (.im (.bool (may v lo hi r a b))) [none, none, none, none] := by
  let x : D := .tuple [.str "add", .int a, .int b]
  have cu : cutL [PyData.str "add", .int a, .int b] (some 1) none = [.int a, .int b] := cutL_tail (by simp)
  have hit : itE [] seqF [(sliE (varE 3) (some (immE (.int 1))) none)] (E v lo hi r x none none) = .ok ⟨[.int a, .int b], []⟩ (E v lo hi r x none none) := by
    simp only [E, x, im, cu, List.append_nil, seqS, SR.bind, Res.st, Res.bind, retS, exprS, ifS, asgS, nameG, stS_n, stS_1, stS_2, stS_3, stS_4, stS_5, stS_6, stS_7, stS_8, stS_9, stS_10, stS_11, stS_12, stS_13, stS_14, stS_15, asgT, unpT, tupT, parS, argsP, parG, immE, varE, lift, un1, op2, andE, orE, notE, ifE, chainE, tru, argsD, tupE, lstE, argsO, toPar, backs, callE, vw, vws, fzO, gt, pt, bltE, isiE, isisE, tyD, imB, imI, cmpF, cmpD, binD_add, binD_sub, augD, sliE, optE, sliD, itE, argsI, hid_im, hid_tl, hid_n, mutE, mtF, appF, isOl, setiS, setF, endF, outO, finsOf_f, finsOf_t, finsOf_n, fxOf, raiseS, seqF, seqD, nameT, unhS, List.replicate, List.cons_append, List.nil_append, List.contains, List.elem, Option.map, Option.bind, ltD_int, leD_int, eqD_int, eqD_str, Bool.not_true, Bool.not_false, Bool.false_eq_true, if_true, if_false]
  have e : c__law_does_0 (k + 6) (E v lo hi r x none none) = .ok (.tl ([PyData.int a, .int b].map fun d => match d with
      | .int i => .bool (decide (0 ≤ i))
      | d => d)) (E v lo hi r x none none) := by
    refine compE_map _ hit rfl (by simp [sizeMax]) fun d hd => ?_
    have : ∃ i, d = .int i := by
      simp only [List.mem_cons, List.not_mem_nil, or_false] at hd
      rcases hd with rfl | rfl <;> exact ⟨_, rfl⟩
    obtain ⟨i, rfl⟩ := this
    refine ⟨[im (pr v), im (bo lo hi), im (.int r), im x, none, none, im (.int i)], rfl, rfl, ?_, rfl⟩
    have n := t_number (k + 5) i
    simp only [im] at n
    simp only [ce__law_does_0, im, n, ge_iff_le, seqS, SR.bind, Res.st, Res.bind, retS, exprS, ifS, asgS, nameG, stS_n, stS_1, stS_2, stS_3, stS_4, stS_5, stS_6, stS_7, stS_8, stS_9, stS_10, stS_11, stS_12, stS_13, stS_14, stS_15, asgT, unpT, tupT, parS, argsP, parG, immE, varE, lift, un1, op2, andE, orE, notE, ifE, chainE, tru, argsD, tupE, lstE, argsO, toPar, backs, callE, vw, vws, fzO, gt, pt, bltE, isiE, isisE, tyD, imB, imI, cmpF, cmpD, binD_add, binD_sub, augD, sliE, optE, sliD, itE, argsI, hid_im, hid_tl, hid_n, mutE, mtF, appF, isOl, setiS, setF, endF, outO, finsOf_f, finsOf_t, finsOf_n, fxOf, raiseS, seqF, seqD, nameT, unhS, List.replicate, List.cons_append, List.nil_append, List.contains, List.elem, Option.map, Option.bind, ltD_int, leD_int, eqD_int, eqD_str, Bool.not_true, Bool.not_false, Bool.false_eq_true, if_true, if_false]
  have e' : c__law_does_0 (k + 6) (E v lo hi r x none none) = .ok (.tl (bL [decide (0 ≤ a), decide (0 ≤ b)])) (E v lo hi r x none none) := e
  have ba : bltD .all [.list (bL [decide (0 ≤ a), decide (0 ≤ b)])] = some (.im (.bool (decide (0 ≤ a) && decide (0 ≤ b)))) := by
    have := bltD_all (bs := [decide (0 ≤ a), decide (0 ≤ b)])
    simpa [imB] using this
  have s1 : subD x (.int 1) = some (.im (.int a)) := rfl
  have s2 : subD x (.int 2) = some (.im (.int b)) := rfl
  rw [r__law_does (k + 6)]
  show endF [false, false, false, false] (seqS _ (E v lo hi r x none none)) = _
  have b0 : b__law_does_0 (k + 6) (E v lo hi r x none none) = if (decide (0 ≤ a) && decide (0 ≤ b)) = true then .nx (E v lo hi r x none none) else .rt (.im (.bool false)) (E v lo hi r x none none) := by
    simp only [E, im] at e'
    cases z : decide (0 ≤ a) && decide (0 ≤ b) <;> rw [z] at ba <;> simp only [b__law_does_0, E, im, e', ba, seqS, SR.bind, Res.st, Res.bind, retS, exprS, ifS, asgS, nameG, stS_n, stS_1, stS_2, stS_3, stS_4, stS_5, stS_6, stS_7, stS_8, stS_9, stS_10, stS_11, stS_12, stS_13, stS_14, stS_15, asgT, unpT, tupT, parS, argsP, parG, immE, varE, lift, un1, op2, andE, orE, notE, ifE, chainE, tru, argsD, tupE, lstE, argsO, toPar, backs, callE, vw, vws, fzO, gt, pt, bltE, isiE, isisE, tyD, imB, imI, cmpF, cmpD, binD_add, binD_sub, augD, sliE, optE, sliD, itE, argsI, hid_im, hid_tl, hid_n, mutE, mtF, appF, isOl, setiS, setF, endF, outO, finsOf_f, finsOf_t, finsOf_n, fxOf, raiseS, seqF, seqD, nameT, unhS, List.replicate, List.cons_append, List.nil_append, List.contains, List.elem, Option.map, Option.bind, ltD_int, leD_int, eqD_int, eqD_str, Bool.not_true, Bool.not_false, Bool.false_eq_true, if_true, if_false]
  by_cases z : 0 ≤ a ∧ 0 ≤ b
  · have zz : (decide (0 ≤ a) && decide (0 ≤ b)) = true := by simp [z]
    rw [zz, if_pos rfl] at b0
    have b1 : b__law_does_1 (k + 6) (E v lo hi r x none none) = .nx (E v lo hi r x (im (.int (v.1 + a))) (im (.int (v.2 + b)))) := by
      simp only [b__law_does_1, E, im, sub0, sub1, s1, s2, seqS, SR.bind, Res.st, Res.bind, retS, exprS, ifS, asgS, nameG, stS_n, stS_1, stS_2, stS_3, stS_4, stS_5, stS_6, stS_7, stS_8, stS_9, stS_10, stS_11, stS_12, stS_13, stS_14, stS_15, asgT, unpT, tupT, parS, argsP, parG, immE, varE, lift, un1, op2, andE, orE, notE, ifE, chainE, tru, argsD, tupE, lstE, argsO, toPar, backs, callE, vw, vws, fzO, gt, pt, bltE, isiE, isisE, tyD, imB, imI, cmpF, cmpD, binD_add, binD_sub, augD, sliE, optE, sliD, itE, argsI, hid_im, hid_tl, hid_n, mutE, mtF, appF, isOl, setiS, setF, endF, outO, finsOf_f, finsOf_t, finsOf_n, fxOf, raiseS, seqF, seqD, nameT, unhS, List.replicate, List.cons_append, List.nil_append, List.contains, List.elem, Option.map, Option.bind, ltD_int, leD_int, eqD_int, eqD_str, Bool.not_true, Bool.not_false, Bool.false_eq_true, if_true, if_false]
    rw [seqS_nx b0, seqS_nx b1, seqS_one]
    have fin : ∀ w : Bool, endF [false, false, false, false] (.rt (.im (.bool w)) (E v lo hi r x (im (.int (v.1 + a))) (im (.int (v.2 + b))))) = .ok (.im (.bool w)) [none, none, none, none] := fun w => rfl
    rw [← fin]
    congr 1
    unfold may
    by_cases y1 : v.1 + a ≤ 50
    · by_cases y2 : v.2 + b ≤ r
      · have ok : Ok v (a + b, a, b) := ⟨z.1, y1, z.2, by show v.2 + b ≤ 30; have := R.h2; omega⟩
        obtain ⟨l, sm⟩ := ok_lw R.hv ok
        obtain ⟨ff, fz⟩ := fr_far R.hl R.hh sm
        have sh := t_low (k + 5) l
        have lf := t_lfar (k + 2) R.hl R.hh sm
        have ek : low (v.1 + a) (v.2 + b) = st v (a + b, a, b) := rfl
        have ef : far lo hi (st v (a + b, a, b)) = fa v lo hi (a + b, a, b) := rfl
        have fz' : decide (fa v lo hi (a + b, a, b) = (0, 1)) = hitT v lo hi (a + b, a, b) := by
          have fz'' : fa v lo hi (a + b, a, b) = (0, 1) ↔ hitT v lo hi (a + b, a, b) = true := fz
          cases q : hitT v lo hi (a + b, a, b) with
          | true => exact decide_eq_true (fz''.mpr q)
          | false => exact decide_eq_false fun w => by rw [fz''.mp w] at q; cases q
        simp only at sh
        rw [ek] at sh
        rw [ef] at lf
        have d1 : decide (a ≤ 50 - v.1) = true := decide_eq_true (by omega)
        have d2 : decide (b ≤ r - v.2) = true := decide_eq_true (by omega)
        have z1 : decide (0 ≤ a) = true := decide_eq_true z.1
        have z2 : decide (0 ≤ b) = true := decide_eq_true z.2
        simp only [im] at sh lf
        rw [z1, z2, d1, d2, Bool.and_self, Bool.and_self, Bool.true_and, ← fz']
        generalize fa v lo hi (a + b, a, b) = f at lf
        generalize st v (a + b, a, b) = s at lf sh
        simp only [b__law_does_2, E, im, y1, y2, decide_true, bo0, bo1, sh, lf, eq_pr, seqS, SR.bind, Res.st, Res.bind, retS, exprS, ifS, asgS, nameG, stS_n, stS_1, stS_2, stS_3, stS_4, stS_5, stS_6, stS_7, stS_8, stS_9, stS_10, stS_11, stS_12, stS_13, stS_14, stS_15, asgT, unpT, tupT, parS, argsP, parG, immE, varE, lift, un1, op2, andE, orE, notE, ifE, chainE, tru, argsD, tupE, lstE, argsO, toPar, backs, callE, vw, vws, fzO, gt, pt, bltE, isiE, isisE, tyD, imB, imI, cmpF, cmpD, binD_add, binD_sub, augD, sliE, optE, sliD, itE, argsI, hid_im, hid_tl, hid_n, mutE, mtF, appF, isOl, setiS, setF, endF, outO, finsOf_f, finsOf_t, finsOf_n, fxOf, raiseS, seqF, seqD, nameT, unhS, List.replicate, List.cons_append, List.nil_append, List.contains, List.elem, Option.map, Option.bind, ltD_int, leD_int, eqD_int, eqD_str, Bool.not_true, Bool.not_false, Bool.false_eq_true, if_true, if_false]
      · have d2 : decide (b ≤ r - v.2) = false := decide_eq_false (by omega)
        rw [d2, Bool.and_false, Bool.and_false, Bool.false_and]
        simp only [b__law_does_2, E, im, y1, y2, decide_true, decide_false, seqS, SR.bind, Res.st, Res.bind, retS, exprS, ifS, asgS, nameG, stS_n, stS_1, stS_2, stS_3, stS_4, stS_5, stS_6, stS_7, stS_8, stS_9, stS_10, stS_11, stS_12, stS_13, stS_14, stS_15, asgT, unpT, tupT, parS, argsP, parG, immE, varE, lift, un1, op2, andE, orE, notE, ifE, chainE, tru, argsD, tupE, lstE, argsO, toPar, backs, callE, vw, vws, fzO, gt, pt, bltE, isiE, isisE, tyD, imB, imI, cmpF, cmpD, binD_add, binD_sub, augD, sliE, optE, sliD, itE, argsI, hid_im, hid_tl, hid_n, mutE, mtF, appF, isOl, setiS, setF, endF, outO, finsOf_f, finsOf_t, finsOf_n, fxOf, raiseS, seqF, seqD, nameT, unhS, List.replicate, List.cons_append, List.nil_append, List.contains, List.elem, Option.map, Option.bind, ltD_int, leD_int, eqD_int, eqD_str, Bool.not_true, Bool.not_false, Bool.false_eq_true, if_true, if_false]
    · have d1 : decide (a ≤ 50 - v.1) = false := decide_eq_false (by omega)
      rw [d1, Bool.and_false, Bool.false_and, Bool.false_and]
      simp only [b__law_does_2, E, im, y1, decide_false, seqS, SR.bind, Res.st, Res.bind, retS, exprS, ifS, asgS, nameG, stS_n, stS_1, stS_2, stS_3, stS_4, stS_5, stS_6, stS_7, stS_8, stS_9, stS_10, stS_11, stS_12, stS_13, stS_14, stS_15, asgT, unpT, tupT, parS, argsP, parG, immE, varE, lift, un1, op2, andE, orE, notE, ifE, chainE, tru, argsD, tupE, lstE, argsO, toPar, backs, callE, vw, vws, fzO, gt, pt, bltE, isiE, isisE, tyD, imB, imI, cmpF, cmpD, binD_add, binD_sub, augD, sliE, optE, sliD, itE, argsI, hid_im, hid_tl, hid_n, mutE, mtF, appF, isOl, setiS, setF, endF, outO, finsOf_f, finsOf_t, finsOf_n, fxOf, raiseS, seqF, seqD, nameT, unhS, List.replicate, List.cons_append, List.nil_append, List.contains, List.elem, Option.map, Option.bind, ltD_int, leD_int, eqD_int, eqD_str, Bool.not_true, Bool.not_false, Bool.false_eq_true, if_true, if_false]
  · have zz : (decide (0 ≤ a) && decide (0 ≤ b)) = false := by
      by_cases q : 0 ≤ a
      · have : ¬ 0 ≤ b := fun w => z ⟨q, w⟩
        simp [this]
      · simp [q]
    have zm : may v lo hi r a b = false := by
      unfold may
      by_cases q : 0 ≤ a
      · have : ¬ 0 ≤ b := fun w => z ⟨q, w⟩
        simp [this]
      · simp [q]
    rw [zz, if_neg (by decide)] at b0
    rw [seqS_rt b0, zm]
    rfl
theorem d_t (k : Nat) (R : Ri v lo hi r) : P.run (k + 9) d__law_does [im (pr v), im (bo lo hi), im (.int r), im (.tuple [.str "add", .bool true, .int 0])] = .ok (.im (.bool false)) [none, none, none, none] := by
  let x : D := .tuple [.str "add", .bool true, .int 0]
  have cu : cutL [PyData.str "add", .bool true, .int 0] (some 1) none = [.bool true, .int 0] := cutL_tail (by simp)
  have hit : itE [] seqF [(sliE (varE 3) (some (immE (.int 1))) none)] (E v lo hi r x none none) = .ok ⟨[.bool true, .int 0], []⟩ (E v lo hi r x none none) := by
    simp only [E, x, im, cu, List.append_nil, seqS, SR.bind, Res.st, Res.bind, retS, exprS, ifS, asgS, nameG, stS_n, stS_1, stS_2, stS_3, stS_4, stS_5, stS_6, stS_7, stS_8, stS_9, stS_10, stS_11, stS_12, stS_13, stS_14, stS_15, asgT, unpT, tupT, parS, argsP, parG, immE, varE, lift, un1, op2, andE, orE, notE, ifE, chainE, tru, argsD, tupE, lstE, argsO, toPar, backs, callE, vw, vws, fzO, gt, pt, bltE, isiE, isisE, tyD, imB, imI, cmpF, cmpD, binD_add, binD_sub, augD, sliE, optE, sliD, itE, argsI, hid_im, hid_tl, hid_n, mutE, mtF, appF, isOl, setiS, setF, endF, outO, finsOf_f, finsOf_t, finsOf_n, fxOf, raiseS, seqF, seqD, nameT, unhS, List.replicate, List.cons_append, List.nil_append, List.contains, List.elem, Option.map, Option.bind, ltD_int, leD_int, eqD_int, eqD_str, Bool.not_true, Bool.not_false, Bool.false_eq_true, if_true, if_false]
  have e : c__law_does_0 (k + 6) (E v lo hi r x none none) = .ok (.tl ([PyData.bool true, .int 0].map fun d => match d with
      | .int i => .bool (decide (0 ≤ i))
      | d => .bool false)) (E v lo hi r x none none) := by
    refine compE_map _ hit rfl (by simp [sizeMax]) fun d hd => ?_
    simp only [List.mem_cons, List.not_mem_nil, or_false] at hd
    rcases hd with rfl | rfl
    · refine ⟨[im (pr v), im (bo lo hi), im (.int r), im x, none, none, im (.bool true)], rfl, rfl, ?_, rfl⟩
      have n := t_number_b (k + 5) true
      simp only [im] at n
      simp only [ce__law_does_0, im, n, seqS, SR.bind, Res.st, Res.bind, retS, exprS, ifS, asgS, nameG, stS_n, stS_1, stS_2, stS_3, stS_4, stS_5, stS_6, stS_7, stS_8, stS_9, stS_10, stS_11, stS_12, stS_13, stS_14, stS_15, asgT, unpT, tupT, parS, argsP, parG, immE, varE, lift, un1, op2, andE, orE, notE, ifE, chainE, tru, argsD, tupE, lstE, argsO, toPar, backs, callE, vw, vws, fzO, gt, pt, bltE, isiE, isisE, tyD, imB, imI, cmpF, cmpD, binD_add, binD_sub, augD, sliE, optE, sliD, itE, argsI, hid_im, hid_tl, hid_n, mutE, mtF, appF, isOl, setiS, setF, endF, outO, finsOf_f, finsOf_t, finsOf_n, fxOf, raiseS, seqF, seqD, nameT, unhS, List.replicate, List.cons_append, List.nil_append, List.contains, List.elem, Option.map, Option.bind, ltD_int, leD_int, eqD_int, eqD_str, Bool.not_true, Bool.not_false, Bool.false_eq_true, if_true, if_false]
    · refine ⟨[im (pr v), im (bo lo hi), im (.int r), im x, none, none, im (.int 0)], rfl, rfl, ?_, rfl⟩
      have n := t_number (k + 5) 0
      simp only [im] at n
      simp only [ce__law_does_0, im, n, ge_iff_le, seqS, SR.bind, Res.st, Res.bind, retS, exprS, ifS, asgS, nameG, stS_n, stS_1, stS_2, stS_3, stS_4, stS_5, stS_6, stS_7, stS_8, stS_9, stS_10, stS_11, stS_12, stS_13, stS_14, stS_15, asgT, unpT, tupT, parS, argsP, parG, immE, varE, lift, un1, op2, andE, orE, notE, ifE, chainE, tru, argsD, tupE, lstE, argsO, toPar, backs, callE, vw, vws, fzO, gt, pt, bltE, isiE, isisE, tyD, imB, imI, cmpF, cmpD, binD_add, binD_sub, augD, sliE, optE, sliD, itE, argsI, hid_im, hid_tl, hid_n, mutE, mtF, appF, isOl, setiS, setF, endF, outO, finsOf_f, finsOf_t, finsOf_n, fxOf, raiseS, seqF, seqD, nameT, unhS, List.replicate, List.cons_append, List.nil_append, List.contains, List.elem, Option.map, Option.bind, ltD_int, leD_int, eqD_int, eqD_str, Bool.not_true, Bool.not_false, Bool.false_eq_true, if_true, if_false]
  have e' : c__law_does_0 (k + 6) (E v lo hi r x none none) = .ok (.tl (bL [false, true])) (E v lo hi r x none none) := e
  have ba : bltD .all [.list (bL [false, true])] = some (.im (.bool false)) := rfl
  rw [r__law_does (k + 6)]
  have b0 : b__law_does_0 (k + 6) (E v lo hi r x none none) = .rt (.im (.bool false)) (E v lo hi r x none none) := by
    simp only [E, im] at e'
    simp only [b__law_does_0, E, im, e', ba, seqS, SR.bind, Res.st, Res.bind, retS, exprS, ifS, asgS, nameG, stS_n, stS_1, stS_2, stS_3, stS_4, stS_5, stS_6, stS_7, stS_8, stS_9, stS_10, stS_11, stS_12, stS_13, stS_14, stS_15, asgT, unpT, tupT, parS, argsP, parG, immE, varE, lift, un1, op2, andE, orE, notE, ifE, chainE, tru, argsD, tupE, lstE, argsO, toPar, backs, callE, vw, vws, fzO, gt, pt, bltE, isiE, isisE, tyD, imB, imI, cmpF, cmpD, binD_add, binD_sub, augD, sliE, optE, sliD, itE, argsI, hid_im, hid_tl, hid_n, mutE, mtF, appF, isOl, setiS, setF, endF, outO, finsOf_f, finsOf_t, finsOf_n, fxOf, raiseS, seqF, seqD, nameT, unhS, List.replicate, List.cons_append, List.nil_append, List.contains, List.elem, Option.map, Option.bind, ltD_int, leD_int, eqD_int, eqD_str, Bool.not_true, Bool.not_false, Bool.false_eq_true, if_true, if_false]
  show endF [false, false, false, false] (seqS _ (E v lo hi r x none none)) = _
  rw [seqS_rt b0]
  rfl
/-! ### vats -/
theorem iv_odd (k : Nat) {x : D} (h : Odd x) : P.run (k + 6) d_is_vat [im x] = .ok (.im (.bool false)) [none] := by
  rcases h with rfl | ⟨b, rfl⟩ | ⟨b, rfl⟩ | ⟨b, rfl⟩ | ⟨b, rfl⟩ | rfl | ⟨b, rfl⟩ | rfl | ⟨y, rfl⟩ <;> kernel_rfl
theorem lv_odd (k : Nat) {x : D} (h : Odd x) : P.run (k + 6) d__law_is_vat [im x] = .ok (.im (.bool false)) [none] := by
  rcases h with rfl | ⟨b, rfl⟩ | ⟨b, rfl⟩ | ⟨b, rfl⟩ | ⟨b, rfl⟩ | rfl | ⟨b, rfl⟩ | rfl | ⟨y, rfl⟩ <;> kernel_rfl
def wrongs : List D := [.tuple [.int 51, .int 1], .tuple [.int (-1), .int 1], .tuple [.int 0, .int 0], .tuple [.int 0, .int 21], .tuple [.bool true, .int 1]]
theorem iv_wrong (k : Nat) {x : D} (h : x ∈ wrongs) : P.run (k + 6) d_is_vat [im x] = .ok (.im (.bool false)) [none] := by
  simp only [wrongs, List.mem_cons, List.not_mem_nil, or_false] at h
  rcases h with rfl | rfl | rfl | rfl | rfl <;> kernel_rfl
theorem lv_wrong (k : Nat) {x : D} (h : x ∈ wrongs) : P.run (k + 6) d__law_is_vat [im x] = .ok (.im (.bool false)) [none] := by
  simp only [wrongs, List.mem_cons, List.not_mem_nil, or_false] at h
  rcases h with rfl | rfl | rfl | rfl | rfl <;> kernel_rfl
theorem lv_right (k : Nat) (h : Va v) : P.run (k + 6) d__law_is_vat [im (pr v)] = .ok (.im (.bool true)) [none] := by
  rw [r__law_is_vat (k + 3)]
  have e : c__law_is_vat_0 (k + 3) [im (pr v), none] = .ok (.tl (bL ([PyData.int v.1, .int v.2].map fun _ => true))) [im (pr v), none] := by
    rw [all_true]
    refine compE_map (fun _ => .bool true) rfl rfl (by simp [sizeMax]) fun d hd => ?_
    have : ∃ i, d = .int i := by
      simp only [List.mem_cons, List.not_mem_nil, or_false] at hd
      rcases hd with rfl | rfl <;> exact ⟨_, rfl⟩
    obtain ⟨i, rfl⟩ := this
    refine ⟨_, rfl, rfl, ?_, rfl⟩
    simp only [ce__law_is_vat_0, im, wipeS, t_number (k + 2), seqS, SR.bind, Res.st, Res.bind, retS, exprS, ifS, asgS, nameG, stS_n, stS_1, stS_2, stS_3, stS_4, stS_5, stS_6, stS_7, stS_8, stS_9, stS_10, stS_11, stS_12, stS_13, stS_14, stS_15, asgT, unpT, tupT, parS, argsP, parG, immE, varE, lift, un1, op2, andE, orE, notE, ifE, chainE, tru, argsD, tupE, lstE, argsO, toPar, backs, callE, vw, vws, fzO, gt, pt, bltE, isiE, isisE, tyD, imB, imI, cmpF, cmpD, binD_add, binD_sub, augD, sliE, optE, sliD, itE, argsI, hid_im, hid_tl, hid_n, mutE, mtF, appF, isOl, setiS, setF, endF, outO, finsOf_f, finsOf_t, finsOf_n, fxOf, raiseS, seqF, seqD, nameT, unhS, List.replicate, List.cons_append, List.nil_append, List.contains, List.elem, Option.map, Option.bind, ltD_int, leD_int, eqD_int, eqD_str, Bool.not_true, Bool.not_false, Bool.false_eq_true, if_true, if_false]
  obtain ⟨h1, h2, h3, h4⟩ := h
  have ba : bltD .all [.list (bL ([PyData.int v.1, .int v.2].map fun _ => true))] = some (.im (.bool true)) := bltD_allT
  have bl : bltD .len [pr v] = some (.im (.int 2)) := rfl
  have s0 : b__law_is_vat_0 (k + 3) [im (pr v), none] = .nx [im (pr v), none] := by
    simp only [im] at e
    simp only [b__law_is_vat_0, im, bl, e, ba, decide_true, seqS, SR.bind, Res.st, Res.bind, retS, exprS, ifS, asgS, nameG, stS_n, stS_1, stS_2, stS_3, stS_4, stS_5, stS_6, stS_7, stS_8, stS_9, stS_10, stS_11, stS_12, stS_13, stS_14, stS_15, asgT, unpT, tupT, parS, argsP, parG, immE, varE, lift, un1, op2, andE, orE, notE, ifE, chainE, tru, argsD, tupE, lstE, argsO, toPar, backs, callE, vw, vws, fzO, gt, pt, bltE, isiE, isisE, tyD, imB, imI, cmpF, cmpD, binD_add, binD_sub, augD, sliE, optE, sliD, itE, argsI, hid_im, hid_tl, hid_n, mutE, mtF, appF, isOl, setiS, setF, endF, outO, finsOf_f, finsOf_t, finsOf_n, fxOf, raiseS, seqF, seqD, nameT, unhS, List.replicate, List.cons_append, List.nil_append, List.contains, List.elem, Option.map, Option.bind, ltD_int, leD_int, eqD_int, eqD_str, Bool.not_true, Bool.not_false, Bool.false_eq_true, if_true, if_false]
  have s1 : b__law_is_vat_1 (k + 3) [im (pr v), none] = .rt (.im (.bool true)) [im (pr v), none] := by
    simp only [b__law_is_vat_1, im, sub0, sub1, h1, h2, h3, h4, decide_true, seqS, SR.bind, Res.st, Res.bind, retS, exprS, ifS, asgS, nameG, stS_n, stS_1, stS_2, stS_3, stS_4, stS_5, stS_6, stS_7, stS_8, stS_9, stS_10, stS_11, stS_12, stS_13, stS_14, stS_15, asgT, unpT, tupT, parS, argsP, parG, immE, varE, lift, un1, op2, andE, orE, notE, ifE, chainE, tru, argsD, tupE, lstE, argsO, toPar, backs, callE, vw, vws, fzO, gt, pt, bltE, isiE, isisE, tyD, imB, imI, cmpF, cmpD, binD_add, binD_sub, augD, sliE, optE, sliD, itE, argsI, hid_im, hid_tl, hid_n, mutE, mtF, appF, isOl, setiS, setF, endF, outO, finsOf_f, finsOf_t, finsOf_n, fxOf, raiseS, seqF, seqD, nameT, unhS, List.replicate, List.cons_append, List.nil_append, List.contains, List.elem, Option.map, Option.bind, ltD_int, leD_int, eqD_int, eqD_str, Bool.not_true, Bool.not_false, Bool.false_eq_true, if_true, if_false]
  show endF [false] (seqS _ [im (pr v), none]) = _
  rw [seqS_nx s0, seqS_one, s1]
  rfl
end
end Lw
end
section
set_option maxHeartbeats 1000000
namespace Lw
open PySem Ev
/-- wrapped -/
def Wr (d : D) : Prop := ∃ y, d = .tuple [y] ∨ d = .list [y] ∨ d = .dict [(.int 0, y)]
theorem Wr.odd {d : D} (h : Wr d) : Odd d := by
  obtain ⟨y, rfl | rfl | rfl⟩ := h
  · exact .inr (.inr (.inr (.inr (.inr (.inr (.inr (.inr ⟨y, rfl⟩)))))))
  · exact .inr (.inr (.inr (.inr (.inl ⟨_, rfl⟩))))
  · exact .inr (.inr (.inr (.inr (.inr (.inr (.inl ⟨y, rfl⟩))))))
theorem deep_lap (k : Nat) {h : Hand} {d : D} {x : Option Sv} (ok : h.ok) : ∃ (h' : Hand) (d' : D), lb__law_deep_0 (k + 1) [some (.ol h.ds), im d, x] = .nx [some (.ol h'.ds), im d', x] ∧ Wr d' ∧ h'.ok := by
  obtain ⟨h1, i, e, i0, i1, ok1⟩ := t_draw k (m := 3) ok (by omega) (by omega)
  obtain ⟨w, hw, g⟩ := sub_lst (xs := [.tuple [d], .list [d], .dict [(.int 0, d)]]) i0 i1
  refine ⟨h1, w, ?_, ?_, ok1⟩
  · simp only [lb__law_deep_0, w__law_deep_0_0, im, e, g, dct1E, keyB, seqS, SR.bind, Res.st, Res.bind, retS, exprS, ifS, asgS, nameG, stS_n, stS_1, stS_2, stS_3, stS_4, stS_5, stS_6, stS_7, stS_8, stS_9, stS_10, stS_11, stS_12, stS_13, stS_14, stS_15, asgT, unpT, tupT, parS, argsP, parG, immE, varE, lift, un1, op2, andE, orE, notE, ifE, chainE, tru, argsD, tupE, lstE, argsO, toPar, backs, callE, vw, vws, fzO, gt, pt, bltE, isiE, isisE, tyD, imB, imI, cmpF, cmpD, binD_add, binD_sub, augD, sliE, optE, sliD, itE, argsI, hid_im, hid_tl, hid_n, mutE, mtF, appF, isOl, setiS, setF, endF, outO, finsOf_f, finsOf_t, finsOf_n, fxOf, raiseS, seqF, seqD, nameT, unhS, List.replicate, List.cons_append, List.nil_append, List.contains, List.elem, Option.map, Option.bind, ltD_int, leD_int, eqD_int, eqD_str, Bool.not_true, Bool.not_false, Bool.false_eq_true, if_true, if_false]
  · simp only [List.mem_cons, List.not_mem_nil, or_false] at hw
    exact ⟨d, hw⟩
theorem deep_loop (k : Nat) : ∀ (m : Nat) (lo : Int) (h : Hand) (d : D) (x : Option Sv), h.ok → ∃ (h' : Hand) (d' : D) (x' : Option Sv), forL (nameT [0] 2) (lb__law_deep_0 (k + 1)) (rangeI lo m) [some (.ol h.ds), im d, x] = .nx [some (.ol h'.ds), im d', x'] ∧ (Wr d ∨ 0 < m → Wr d') ∧ h'.ok
  | 0, lo, h, d, x, ok => ⟨h, d, x, rfl, fun z => z.elim id fun z => absurd z (by omega), ok⟩
  | m + 1, lo, h, d, x, ok => by
    obtain ⟨h1, d1, e1, w1, ok1⟩ := deep_lap k (d := d) (x := im (.int lo)) ok
    obtain ⟨h2, d2, x2, e2, w2, ok2⟩ := deep_loop k m (lo + 1) h1 d1 (im (.int lo)) ok1
    refine ⟨h2, d2, x2, ?_, fun _ => w2 (.inl w1), ok2⟩
    rw [rangeI]
    unfold forL
    have t0 : nameT [0] 2 (.int lo) [some (.ol h.ds), im d, x] = some [some (.ol h.ds), im d, im (.int lo)] := rfl
    simp only [t0, e1]
    exact e2
theorem t_deep (k : Nat) {h : Hand} (ok : h.ok) : ∃ (h' : Hand) (d : D), P.run (k + 4) d__law_deep [some (.ol h.ds)] = .ok (.im d) [some (.ol h'.ds)] ∧ Wr d ∧ h'.ok := by
  obtain ⟨h1, i, e1, i0, i1, ok1⟩ := t_draw k (m := 5) ok (by omega) (by omega)
  obtain ⟨w, _, g⟩ := sub_lst (xs := [.none, .int 5, .int (-1), .dict [], .bool true]) i0 i1
  obtain ⟨h2, n, e2, n0, n1, ok2⟩ := t_draw k (m := 24) ok1 (by omega) (by omega)
  obtain ⟨h3, d3, x3, e3, w3, ok3⟩ := deep_loop k (5 + n).toNat 0 h2 w none ok2
  have s0 : b__law_deep_0 (k + 1) [some (.ol h.ds), none, none] = .nx [some (.ol h1.ds), im w, none] := by
    simp only [b__law_deep_0, im, e1, g, negD, seqS, SR.bind, Res.st, Res.bind, retS, exprS, ifS, asgS, nameG, stS_n, stS_1, stS_2, stS_3, stS_4, stS_5, stS_6, stS_7, stS_8, stS_9, stS_10, stS_11, stS_12, stS_13, stS_14, stS_15, asgT, unpT, tupT, parS, argsP, parG, immE, varE, lift, un1, op2, andE, orE, notE, ifE, chainE, tru, argsD, tupE, lstE, argsO, toPar, backs, callE, vw, vws, fzO, gt, pt, bltE, isiE, isisE, tyD, imB, imI, cmpF, cmpD, binD_add, binD_sub, augD, sliE, optE, sliD, itE, argsI, hid_im, hid_tl, hid_n, mutE, mtF, appF, isOl, setiS, setF, endF, outO, finsOf_f, finsOf_t, finsOf_n, fxOf, raiseS, seqF, seqD, nameT, unhS, List.replicate, List.cons_append, List.nil_append, List.contains, List.elem, Option.map, Option.bind, ltD_int, leD_int, eqD_int, eqD_str, Bool.not_true, Bool.not_false, Bool.false_eq_true, if_true, if_false]
  have hit : itE [0] rangeF1 [(op2 (binD .Add) (immE (.int 5)) (callE [true, false] (P.run (k + 1 + 2) d__law_draw) [(varE 0), (immE (.int 24))]))] [some (.ol h1.ds), im w, none] = .ok ⟨rangeI 0 (5 + n).toNat, []⟩ [some (.ol h2.ds), im w, none] := by
    have hr : rngB (5 + n) = true := by simp [rngB]; omega
    simp only [e2, im, rangeF1, hr, List.append_nil, seqS, SR.bind, Res.st, Res.bind, retS, exprS, ifS, asgS, nameG, stS_n, stS_1, stS_2, stS_3, stS_4, stS_5, stS_6, stS_7, stS_8, stS_9, stS_10, stS_11, stS_12, stS_13, stS_14, stS_15, asgT, unpT, tupT, parS, argsP, parG, immE, varE, lift, un1, op2, andE, orE, notE, ifE, chainE, tru, argsD, tupE, lstE, argsO, toPar, backs, callE, vw, vws, fzO, gt, pt, bltE, isiE, isisE, tyD, imB, imI, cmpF, cmpD, binD_add, binD_sub, augD, sliE, optE, sliD, itE, argsI, hid_im, hid_tl, hid_n, mutE, mtF, appF, isOl, setiS, setF, endF, outO, finsOf_f, finsOf_t, finsOf_n, fxOf, raiseS, seqF, seqD, nameT, unhS, List.replicate, List.cons_append, List.nil_append, List.contains, List.elem, Option.map, Option.bind, ltD_int, leD_int, eqD_int, eqD_str, Bool.not_true, Bool.not_false, Bool.false_eq_true, if_true, if_false]
  have s1 : b__law_deep_1 (k + 1) [some (.ol h1.ds), im w, none] = .nx [some (.ol h3.ds), im d3, x3] := by
    unfold b__law_deep_1 l__law_deep_0
    exact forS_nx hit e3
  refine ⟨h3, d3, ?_, w3 (.inr (by omega)), ok3⟩
  rw [r__law_deep (k + 1)]
  show endF [true] (seqS _ [some (.ol h.ds), none, none]) = _
  rw [seqS_nx s0, seqS_nx s1]
  rfl
theorem t_odd (k : Nat) {h : Hand} (ok : h.ok) : ∃ (h' : Hand) (d : D), P.run (k + 5) d__law_odd [some (.ol h.ds)] = .ok (.im d) [some (.ol h'.ds)] ∧ Odd d ∧ h'.ok := by
  obtain ⟨h1, d, e1, wd, ok1⟩ := t_deep k ok
  have sh : binD .LShift (.int 1) (.int 63) = some (.im (.int 9223372036854775808)) := by rfl
  have g : ∃ xs, lstE [(immE (.none)), (immE (.bool true)), (immE (.bool false)), (immE (.int 0)), (un1 negD (immE (.int 1))), (immE (.int 999)), (op2 (binD .LShift) (immE (.int 1)) (immE (.int 63))), (immE (.str "p")), (immE (.str "")), (tupE []), (lstE []), (fun e => .ok (.td []) e), (tupE [(immE (.int 1))]), (tupE [(immE (.str "a"))]), (callE [true] (P.run (k + 2 + 2) d__law_deep) [(varE 0)])] [some (.ol h.ds)] = .ok (.tl xs) [some (.ol h1.ds)] ∧ xs.length = 15 ∧ ∀ x ∈ xs, Odd x := by
    refine ⟨[.none, .bool true, .bool false, .int 0, .int (-1), .int 999, .int 9223372036854775808, .str "p", .str "", .tuple [], .list [], .dict [], .tuple [.int 1], .tuple [.str "a"], d], ?_, rfl, fun x hx => ?_⟩
    · simp only [e1, sh, negD, seqS, SR.bind, Res.st, Res.bind, retS, exprS, ifS, asgS, nameG, stS_n, stS_1, stS_2, stS_3, stS_4, stS_5, stS_6, stS_7, stS_8, stS_9, stS_10, stS_11, stS_12, stS_13, stS_14, stS_15, asgT, unpT, tupT, parS, argsP, parG, immE, varE, lift, un1, op2, andE, orE, notE, ifE, chainE, tru, argsD, tupE, lstE, argsO, toPar, backs, callE, vw, vws, fzO, gt, pt, bltE, isiE, isisE, tyD, imB, imI, cmpF, cmpD, binD_add, binD_sub, augD, sliE, optE, sliD, itE, argsI, hid_im, hid_tl, hid_n, mutE, mtF, appF, isOl, setiS, setF, endF, outO, finsOf_f, finsOf_t, finsOf_n, fxOf, raiseS, seqF, seqD, nameT, unhS, List.replicate, List.cons_append, List.nil_append, List.contains, List.elem, Option.map, Option.bind, ltD_int, leD_int, eqD_int, eqD_str, Bool.not_true, Bool.not_false, Bool.false_eq_true, if_true, if_false]
    · simp only [List.mem_cons, List.not_mem_nil, or_false] at hx
      rcases hx with rfl | rfl | rfl | rfl | rfl | rfl | rfl | rfl | rfl | rfl | rfl | rfl | rfl | rfl | rfl
      · exact .inl rfl
      · exact .inr (.inl ⟨_, rfl⟩)
      · exact .inr (.inl ⟨_, rfl⟩)
      · exact .inr (.inr (.inl ⟨_, rfl⟩))
      · exact .inr (.inr (.inl ⟨_, rfl⟩))
      · exact .inr (.inr (.inl ⟨_, rfl⟩))
      · exact .inr (.inr (.inl ⟨_, rfl⟩))
      · exact .inr (.inr (.inr (.inl ⟨_, rfl⟩)))
      · exact .inr (.inr (.inr (.inl ⟨_, rfl⟩)))
      · exact .inr (.inr (.inr (.inr (.inr (.inr (.inr (.inl rfl)))))))
      · exact .inr (.inr (.inr (.inr (.inl ⟨_, rfl⟩))))
      · exact .inr (.inr (.inr (.inr (.inr (.inl rfl)))))
      · exact .inr (.inr (.inr (.inr (.inr (.inr (.inr (.inr ⟨_, rfl⟩)))))))
      · exact .inr (.inr (.inr (.inr (.inr (.inr (.inr (.inr ⟨_, rfl⟩)))))))
      · exact wd.odd
  obtain ⟨xs, g, gl, go⟩ := g
  obtain ⟨h2, x, e2, hx, ok2⟩ := t_some k (xs := xs) ok1 (by omega) (by omega)
  refine ⟨h2, x, ?_, go x hx, ok2⟩
  rw [r__law_odd (k + 2)]
  have g2 : b__law_odd_0 (k + 2) [some (.ol h.ds)] = .rt (.im x) [some (.ol h2.ds)] := by
    unfold b__law_odd_0
    exact retS_ok (callE_any g e2)
  show endF [true] (seqS _ [some (.ol h.ds)]) = _
  rw [seqS_one, g2]
  rfl
def absD : D → D
  | .int i => .int (if i < 0 then -i else i)
  | d => d
theorem t_hand (k : Nat) (ns : List Int) : ∃ h : Hand, h.ok ∧ P.run (k + 3) d__law_hand [some (.im (.dict [(.none, .list (iL ns))]))] = .ok (.tl h.ds) [none] := by
  let ms : List Int := ns.take (min (63 : Int).toNat (iL ns).length - 0)
  have hit : itE [] seqF [(sliE (varE 0) none (some (immE (.int 63))))] [some (.im (.dict [(.none, .list (iL ns))])), none, none] = .ok ⟨iL ms, []⟩ [some (.im (.dict [(.none, .list (iL ns))])), none, none] := by
    have : cutL (iL ns) none (some 63) = iL ms := by simp only [cutL, cutI, ms, ← iL_take]; rfl
    simp only [this, List.append_nil, seqS, SR.bind, Res.st, Res.bind, retS, exprS, ifS, asgS, nameG, stS_n, stS_1, stS_2, stS_3, stS_4, stS_5, stS_6, stS_7, stS_8, stS_9, stS_10, stS_11, stS_12, stS_13, stS_14, stS_15, asgT, unpT, tupT, parS, argsP, parG, immE, varE, lift, un1, op2, andE, orE, notE, ifE, chainE, tru, argsD, tupE, lstE, argsO, toPar, backs, callE, vw, vws, fzO, gt, pt, bltE, isiE, isisE, tyD, imB, imI, cmpF, cmpD, binD_add, binD_sub, augD, sliE, optE, sliD, itE, argsI, hid_im, hid_tl, hid_n, mutE, mtF, appF, isOl, setiS, setF, endF, outO, finsOf_f, finsOf_t, finsOf_n, fxOf, raiseS, seqF, seqD, nameT, unhS, List.replicate, List.cons_append, List.nil_append, List.contains, List.elem, Option.map, Option.bind, ltD_int, leD_int, eqD_int, eqD_str, Bool.not_true, Bool.not_false, Bool.false_eq_true, if_true, if_false]
  have hc : c__law_hand_0 k [some (.im (.dict [(.none, .list (iL ns))])), none, none] = .ok (.tl ((iL ms).map absD)) [some (.im (.dict [(.none, .list (iL ns))])), none, none] := by
    refine compE_map absD hit rfl (by simp [iL_len, sizeMax, ms]; omega) fun d hd => ?_
    obtain ⟨i, hi, rfl⟩ := List.mem_map.mp hd
    exact ⟨_, rfl, rfl, rfl, rfl⟩
  have he : (iL ms).map absD = iL (ms.map fun i => if i < 0 then -i else i) := by simp [iL, absD]
  rw [he] at hc
  have h7 : ∀ m n : Int, small64 m = true → binD .Mult (.int m) (.int n) = some (.im (.int (m * n))) := fun m n z => by simp [binD, z, imI]
  rw [r__law_hand]
  refine ⟨⟨ms.map fun i => if i < 0 then -i else i, 0, 0, 97 + 5 * (ms.map fun i => if i < 0 then -i else i).length, 0⟩, ⟨Int.le_refl _, Int.le_refl _⟩, ?_⟩
  simp only [b__law_hand_0, b__law_hand_1, hc, bltD, h7 5 _ (by decide), iL_len, Hand.ds, seqS, SR.bind, Res.st, Res.bind, retS, exprS, ifS, asgS, nameG, stS_n, stS_1, stS_2, stS_3, stS_4, stS_5, stS_6, stS_7, stS_8, stS_9, stS_10, stS_11, stS_12, stS_13, stS_14, stS_15, asgT, unpT, tupT, parS, argsP, parG, immE, varE, lift, un1, op2, andE, orE, notE, ifE, chainE, tru, argsD, tupE, lstE, argsO, toPar, backs, callE, vw, vws, fzO, gt, pt, bltE, isiE, isisE, tyD, imB, imI, cmpF, cmpD, binD_add, binD_sub, augD, sliE, optE, sliD, itE, argsI, hid_im, hid_tl, hid_n, mutE, mtF, appF, isOl, setiS, setF, endF, outO, finsOf_f, finsOf_t, finsOf_n, fxOf, raiseS, seqF, seqD, nameT, unhS, List.replicate, List.cons_append, List.nil_append, List.contains, List.elem, Option.map, Option.bind, ltD_int, leD_int, eqD_int, eqD_str, Bool.not_true, Bool.not_false, Bool.false_eq_true, if_true, if_false]
end Lw
end
section
set_option maxHeartbeats 1000000
namespace Lw
open PySem Ev
abbrev Q (s : D) (h : Hand) (x2 x3 x4 x5 x6 x7 x8 x9 x10 x11 x12 x13 : Option Sv) : Sl := [some (.im s), some (.ol h.ds), x2, x3, x4, x5, x6, x7, x8, x9, x10, x11, x12, x13, none]
section
variable {j : Nat} {s : D} {h : Hand} {v lo hi : Int × Int} {r : Int} {x2 x3 x4 x5 x6 x7 x8 x9 x10 x11 x12 x13 : Option Sv}
/-- what may be asked -/
def Th (x : D) : Prop := Odd x ∨ (∃ a b : Int, x = .tuple [.str "add", .int a, .int b]) ∨ x = .tuple [.str "add", .bool true, .int 0] ∨ (∃ q, Fr q ∧ x = .tuple [.str "none", pr q]) ∨ (∃ a b c d, x = .tuple [a, b, c, d]) ∨ ∃ a b, x = .tuple [.str "none", a, b]
abbrev A (s : D) (h : Hand) (v lo hi : Int × Int) (r : Int) (x2 x5 x6 : Option Sv) (due : D) (x9 x10 : Option Sv) (x : D) (x12 x13 : Option Sv) : Sl := Q s h x2 (im (pr v)) (im (.int r)) x5 x6 (im (bo lo hi)) (im due) x9 x10 (im x) x12 x13
variable {due : D}
theorem w2 {x : D} {b : Bool} (e : P.run (j + 22) d_is_starched_told [im (pr v), im (bo lo hi), im (.int r), im x] = .ok (.im (.bool b)) [none, none, none, none]) : w_law_0_2 (j + 20) (A s h v lo hi r x2 x5 x6 due x9 x10 x x12 (im (.bool b))) = .nx (A s h v lo hi r x2 x5 x6 due x9 x10 x x12 (im (.bool b))) := by
  have i := is_bool (j + 19) b
  simp only [im] at e i
  simp only [w_law_0_2, A, Q, im, e, i, seqS, SR.bind, Res.st, Res.bind, retS, exprS, ifS, asgS, nameG, stS_n, stS_1, stS_2, stS_3, stS_4, stS_5, stS_6, stS_7, stS_8, stS_9, stS_10, stS_11, stS_12, stS_13, stS_14, stS_15, asgT, unpT, tupT, parS, argsP, parG, immE, varE, lift, un1, op2, andE, orE, notE, ifE, chainE, tru, argsD, tupE, lstE, argsO, toPar, backs, callE, vw, vws, fzO, gt, pt, bltE, isiE, isisE, tyD, imB, imI, cmpF, cmpD, binD_add, binD_sub, augD, sliE, optE, sliD, itE, argsI, hid_im, hid_tl, hid_n, mutE, mtF, appF, isOl, setiS, setF, endF, outO, finsOf_f, finsOf_t, finsOf_n, fxOf, raiseS, seqF, seqD, nameT, unhS, List.replicate, List.cons_append, List.nil_append, List.contains, List.elem, Option.map, Option.bind, ltD_int, leD_int, eqD_int, eqD_str, Bool.not_true, Bool.not_false, Bool.false_eq_true, if_true, if_false]
theorem w0_add {xs : List D} {a b : D} : w_law_0_0 (j + 20) (A s h v lo hi r x2 x5 x6 (.tuple [.str "add", a, b]) x9 x10 (.tuple xs) x12 x13) = .nx (A s h v lo hi r x2 x5 x6 (.tuple [.str "add", a, b]) x9 x10 (.tuple xs) x12 (im (.bool false))) := by kernel_rfl
theorem w0_none {xs : List D} {q : Int × Int} {b : Bool} (e : P.run (j + 22) d__law_is [im (.tuple xs), im (.tuple [.str "none", pr q])] = .ok (.im (.bool b)) [none, none]) : w_law_0_0 (j + 20) (A s h v lo hi r x2 x5 x6 (.tuple [.str "none", pr q]) x9 x10 (.tuple xs) x12 x13) = .nx (A s h v lo hi r x2 x5 x6 (.tuple [.str "none", pr q]) x9 x10 (.tuple xs) x12 (im (.bool b))) := by
  have s0 : subD (.tuple [.str "none", pr q]) (.int 0) = some (.im (.str "none")) := rfl
  simp only [im] at e
  simp only [w_law_0_0, A, Q, im, s0, e, decide_true, seqS, SR.bind, Res.st, Res.bind, retS, exprS, ifS, asgS, nameG, stS_n, stS_1, stS_2, stS_3, stS_4, stS_5, stS_6, stS_7, stS_8, stS_9, stS_10, stS_11, stS_12, stS_13, stS_14, stS_15, asgT, unpT, tupT, parS, argsP, parG, immE, varE, lift, un1, op2, andE, orE, notE, ifE, chainE, tru, argsD, tupE, lstE, argsO, toPar, backs, callE, vw, vws, fzO, gt, pt, bltE, isiE, isisE, tyD, imB, imI, cmpF, cmpD, binD_add, binD_sub, augD, sliE, optE, sliD, itE, argsI, hid_im, hid_tl, hid_n, mutE, mtF, appF, isOl, setiS, setF, endF, outO, finsOf_f, finsOf_t, finsOf_n, fxOf, raiseS, seqF, seqD, nameT, unhS, List.replicate, List.cons_append, List.nil_append, List.contains, List.elem, Option.map, Option.bind, ltD_int, leD_int, eqD_int, eqD_str, Bool.not_true, Bool.not_false, Bool.false_eq_true, if_true, if_false]
theorem body {x : D} (R : Ri v lo hi r) (hd : due = tld v lo hi r) (hx : Th x) : ∃ b, lb_law_0 (j + 20) (A s h v lo hi r x2 x5 x6 due x9 x10 x x12 x13) = .nx (A s h v lo hi r x2 x5 x6 due x9 x10 x x12 (im (.bool b))) := by
  have fin : ∀ {b0 b : Bool}, w_law_0_0 (j + 20) (A s h v lo hi r x2 x5 x6 due x9 x10 x x12 x13) = .nx (A s h v lo hi r x2 x5 x6 due x9 x10 x x12 (im (.bool b0))) → w_law_0_1 (j + 20) (A s h v lo hi r x2 x5 x6 due x9 x10 x x12 (im (.bool b0))) = .nx (A s h v lo hi r x2 x5 x6 due x9 x10 x x12 (im (.bool b))) → P.run (j + 22) d_is_starched_told [im (pr v), im (bo lo hi), im (.int r), im x] = .ok (.im (.bool b)) [none, none, none, none] → ∃ b, lb_law_0 (j + 20) (A s h v lo hi r x2 x5 x6 due x9 x10 x x12 x13) = .nx (A s h v lo hi r x2 x5 x6 due x9 x10 x x12 (im (.bool b))) := fun {b0 b} a1 a2 a3 => by
    refine ⟨b, ?_⟩
    unfold lb_law_0
    rw [seqS_nx a1, seqS_nx a2, seqS_one]
    exact w2 a3
  -- a tuple that is not of the due length
  have t0 : ∀ {xs : List D}, x = .tuple xs → xs.length ≠ 2 → w_law_0_0 (j + 20) (A s h v lo hi r x2 x5 x6 due x9 x10 x x12 x13) = .nx (A s h v lo hi r x2 x5 x6 due x9 x10 x x12 (im (.bool false))) := fun {xs} e hl => by
    subst e
    rcases told_form R with ⟨t, e, _, _⟩ | ⟨q, e, _⟩
    · rw [hd, e]
      exact w0_add
    · rw [hd, e]
      exact w0_none (is_len (j + 19) (by simpa using hl))
  rcases hx with hx | ⟨a, b, e⟩ | e | ⟨q, hq, e⟩ | ⟨a, b, c, d, e⟩ | ⟨a, b, e⟩
  · have jo := j_odd (j + 12) R hx
    rcases hx with rfl | ⟨b, rfl⟩ | ⟨b, rfl⟩ | ⟨b, rfl⟩ | ⟨b, rfl⟩ | rfl | ⟨b, rfl⟩ | rfl | ⟨y, rfl⟩
    · exact fin (b0 := false) (by kernel_rfl) (by kernel_rfl) jo
    · exact fin (b0 := false) (by kernel_rfl) (by kernel_rfl) jo
    · exact fin (b0 := false) (by kernel_rfl) (by kernel_rfl) jo
    · exact fin (b0 := false) (by kernel_rfl) (by kernel_rfl) jo
    · exact fin (b0 := false) (by kernel_rfl) (by kernel_rfl) jo
    · exact fin (b0 := false) (by kernel_rfl) (by kernel_rfl) jo
    · exact fin (b0 := false) (by kernel_rfl) (by kernel_rfl) jo
    · exact fin (b0 := false) (t0 rfl (by simp)) (by kernel_rfl) jo
    · exact fin (b0 := false) (t0 rfl (by simp)) (by kernel_rfl) jo
  · subst e
    refine fin (b0 := false) (t0 rfl (by simp)) ?_ (j_add (j + 12) R)
    have d := d_add (j + 13) R (a := a) (b := b)
    have s0 : subD (.tuple [.str "add", .int a, .int b]) (.int 0) = some (.im (.str "add")) := rfl
    have bl : bltD .len [.tuple [.str "add", .int a, .int b]] = some (.im (.int 3)) := rfl
    simp only [im] at d
    simp only [w_law_0_1, A, Q, im, s0, bl, d, decide_true, seqS, SR.bind, Res.st, Res.bind, retS, exprS, ifS, asgS, nameG, stS_n, stS_1, stS_2, stS_3, stS_4, stS_5, stS_6, stS_7, stS_8, stS_9, stS_10, stS_11, stS_12, stS_13, stS_14, stS_15, asgT, unpT, tupT, parS, argsP, parG, immE, varE, lift, un1, op2, andE, orE, notE, ifE, chainE, tru, argsD, tupE, lstE, argsO, toPar, backs, callE, vw, vws, fzO, gt, pt, bltE, isiE, isisE, tyD, imB, imI, cmpF, cmpD, binD_add, binD_sub, augD, sliE, optE, sliD, itE, argsI, hid_im, hid_tl, hid_n, mutE, mtF, appF, isOl, setiS, setF, endF, outO, finsOf_f, finsOf_t, finsOf_n, fxOf, raiseS, seqF, seqD, nameT, unhS, List.replicate, List.cons_append, List.nil_append, List.contains, List.elem, Option.map, Option.bind, ltD_int, leD_int, eqD_int, eqD_str, Bool.not_true, Bool.not_false, Bool.false_eq_true, if_true, if_false]
  · subst e
    refine fin (b0 := false) (t0 rfl (by simp)) ?_ (j_t (j + 12) R)
    have d := d_t (j + 13) R
    have s0 : subD (.tuple [.str "add", .bool true, .int 0]) (.int 0) = some (.im (.str "add")) := rfl
    have bl : bltD .len [.tuple [.str "add", .bool true, .int 0]] = some (.im (.int 3)) := rfl
    simp only [im] at d
    simp only [w_law_0_1, A, Q, im, s0, bl, d, decide_true, seqS, SR.bind, Res.st, Res.bind, retS, exprS, ifS, asgS, nameG, stS_n, stS_1, stS_2, stS_3, stS_4, stS_5, stS_6, stS_7, stS_8, stS_9, stS_10, stS_11, stS_12, stS_13, stS_14, stS_15, asgT, unpT, tupT, parS, argsP, parG, immE, varE, lift, un1, op2, andE, orE, notE, ifE, chainE, tru, argsD, tupE, lstE, argsO, toPar, backs, callE, vw, vws, fzO, gt, pt, bltE, isiE, isisE, tyD, imB, imI, cmpF, cmpD, binD_add, binD_sub, augD, sliE, optE, sliD, itE, argsI, hid_im, hid_tl, hid_n, mutE, mtF, appF, isOl, setiS, setF, endF, outO, finsOf_f, finsOf_t, finsOf_n, fxOf, raiseS, seqF, seqD, nameT, unhS, List.replicate, List.cons_append, List.nil_append, List.contains, List.elem, Option.map, Option.bind, ltD_int, leD_int, eqD_int, eqD_str, Bool.not_true, Bool.not_false, Bool.false_eq_true, if_true, if_false]
  · subst e
    have jn := j_none (j + 12) R hq
    refine fin (b0 := nst (tld v lo hi r) q) ?_ (by kernel_rfl) jn
    rcases told_form R with ⟨t, e, _, _⟩ | ⟨p, e, _⟩
    · rw [hd, e]
      exact w0_add
    · rw [hd, e]
      exact w0_none (is_non2 (j + 17))
  · subst e
    exact fin (b0 := false) (t0 rfl (by simp)) (by kernel_rfl) (j_four (j + 12) R)
  · subst e
    refine fin (b0 := false) (t0 rfl (by simp)) ?_ (j_n3 (j + 12) R)
    have s0 : subD (.tuple [.str "none", a, b]) (.int 0) = some (.im (.str "none")) := rfl
    have bl : bltD .len [.tuple [.str "none", a, b]] = some (.im (.int 3)) := rfl
    have nn : decide (("none" : Str) = "add") = false := by decide
    simp only [w_law_0_1, A, Q, im, s0, bl, nn, decide_true, seqS, SR.bind, Res.st, Res.bind, retS, exprS, ifS, asgS, nameG, stS_n, stS_1, stS_2, stS_3, stS_4, stS_5, stS_6, stS_7, stS_8, stS_9, stS_10, stS_11, stS_12, stS_13, stS_14, stS_15, asgT, unpT, tupT, parS, argsP, parG, immE, varE, lift, un1, op2, andE, orE, notE, ifE, chainE, tru, argsD, tupE, lstE, argsO, toPar, backs, callE, vw, vws, fzO, gt, pt, bltE, isiE, isisE, tyD, imB, imI, cmpF, cmpD, binD_add, binD_sub, augD, sliE, optE, sliD, itE, argsI, hid_im, hid_tl, hid_n, mutE, mtF, appF, isOl, setiS, setF, endF, outO, finsOf_f, finsOf_t, finsOf_n, fxOf, raiseS, seqF, seqD, nameT, unhS, List.replicate, List.cons_append, List.nil_append, List.contains, List.elem, Option.map, Option.bind, ltD_int, leD_int, eqD_int, eqD_str, Bool.not_true, Bool.not_false, Bool.false_eq_true, if_true, if_false]
/-! ### the turn -/
theorem l0 (ok : h.ok) : ∃ (h' : Hand) (v : Int × Int), w_law_2_0 (j + 20) (Q s h x2 x3 x4 x5 x6 x7 x8 x9 x10 x11 x12 x13) = .nx (Q s h' x2 (im (pr v)) x4 x5 x6 x7 x8 x9 x10 x11 x12 x13) ∧ Va v ∧ h'.ok := by
  obtain ⟨h1, m, e1, hm, ok1⟩ := t_some (j + 18) (xs := [.int 4, .int 51]) ok (by simp) (by simp)
  have : ∃ m' : Int, m = .int m' ∧ 0 < m' ∧ m' ≤ 51 := by
    simp only [List.mem_cons, List.not_mem_nil, or_false] at hm
    rcases hm with rfl | rfl <;> exact ⟨_, rfl, by decide, by decide⟩
  obtain ⟨m, rfl, m0, m1⟩ := this
  obtain ⟨h2, a, e2, a0, a1, ok2⟩ := t_draw (j + 19) (m := m) ok1 (by omega) (by omega)
  obtain ⟨h3, b, e3, b0, b1, ok3⟩ := t_draw (j + 19) (m := 20) ok2 (by omega) (by omega)
  refine ⟨h3, (a, 1 + b), ?_, ⟨a0, by show a ≤ 50; omega, by show 1 ≤ 1 + b; omega, by show 1 + b ≤ 20; omega⟩, ok3⟩
  simp only [w_law_2_0, Q, im, e1, e2, e3, seqS, SR.bind, Res.st, Res.bind, retS, exprS, ifS, asgS, nameG, stS_n, stS_1, stS_2, stS_3, stS_4, stS_5, stS_6, stS_7, stS_8, stS_9, stS_10, stS_11, stS_12, stS_13, stS_14, stS_15, asgT, unpT, tupT, parS, argsP, parG, immE, varE, lift, un1, op2, andE, orE, notE, ifE, chainE, tru, argsD, tupE, lstE, argsO, toPar, backs, callE, vw, vws, fzO, gt, pt, bltE, isiE, isisE, tyD, imB, imI, cmpF, cmpD, binD_add, binD_sub, augD, sliE, optE, sliD, itE, argsI, hid_im, hid_tl, hid_n, mutE, mtF, appF, isOl, setiS, setF, endF, outO, finsOf_f, finsOf_t, finsOf_n, fxOf, raiseS, seqF, seqD, nameT, unhS, List.replicate, List.cons_append, List.nil_append, List.contains, List.elem, Option.map, Option.bind, ltD_int, leD_int, eqD_int, eqD_str, Bool.not_true, Bool.not_false, Bool.false_eq_true, if_true, if_false]
theorem l1 (hv : Va v) : w_law_2_1 (j + 20) (Q s h x2 (im (pr v)) x4 x5 x6 x7 x8 x9 x10 x11 x12 x13) = .nx (Q s h x2 (im (pr v)) x4 x5 x6 x7 x8 x9 x10 x11 x12 x13) := by
  have st := t_strength (j + 15) hv
  have lw := t_low (j + 19) (t := v.1) (b := v.2) (lw_small hv.1 hv.2.2.1 (by have := hv.2.2.2; omega) (by have := hv.2.1; omega))
  have is := is_pr2 (j + 18) (p := low v.1 v.2) (q := low v.1 v.2)
  rw [decide_eq_true rfl] at is
  simp only [im] at st lw is
  simp only [w_law_2_1, Q, im, sub0, sub1, st, lw, is, seqS, SR.bind, Res.st, Res.bind, retS, exprS, ifS, asgS, nameG, stS_n, stS_1, stS_2, stS_3, stS_4, stS_5, stS_6, stS_7, stS_8, stS_9, stS_10, stS_11, stS_12, stS_13, stS_14, stS_15, asgT, unpT, tupT, parS, argsP, parG, immE, varE, lift, un1, op2, andE, orE, notE, ifE, chainE, tru, argsD, tupE, lstE, argsO, toPar, backs, callE, vw, vws, fzO, gt, pt, bltE, isiE, isisE, tyD, imB, imI, cmpF, cmpD, binD_add, binD_sub, augD, sliE, optE, sliD, itE, argsI, hid_im, hid_tl, hid_n, mutE, mtF, appF, isOl, setiS, setF, endF, outO, finsOf_f, finsOf_t, finsOf_n, fxOf, raiseS, seqF, seqD, nameT, unhS, List.replicate, List.cons_append, List.nil_append, List.contains, List.elem, Option.map, Option.bind, ltD_int, leD_int, eqD_int, eqD_str, Bool.not_true, Bool.not_false, Bool.false_eq_true, if_true, if_false]
theorem l2 (ok : h.ok) (hv : Va v) : ∃ (h' : Hand) (r : Int), w_law_2_2 (j + 20) (Q s h x2 (im (pr v)) x4 x5 x6 x7 x8 x9 x10 x11 x12 x13) = .nx (Q s h' x2 (im (pr v)) (im (.int r)) x5 x6 x7 x8 x9 x10 x11 x12 x13) ∧ v.2 ≤ r ∧ r ≤ 30 ∧ h'.ok := by
  obtain ⟨h1, m, e1, hm, ok1⟩ := t_some (j + 18) (xs := [.int 1, .int 5, .int 29]) ok (by simp) (by simp)
  have : ∃ m' : Int, m = .int m' ∧ 0 < m' ∧ m' ≤ 51 := by
    simp only [List.mem_cons, List.not_mem_nil, or_false] at hm
    rcases hm with rfl | rfl | rfl <;> exact ⟨_, rfl, by decide, by decide⟩
  obtain ⟨m, rfl, m0, m1⟩ := this
  obtain ⟨h2, a, e2, a0, a1, ok2⟩ := t_draw (j + 19) (m := m) ok1 (by omega) (by omega)
  have mn : bltD .min [.int 30, .int (v.2 + a)] = some (.im (.int (if v.2 + a < 30 then v.2 + a else 30))) := rfl
  refine ⟨h2, if v.2 + a < 30 then v.2 + a else 30, ?_, by split <;> have := hv.2.2.2 <;> omega, by split <;> omega, ok2⟩
  simp only [w_law_2_2, Q, im, sub1, e1, e2, mn, seqS, SR.bind, Res.st, Res.bind, retS, exprS, ifS, asgS, nameG, stS_n, stS_1, stS_2, stS_3, stS_4, stS_5, stS_6, stS_7, stS_8, stS_9, stS_10, stS_11, stS_12, stS_13, stS_14, stS_15, asgT, unpT, tupT, parS, argsP, parG, immE, varE, lift, un1, op2, andE, orE, notE, ifE, chainE, tru, argsD, tupE, lstE, argsO, toPar, backs, callE, vw, vws, fzO, gt, pt, bltE, isiE, isisE, tyD, imB, imI, cmpF, cmpD, binD_add, binD_sub, augD, sliE, optE, sliD, itE, argsI, hid_im, hid_tl, hid_n, mutE, mtF, appF, isOl, setiS, setF, endF, outO, finsOf_f, finsOf_t, finsOf_n, fxOf, raiseS, seqF, seqD, nameT, unhS, List.replicate, List.cons_append, List.nil_append, List.contains, List.elem, Option.map, Option.bind, ltD_int, leD_int, eqD_int, eqD_str, Bool.not_true, Bool.not_false, Bool.false_eq_true, if_true, if_false]
theorem l3 (ok : h.ok) : ∃ (h' : Hand) (p q : Int × Int), w_law_2_3 (j + 20) (Q s h x2 x3 x4 x5 x6 x7 x8 x9 x10 x11 x12 x13) = .nx (Q s h' x2 x3 x4 (some (.ol [pr p, pr q])) x6 x7 x8 x9 x10 x11 x12 x13) ∧ Sm p ∧ Sm q ∧ h'.ok := by
  obtain ⟨rs, e', hc, hl, hq, h2, ok2, he'⟩ := compE_inv (own := [14]) (it := itE [] rangeF1 [(immE (.int 2))]) (tg := nameT [] 14) (cond := condE []) (elt := ce_law_0 (j + 20)) (e := Q s h x2 x3 x4 x5 x6 x7 x8 x9 x10 x11 x12 x13) (e1 := Q s h x2 x3 x4 x5 x6 x7 x8 x9 x10 x11 x12 x13) (ds := rangeI 0 2) (fun e => ∃ h : Hand, h.ok ∧ e = Q s h x2 x3 x4 x5 x6 x7 x8 x9 x10 x11 x12 x13) (fun d => ∃ p, d = pr p ∧ Sm p) rfl rfl (by rw [rangeI_len]; simp [sizeMax]) ⟨h, ok, rfl⟩ (fun d hd e ⟨h, hok, he⟩ => by
    subst he
    obtain ⟨h1, t, e1, t0, t1, ok1⟩ := t_draw (j + 19) (m := 60) hok (by omega) (by omega)
    obtain ⟨h2, b, e2, b0, b1, ok2⟩ := t_draw (j + 19) (m := 12) ok1 (by omega) (by omega)
    have lw := t_low (j + 19) (t := t) (b := 1 + b) (lw_small t0 (by omega) (by omega) (by omega))
    refine ⟨_, rfl, rfl, pr (low t (1 + b)), [some (.im s), some (.ol h2.ds), x2, x3, x4, x5, x6, x7, x8, x9, x10, x11, x12, x13, some (.im d)], ?_, ⟨_, rfl, sm_low t0 (by omega) (by omega) (by omega)⟩, h2, ok2, rfl⟩
    simp only [im] at lw
    simp only [ce_law_0, Q, e1, e2, lw, seqS, SR.bind, Res.st, Res.bind, retS, exprS, ifS, asgS, nameG, stS_n, stS_1, stS_2, stS_3, stS_4, stS_5, stS_6, stS_7, stS_8, stS_9, stS_10, stS_11, stS_12, stS_13, stS_14, stS_15, asgT, unpT, tupT, parS, argsP, parG, immE, varE, lift, un1, op2, andE, orE, notE, ifE, chainE, tru, argsD, tupE, lstE, argsO, toPar, backs, callE, vw, vws, fzO, gt, pt, bltE, isiE, isisE, tyD, imB, imI, cmpF, cmpD, binD_add, binD_sub, augD, sliE, optE, sliD, itE, argsI, hid_im, hid_tl, hid_n, mutE, mtF, appF, isOl, setiS, setF, endF, outO, finsOf_f, finsOf_t, finsOf_n, fxOf, raiseS, seqF, seqD, nameT, unhS, List.replicate, List.cons_append, List.nil_append, List.contains, List.elem, Option.map, Option.bind, ltD_int, leD_int, eqD_int, eqD_str, Bool.not_true, Bool.not_false, Bool.false_eq_true, if_true, if_false])
  subst he'
  rw [rangeI_len] at hl
  match rs, hl with
  | [a, b], _ =>
    obtain ⟨p, rfl, hp⟩ := hq a List.mem_cons_self
    obtain ⟨q, rfl, hq'⟩ := hq b (List.mem_cons_of_mem _ List.mem_cons_self)
    exact ⟨h2, p, q, asgS_tl hc rfl, hp, hq', ok2⟩
theorem l4 {p q : Int × Int} (hp : Sm p) (hq : Sm q) : ∃ a b : Int × Int, w_law_2_4 (j + 20) (Q s h x2 x3 x4 (some (.ol [pr p, pr q])) x6 x7 x8 x9 x10 x11 x12 x13) = .nx (Q s h x2 x3 x4 (some (.ol [pr p, pr q])) (im (pr b)) x7 x8 x9 x10 x11 (im (pr a)) x13) ∧ Sm a ∧ Sm b ∧ ¬ ls b a := by
  have lt := t_lless (j + 19) (s := q) (b := p) hp.s1 hp.s2
  have s0 : subD (.list [pr p, pr q]) (.int 0) = some (.im (pr p)) := rfl
  have s1 : subD (.list [pr p, pr q]) (.int 1) = some (.im (pr q)) := rfl
  simp only [im] at lt
  by_cases z : ls q p
  · refine ⟨q, p, ?_, hq, hp, fun y => ?_⟩
    · simp only [w_law_2_4, Q, im, s0, s1, lt, z, decide_true, seqS, SR.bind, Res.st, Res.bind, retS, exprS, ifS, asgS, nameG, stS_n, stS_1, stS_2, stS_3, stS_4, stS_5, stS_6, stS_7, stS_8, stS_9, stS_10, stS_11, stS_12, stS_13, stS_14, stS_15, asgT, unpT, tupT, parS, argsP, parG, immE, varE, lift, un1, op2, andE, orE, notE, ifE, chainE, tru, argsD, tupE, lstE, argsO, toPar, backs, callE, vw, vws, fzO, gt, pt, bltE, isiE, isisE, tyD, imB, imI, cmpF, cmpD, binD_add, binD_sub, augD, sliE, optE, sliD, itE, argsI, hid_im, hid_tl, hid_n, mutE, mtF, appF, isOl, setiS, setF, endF, outO, finsOf_f, finsOf_t, finsOf_n, fxOf, raiseS, seqF, seqD, nameT, unhS, List.replicate, List.cons_append, List.nil_append, List.contains, List.elem, Option.map, Option.bind, ltD_int, leD_int, eqD_int, eqD_str, Bool.not_true, Bool.not_false, Bool.false_eq_true, if_true, if_false]
    · have y : p.1 * q.2 < q.1 * p.2 := y
      have z : q.1 * p.2 < p.1 * q.2 := z
      omega
  · refine ⟨p, q, ?_, hp, hq, z⟩
    simp only [w_law_2_4, Q, im, s0, s1, lt, z, decide_false, seqS, SR.bind, Res.st, Res.bind, retS, exprS, ifS, asgS, nameG, stS_n, stS_1, stS_2, stS_3, stS_4, stS_5, stS_6, stS_7, stS_8, stS_9, stS_10, stS_11, stS_12, stS_13, stS_14, stS_15, asgT, unpT, tupT, parS, argsP, parG, immE, varE, lift, un1, op2, andE, orE, notE, ifE, chainE, tru, argsD, tupE, lstE, argsO, toPar, backs, callE, vw, vws, fzO, gt, pt, bltE, isiE, isisE, tyD, imB, imI, cmpF, cmpD, binD_add, binD_sub, augD, sliE, optE, sliD, itE, argsI, hid_im, hid_tl, hid_n, mutE, mtF, appF, isOl, setiS, setF, endF, outO, finsOf_f, finsOf_t, finsOf_n, fxOf, raiseS, seqF, seqD, nameT, unhS, List.replicate, List.cons_append, List.nil_append, List.contains, List.elem, Option.map, Option.bind, ltD_int, leD_int, eqD_int, eqD_str, Bool.not_true, Bool.not_false, Bool.false_eq_true, if_true, if_false]
theorem l5 {a b : Int × Int} (ok : h.ok) (ha : Sm a) (hb : Sm b) (hn : ¬ ls b a) : ∃ (h' : Hand) (c : Int × Int), w_law_2_5 (j + 20) (Q s h x2 x3 x4 x5 (im (pr b)) x7 x8 x9 x10 x11 (im (pr a)) x13) = .nx (Q s h' x2 x3 x4 x5 (im (pr c)) x7 x8 x9 x10 x11 (im (pr a)) x13) ∧ Sm c ∧ ¬ ls c a ∧ h'.ok := by
  obtain ⟨h1, m, e1, hm, ok1⟩ := t_some (j + 18) (xs := [pr a, pr b]) ok (by simp) (by simp)
  have : ∃ c : Int × Int, m = pr c ∧ Sm c ∧ ¬ ls c a := by
    simp only [List.mem_cons, List.not_mem_nil, or_false] at hm
    rcases hm with rfl | rfl
    · exact ⟨a, rfl, ha, Int.lt_irrefl _⟩
    · exact ⟨b, rfl, hb, hn⟩
  obtain ⟨c, rfl, hc, hca⟩ := this
  refine ⟨h1, c, ?_, hc, hca, ok1⟩
  simp only [w_law_2_5, Q, im, e1, seqS, SR.bind, Res.st, Res.bind, retS, exprS, ifS, asgS, nameG, stS_n, stS_1, stS_2, stS_3, stS_4, stS_5, stS_6, stS_7, stS_8, stS_9, stS_10, stS_11, stS_12, stS_13, stS_14, stS_15, asgT, unpT, tupT, parS, argsP, parG, immE, varE, lift, un1, op2, andE, orE, notE, ifE, chainE, tru, argsD, tupE, lstE, argsO, toPar, backs, callE, vw, vws, fzO, gt, pt, bltE, isiE, isisE, tyD, imB, imI, cmpF, cmpD, binD_add, binD_sub, augD, sliE, optE, sliD, itE, argsI, hid_im, hid_tl, hid_n, mutE, mtF, appF, isOl, setiS, setF, endF, outO, finsOf_f, finsOf_t, finsOf_n, fxOf, raiseS, seqF, seqD, nameT, unhS, List.replicate, List.cons_append, List.nil_append, List.contains, List.elem, Option.map, Option.bind, ltD_int, leD_int, eqD_int, eqD_str, Bool.not_true, Bool.not_false, Bool.false_eq_true, if_true, if_false]
theorem l6 : w_law_2_6 (j + 20) (Q s h x2 x3 x4 x5 (im (pr hi)) x7 x8 x9 x10 x11 (im (pr lo)) x13) = .nx (Q s h x2 x3 x4 x5 (im (pr hi)) (im (bo lo hi)) x8 x9 x10 x11 (im (pr lo)) x13) := by kernel_rfl
theorem l7 (R : Ri v lo hi r) : w_law_2_7 (j + 20) (Q s h x2 (im (pr v)) (im (.int r)) x5 x6 (im (bo lo hi)) x8 x9 x10 x11 x12 x13) = .nx (Q s h x2 (im (pr v)) (im (.int r)) x5 x6 (im (bo lo hi)) (im (tld v lo hi r)) x9 x10 x11 x12 x13) := by
  have t := t_ldue (j + 14) R.hv R.hl R.hh R.h1 R.h2
  simp only [im] at t
  simp only [w_law_2_7, Q, im, t, seqS, SR.bind, Res.st, Res.bind, retS, exprS, ifS, asgS, nameG, stS_n, stS_1, stS_2, stS_3, stS_4, stS_5, stS_6, stS_7, stS_8, stS_9, stS_10, stS_11, stS_12, stS_13, stS_14, stS_15, asgT, unpT, tupT, parS, argsP, parG, immE, varE, lift, un1, op2, andE, orE, notE, ifE, chainE, tru, argsD, tupE, lstE, argsO, toPar, backs, callE, vw, vws, fzO, gt, pt, bltE, isiE, isisE, tyD, imB, imI, cmpF, cmpD, binD_add, binD_sub, augD, sliE, optE, sliD, itE, argsI, hid_im, hid_tl, hid_n, mutE, mtF, appF, isOl, setiS, setF, endF, outO, finsOf_f, finsOf_t, finsOf_n, fxOf, raiseS, seqF, seqD, nameT, unhS, List.replicate, List.cons_append, List.nil_append, List.contains, List.elem, Option.map, Option.bind, ltD_int, leD_int, eqD_int, eqD_str, Bool.not_true, Bool.not_false, Bool.false_eq_true, if_true, if_false]
theorem l8 (R : Ri v lo hi r) : w_law_2_8 (j + 20) (Q s h x2 (im (pr v)) (im (.int r)) x5 x6 (im (bo lo hi)) x8 x9 x10 x11 x12 x13) = .nx (Q s h x2 (im (pr v)) (im (.int r)) x5 x6 (im (bo lo hi)) x8 (im (tld v lo hi r)) x10 x11 x12 x13) := by
  have t := t_starched (j + 12) R
  simp only [im] at t
  simp only [w_law_2_8, Q, im, t, seqS, SR.bind, Res.st, Res.bind, retS, exprS, ifS, asgS, nameG, stS_n, stS_1, stS_2, stS_3, stS_4, stS_5, stS_6, stS_7, stS_8, stS_9, stS_10, stS_11, stS_12, stS_13, stS_14, stS_15, asgT, unpT, tupT, parS, argsP, parG, immE, varE, lift, un1, op2, andE, orE, notE, ifE, chainE, tru, argsD, tupE, lstE, argsO, toPar, backs, callE, vw, vws, fzO, gt, pt, bltE, isiE, isisE, tyD, imB, imI, cmpF, cmpD, binD_add, binD_sub, augD, sliE, optE, sliD, itE, argsI, hid_im, hid_tl, hid_n, mutE, mtF, appF, isOl, setiS, setF, endF, outO, finsOf_f, finsOf_t, finsOf_n, fxOf, raiseS, seqF, seqD, nameT, unhS, List.replicate, List.cons_append, List.nil_append, List.contains, List.elem, Option.map, Option.bind, ltD_int, leD_int, eqD_int, eqD_str, Bool.not_true, Bool.not_false, Bool.false_eq_true, if_true, if_false]
theorem l9 (R : Ri v lo hi r) : w_law_2_9 (j + 20) (Q s h x2 (im (pr v)) (im (.int r)) x5 x6 (im (bo lo hi)) (im (tld v lo hi r)) (im (tld v lo hi r)) x10 x11 x12 x13) = .nx (Q s h x2 (im (pr v)) (im (.int r)) x5 x6 (im (bo lo hi)) (im (tld v lo hi r)) (im (tld v lo hi r)) x10 x11 x12 x13) := by
  have is : P.run (j + 22) d__law_is [im (tld v lo hi r), im (tld v lo hi r)] = .ok (.im (.bool true)) [none, none] ∧ P.run (j + 22) d_is_starched_told [im (pr v), im (bo lo hi), im (.int r), im (tld v lo hi r)] = .ok (.im (.bool true)) [none, none, none, none] := by
    rcases told_form R with ⟨t, e, ok, ht, hr⟩ | ⟨q, e, hq⟩
    · rw [e]
      have ja := j_add (j + 12) R (a := t.2.1) (b := t.2.2)
      have m : may v lo hi r t.2.1 t.2.2 = true := by
        obtain ⟨o1, o2, o3, o4⟩ := ok
        have d1 : decide (0 ≤ t.2.1) = true := decide_eq_true o1
        have d2 : decide (t.2.1 ≤ 50 - v.1) = true := decide_eq_true (by omega)
        have d3 : decide (0 ≤ t.2.2) = true := decide_eq_true o3
        have d4 : decide (t.2.2 ≤ r - v.2) = true := decide_eq_true hr
        have d5 : hitT v lo hi (t.2.1 + t.2.2, t.2.1, t.2.2) = true := ht
        unfold may
        rw [d1, d2, d3, d4, d5]
        rfl
      rw [m] at ja
      exact ⟨is_add3 (j + 17), ja⟩
    · have jn := j_none (j + 12) R hq
      rw [e] at jn ⊢
      have n : nst (.tuple [.str "none", pr q]) q = true := decide_eq_true rfl
      rw [n] at jn
      have i := is_non2 (j + 17) (p := q) (q := q)
      rw [decide_eq_true rfl] at i
      exact ⟨i, jn⟩
  obtain ⟨i1, i2⟩ := is
  simp only [im] at i1 i2
  generalize tld v lo hi r = due at i1 i2 ⊢
  simp only [w_law_2_9, Q, im, i1, i2, isD, decide_true, seqS, SR.bind, Res.st, Res.bind, retS, exprS, ifS, asgS, nameG, stS_n, stS_1, stS_2, stS_3, stS_4, stS_5, stS_6, stS_7, stS_8, stS_9, stS_10, stS_11, stS_12, stS_13, stS_14, stS_15, asgT, unpT, tupT, parS, argsP, parG, immE, varE, lift, un1, op2, andE, orE, notE, ifE, chainE, tru, argsD, tupE, lstE, argsO, toPar, backs, callE, vw, vws, fzO, gt, pt, bltE, isiE, isisE, tyD, imB, imI, cmpF, cmpD, binD_add, binD_sub, augD, sliE, optE, sliD, itE, argsI, hid_im, hid_tl, hid_n, mutE, mtF, appF, isOl, setiS, setF, endF, outO, finsOf_f, finsOf_t, finsOf_n, fxOf, raiseS, seqF, seqD, nameT, unhS, List.replicate, List.cons_append, List.nil_append, List.contains, List.elem, Option.map, Option.bind, ltD_int, leD_int, eqD_int, eqD_str, Bool.not_true, Bool.not_false, Bool.false_eq_true, if_true, if_false]
end
end Lw
end
section
set_option maxHeartbeats 1000000
namespace Lw
open PySem Ev
section
variable {j : Nat} {s : D} {h : Hand} {v lo hi : Int × Int} {r : Int} {x2 x3 x4 x5 x6 x7 x8 x9 x10 x11 x12 x13 : Option Sv} {w : D} {ts : List D}
def ths (r : Int) (w : D) (ts : List D) : List D := [.tuple [.str "add", .int 0, .int 0], .tuple [.str "add", .int 1, .int 0], .tuple [.str "add", .int 0, .int r], .tuple [.str "none", .tuple [.int 0, .int 1]], .tuple [.str "none", .tuple [.int 1, .int 1]], .list (w :: ts), .none]
theorem l10 : w_law_2_10 (j + 20) (Q s h x2 x3 (im (.int r)) x5 x6 x7 x8 (im (.tuple (w :: ts))) x10 x11 x12 x13) = .nx (Q s h x2 x3 (im (.int r)) x5 x6 x7 x8 (im (.tuple (w :: ts))) (some (.ol (ths r w ts))) x11 x12 x13) := by
  have li : bltD .list [.tuple (w :: ts)] = some (.tl (w :: ts)) := rfl
  simp only [w_law_2_10, Q, im, li, ths, seqS, SR.bind, Res.st, Res.bind, retS, exprS, ifS, asgS, nameG, stS_n, stS_1, stS_2, stS_3, stS_4, stS_5, stS_6, stS_7, stS_8, stS_9, stS_10, stS_11, stS_12, stS_13, stS_14, stS_15, asgT, unpT, tupT, parS, argsP, parG, immE, varE, lift, un1, op2, andE, orE, notE, ifE, chainE, tru, argsD, tupE, lstE, argsO, toPar, backs, callE, vw, vws, fzO, gt, pt, bltE, isiE, isisE, tyD, imB, imI, cmpF, cmpD, binD_add, binD_sub, augD, sliE, optE, sliD, itE, argsI, hid_im, hid_tl, hid_n, mutE, mtF, appF, isOl, setiS, setF, endF, outO, finsOf_f, finsOf_t, finsOf_n, fxOf, raiseS, seqF, seqD, nameT, unhS, List.replicate, List.cons_append, List.nil_append, List.contains, List.elem, Option.map, Option.bind, ltD_int, leD_int, eqD_int, eqD_str, Bool.not_true, Bool.not_false, Bool.false_eq_true, if_true, if_false]
theorem l11 {xs : List D} (ok : h.ok) (hx : xs.length ≤ 100) : ∃ (h' : Hand) (a b : Int), w_law_2_11 (j + 20) (Q s h x2 x3 x4 x5 x6 x7 x8 x9 (some (.ol xs)) x11 x12 x13) = .nx (Q s h' x2 x3 x4 x5 x6 x7 x8 x9 (some (.ol (xs ++ [.tuple [.str "add", .int a, .int b], .tuple [.str "add", .bool true, .int 0], .tuple [.str "add", .int (-1), .int 0]]))) x11 x12 x13) ∧ h'.ok := by
  obtain ⟨h1, a, e1, _, _, ok1⟩ := t_draw (j + 19) (m := 20) ok (by omega) (by omega)
  obtain ⟨h2, b, e2, _, _, ok2⟩ := t_draw (j + 19) (m := 10) ok1 (by omega) (by omega)
  refine ⟨h2, a, b, ?_, ok2⟩
  have ad : binD .Add (.list xs) (.list [.tuple [.str "add", .int a, .int b], .tuple [.str "add", .bool true, .int 0], .tuple [.str "add", .int (-1), .int 0]]) = some (.tl (xs ++ [.tuple [.str "add", .int a, .int b], .tuple [.str "add", .bool true, .int 0], .tuple [.str "add", .int (-1), .int 0]])) := binD_addL (by simp [sizeMax]; omega)
  simp only [w_law_2_11, Q, im, e1, e2, negD, ad, seqS, SR.bind, Res.st, Res.bind, retS, exprS, ifS, asgS, nameG, stS_n, stS_1, stS_2, stS_3, stS_4, stS_5, stS_6, stS_7, stS_8, stS_9, stS_10, stS_11, stS_12, stS_13, stS_14, stS_15, asgT, unpT, tupT, parS, argsP, parG, immE, varE, lift, un1, op2, andE, orE, notE, ifE, chainE, tru, argsD, tupE, lstE, argsO, toPar, backs, callE, vw, vws, fzO, gt, pt, bltE, isiE, isisE, tyD, imB, imI, cmpF, cmpD, binD_add, binD_sub, augD, sliE, optE, sliD, itE, argsI, hid_im, hid_tl, hid_n, mutE, mtF, appF, isOl, setiS, setF, endF, outO, finsOf_f, finsOf_t, finsOf_n, fxOf, raiseS, seqF, seqD, nameT, unhS, List.replicate, List.cons_append, List.nil_append, List.contains, List.elem, Option.map, Option.bind, ltD_int, leD_int, eqD_int, eqD_str, Bool.not_true, Bool.not_false, Bool.false_eq_true, if_true, if_false]
theorem l12 {xs : List D} (hx : xs.length ≤ 100) (ht : ts.length ≤ 10) : w_law_2_12 (j + 20) (Q s h x2 x3 x4 x5 x6 x7 x8 (im (.tuple (w :: ts))) (some (.ol xs)) x11 x12 x13) = .nx (Q s h x2 x3 x4 x5 x6 x7 x8 (im (.tuple (w :: ts))) (some (.ol (xs ++ [.tuple (w :: ts ++ [.int 0]), .tuple [w]]))) x11 x12 x13) := by
  have ad : ∀ y z : D, binD .Add (.list xs) (.list [y, z]) = some (.tl (xs ++ [y, z])) := fun y z => binD_addL (by simp [sizeMax]; omega)
  have at' : binD .Add (.tuple (w :: ts)) (.tuple [.int 0]) = some (.im (.tuple (w :: ts ++ [.int 0]))) := binD_addT (by simp [sizeMax]; omega)
  have cu : cutL (w :: ts) none (some 1) = [w] := by simp [cutL, cutI]
  simp only [w_law_2_12, Q, im, ad, at', cu, seqS, SR.bind, Res.st, Res.bind, retS, exprS, ifS, asgS, nameG, stS_n, stS_1, stS_2, stS_3, stS_4, stS_5, stS_6, stS_7, stS_8, stS_9, stS_10, stS_11, stS_12, stS_13, stS_14, stS_15, asgT, unpT, tupT, parS, argsP, parG, immE, varE, lift, un1, op2, andE, orE, notE, ifE, chainE, tru, argsD, tupE, lstE, argsO, toPar, backs, callE, vw, vws, fzO, gt, pt, bltE, isiE, isisE, tyD, imB, imI, cmpF, cmpD, binD_add, binD_sub, augD, sliE, optE, sliD, itE, argsI, hid_im, hid_tl, hid_n, mutE, mtF, appF, isOl, setiS, setF, endF, outO, finsOf_f, finsOf_t, finsOf_n, fxOf, raiseS, seqF, seqD, nameT, unhS, List.replicate, List.cons_append, List.nil_append, List.contains, List.elem, Option.map, Option.bind, ltD_int, leD_int, eqD_int, eqD_str, Bool.not_true, Bool.not_false, Bool.false_eq_true, if_true, if_false]
theorem l13 {xs : List D} {due : D} (ok : h.ok) (R : Ri v lo hi r) (hd : due = tld v lo hi r) (hx : xs.length ≤ 100) (ht : ∀ x ∈ xs, Th x) : ∃ (h' : Hand) (y10 y11 y13 : Option Sv), w_law_2_13 (j + 20) (Q s h x2 (im (pr v)) (im (.int r)) x5 x6 (im (bo lo hi)) (im due) x9 (some (.ol xs)) x11 x12 x13) = .nx (Q s h' x2 (im (pr v)) (im (.int r)) x5 x6 (im (bo lo hi)) (im due) x9 y10 y11 x12 y13) ∧ h'.ok := by
  obtain ⟨h1, o, e1, ho, ok1⟩ := t_odd (j + 17) ok
  have ad : binD .Add (.list xs) (.list [o]) = some (.tl (xs ++ [o])) := binD_addL (by simp [sizeMax]; omega)
  have hit : ∃ y10, itE [] seqF [(op2 (binD .Add) (varE 10) (lstE [(callE [true] (P.run (j + 20 + 2) d__law_odd) [(varE 1)])]))] (Q s h x2 (im (pr v)) (im (.int r)) x5 x6 (im (bo lo hi)) (im due) x9 (some (.ol xs)) x11 x12 x13) = .ok ⟨xs ++ [o], []⟩ (Q s h1 x2 (im (pr v)) (im (.int r)) x5 x6 (im (bo lo hi)) (im due) x9 y10 x11 x12 x13) := by
    refine ⟨some (.ol xs), ?_⟩
    simp only [Q, im, e1, ad, List.append_nil, seqS, SR.bind, Res.st, Res.bind, retS, exprS, ifS, asgS, nameG, stS_n, stS_1, stS_2, stS_3, stS_4, stS_5, stS_6, stS_7, stS_8, stS_9, stS_10, stS_11, stS_12, stS_13, stS_14, stS_15, asgT, unpT, tupT, parS, argsP, parG, immE, varE, lift, un1, op2, andE, orE, notE, ifE, chainE, tru, argsD, tupE, lstE, argsO, toPar, backs, callE, vw, vws, fzO, gt, pt, bltE, isiE, isisE, tyD, imB, imI, cmpF, cmpD, binD_add, binD_sub, augD, sliE, optE, sliD, itE, argsI, hid_im, hid_tl, hid_n, mutE, mtF, appF, isOl, setiS, setF, endF, outO, finsOf_f, finsOf_t, finsOf_n, fxOf, raiseS, seqF, seqD, nameT, unhS, List.replicate, List.cons_append, List.nil_append, List.contains, List.elem, Option.map, Option.bind, ltD_int, leD_int, eqD_int, eqD_str, Bool.not_true, Bool.not_false, Bool.false_eq_true, if_true, if_false]
  obtain ⟨y10, hit⟩ := hit
  obtain ⟨e', hl, y11, y13, rfl⟩ := forL_inv (tg := nameT [] 11) (body := lb_law_0 (j + 20)) (fun e => ∃ (x11 x13 : Option Sv), e = Q s h1 x2 (im (pr v)) (im (.int r)) x5 x6 (im (bo lo hi)) (im due) x9 y10 x11 x12 x13) (xs ++ [o]) _ ⟨x11, x13, rfl⟩ (fun d hdm e ⟨x11, x13, he⟩ => by
    subst he
    have td : Th d := by
      rcases List.mem_append.mp hdm with z | z
      · exact ht d z
      · simp at z; subst z; exact .inl ho
    obtain ⟨b, eb⟩ := body (j := j) (s := s) (h := h1) (x2 := x2) (x5 := x5) (x6 := x6) (x9 := x9) (x10 := y10) (x12 := x12) (x13 := x13) R hd td
    exact ⟨_, rfl, _, eb, _, _, rfl⟩)
  refine ⟨h1, y10, y11, y13, ?_, ok1⟩
  unfold w_law_2_13 l_law_0
  exact forS_nx hit hl
theorem l14 (ok : h.ok) (hv : Va v) : ∃ (h' : Hand) (y11 : Option Sv), w_law_2_14 (j + 20) (Q s h x2 (im (pr v)) x4 x5 x6 x7 x8 x9 x10 x11 x12 x13) = .nx (Q s h' x2 (im (pr v)) x4 x5 x6 x7 x8 x9 x10 y11 x12 x13) ∧ h'.ok := by
  obtain ⟨h1, o, e1, ho, ok1⟩ := t_odd (j + 17) ok
  let xs : List D := [pr v, .list [.int v.1, .int v.2], .tuple [.int 51, .int 1], .tuple [.int (-1), .int 1], .tuple [.int 0, .int 0], .tuple [.int 0, .int 21], .tuple [.bool true, .int 1], .tuple [.int 1], .tuple [], .none, o]
  have li : bltD .list [pr v] = some (.tl [.int v.1, .int v.2]) := rfl
  have hit : itE [] seqF [(tupE [(varE 3), (bltE (bltD .list) [(varE 3)]), (tupE [(immE (.int 51)), (immE (.int 1))]), (tupE [(un1 negD (immE (.int 1))), (immE (.int 1))]), (tupE [(immE (.int 0)), (immE (.int 0))]), (tupE [(immE (.int 0)), (immE (.int 21))]), (tupE [(immE (.bool true)), (immE (.int 1))]), (tupE [(immE (.int 1))]), (tupE []), (immE (.none)), (callE [true] (P.run (j + 20 + 2) d__law_odd) [(varE 1)])])] (Q s h x2 (im (pr v)) x4 x5 x6 x7 x8 x9 x10 x11 x12 x13) = .ok ⟨xs, []⟩ (Q s h1 x2 (im (pr v)) x4 x5 x6 x7 x8 x9 x10 x11 x12 x13) := by
    simp only [Q, im, e1, li, negD, xs, List.append_nil, seqS, SR.bind, Res.st, Res.bind, retS, exprS, ifS, asgS, nameG, stS_n, stS_1, stS_2, stS_3, stS_4, stS_5, stS_6, stS_7, stS_8, stS_9, stS_10, stS_11, stS_12, stS_13, stS_14, stS_15, asgT, unpT, tupT, parS, argsP, parG, immE, varE, lift, un1, op2, andE, orE, notE, ifE, chainE, tru, argsD, tupE, lstE, argsO, toPar, backs, callE, vw, vws, fzO, gt, pt, bltE, isiE, isisE, tyD, imB, imI, cmpF, cmpD, binD_add, binD_sub, augD, sliE, optE, sliD, itE, argsI, hid_im, hid_tl, hid_n, mutE, mtF, appF, isOl, setiS, setF, endF, outO, finsOf_f, finsOf_t, finsOf_n, fxOf, raiseS, seqF, seqD, nameT, unhS, List.replicate, List.cons_append, List.nil_append, List.contains, List.elem, Option.map, Option.bind, ltD_int, leD_int, eqD_int, eqD_str, Bool.not_true, Bool.not_false, Bool.false_eq_true, if_true, if_false]
  have two : ∀ {x : D}, (x = pr v ∨ Odd x ∨ x ∈ wrongs) → ∃ b : Bool, P.run (j + 22) d_is_vat [im x] = .ok (.im (.bool b)) [none] ∧ P.run (j + 22) d__law_is_vat [im x] = .ok (.im (.bool b)) [none] := fun {x} hx => by
    rcases hx with rfl | hx | hx
    · exact ⟨true, t_is_vat (j + 17) hv, lv_right (j + 16) hv⟩
    · exact ⟨false, iv_odd (j + 16) hx, lv_odd (j + 16) hx⟩
    · exact ⟨false, iv_wrong (j + 16) hx, lv_wrong (j + 16) hx⟩
  obtain ⟨e', hl, y11, rfl⟩ := forL_inv (tg := nameT [] 11) (body := lb_law_1 (j + 20)) (fun e => ∃ (x11 : Option Sv), e = Q s h1 x2 (im (pr v)) x4 x5 x6 x7 x8 x9 x10 x11 x12 x13) xs _ ⟨x11, rfl⟩ (fun d hdm e ⟨x11, he⟩ => by
    subst he
    have td : d = pr v ∨ Odd d ∨ d ∈ wrongs := by
      simp only [xs, List.mem_cons, List.not_mem_nil, or_false] at hdm
      rcases hdm with rfl | rfl | rfl | rfl | rfl | rfl | rfl | rfl | rfl | rfl | rfl
      · exact .inl rfl
      · exact .inr (.inl (.inr (.inr (.inr (.inr (.inl ⟨_, rfl⟩))))))
      · exact .inr (.inr (by simp [wrongs]))
      · exact .inr (.inr (by simp [wrongs]))
      · exact .inr (.inr (by simp [wrongs]))
      · exact .inr (.inr (by simp [wrongs]))
      · exact .inr (.inr (by simp [wrongs]))
      · exact .inr (.inl (.inr (.inr (.inr (.inr (.inr (.inr (.inr (.inr ⟨_, rfl⟩)))))))))
      · exact .inr (.inl (.inr (.inr (.inr (.inr (.inr (.inr (.inr (.inl rfl)))))))))
      · exact .inr (.inl (.inl rfl))
      · exact .inr (.inl ho)
    obtain ⟨b, a1, a2⟩ := two td
    have i := is_bool (j + 19) b
    simp only [im] at a1 a2 i
    refine ⟨Q s h1 x2 (im (pr v)) x4 x5 x6 x7 x8 x9 x10 (im d) x12 x13, rfl, Q s h1 x2 (im (pr v)) x4 x5 x6 x7 x8 x9 x10 (im d) x12 x13, ?_, _, rfl⟩
    simp only [lb_law_1, w_law_1_0, Q, im, a1, a2, i, seqS, SR.bind, Res.st, Res.bind, retS, exprS, ifS, asgS, nameG, stS_n, stS_1, stS_2, stS_3, stS_4, stS_5, stS_6, stS_7, stS_8, stS_9, stS_10, stS_11, stS_12, stS_13, stS_14, stS_15, asgT, unpT, tupT, parS, argsP, parG, immE, varE, lift, un1, op2, andE, orE, notE, ifE, chainE, tru, argsD, tupE, lstE, argsO, toPar, backs, callE, vw, vws, fzO, gt, pt, bltE, isiE, isisE, tyD, imB, imI, cmpF, cmpD, binD_add, binD_sub, augD, sliE, optE, sliD, itE, argsI, hid_im, hid_tl, hid_n, mutE, mtF, appF, isOl, setiS, setF, endF, outO, finsOf_f, finsOf_t, finsOf_n, fxOf, raiseS, seqF, seqD, nameT, unhS, List.replicate, List.cons_append, List.nil_append, List.contains, List.elem, Option.map, Option.bind, ltD_int, leD_int, eqD_int, eqD_str, Bool.not_true, Bool.not_false, Bool.false_eq_true, if_true, if_false])
  refine ⟨h1, y11, ?_, ok1⟩
  unfold w_law_2_14 l_law_1
  exact forS_nx hit hl
theorem ths_ok (R : Ri v lo hi r) {a b : Int} (e : tld v lo hi r = .tuple (w :: ts)) : ∀ x ∈ ths r w ts ++ [.tuple [.str "add", .int a, .int b], .tuple [.str "add", .bool true, .int 0], .tuple [.str "add", .int (-1), .int 0]] ++ [.tuple (w :: ts ++ [.int 0]), .tuple [w]], Th x := by
  intro x hx
  have q01 : Fr (0, 1) := ⟨by decide, by decide, by decide, by decide, by decide⟩
  have q11 : Fr (1, 1) := ⟨by decide, by decide, by decide, by decide, by decide⟩
  simp only [ths, List.mem_append, List.mem_cons, List.not_mem_nil, or_false] at hx
  rcases hx with ((rfl | rfl | rfl | rfl | rfl | rfl | rfl) | (rfl | rfl | rfl)) | (rfl | rfl)
  · exact .inr (.inl ⟨_, _, rfl⟩)
  · exact .inr (.inl ⟨_, _, rfl⟩)
  · exact .inr (.inl ⟨_, _, rfl⟩)
  · exact .inr (.inr (.inr (.inl ⟨(0, 1), q01, rfl⟩)))
  · exact .inr (.inr (.inr (.inl ⟨(1, 1), q11, rfl⟩)))
  · exact .inl (.inr (.inr (.inr (.inr (.inl ⟨_, rfl⟩)))))
  · exact .inl (.inl rfl)
  · exact .inr (.inl ⟨_, _, rfl⟩)
  · exact .inr (.inr (.inl rfl))
  · exact .inr (.inl ⟨_, _, rfl⟩)
  · rcases told_form R with ⟨t, e', _⟩ | ⟨q, e', _⟩
    · rw [e] at e'
      injection e' with e'
      injection e' with e1 e2
      subst e1 e2
      exact .inr (.inr (.inr (.inr (.inl ⟨_, _, _, _, rfl⟩))))
    · rw [e] at e'
      injection e' with e'
      injection e' with e1 e2
      subst e1 e2
      exact .inr (.inr (.inr (.inr (.inr ⟨_, _, rfl⟩))))
  · exact .inl (.inr (.inr (.inr (.inr (.inr (.inr (.inr (.inr ⟨_, rfl⟩))))))))
theorem turn (ok : h.ok) : ∃ (h' : Hand) (x3' x4' x5' x6' x7' x8' x9' x10' x11' x12' x13' : Option Sv), lb_law_2 (j + 20) (Q s h x2 x3 x4 x5 x6 x7 x8 x9 x10 x11 x12 x13) = .nx (Q s h' x2 x3' x4' x5' x6' x7' x8' x9' x10' x11' x12' x13') ∧ h'.ok := by
  obtain ⟨h0, v, e0, hv, ok0⟩ := l0 (j := j) (s := s) (x2 := x2) (x3 := x3) (x4 := x4) (x5 := x5) (x6 := x6) (x7 := x7) (x8 := x8) (x9 := x9) (x10 := x10) (x11 := x11) (x12 := x12) (x13 := x13) ok
  obtain ⟨h2, r, e2, r0, r1, ok2⟩ := l2 (j := j) (s := s) (x2 := x2) (x4 := x4) (x5 := x5) (x6 := x6) (x7 := x7) (x8 := x8) (x9 := x9) (x10 := x10) (x11 := x11) (x12 := x12) (x13 := x13) ok0 hv
  obtain ⟨h3, p, q, e3, hp, hq, ok3⟩ := l3 (j := j) (s := s) (x2 := x2) (x3 := im (pr v)) (x4 := im (.int r)) (x5 := x5) (x6 := x6) (x7 := x7) (x8 := x8) (x9 := x9) (x10 := x10) (x11 := x11) (x12 := x12) (x13 := x13) ok2
  obtain ⟨a, b, e4, ha, hb, hab⟩ := l4 (j := j) (s := s) (h := h3) (x2 := x2) (x3 := im (pr v)) (x4 := im (.int r)) (x6 := x6) (x7 := x7) (x8 := x8) (x9 := x9) (x10 := x10) (x11 := x11) (x12 := x12) (x13 := x13) hp hq
  obtain ⟨h5, c, e5, hc, hca, ok5⟩ := l5 (j := j) (s := s) (x2 := x2) (x3 := im (pr v)) (x4 := im (.int r)) (x5 := some (.ol [pr p, pr q])) (x7 := x7) (x8 := x8) (x9 := x9) (x10 := x10) (x11 := x11) (x13 := x13) ok3 ha hb hab
  have R : Ri v a c r := ⟨hv, ha, hc, hca, r0, r1⟩
  obtain ⟨w, ts, ed, tl⟩ : ∃ w ts, tld v a c r = .tuple (w :: ts) ∧ ts.length ≤ 10 := by
    rcases told_form R with ⟨t, e, _⟩ | ⟨q, e, _⟩
    · exact ⟨_, _, e, by simp⟩
    · exact ⟨_, _, e, by simp⟩
  have e7 := l7 (j := j) (s := s) (h := h5) (x2 := x2) (x5 := some (.ol [pr p, pr q])) (x6 := im (pr c)) (x8 := x8) (x9 := x9) (x10 := x10) (x11 := x11) (x12 := im (pr a)) (x13 := x13) R
  have e8 := l8 (j := j) (s := s) (h := h5) (x2 := x2) (x5 := some (.ol [pr p, pr q])) (x6 := im (pr c)) (x8 := im (tld v a c r)) (x9 := x9) (x10 := x10) (x11 := x11) (x12 := im (pr a)) (x13 := x13) R
  have e9 := l9 (j := j) (s := s) (h := h5) (x2 := x2) (x5 := some (.ol [pr p, pr q])) (x6 := im (pr c)) (x10 := x10) (x11 := x11) (x12 := im (pr a)) (x13 := x13) R
  rw [ed] at e7 e8 e9
  obtain ⟨h11, a1, b1, e11, ok11⟩ := l11 (j := j) (s := s) (x2 := x2) (x3 := im (pr v)) (x4 := im (.int r)) (x5 := some (.ol [pr p, pr q])) (x6 := im (pr c)) (x7 := im (bo a c)) (x8 := im (.tuple (w :: ts))) (x9 := im (.tuple (w :: ts))) (x11 := x11) (x12 := im (pr a)) (x13 := x13) (xs := ths r w ts) ok5 (by simp [ths])
  obtain ⟨h13, y10, y11, y13, e13, ok13⟩ := l13 (j := j) (s := s) (x2 := x2) (x5 := some (.ol [pr p, pr q])) (x6 := im (pr c)) (x9 := im (.tuple (w :: ts))) (x11 := x11) (x12 := im (pr a)) (x13 := x13) ok11 R ed.symm (by simp [ths]) (ths_ok R ed (a := a1) (b := b1))
  obtain ⟨h14, z11, e14, ok14⟩ := l14 (j := j) (s := s) (x2 := x2) (x4 := im (.int r)) (x5 := some (.ol [pr p, pr q])) (x6 := im (pr c)) (x7 := im (bo a c)) (x8 := im (.tuple (w :: ts))) (x9 := im (.tuple (w :: ts))) (x10 := y10) (x11 := y11) (x12 := im (pr a)) (x13 := y13) ok13 hv
  have e : lb_law_2 (j + 20) (Q s h x2 x3 x4 x5 x6 x7 x8 x9 x10 x11 x12 x13) = .nx (Q s h14 x2 (im (pr v)) (im (.int r)) (some (.ol [pr p, pr q])) (im (pr c)) (im (bo a c)) (im (.tuple (w :: ts))) (im (.tuple (w :: ts))) y10 z11 (im (pr a)) y13) := by
    unfold lb_law_2
    rw [seqS_nx e0, seqS_nx (l1 hv), seqS_nx e2, seqS_nx e3, seqS_nx e4, seqS_nx e5, seqS_nx l6, seqS_nx e7, seqS_nx e8, seqS_nx e9, seqS_nx l10, seqS_nx e11, seqS_nx (l12 (by simp [ths]) tl), seqS_nx e13, seqS_one]
    exact e14
  exact ⟨_, _, _, _, _, _, _, _, _, _, _, _, e, ok14⟩
end
theorem t_law (ns : List Int) : ∃ fin, P.run 30 d_law [some (.im (.dict [(.none, .list (iL ns))]))] = .ok (.im (.bool true)) fin := by
  obtain ⟨h, ok, e0⟩ := t_hand 26 ns
  have s0 : b_law_0 27 [some (.im (.dict [(.none, .list (iL ns))])), none, none, none, none, none, none, none, none, none, none, none, none, none, none] = .nx (Q (.dict [(.none, .list (iL ns))]) h none none none none none none none none none none none none) := by
    simp only [b_law_0, Q, e0, seqS, SR.bind, Res.st, Res.bind, retS, exprS, ifS, asgS, nameG, stS_n, stS_1, stS_2, stS_3, stS_4, stS_5, stS_6, stS_7, stS_8, stS_9, stS_10, stS_11, stS_12, stS_13, stS_14, stS_15, asgT, unpT, tupT, parS, argsP, parG, immE, varE, lift, un1, op2, andE, orE, notE, ifE, chainE, tru, argsD, tupE, lstE, argsO, toPar, backs, callE, vw, vws, fzO, gt, pt, bltE, isiE, isisE, tyD, imB, imI, cmpF, cmpD, binD_add, binD_sub, augD, sliE, optE, sliD, itE, argsI, hid_im, hid_tl, hid_n, mutE, mtF, appF, isOl, setiS, setF, endF, outO, finsOf_f, finsOf_t, finsOf_n, fxOf, raiseS, seqF, seqD, nameT, unhS, List.replicate, List.cons_append, List.nil_append, List.contains, List.elem, Option.map, Option.bind, ltD_int, leD_int, eqD_int, eqD_str, Bool.not_true, Bool.not_false, Bool.false_eq_true, if_true, if_false]
  obtain ⟨e', hl, h', y2, y3, y4, y5, y6, y7, y8, y9, y10, y11, y12, y13, ok', rfl⟩ := forL_inv (tg := nameT [] 2) (body := lb_law_2 27) (fun e => ∃ (h : Hand) (x2 x3 x4 x5 x6 x7 x8 x9 x10 x11 x12 x13 : Option Sv), h.ok ∧ e = Q (.dict [(.none, .list (iL ns))]) h x2 x3 x4 x5 x6 x7 x8 x9 x10 x11 x12 x13) (rangeI 0 4) _ ⟨h, none, none, none, none, none, none, none, none, none, none, none, none, ok, rfl⟩ (fun d _ e ⟨h, x2, x3, x4, x5, x6, x7, x8, x9, x10, x11, x12, x13, ok, he⟩ => by
    subst he
    obtain ⟨h', x3', x4', x5', x6', x7', x8', x9', x10', x11', x12', x13', e, ok'⟩ := turn (j := 7) (s := .dict [(.none, .list (iL ns))]) (x2 := im d) (x3 := x3) (x4 := x4) (x5 := x5) (x6 := x6) (x7 := x7) (x8 := x8) (x9 := x9) (x10 := x10) (x11 := x11) (x12 := x12) (x13 := x13) ok
    exact ⟨_, rfl, _, e, h', _, _, _, _, _, _, _, _, _, _, _, _, ok', rfl⟩)
  have s1 : b_law_1 27 (Q (.dict [(.none, .list (iL ns))]) h none none none none none none none none none none none none) = .nx (Q (.dict [(.none, .list (iL ns))]) h' y2 y3 y4 y5 y6 y7 y8 y9 y10 y11 y12 y13) := by
    unfold b_law_1 l_law_2
    exact forS_nx (ds := rangeI 0 4) (by kernel_rfl) hl
  have s2 : b_law_2 27 (Q (.dict [(.none, .list (iL ns))]) h' y2 y3 y4 y5 y6 y7 y8 y9 y10 y11 y12 y13) = .rt (.im (.bool true)) (Q (.dict [(.none, .list (iL ns))]) h' y2 y3 y4 y5 y6 y7 y8 y9 y10 y11 y12 y13) := rfl
  rw [r_law 27]
  show ∃ fin, endF [false] (seqS _ [some (.im (.dict [(.none, .list (iL ns))])), none, none, none, none, none, none, none, none, none, none, none, none, none, none]) = _
  rw [seqS_nx s0, seqS_nx s1, seqS_one, s2]
  exact ⟨_, rfl⟩
end Lw
end
section
set_option maxHeartbeats 0
namespace Lw
open Ev
theorem pays : Pays P 30 d_law 63 := fun ns _ => t_law ns
end Lw
end
section
set_option maxHeartbeats 0
namespace Lw
open PySem PySem.Spec PyProof.Rows L2 Ev
theorem sc_is_integer : FnScope ["thing"] ["thing"] (defScope s_is_integer) := ⟨rfl, rfl, rfl, by decide +kernel, rfl, by decide +kernel, by decide +kernel⟩
def D_is_integer : He.DefD := ⟨("is_integer", none), "is_integer", "is_integer", defArgs s_is_integer, defBody s_is_integer, defScope s_is_integer, [], []⟩
theorem sc_is_within : FnScope ["thing", "low", "high"] ["thing", "low", "high"] (defScope s_is_within) := ⟨rfl, rfl, rfl, by decide +kernel, rfl, by decide +kernel, by decide +kernel⟩
def D_is_within : He.DefD := ⟨("is_within", none), "is_within", "is_within", defArgs s_is_within, defBody s_is_within, defScope s_is_within, [], []⟩
theorem sc_is_sized : FnScope ["thing", "low", "high"] ["thing", "low", "high"] (defScope s_is_sized) := ⟨rfl, rfl, rfl, by decide +kernel, rfl, by decide +kernel, by decide +kernel⟩
def D_is_sized : He.DefD := ⟨("is_sized", none), "is_sized", "is_sized", defArgs s_is_sized, defBody s_is_sized, defScope s_is_sized, [], []⟩
theorem sc_common : FnScope ["one", "other"] ["one", "other"] (defScope s_common) := ⟨rfl, rfl, rfl, by decide +kernel, rfl, by decide +kernel, by decide +kernel⟩
def D_common : He.DefD := ⟨("common", none), "common", "common", defArgs s_common, defBody s_common, defScope s_common, [], []⟩
theorem sc_share : FnScope ["top", "bottom", "divisor"] ["top", "bottom"] (defScope s_share) := ⟨rfl, rfl, rfl, by decide +kernel, rfl, by decide +kernel, by decide +kernel⟩
def D_share : He.DefD := ⟨("share", none), "share", "share", defArgs s_share, defBody s_share, defScope s_share, [], []⟩
theorem sc_is_share : FnScope ["thing", "one"] ["thing"] (defScope s_is_share) := ⟨rfl, rfl, rfl, by decide +kernel, rfl, by decide +kernel, by decide +kernel⟩
def D_is_share : He.DefD := ⟨("is_share", none), "is_share", "is_share", defArgs s_is_share, defBody s_is_share, defScope s_is_share, [], []⟩
theorem sc_minus : FnScope ["one", "other"] ["one", "other"] (defScope s_minus) := ⟨rfl, rfl, rfl, by decide +kernel, rfl, by decide +kernel, by decide +kernel⟩
def D_minus : He.DefD := ⟨("minus", none), "minus", "minus", defArgs s_minus, defBody s_minus, defScope s_minus, [], []⟩
theorem sc_is_less : FnScope ["one", "other"] ["one", "other"] (defScope s_is_less) := ⟨rfl, rfl, rfl, by decide +kernel, rfl, by decide +kernel, by decide +kernel⟩
def D_is_less : He.DefD := ⟨("is_less", none), "is_less", "is_less", defArgs s_is_less, defBody s_is_less, defScope s_is_less, [], []⟩
theorem sc_is_vat : FnScope ["thing"] ["thing"] (defScope s_is_vat) := ⟨rfl, rfl, rfl, by decide +kernel, rfl, by decide +kernel, by decide +kernel⟩
def D_is_vat : He.DefD := ⟨("is_vat", none), "is_vat", "is_vat", defArgs s_is_vat, defBody s_is_vat, defScope s_is_vat, [], []⟩
theorem sc_check_vat : FnScope ["thing"] ["thing"] (defScope s_check_vat) := ⟨rfl, rfl, rfl, by decide +kernel, rfl, by decide +kernel, by decide +kernel⟩
def D_check_vat : He.DefD := ⟨("check_vat", none), "check_vat", "check_vat", defArgs s_check_vat, defBody s_check_vat, defScope s_check_vat, [], []⟩
theorem sc_strength_of : FnScope ["vat"] ["vat"] (defScope s_strength_of) := ⟨rfl, rfl, rfl, by decide +kernel, rfl, by decide +kernel, by decide +kernel⟩
def D_strength_of : He.DefD := ⟨("strength_of", none), "strength_of", "strength_of", defArgs s_strength_of, defBody s_strength_of, defScope s_strength_of, [], []⟩
theorem sc_check_starch : FnScope ["vat", "bounds", "room", "bound"] ["vat", "bounds", "room"] (defScope s_check_starch) := ⟨rfl, rfl, rfl, by decide +kernel, rfl, by decide +kernel, by decide +kernel⟩
def D_check_starch : He.DefD := ⟨("check_starch", none), "check_starch", "check_starch", defArgs s_check_starch, defBody s_check_starch, defScope s_check_starch, [], []⟩
theorem sc_is_between : FnScope ["strength", "bounds"] ["strength", "bounds"] (defScope s_is_between) := ⟨rfl, rfl, rfl, by decide +kernel, rfl, by decide +kernel, by decide +kernel⟩
def D_is_between : He.DefD := ⟨("is_between", none), "is_between", "is_between", defArgs s_is_between, defBody s_is_between, defScope s_is_between, [], []⟩
theorem sc_far_off : FnScope ["strength", "bounds"] ["strength", "bounds"] (defScope s_far_off) := ⟨rfl, rfl, rfl, by decide +kernel, rfl, by decide +kernel, by decide +kernel⟩
def D_far_off : He.DefD := ⟨("far_off", none), "far_off", "far_off", defArgs s_far_off, defBody s_far_off, defScope s_far_off, [], []⟩
theorem sc_all_adds : FnScope ["vat", "room", "found", "scoops", "pails"] ["vat", "room"] (defScope s_all_adds) := ⟨rfl, rfl, rfl, by decide +kernel, rfl, by decide +kernel, by decide +kernel⟩
def D_all_adds : He.DefD := ⟨("all_adds", none), "all_adds", "all_adds", defArgs s_all_adds, defBody s_all_adds, defScope s_all_adds, [], []⟩
theorem sc_raw_told : FnScope ["vat", "bounds", "room", "best", "both", "scoops", "pails", "strength", "off"] ["vat", "bounds", "room"] (defScope s_raw_told) := ⟨rfl, rfl, rfl, by decide +kernel, rfl, by decide +kernel, by decide +kernel⟩
def D_raw_told : He.DefD := ⟨("raw_told", none), "raw_told", "raw_told", defArgs s_raw_told, defBody s_raw_told, defScope s_raw_told, [], []⟩
theorem sc_starched_told : FnScope ["vat", "bounds", "room"] ["vat", "bounds", "room"] (defScope s_starched_told) := ⟨rfl, rfl, rfl, by decide +kernel, rfl, by decide +kernel, by decide +kernel⟩
def D_starched_told : He.DefD := ⟨("starched_told", none), "starched_told", "starched_told", defArgs s_starched_told, defBody s_starched_told, defScope s_starched_told, [], []⟩
theorem sc_is_starched_told : FnScope ["vat", "bounds", "room", "thing", "due"] ["vat", "bounds", "room", "thing"] (defScope s_is_starched_told) := ⟨rfl, rfl, rfl, by decide +kernel, rfl, by decide +kernel, by decide +kernel⟩
def D_is_starched_told : He.DefD := ⟨("is_starched_told", none), "is_starched_told", "is_starched_told", defArgs s_is_starched_told, defBody s_is_starched_told, defScope s_is_starched_told, [], []⟩
theorem sc__law_hand : FnScope ["script", "cells", "cell"] ["script"] (defScope s__law_hand) := ⟨rfl, rfl, rfl, by decide +kernel, rfl, by decide +kernel, by decide +kernel⟩
def D__law_hand : He.DefD := ⟨("_law_hand", none), "_law_hand", "_law_hand", defArgs s__law_hand, defBody s__law_hand, defScope s__law_hand, [], []⟩
theorem sc__law_draw : FnScope ["hand", "many", "number", "cell", "figure"] ["hand", "many"] (defScope s__law_draw) := ⟨rfl, rfl, rfl, by decide +kernel, rfl, by decide +kernel, by decide +kernel⟩
def D__law_draw : He.DefD := ⟨("_law_draw", none), "_law_draw", "_law_draw", defArgs s__law_draw, defBody s__law_draw, defScope s__law_draw, [], []⟩
theorem sc__law_some : FnScope ["hand", "things"] ["hand", "things"] (defScope s__law_some) := ⟨rfl, rfl, rfl, by decide +kernel, rfl, by decide +kernel, by decide +kernel⟩
def D__law_some : He.DefD := ⟨("_law_some", none), "_law_some", "_law_some", defArgs s__law_some, defBody s__law_some, defScope s__law_some, [], []⟩
theorem sc__law_is_number : FnScope ["thing"] ["thing"] (defScope s__law_is_number) := ⟨rfl, rfl, rfl, by decide +kernel, rfl, by decide +kernel, by decide +kernel⟩
def D__law_is_number : He.DefD := ⟨("_law_is_number", none), "_law_is_number", "_law_is_number", defArgs s__law_is_number, defBody s__law_is_number, defScope s__law_is_number, [], []⟩
theorem sc__law_low : FnScope ["top", "bottom", "other", "one"] ["top", "bottom"] (defScope s__law_low) := ⟨rfl, rfl, rfl, by decide +kernel, rfl, by decide +kernel, by decide +kernel⟩
def D__law_low : He.DefD := ⟨("_law_low", none), "_law_low", "_law_low", defArgs s__law_low, defBody s__law_low, defScope s__law_low, [], []⟩
theorem sc__law_plus : FnScope ["one", "other"] ["one", "other"] (defScope s__law_plus) := ⟨rfl, rfl, rfl, by decide +kernel, rfl, by decide +kernel, by decide +kernel⟩
def D__law_plus : He.DefD := ⟨("_law_plus", none), "_law_plus", "_law_plus", defArgs s__law_plus, defBody s__law_plus, defScope s__law_plus, [], []⟩
theorem sc__law_minus : FnScope ["one", "other"] ["one", "other"] (defScope s__law_minus) := ⟨rfl, rfl, rfl, by decide +kernel, rfl, by decide +kernel, by decide +kernel⟩
def D__law_minus : He.DefD := ⟨("_law_minus", none), "_law_minus", "_law_minus", defArgs s__law_minus, defBody s__law_minus, defScope s__law_minus, [], []⟩
theorem sc__law_less : FnScope ["one", "other"] ["one", "other"] (defScope s__law_less) := ⟨rfl, rfl, rfl, by decide +kernel, rfl, by decide +kernel, by decide +kernel⟩
def D__law_less : He.DefD := ⟨("_law_less", none), "_law_less", "_law_less", defArgs s__law_less, defBody s__law_less, defScope s__law_less, [], []⟩
theorem sc__law_deep : FnScope ["hand", "found", "turn"] ["hand"] (defScope s__law_deep) := ⟨rfl, rfl, rfl, by decide +kernel, rfl, by decide +kernel, by decide +kernel⟩
def D__law_deep : He.DefD := ⟨("_law_deep", none), "_law_deep", "_law_deep", defArgs s__law_deep, defBody s__law_deep, defScope s__law_deep, [], []⟩
theorem sc__law_odd : FnScope ["hand"] ["hand"] (defScope s__law_odd) := ⟨rfl, rfl, rfl, by decide +kernel, rfl, by decide +kernel, by decide +kernel⟩
def D__law_odd : He.DefD := ⟨("_law_odd", none), "_law_odd", "_law_odd", defArgs s__law_odd, defBody s__law_odd, defScope s__law_odd, [], []⟩
theorem sc__law_is : FnScope ["told", "due", "key", "one", "two"] ["told", "due"] (defScope s__law_is) := ⟨rfl, rfl, rfl, by decide +kernel, rfl, by decide +kernel, by decide +kernel⟩
def D__law_is : He.DefD := ⟨("_law_is", none), "_law_is", "_law_is", defArgs s__law_is, defBody s__law_is, defScope s__law_is, [], []⟩
theorem sc__law_is_vat : FnScope ["thing", "one"] ["thing"] (defScope s__law_is_vat) := ⟨rfl, rfl, rfl, by decide +kernel, rfl, by decide +kernel, by decide +kernel⟩
def D__law_is_vat : He.DefD := ⟨("_law_is_vat", none), "_law_is_vat", "_law_is_vat", defArgs s__law_is_vat, defBody s__law_is_vat, defScope s__law_is_vat, [], []⟩
theorem sc__law_far : FnScope ["low", "high", "strength"] ["low", "high", "strength"] (defScope s__law_far) := ⟨rfl, rfl, rfl, by decide +kernel, rfl, by decide +kernel, by decide +kernel⟩
def D__law_far : He.DefD := ⟨("_law_far", none), "_law_far", "_law_far", defArgs s__law_far, defBody s__law_far, defScope s__law_far, [], []⟩
theorem sc__law_due : FnScope ["vat", "bounds", "room", "scoops", "good", "near", "pails", "far"] ["vat", "bounds", "room"] (defScope s__law_due) := ⟨rfl, rfl, rfl, by decide +kernel, rfl, by decide +kernel, by decide +kernel⟩
def D__law_due : He.DefD := ⟨("_law_due", none), "_law_due", "_law_due", defArgs s__law_due, defBody s__law_due, defScope s__law_due, [], []⟩
theorem sc__law_does : FnScope ["vat", "bounds", "room", "thing", "scoops", "pails", "one"] ["vat", "bounds", "room", "thing"] (defScope s__law_does) := ⟨rfl, rfl, rfl, by decide +kernel, rfl, by decide +kernel, by decide +kernel⟩
def D__law_does : He.DefD := ⟨("_law_does", none), "_law_does", "_law_does", defArgs s__law_does, defBody s__law_does, defScope s__law_does, [], []⟩
theorem sc_law : FnScope ["script", "hand", "turn", "vat", "room", "some", "high", "bounds", "due", "told", "things", "thing", "low", "is_right", "bound"] ["script"] (defScope s_law) := ⟨rfl, rfl, rfl, by decide +kernel, rfl, by decide +kernel, by decide +kernel⟩
def D_law : He.DefD := ⟨("law", none), "law", "law", defArgs s_law, defBody s_law, defScope s_law, [], []⟩
def fn : List He.DefD := [D_is_integer, D_is_within, D_is_sized, D_common, D_share, D_is_share, D_minus, D_is_less, D_is_vat, D_check_vat, D_strength_of, D_check_starch, D_is_between, D_far_off, D_all_adds, D_raw_told, D_starched_told, D_is_starched_told, D__law_hand, D__law_draw, D__law_some, D__law_is_number, D__law_low, D__law_plus, D__law_minus, D__law_less, D__law_deep, D__law_odd, D__law_is, D__law_is_vat, D__law_far, D__law_due, D__law_does, D_law]
def tf : List He.Defn := []
abbrev hk : PySem.W.Hook := He.hookX 5 [] fn [] tf (modB P tf)
abbrev R : PySem.W.OpenRow := PySem.W.OpenLaw.row PySem.Challenge.rw_washhouse_k97_whole_starch
def ob (s : PySem.W.SharedT) : He.AlX := He.obsX 5 [] fn [] tf (modB P tf) (HandSHeadRun.getT s)
theorem ob_eq (s : PySem.W.SharedT) : ob s = hk.obs s.abs := He.obsX_eq (HandSHeadRun.getT_eq s)
def loose0 : List Str := ["is_integer", "is_within", "is_sized", "WashError", "NoBounds", "NoRoom", "NoVat", "common", "share", "is_share", "minus", "is_less", "MOST_SCOOPS", "MOST_PAILS", "MOST_ROOM", "ADD", "NONE", "is_vat", "check_vat", "strength_of"]
def loose1 : List Str := ["check_starch", "is_between", "far_off", "all_adds", "raw_told", "starched_told", "is_starched_told", "_law_hand", "_law_draw", "_law_some", "_law_is_number", "_law_low", "_law_plus", "_law_minus", "_law_less", "_law_deep", "_law_odd", "_law_is", "_law_is_vat", "_law_far"]
def loose2 : List Str := ["_law_due", "_law_does"]
def loose : List Str := (loose0 ++ loose1 ++ loose2)
theorem run (w : World) : HandSHeadRun.RunEq R (PySem.W.view R.prog [47]) hk ob 4000 loose w := by
  intro os
  kernel_rfl
open PySem.W in
theorem at_law {w : World} {mg : Str → Option Value} {f : Addr} {h : Heap} {K : PySem.W.Frag} (X : K.In h) (G : h.Ns mainGlobals mg) (S : He.SaysX [] fn [] tf (modB P tf) w h K) (hf : mg ("law" : Str) = some (.ref f)) (hp : Pays P 30 d_law 63) :
    LamX.LawAtS PySem.Challenge.rw_washhouse_k97_whole_starch w K (L2.CX (PySem.Challenge.rw_washhouse_k97_whole_starch).prog w) 30 63 "script" mg f h := by
  have hu := uniq_of S.more
  have gd : ∀ (i : Nat) (x : Str) (d : Df), P.defs[i]? = some (x, d) → mg x = some (.ref (He.ga K x)) := fun i x d hx => glos_ok X G (gloD_of S.more) (List.mem_of_getElem? hx)
  have gl : ∀ (i : Nat) (x : Str) (d : Df), P.lams[i]? = some (x, d) → mg x = some (.ref (He.ga K x)) := fun i x d hx => glos_ok X G (gloL_of S.more) (List.mem_of_getElem? hx)
  obtain ⟨e0, F0⟩ := He.SaysD.def_ S.t.d 0 (d := D_is_integer) rfl
  obtain ⟨e1, F1⟩ := He.SaysD.def_ S.t.d 1 (d := D_is_within) rfl
  obtain ⟨e2, F2⟩ := He.SaysD.def_ S.t.d 2 (d := D_is_sized) rfl
  obtain ⟨e3, F3⟩ := He.SaysD.def_ S.t.d 3 (d := D_common) rfl
  obtain ⟨e4, F4⟩ := He.SaysD.def_ S.t.d 4 (d := D_share) rfl
  obtain ⟨e5, F5⟩ := He.SaysD.def_ S.t.d 5 (d := D_is_share) rfl
  obtain ⟨e6, F6⟩ := He.SaysD.def_ S.t.d 6 (d := D_minus) rfl
  obtain ⟨e7, F7⟩ := He.SaysD.def_ S.t.d 7 (d := D_is_less) rfl
  obtain ⟨e8, F8⟩ := He.SaysD.def_ S.t.d 8 (d := D_is_vat) rfl
  obtain ⟨e9, F9⟩ := He.SaysD.def_ S.t.d 9 (d := D_check_vat) rfl
  obtain ⟨e10, F10⟩ := He.SaysD.def_ S.t.d 10 (d := D_strength_of) rfl
  obtain ⟨e11, F11⟩ := He.SaysD.def_ S.t.d 11 (d := D_check_starch) rfl
  obtain ⟨e12, F12⟩ := He.SaysD.def_ S.t.d 12 (d := D_is_between) rfl
  obtain ⟨e13, F13⟩ := He.SaysD.def_ S.t.d 13 (d := D_far_off) rfl
  obtain ⟨e14, F14⟩ := He.SaysD.def_ S.t.d 14 (d := D_all_adds) rfl
  obtain ⟨e15, F15⟩ := He.SaysD.def_ S.t.d 15 (d := D_raw_told) rfl
  obtain ⟨e16, F16⟩ := He.SaysD.def_ S.t.d 16 (d := D_starched_told) rfl
  obtain ⟨e17, F17⟩ := He.SaysD.def_ S.t.d 17 (d := D_is_starched_told) rfl
  obtain ⟨e18, F18⟩ := He.SaysD.def_ S.t.d 18 (d := D__law_hand) rfl
  obtain ⟨e19, F19⟩ := He.SaysD.def_ S.t.d 19 (d := D__law_draw) rfl
  obtain ⟨e20, F20⟩ := He.SaysD.def_ S.t.d 20 (d := D__law_some) rfl
  obtain ⟨e21, F21⟩ := He.SaysD.def_ S.t.d 21 (d := D__law_is_number) rfl
  obtain ⟨e22, F22⟩ := He.SaysD.def_ S.t.d 22 (d := D__law_low) rfl
  obtain ⟨e23, F23⟩ := He.SaysD.def_ S.t.d 23 (d := D__law_plus) rfl
  obtain ⟨e24, F24⟩ := He.SaysD.def_ S.t.d 24 (d := D__law_minus) rfl
  obtain ⟨e25, F25⟩ := He.SaysD.def_ S.t.d 25 (d := D__law_less) rfl
  obtain ⟨e26, F26⟩ := He.SaysD.def_ S.t.d 26 (d := D__law_deep) rfl
  obtain ⟨e27, F27⟩ := He.SaysD.def_ S.t.d 27 (d := D__law_odd) rfl
  obtain ⟨e28, F28⟩ := He.SaysD.def_ S.t.d 28 (d := D__law_is) rfl
  obtain ⟨e29, F29⟩ := He.SaysD.def_ S.t.d 29 (d := D__law_is_vat) rfl
  obtain ⟨e30, F30⟩ := He.SaysD.def_ S.t.d 30 (d := D__law_far) rfl
  obtain ⟨e31, F31⟩ := He.SaysD.def_ S.t.d 31 (d := D__law_due) rfl
  obtain ⟨e32, F32⟩ := He.SaysD.def_ S.t.d 32 (d := D__law_does) rfl
  obtain ⟨e33, F33⟩ := He.SaysD.def_ S.t.d 33 (d := D_law) rfl
  have D34 : DefsOk K (ltOf K mg tf) (csOf K tf) mg [] := .nil
  have D33 := DefsOk.addF D34 (x := "law") (st := s_law) (N := ["script", "hand", "turn", "vat", "room", "some", "high", "bounds", "due", "told", "things", "thing", "low", "is_right", "bound"]) (br := [false]) (tab := false) hu (gd 33 "law" d_law rfl) F33 (fun z => by cases z) sc_law rfl (fun _ _ _ _ _ _ us hl => match us, hl with | [_], _ => by kernel_rfl)
  have D32 := DefsOk.addF D33 (x := "_law_does") (st := s__law_does) (N := ["vat", "bounds", "room", "thing", "scoops", "pails", "one"]) (br := [false, false, false, false]) (tab := false) hu (gd 32 "_law_does" d__law_does rfl) F32 (fun z => by cases z) sc__law_does rfl (fun _ _ _ _ _ _ us hl => match us, hl with | [_, _, _, _], _ => by kernel_rfl)
  have D31 := DefsOk.addF D32 (x := "_law_due") (st := s__law_due) (N := ["vat", "bounds", "room", "scoops", "good", "near", "pails", "far"]) (br := [false, false, false]) (tab := false) hu (gd 31 "_law_due" d__law_due rfl) F31 (fun z => by cases z) sc__law_due rfl (fun _ _ _ _ _ _ us hl => match us, hl with | [_, _, _], _ => by kernel_rfl)
  have D30 := DefsOk.addF D31 (x := "_law_far") (st := s__law_far) (N := ["low", "high", "strength"]) (br := [false, false, false]) (tab := false) hu (gd 30 "_law_far" d__law_far rfl) F30 (fun z => by cases z) sc__law_far rfl (fun _ _ _ _ _ _ us hl => match us, hl with | [_, _, _], _ => by kernel_rfl)
  have D29 := DefsOk.addF D30 (x := "_law_is_vat") (st := s__law_is_vat) (N := ["thing", "one"]) (br := [false]) (tab := false) hu (gd 29 "_law_is_vat" d__law_is_vat rfl) F29 (fun z => by cases z) sc__law_is_vat rfl (fun _ _ _ _ _ _ us hl => match us, hl with | [_], _ => by kernel_rfl)
  have D28 := DefsOk.addF D29 (x := "_law_is") (st := s__law_is) (N := ["told", "due", "key", "one", "two"]) (br := [false, false]) (tab := false) hu (gd 28 "_law_is" d__law_is rfl) F28 (fun z => by cases z) sc__law_is rfl (fun _ _ _ _ _ _ us hl => match us, hl with | [_, _], _ => by kernel_rfl)
  have D27 := DefsOk.addF D28 (x := "_law_odd") (st := s__law_odd) (N := ["hand"]) (br := [true]) (tab := false) hu (gd 27 "_law_odd" d__law_odd rfl) F27 (fun z => by cases z) sc__law_odd rfl (fun _ _ _ _ _ _ us hl => match us, hl with | [_], _ => by kernel_rfl)
  have D26 := DefsOk.addF D27 (x := "_law_deep") (st := s__law_deep) (N := ["hand", "found", "turn"]) (br := [true]) (tab := false) hu (gd 26 "_law_deep" d__law_deep rfl) F26 (fun z => by cases z) sc__law_deep rfl (fun _ _ _ _ _ _ us hl => match us, hl with | [_], _ => by kernel_rfl)
  have D25 := DefsOk.addF D26 (x := "_law_less") (st := s__law_less) (N := ["one", "other"]) (br := [false, false]) (tab := false) hu (gd 25 "_law_less" d__law_less rfl) F25 (fun z => by cases z) sc__law_less rfl (fun _ _ _ _ _ _ us hl => match us, hl with | [_, _], _ => by kernel_rfl)
  have D24 := DefsOk.addF D25 (x := "_law_minus") (st := s__law_minus) (N := ["one", "other"]) (br := [false, false]) (tab := false) hu (gd 24 "_law_minus" d__law_minus rfl) F24 (fun z => by cases z) sc__law_minus rfl (fun _ _ _ _ _ _ us hl => match us, hl with | [_, _], _ => by kernel_rfl)
  have D23 := DefsOk.addF D24 (x := "_law_plus") (st := s__law_plus) (N := ["one", "other"]) (br := [false, false]) (tab := false) hu (gd 23 "_law_plus" d__law_plus rfl) F23 (fun z => by cases z) sc__law_plus rfl (fun _ _ _ _ _ _ us hl => match us, hl with | [_, _], _ => by kernel_rfl)
  have D22 := DefsOk.addF D23 (x := "_law_low") (st := s__law_low) (N := ["top", "bottom", "other", "one"]) (br := [false, false]) (tab := false) hu (gd 22 "_law_low" d__law_low rfl) F22 (fun z => by cases z) sc__law_low rfl (fun _ _ _ _ _ _ us hl => match us, hl with | [_, _], _ => by kernel_rfl)
  have D21 := DefsOk.addF D22 (x := "_law_is_number") (st := s__law_is_number) (N := ["thing"]) (br := [false]) (tab := false) hu (gd 21 "_law_is_number" d__law_is_number rfl) F21 (fun z => by cases z) sc__law_is_number rfl (fun _ _ _ _ _ _ us hl => match us, hl with | [_], _ => by kernel_rfl)
  have D20 := DefsOk.addF D21 (x := "_law_some") (st := s__law_some) (N := ["hand", "things"]) (br := [true, false]) (tab := false) hu (gd 20 "_law_some" d__law_some rfl) F20 (fun z => by cases z) sc__law_some rfl (fun _ _ _ _ _ _ us hl => match us, hl with | [_, _], _ => by kernel_rfl)
  have D19 := DefsOk.addF D20 (x := "_law_draw") (st := s__law_draw) (N := ["hand", "many", "number", "cell", "figure"]) (br := [true, false]) (tab := false) hu (gd 19 "_law_draw" d__law_draw rfl) F19 (fun z => by cases z) sc__law_draw rfl (fun _ _ _ _ _ _ us hl => match us, hl with | [_, _], _ => by kernel_rfl)
  have D18 := DefsOk.addF D19 (x := "_law_hand") (st := s__law_hand) (N := ["script", "cells", "cell"]) (br := [false]) (tab := false) hu (gd 18 "_law_hand" d__law_hand rfl) F18 (fun z => by cases z) sc__law_hand rfl (fun _ _ _ _ _ _ us hl => match us, hl with | [_], _ => by kernel_rfl)
  have D17 := DefsOk.addF D18 (x := "is_starched_told") (st := s_is_starched_told) (N := ["vat", "bounds", "room", "thing", "due"]) (br := [false, false, false, false]) (tab := false) hu (gd 17 "is_starched_told" d_is_starched_told rfl) F17 (fun z => by cases z) sc_is_starched_told rfl (fun _ _ _ _ _ _ us hl => match us, hl with | [_, _, _, _], _ => by kernel_rfl)
  have D16 := DefsOk.addF D17 (x := "starched_told") (st := s_starched_told) (N := ["vat", "bounds", "room"]) (br := [false, false, false]) (tab := false) hu (gd 16 "starched_told" d_starched_told rfl) F16 (fun z => by cases z) sc_starched_told rfl (fun _ _ _ _ _ _ us hl => match us, hl with | [_, _, _], _ => by kernel_rfl)
  have D15 := DefsOk.addF D16 (x := "raw_told") (st := s_raw_told) (N := ["vat", "bounds", "room", "best", "both", "scoops", "pails", "strength", "off"]) (br := [false, false, false]) (tab := false) hu (gd 15 "raw_told" d_raw_told rfl) F15 (fun z => by cases z) sc_raw_told rfl (fun _ _ _ _ _ _ us hl => match us, hl with | [_, _, _], _ => by kernel_rfl)
  have D14 := DefsOk.addF D15 (x := "all_adds") (st := s_all_adds) (N := ["vat", "room", "found", "scoops", "pails"]) (br := [false, false]) (tab := false) hu (gd 14 "all_adds" d_all_adds rfl) F14 (fun z => by cases z) sc_all_adds rfl (fun _ _ _ _ _ _ us hl => match us, hl with | [_, _], _ => by kernel_rfl)
  have D13 := DefsOk.addF D14 (x := "far_off") (st := s_far_off) (N := ["strength", "bounds"]) (br := [false, false]) (tab := false) hu (gd 13 "far_off" d_far_off rfl) F13 (fun z => by cases z) sc_far_off rfl (fun _ _ _ _ _ _ us hl => match us, hl with | [_, _], _ => by kernel_rfl)
  have D12 := DefsOk.addF D13 (x := "is_between") (st := s_is_between) (N := ["strength", "bounds"]) (br := [false, false]) (tab := false) hu (gd 12 "is_between" d_is_between rfl) F12 (fun z => by cases z) sc_is_between rfl (fun _ _ _ _ _ _ us hl => match us, hl with | [_, _], _ => by kernel_rfl)
  have D11 := DefsOk.addF D12 (x := "check_starch") (st := s_check_starch) (N := ["vat", "bounds", "room", "bound"]) (br := [false, false, false]) (tab := false) hu (gd 11 "check_starch" d_check_starch rfl) F11 (fun z => by cases z) sc_check_starch rfl (fun _ _ _ _ _ _ us hl => match us, hl with | [_, _, _], _ => by kernel_rfl)
  have D10 := DefsOk.addF D11 (x := "strength_of") (st := s_strength_of) (N := ["vat"]) (br := [false]) (tab := false) hu (gd 10 "strength_of" d_strength_of rfl) F10 (fun z => by cases z) sc_strength_of rfl (fun _ _ _ _ _ _ us hl => match us, hl with | [_], _ => by kernel_rfl)
  have D9 := DefsOk.addF D10 (x := "check_vat") (st := s_check_vat) (N := ["thing"]) (br := [false]) (tab := false) hu (gd 9 "check_vat" d_check_vat rfl) F9 (fun z => by cases z) sc_check_vat rfl (fun _ _ _ _ _ _ us hl => match us, hl with | [_], _ => by kernel_rfl)
  have D8 := DefsOk.addF D9 (x := "is_vat") (st := s_is_vat) (N := ["thing"]) (br := [false]) (tab := false) hu (gd 8 "is_vat" d_is_vat rfl) F8 (fun z => by cases z) sc_is_vat rfl (fun _ _ _ _ _ _ us hl => match us, hl with | [_], _ => by kernel_rfl)
  have D7 := DefsOk.addF D8 (x := "is_less") (st := s_is_less) (N := ["one", "other"]) (br := [false, false]) (tab := false) hu (gd 7 "is_less" d_is_less rfl) F7 (fun z => by cases z) sc_is_less rfl (fun _ _ _ _ _ _ us hl => match us, hl with | [_, _], _ => by kernel_rfl)
  have D6 := DefsOk.addF D7 (x := "minus") (st := s_minus) (N := ["one", "other"]) (br := [false, false]) (tab := false) hu (gd 6 "minus" d_minus rfl) F6 (fun z => by cases z) sc_minus rfl (fun _ _ _ _ _ _ us hl => match us, hl with | [_, _], _ => by kernel_rfl)
  have D5 := DefsOk.addF D6 (x := "is_share") (st := s_is_share) (N := ["thing", "one"]) (br := [false]) (tab := false) hu (gd 5 "is_share" d_is_share rfl) F5 (fun z => by cases z) sc_is_share rfl (fun _ _ _ _ _ _ us hl => match us, hl with | [_], _ => by kernel_rfl)
  have D4 := DefsOk.addF D5 (x := "share") (st := s_share) (N := ["top", "bottom", "divisor"]) (br := [false, false]) (tab := false) hu (gd 4 "share" d_share rfl) F4 (fun z => by cases z) sc_share rfl (fun _ _ _ _ _ _ us hl => match us, hl with | [_, _], _ => by kernel_rfl)
  have D3 := DefsOk.addF D4 (x := "common") (st := s_common) (N := ["one", "other"]) (br := [false, false]) (tab := false) hu (gd 3 "common" d_common rfl) F3 (fun z => by cases z) sc_common rfl (fun _ _ _ _ _ _ us hl => match us, hl with | [_, _], _ => by kernel_rfl)
  have D2 := DefsOk.addF D3 (x := "is_sized") (st := s_is_sized) (N := ["thing", "low", "high"]) (br := [false, false, false]) (tab := false) hu (gd 2 "is_sized" d_is_sized rfl) F2 (fun z => by cases z) sc_is_sized rfl (fun _ _ _ _ _ _ us hl => match us, hl with | [_, _, _], _ => by kernel_rfl)
  have D1 := DefsOk.addF D2 (x := "is_within") (st := s_is_within) (N := ["thing", "low", "high"]) (br := [false, false, false]) (tab := false) hu (gd 1 "is_within" d_is_within rfl) F1 (fun z => by cases z) sc_is_within rfl (fun _ _ _ _ _ _ us hl => match us, hl with | [_, _, _], _ => by kernel_rfl)
  have D0 := DefsOk.addF D1 (x := "is_integer") (st := s_is_integer) (N := ["thing"]) (br := [false]) (tab := false) hu (gd 0 "is_integer" d_is_integer rfl) F0 (fun z => by cases z) sc_is_integer rfl (fun _ _ _ _ _ _ us hl => match us, hl with | [_], _ => by kernel_rfl)
  have L0 : LamsOk K mg [] := .nil
  exact law_at (Pr := P) (st := s_law) (N := ["script", "hand", "turn", "vat", "room", "some", "high", "bounds", "due", "told", "things", "thing", "low", "is_right", "bound"]) (tab := false) X G S D0 L0 hf (gd 33 "law" d_law rfl) F33 (fun z => by cases z) sc_law (fun _ _ _ _ _ _ us hl => match us, hl with | [_], _ => by kernel_rfl) hp
end Lw
open PySem PySem.W PySem.Calls PyProof.Rows
set_option maxRecDepth 100000 in
set_option maxHeartbeats 0 in
theorem PySem.Challenge.cw_washhouse_k97_whole_starch_holds : PySem.Challenge.rw_washhouse_k97_whole_starch.Holds := by
  w_on; o_law
  refine HandSHeadRun.head_any (r := OpenLaw.row PySem.Challenge.rw_washhouse_k97_whole_starch) (q := view (OpenLaw.row PySem.Challenge.rw_washhouse_k97_whole_starch).prog [47]) (H := Lw.hk) (ob := Lw.ob) (M := 4000) (loose := Lw.loose) (d := HandSHeadRun.topDef (OpenLaw.row PySem.Challenge.rw_washhouse_k97_whole_starch).prog 47) (kwd := []) Lw.ob_eq
    (by kernel_rfl) (fun s => by kernel_rfl) Lw.run (by kernel_rfl) (by kernel_rfl) (by kernel_rfl) (by rfl) (by first | assumption | decide +kernel) (by decide +kernel) ⟨rfl, rfl, rfl, rfl, rfl, by decide +kernel⟩ ?hw ?hc
  case hw => w_witness2
  case hc =>
    refine LamX.walk_ofTsE (l := PySem.Challenge.rw_washhouse_k97_whole_starch) (n := 63) (k := 30) (x := "script") (CX := fun w => L2.CX (PySem.Challenge.rw_washhouse_k97_whole_starch).prog w) rfl (by decide) (by kernel_rfl) ⟨rfl, by decide, by decide⟩ ?F (fun w H s e s' ⟨_, _, _, _, _, _, _, _, _, _, _, _, z⟩ => z)
    intro w mg fa h Y G hmg0
    obtain ⟨K, KX, c⟩ := Y
    have hmg : mg ("law" : PySem.Str) = some (.ref fa) := by
      have e : (HandSHeadRun.topDef (OpenLaw.row PySem.Challenge.rw_washhouse_k97_whole_starch).prog 47).name = ("law" : PySem.Str) := by kernel_rfl
      rw [← e]
      exact hmg0
    exact ⟨K, KX, Lw.at_law KX G c hmg Lw.pays⟩
end
