import PyProof.Rows.All
import Wide.All
import Open.Line
import OpenK.KCell
import Wide.FinOn
import KE.KNest
import PyProof.Rows.SortRev
import OpenK.KDescr
import PyProof.StationsW
import PyProof.Rows.Catch
import KE.KSuper
import PyProof.ExcBaseAll.Exception
import PyProof.InstStoreFacts
import OpenK.KRaise
import OpenK.KMake
import PyProof.WalksEnum
import PyProof.Rows.EnumRows
import Lean
import PySem.Challenge.RW_nz0393_01
set_option Elab.async false
set_option linter.all false
set_option maxRecDepth 100000
set_option maxHeartbeats 4000000
set_option genInjectivity false
set_option genSizeOf false
set_option compiler.extract_closed false
set_option compiler.reuse false
set_option tactic.hygienic false
section
namespace Mac
open Lean
abbrev S := Syntax
def D (k s : String) (a : List S) : S := .node .none (.str (.str `Lean.Parser k) s) a.toArray
def N (s : String) (a : List S) : S := D "Tactic" s a
def M (s : String) (a : List S) : S := D "Term" s a
def L (a : List S) : S := .node .none `null a.toArray
def A (s : String) : S := .atom .none s
def I (s : String) : S := mkIdent (.mkSimple s)
def C (s : String) : S := mkIdent (.mkStr `Mine s)
def hole : S := M "syntheticHole" [A "?", A "_"]
def app (f : S) (a : List S) : S := M "app" [f, L a]
def rf (e : S) : S := N "refine" [A "refine", e]
def rh (c : String) (a : List S) : S := rf (app (C c) (a ++ [hole]))
def ex (e : S) : S := N "exact" [A "exact", e]
def inr (a : List S) : S := N "intro" [A "intro", L a]
def sep (c : String) : List S → List S
  | [] => []
  | [x] => [x]
  | x :: r => x :: A c :: sep c r
def un (s : S) : List S := s.getSepArgs.toList
def par (e : S) : S := M "paren" [M "hygienicLParen" [A "(", .node .none `hygieneInfo #[mkIdent .anonymous]], e, A ")"]
def ang : List S → S
  | [x] => x
  | l => M "anonymousCtor" [A "⟨", L (sep "," l), A "⟩"]
def ts (l : List S) : S := N "tacticSeq" [N "tacticSeq1Indented" [L (sep ";" l)]]
def sq (l : List S) : S := N "paren" [A "(", ts l, A ")"]
def alts : List S → List S
  | [] => []
  | t :: r => .node .none `group #[A "|", ts [t]] :: alts r
def fs (l : List S) : S := N "first" [A "first", L (alts l)]
def tr (t : S) : S := N "tacticTry_" [A "try", ts [t]]
def wr (t : S) : S := N "withReducible" [A "with_reducible", ts [t]]
def lo (l : List S) : S := N "rcasesPatLo" [N "rcasesPatMed" [L (sep "|" l)], L []]
def ob (p e : S) : S := N "rcases" [A "rcases", L [N "elimTarget" [L [], e]], L [A "with", p]]
def kd (s k : String) (x : S) : Bool := match x.getKind with
  | .str (.str _ b) a => b == s && a == k
  | _ => false
def plain (p : S) : Option S :=
  match un p[0][0], p[1].isNone with
  | [q], true => if kd "rcasesPat" "one" q && q[0].getId != `rfl then some q[0] else if kd "rcasesPat" "ignore" q then some (M "hole" [A "_"]) else none
  | _, _ => none
def names (b : String) (i : Nat) : List S → List S × List S
  | [] => ([], [])
  | p :: r =>
    let (x, y) := names b (i + 1) r
    match plain p with
    | some t => (t :: x, y)
    | none => let h := I (b ++ toString i ++ "y"); (h :: x, ob p h :: y)
def cl (e : S) : List S := if e.isIdent then [tr (N "clear" [A "clear", L [e]])] else []
def tup : List S → S
  | [x] => x
  | l => lo [N "rcasesPat.tuple" [A "⟨", L (sep "," l), A "⟩"]]
def step (w : S → S) (b c : String) (e : S) (ps : List S) (j : Nat) : S :=
  let (ids, post) := names b 0 (ps.take j)
  let l := ps.drop j
  let h := I (b ++ "x")
  let (t, post) := match l with
    | [p] => match plain p with
      | some t => (t, post)
      | none => (h, post ++ [ob p h])
    | _ => (h, post ++ [ob (tup l) h])
  sq (w (rh c [e]) :: cl e ++ (inr (ids ++ [t]) :: post))
def base (e : S) : String := if e.isIdent && e.getId.toString.startsWith "H_" then e.getId.toString else "H_"
def exs (w : S → S) (b : String) (e : S) (ps : List S) : Nat → List S
  | 0 => []
  | j + 1 => step w b ("ex" ++ toString (j + 1)) e ps (j + 1) :: exs w b e ps j
def ans (w : S → S) (b : String) (e : S) (ps : List S) : Nat → List S
  | 0 => []
  | j + 1 => step w b ("an" ++ toString (j + 2)) e ps (j + 1) :: ans w b e ps j
def noTy : List S → Bool
  | [] => true
  | p :: r => p[1].isNone && noTy r
def pre (e : S) : S := rf (app (M "typeAscription" [M "hygienicLParen" [A "(", .node .none `hygieneInfo #[mkIdent .anonymous]], hole, A ":", L [M "arrow" [M "hole" [A "_"], A "→", M "hole" [A "_"]]], A ")"]) [e])
def alt (b : String) (e : S) (l : List S) : List S :=
  let p := lo l
  match plain p with
  | some t => cl e ++ [inr [t]]
  | none => let h := I (b ++ "z"); cl e ++ [inr [h], ob p h]
def ho (x : S) : S := M "syntheticHole" [A "?", x]
def cse (x : S) (l : List S) : S := N "case'" [A "case'", L [N "caseArg" [.node .none `Lean.binderIdent #[x], L []]], A "=>", ts l]
def rc (e p : S) : Option S :=
  if kd "Term" "paren" e || !p[1].isNone then none else
  if !e.isIdent then some (fs [sq [pre e, inr [I "H_e"], ob p (I "H_e")], ob p (par e)]) else
  let old := ob p (par e)
  let b := base e
  match un p[0][0] with
  | [] => none
  | [q] =>
    let ps := un q[1]
    let n := ps.length
    if q[0].getAtomVal == "⟨" && n ≥ 2 then some (if noTy ps then fs (exs wr b e ps (min 6 (n - 1)) ++ ans wr b e ps (min 8 n - 1) ++ exs id b e ps (min 6 (n - 1)) ++ ans id b e ps (min 8 n - 1) ++ [old]) else old) else none
  | a :: r =>
    let x := I (b ++ toString (r.length + 1) ++ "a")
    let y := I (b ++ toString (r.length + 1) ++ "b")
    some (fs [sq [rf (app (mkIdent `Or.elim) [e, ho x, ho y]), cse y (alt b e r), cse x (alt b e [a])], old])
def simple (p : S) : Bool := if p.isIdent then p.getId != `rfl else match p.getKind with
  | .str _ s => ["hole", "proj", "app", "num", "typeAscription", "paren", "dotIdent", "anonymousCtor", "term_++_", "term[_]"].contains s
  | _ => false
def nsim : List S → Nat
  | [] => 0
  | p :: r => if simple p then nsim r + 1 else 0
def mk (k : Nat) (ps : List S) (t : S) : S :=
  if k == 0 then t else if k == 1 then ang (ps.take 1 ++ [t]) else if k ≤ 6 then app (C ("me" ++ toString k)) (ps.take k ++ [t])
  else app (C "me6") (ps.take 6 ++ [if k == 7 then ang ((ps.take 7).drop 6 ++ [t]) else app (C ("me" ++ toString (k - 6))) ((ps.take k).drop 6 ++ [t])])
def pk1 (f : S → S) (ps : List S) (k : Nat) : List S :=
  let rest := ps.drop k
  let r := rest.length
  (if 2 ≤ r && r ≤ 9 then [f (mk k ps (app (C ("ai" ++ toString r)) rest))] else []) ++ (if k ≥ 2 then [f (mk k ps (ang rest))] else [])
def pks (f : S → S) (ps : List S) : Nat → List S
  | 0 => pk1 f ps 0
  | j + 1 => pk1 f ps (j + 1) ++ pks f ps j
def pk (f : S → S) (e : S) : Option S :=
  if kd "Term" "anonymousCtor" e then
    let ps := un e[1]
    let n := ps.length
    if n ≥ 2 then some (fs (pks f ps (min 12 (min (nsim ps) (n - 1))) ++ [f (par e)])) else none
  else none
def cs (h : S) : S :=
  let e (c : String) : S := ex (app (C c) [h])
  fs [e "no_ns", e "no_sn", e "no_ft", e "no_tf", sq [N "replace" [A "replace", M "letDecl" [M "letIdDecl" [M "letId" [h], L [], L [], A ":=", app (mkIdent `Option.some.inj) [h]]]], N "subst" [A "subst", L [h]]], N "cases" [A "cases", L [N "elimTarget" [L [], par h]], L [], L []]]
def bt (t : S) : S := par (M "byTactic" [A "by", ts [t]])
def arg (c : Char) : S := bt (if c == 'a' then wr (N "assumption" [A "assumption"]) else N "decide" [A "decide", N "optConfig" [L []]])
def os (i a : Nat) : List Char → List S → List S
  | [], l => ex (app (C ("o" ++ toString i)) l) :: []
  | c :: r, l => if c == ' ' then ex (app (C ("o" ++ toString i)) l) :: os (i + 1) a r [] else os i a r (l ++ [arg c])
def om : S := fs (os 1 0 "ad ad ad ad ad ad aad ad ad ad a a aad a a a aad aad aad aa aa aad a a a a a a aa a a a d a a aa aa a".toList [] ++ [wr (N "assumption" [A "assumption"]), N "lia" [A "lia", N "optConfig" [L [N "configItem" [N "negConfigItem" [A "-", I "abstractProof"]]]]], N "omega" [A "omega", N "optConfig" [L [N "configItem" [N "valConfigItem" [A "(", I "config", A ":=", M "structInst" [A "{", L [], M "structInstFields" [L []], M "optEllipsis" [L []], L [], A "}"], A ")"]]]]]])
def rr (r : S) : S := N "rewriteSeq" [A "rewrite", N "optConfig" [L []], N "rwRuleSeq" [A "[", L [r], A "]"], L []]
def rws : List S → List S
  | [] => [tr (wr (N "tacticRfl" [A "rfl"]))]
  | r :: l =>
    let e := r[1]
    let c := e[0].getId
    let b (s : String) : List S := [rh s [e[1][0]]]
    fs ((if r[0].isNone then (if c == `if_pos then b "brk_yes" else if c == `if_neg then b "brk_no" else []) ++ [rh "rwG" [e]] else [rh "rwB" [e]]) ++ [rr r]) :: rws l
def ris (i : Nat) : List S → List S
  | [] => []
  | p :: r =>
    let q := lo [p[0]]
    match plain q with
    | some t => inr [t] :: ris (i + 1) r
    | none => let h := I ("H_r" ++ toString i); inr [h] :: ob q h :: ris (i + 1) r
def up (b : Bool) (s : Option S) : MacroM S := match b, s with
  | true, some s => pure s
  | _, _ => Macro.throwUnsupported
def bare (s : S) : S :=
  let s := s.rewriteBottomUp fun x => x.setInfo .none
  if (kd "Command" "definition" s[1] || kd "Command" "abbrev" s[1]) && s[0][4].isNone then s.setArg 0 (s[0].setArg 4 (L [D "Command" "noncomputable" [A "noncomputable"]])) else s
end Mac
local macro_rules (kind := Lean.Parser.Command.declaration) | s => Mac.up s.getPos?.isSome (some (Mac.bare s))
set_option bootstrap.genMatcherCode false
section
namespace Mine
universe u v
theorem ex1.{u0}{j:Sort u0}{P:j->Prop}{G:Prop}(h:∃a0,P a0)(k:∀a0,P a0->G):G:=h.elim k
theorem ex2.{u0,u1}{j:Sort u0}{m:Sort u1}{P:j->m->Prop}{G:Prop}(h:∃a0 q,P a0 q)(k:∀a0 q,P a0 q->G):G:=ex1 h λa0 h=>h.elim (k a0)
theorem ex3.{u0,u1,u2}{m:Sort u0}{q:Sort u1}{r:Sort u2}{P:m->q->r->Prop}{G:Prop}(h:∃a0 j w,P a0 j w)(k:∀a0 j w,P a0 j w->G):G:=ex2 h λa0 j h=>h.elim (k a0 j)
theorem ex4.{u0,u1,u2,C}{q:Sort u0}{r:Sort u1}{w:Sort u2}{A:Sort C}{P:q->r->w->A->Prop}{G:Prop}(h:∃a0 j m B,P a0 j m B)(k:∀a0 j m B,P a0 j m B->G):G:=ex3 h λa0 j m h=>h.elim (k a0 j m)
theorem ex5.{u0,u1,u2,E,u4}{r:Sort u0}{w:Sort u1}{A:Sort u2}{B:Sort E}{C:Sort u4}{P:r->w->A->B->C->Prop}{G:Prop}(h:∃a0 j m q D,P a0 j m q D)(k:∀a0 j m q D,P a0 j m q D->G):G:=ex4 h λa0 j m q h=>h.elim (k a0 j m q)
theorem ex6.{u0,u1,u2,I,u4,u5}{w:Sort u0}{A:Sort u1}{B:Sort u2}{C:Sort I}{D:Sort u4}{E:Sort u5}{P:w->A->B->C->D->E->Prop}{G:Prop}(h:∃a0 j m q r H,P a0 j m q r H)(k:∀a0 j m q r H,P a0 j m q r H->G):G:=ex5 h λa0 j m q r h=>h.elim (k a0 j m q r)
theorem an2{p0 p1 G:Prop}(h:p0/\p1)(k:p0->p1->G):G:=k h.1 h.2
theorem an3{p0 p1 p2 G:Prop}(h:p0/\p1/\p2)(k:p0->p1->p2->G):G:=an2 h λa h=>an2 h (k a)
theorem an4{p0 p1 p2 p3 G:Prop}(h:p0/\p1/\p2/\p3)(k:p0->p1->p2->p3->G):G:=an2 h λa h=>an3 h (k a)
theorem an5{p0 p1 p2 p3 p4 G:Prop}(h:p0/\p1/\p2/\p3/\p4)(k:p0->p1->p2->p3->p4->G):G:=an2 h λa h=>an4 h (k a)
theorem an6{p0 p1 p2 p3 p4 p5 G:Prop}(h:p0/\p1/\p2/\p3/\p4/\p5)(k:p0->p1->p2->p3->p4->p5->G):G:=an2 h λa h=>an5 h (k a)
theorem an7{p0 p1 p2 p3 p4 p5 p6 G:Prop}(h:p0/\p1/\p2/\p3/\p4/\p5/\p6)(k:p0->p1->p2->p3->p4->p5->p6->G):G:=an2 h λa h=>an6 h (k a)
theorem an8{p0 p1 p2 p3 p4 p5 p6 p7 G:Prop}(h:p0/\p1/\p2/\p3/\p4/\p5/\p6/\p7)(k:p0->p1->p2->p3->p4->p5->p6->p7->G):G:=an2 h λa h=>an7 h (k a)
theorem me2.{u0,u1}{j:Sort u0}{m:Sort u1}{P:j->m->Prop}(a0:j)(q:m)(h:P a0 q):∃a0 q,P a0 q:=⟨a0,q,h⟩
theorem me3.{u0,u1,u2}{j:Sort u0}{m:Sort u1}{q:Sort u2}{P:j->m->q->Prop}(a0:j)(r:m)(w:q)(h:P a0 r w):∃a0 r w,P a0 r w:=⟨a0,r,w,h⟩
theorem me4.{u0,u1,u2,C}{j:Sort u0}{m:Sort u1}{q:Sort u2}{r:Sort C}{P:j->m->q->r->Prop}(a0:j)(w:m)(A:q)(B:r)(h:P a0 w A B):∃a0 w A B,P a0 w A B:=⟨a0,w,A,B,h⟩
theorem me5.{u0,u1,u2,E,u4}{j:Sort u0}{m:Sort u1}{q:Sort u2}{r:Sort E}{w:Sort u4}{P:j->m->q->r->w->Prop}(a0:j)(A:m)(B:q)(C:r)(D:w)(h:P a0 A B C D):∃a0 A B C D,P a0 A B C D:=⟨a0,A,B,C,D,h⟩
theorem me6.{u0,u1,u2,H,u4,u5}{j:Sort u0}{m:Sort u1}{q:Sort u2}{r:Sort H}{w:Sort u4}{A:Sort u5}{P:j->m->q->r->w->A->Prop}(a0:j)(B:m)(C:q)(D:r)(E:w)(G:A)(h:P a0 B C D E G):∃a0 B C D E G,P a0 B C D E G:=⟨a0,B,C,D,E,G,h⟩
theorem ai2{p0 p1:Prop}(j:p0)(m:p1):p0/\p1:=⟨j,m⟩
theorem ai3{p0 p1 p2:Prop}(j:p0)(m:p1)(q:p2):p0/\p1/\p2:=⟨j,m,q⟩
theorem ai4{p0 p1 p2 p3:Prop}(j:p0)(m:p1)(q:p2)(r:p3):p0/\p1/\p2/\p3:=⟨j,m,q,r⟩
theorem ai5{p0 p1 p2 p3 p4:Prop}(j:p0)(m:p1)(q:p2)(r:p3)(w:p4):p0/\p1/\p2/\p3/\p4:=⟨j,m,q,r,w⟩
theorem ai6{p0 p1 p2 p3 p4 p5:Prop}(j:p0)(m:p1)(q:p2)(r:p3)(w:p4)(A:p5):p0/\p1/\p2/\p3/\p4/\p5:=⟨j,m,q,r,w,A⟩
theorem ai7{p0 p1 p2 p3 p4 p5 p6:Prop}(j:p0)(m:p1)(q:p2)(r:p3)(w:p4)(A:p5)(B:p6):p0/\p1/\p2/\p3/\p4/\p5/\p6:=⟨j,m,q,r,w,A,B⟩
theorem ai8{p0 p1 p2 p3 p4 p5 p6 p7:Prop}(j:p0)(m:p1)(q:p2)(r:p3)(w:p4)(A:p5)(B:p6)(C:p7):p0/\p1/\p2/\p3/\p4/\p5/\p6/\p7:=⟨j,m,q,r,w,A,B,C⟩
theorem ai9{p0 p1 p2 p3 p4 p5 p6 p7 p8:Prop}(j:p0)(m:p1)(q:p2)(r:p3)(w:p4)(A:p5)(B:p6)(C:p7)(D:p8):p0/\p1/\p2/\p3/\p4/\p5/\p6/\p7/\p8:=⟨j,m,q,r,w,A,B,C,D⟩
theorem I0{α:Type _}{l:List α}(h:l.length=1):∃a,l=[a]:=by
 cases l with
 |nil=>cases h
 |cons a l=>cases l with
  |nil=>exact⟨a,rfl⟩
  |cons b l=>cases h
theorem JG{α:Type _}{l:List α}(h:l.length=2):∃a b,l=[a,b]:=by
 cases l with
 |nil=>cases h
 |cons a l=>obtain⟨b,rfl⟩:=I0 (Nat.succ.inj h);exact⟨a,b,rfl⟩
theorem JH{α:Type _}{l:List α}(h:l.length=3):∃a b c,l=[a,b,c]:=by
 cases l with
 |nil=>cases h
 |cons a l=>obtain⟨b,c,rfl⟩:=JG (Nat.succ.inj h);exact⟨a,b,c,rfl⟩
theorem LD{α:Type u}{j:Type v}[BEq α][LawfulBEq α]{l:List (α×j)}{k:α}{b:j}(h:l.lookup k=some b):(k,b)∈l:=by
 obtain⟨_,_,e,_⟩:=List.lookup_eq_some_iff.mp h
 rw[e]
 exact List.mem_append_right _ (.head _)
theorem Et{b:Bool}{P:Prop}(h:b=true)(h':b=false):P:=by rw[h]at h';cases h'
theorem no_ns{α:Type _}{a:α}{G:Prop}(h:none=some a):G:=nomatch h
theorem no_sn{α:Type _}{a:α}{G:Prop}(h:some a=none):G:=nomatch h
theorem no_ft{G:Prop}(h:false=true):G:=nomatch h
theorem no_tf{G:Prop}(h:true=false):G:=nomatch h
section
variable {a b c d:Nat}
theorem o1(h:b<=c)(d:a<=b):a<=c:=Nat.le_trans d h
theorem o2(h:b<c)(d:a<=b):a<c:=Nat.lt_of_le_of_lt d h
theorem o3(h:a<=b)(d:b<c):a<c:=Nat.lt_of_le_of_lt h d
theorem o4(h:a<b)(d:b<=c):a<c:=Nat.lt_of_lt_of_le h d
theorem o5(h:a<=b)(d:b<=c):a<=c:=Nat.le_trans h d
theorem o6(h:a<b)(d:b<=c):a<=c:=Nat.le_trans (Nat.le_of_lt h) d
theorem o7{e:Nat}(h:a<=b)(k:b<=c)(d:c<=e):a<=e:=Nat.le_trans h (Nat.le_trans k d)
theorem o8(h:a<=d)(k:1<=a):d=d-1+1:=(Nat.sub_add_cancel (Nat.le_trans k h)).symm
theorem o9(h:a<=d+1)(k:b+1<=a):b<=d:=Nat.le_of_succ_le_succ (Nat.le_trans k h)
theorem o10(h:a<=d+2)(k:b+2<=a):b<=d:=Nat.le_of_succ_le_succ (Nat.le_of_succ_le_succ (Nat.le_trans k h))
theorem o11(h:a<b):a<=b:=Nat.le_of_lt h
theorem o12(h:¬b<a):a<=b:=Nat.le_of_not_lt h
theorem o13{e:Nat}(h:a<b)(k:b<=c)(d:c<=e):a<=e:=Nat.le_trans (Nat.le_of_lt h) (Nat.le_trans k d)
theorem o14(h:a≠0):0<a:=Nat.pos_of_ne_zero h
theorem o15(h:a<b+1):a<=b:=Nat.le_of_lt_succ h
theorem o16(h:a<=b):a<b+1:=Nat.lt_succ_of_le h
theorem o17{e:Nat}(h:a<=b)(k:b<c)(d:c<=e):a<=e:=Nat.le_trans h (Nat.le_trans (Nat.le_of_lt k) d)
theorem o18{e:Nat}(h:a<=b)(k:b<=c)(d:c<e):a<e:=Nat.lt_of_le_of_lt h (Nat.lt_of_le_of_lt k d)
theorem o19{e:Nat}(h:a<b)(k:b<=c)(d:c<=e):a<e:=Nat.lt_of_lt_of_le h (Nat.le_trans k d)
theorem o20(h:a<=b)(k:b<=c):a<=c:=Nat.le_trans h k
theorem o21(h:a<b)(k:b<=c):a<c:=Nat.lt_of_lt_of_le h k
theorem o22{e:Nat}(h:a<=b)(k:b<c)(d:c<=e):a<e:=Nat.lt_of_le_of_lt h (Nat.lt_of_lt_of_le k d)
theorem o23(h:a<=b):(a:Int)<=b:=Int.ofNat_le.mpr h
theorem o25(h:a<b):b+1-(a+1)<b+1-a:=Nat.sub_lt_sub_left (Nat.lt_succ_of_lt h) (Nat.lt_succ_self a)
theorem o26(h:a+(b+1)<c):a+1+b<c:=by rw[Nat.add_assoc,Nat.add_comm 1];exact h
theorem o27{x:Int}(h:1<=x.natAbs/\x.natAbs<=b):x≠0:=λe=>by rw[e]at h;exact absurd h.1 (by decide)
theorem o28(h:a<b):b-1-a<b:=Nat.lt_of_le_of_lt (Nat.sub_le ..) (Nat.sub_lt (Nat.lt_of_le_of_lt (Nat.zero_le _) h) (by decide))
theorem o29{e:Nat}(h:a+b<c)(k:e<=b):a+e<c:=Nat.lt_of_le_of_lt (Nat.add_le_add_left k a) h
theorem o30(h:a=b):b<=a:=Nat.le_of_eq h.symm
theorem o31(h:a<b):b-(a+1)<b-a:=Nat.sub_lt_sub_left h (Nat.lt_succ_self a)
theorem o32(h:a<b):b=b-1-a+a+1:=by rw[Nat.sub_add_cancel (Nat.le_sub_one_of_lt h),Nat.sub_add_cancel (Nat.lt_of_le_of_lt (Nat.zero_le _) h)]
theorem o33(h:c<=b):a-b<=a-c:=Nat.sub_le_sub_left h a
theorem o34(h:a+b<c):a+(b-1)<c:=Nat.lt_of_le_of_lt (Nat.add_le_add_left (Nat.sub_le ..) _) h
theorem o35(h:a<b):a<=b-1:=Nat.le_sub_one_of_lt h
theorem o36(h:a<b)(k:b=c):a<c:=k▸h
theorem o37(g:0<a)(h:a<=b):a-1<b:=Nat.lt_of_lt_of_le (Nat.sub_lt g (by decide)) h
theorem o38{y:Int}(h:0<y):y.natAbs≠0:=Int.natAbs_ne_zero.mpr (Int.ne_of_gt h)
theorem o24(h:a<b):(a:Int)<b:=Int.ofNat_lt.mpr h
end
theorem p1{n k:Nat}(h:k<n):((n:Int)-1+ -1*k).toNat=n-1-k:=by rw[Int.neg_mul,Int.one_mul,<-Int.sub_eq_add_neg,show(n:Int)-1=((n-1:Nat):Int)from(Int.natCast_sub (Nat.lt_of_le_of_lt (Nat.zero_le _) h)).symm,<-Int.natCast_sub (Nat.le_sub_one_of_lt h)];rfl
theorem p2{n k:Nat}(h:k<n):((n:Int)-1+k* -1).toNat=n-1-k:=by rw[Int.mul_comm];exact p1 h
theorem p3{N:Nat}{b:Int}(h:1<=b/\b<=N):1<=b.natAbs/\b.natAbs<=N:=⟨Int.natAbs_pos.mpr (Int.ne_of_gt h.1),Int.ofNat_le.mp (Int.natAbs_of_nonneg (Int.le_trans (by decide) h.1)▸h.2)⟩
theorem p4{N:Nat}{b:Int}(h:1<=b/\b<=N):1<=(-b).natAbs/\(-b).natAbs<=N:=by rw[Int.natAbs_neg];exact p3 h
theorem p5{q i:Nat}(h:q<=i)(e:q≠i):q<=i-1:=Nat.le_sub_one_of_lt (Nat.lt_of_le_of_ne h e)
theorem p6{i j:Nat}(h:i-1<j)(e:j≠i):i<j:=Nat.lt_of_le_of_ne (Nat.le_of_pred_lt h) (Ne.symm e)
theorem p7{n:Nat}(h:0<n):(n:Int)-1=((n-1:Nat):Int):=(Int.natCast_sub h).symm
theorem p8{q k:Nat}(h:q<k):(k:Int)-1=((k-1:Nat):Int):=p7 (Nat.lt_of_le_of_lt (Nat.zero_le _) h)
theorem p9{n:Nat}:((n:Int)-0).toNat=n:=by rw[Int.sub_zero];rfl
theorem Ql{n k:Nat}(h:k<((n:Int)-0).toNat):k<n:=by rw[p9]at h;exact h
theorem MK{k:Nat}:((4+(k:Int)).natAbs:Int)=4+k:=Int.natAbs_of_nonneg (Int.add_nonneg (by decide) (Int.natCast_nonneg _))
theorem Qm{k n:Nat}(h:k<n):1<=(4+(k:Int)).natAbs/\(4+(k:Int)).natAbs<=3+n:=by
 rw[show(4+(k:Int)).natAbs=4+k from Int.ofNat.inj MK]
 exact⟨Nat.le_trans (by decide) (Nat.le_add_right 4 k),Nat.succ_add 3 k▸Nat.add_le_add_left h 3⟩
theorem Qn{N k:Nat}(h:k+1+3<=N):1<=(-4-(k:Int)).natAbs/\(-4-(k:Int)).natAbs<=N:=by
 rw[show -4-(k:Int)= -(4+(k:Int))from by rw[Int.neg_add];rfl,Int.natAbs_neg,show(4+(k:Int)).natAbs=4+k from Int.ofNat.inj MK,Nat.add_comm]
 exact⟨Nat.le_add_left 1 _,h⟩
theorem PQ{l:Int}:l.natAbs=(-l).natAbs:=(Int.natAbs_neg l).symm
theorem PS{N:Nat}{y:Int}(j:N<=8)(h:1<=y.natAbs/\y.natAbs<=N):1<=y+9/\y+9<=((17:Nat):Int):=by omega
theorem Qo{xs:List α}(h:0<xs.length):(-1+(xs.length:Int)).toNat=xs.length-1:=by rw[Int.add_comm];exact congrArg Int.toNat (p7 h)
theorem Qp{k b:Nat}(h:decide (((k+1:Nat):Int)>b)=true):k-b<k+1-b:=by rw[Nat.succ_sub (Nat.le_of_lt_succ (Int.ofNat_lt.mp (of_decide_eq_true h)))];exact Nat.lt_succ_self _
theorem MZ{x:Int}(h:0<x):(x.natAbs:Int)=x:=Int.natAbs_of_nonneg (Int.le_of_lt h)
theorem Oz{x:Int}(h:¬x>0):(x.natAbs:Int)= -x:=Int.ofNat_natAbs_of_nonpos (Int.not_lt.mp h)
theorem Qq{u d L:Nat}(j:0<d)(h:u+6*d+100<L):u+1+1+6*(d-1)+100<L:=by
 cases d with
 |zero=>cases j
 |succ e=>exact Nat.lt_of_le_of_lt (Nat.add_le_add_right (by rw[Nat.mul_succ,Nat.add_assoc u 1 1,Nat.add_assoc u 2,Nat.add_comm 2];exact Nat.add_le_add_left (Nat.add_le_add_left (by decide) _) _) _) h
theorem OL{u d L:Nat}(h:u+6*d+100<L):u+8<L:=Nat.lt_of_le_of_lt (Nat.le_trans (Nat.add_le_add_left (by decide:8<=100) u) (Nat.add_le_add_right (Nat.le_add_right u _) 100)) h
theorem Qr{u d e L:Nat}(h:u+6*d+100<L)(k:e<=d):u+6*e+100<L:=Nat.lt_of_le_of_lt (Nat.add_le_add_right (Nat.add_le_add_left (Nat.mul_le_mul_left 6 k) u) 100) h
theorem Qs{x n:Int}{N:Nat}(h:1<=x/\x<=N):x.toNat-1<N:=Nat.sub_one_lt_of_le (Int.pos_iff_toNat_pos.mp h.1) (Int.toNat_le.mpr h.2)
theorem PT{u d L:Nat}(h:u+6*(d+1)+100<L):u+3+6*d+100<L:=Nat.lt_of_le_of_lt (Nat.add_le_add_right (by rw[Nat.mul_succ,Nat.add_assoc u 3,Nat.add_comm 3];exact Nat.add_le_add_left (Nat.add_le_add_left (by decide) _) _) _) h
theorem Qt{k:Nat}:(-4-(k:Int)).natAbs=k+4:=by rw[show -4-(k:Int)= -(4+(k:Int))from by rw[Int.neg_add];rfl,Int.natAbs_neg,show(4+(k:Int)).natAbs=4+k from Int.ofNat.inj MK,Nat.add_comm]
theorem OM{k:Nat}{G:Prop}(h:(-4-(k:Int)).natAbs<=3):G:=absurd (Nat.le_trans (Nat.le_add_left 4 k) (by rw[Qt]at h;exact h)) (by decide)
theorem Qu{n:Nat}(h:n<=1048576): -(1048576:Int)<=n/\(n:Int)<=1048576:=⟨Int.le_trans (by decide) (Int.natCast_nonneg n),Int.ofNat_le.mpr h⟩
theorem PU{l:Int}{N:Nat}(h:1<=l.natAbs/\l.natAbs<=N):l<=N:=Int.le_trans Int.le_natAbs (Int.ofNat_le.mpr h.2)
theorem Qw{l:Int}{N:Nat}(h:1<=l.natAbs/\l.natAbs<=N): -l<=N:=PU (by rw[Int.natAbs_neg];exact h)
theorem Qx{k b:Nat}(h:decide ((k:Int)>b)=true):k=k-1+1:=(Nat.sub_add_cancel (Nat.lt_of_le_of_lt (Nat.zero_le b) (Int.ofNat_lt.mp (of_decide_eq_true h)))).symm
theorem Qy{l:Int}{N:Nat}(h:1<=l.natAbs/\l.natAbs<=N)(g:¬0<l):1<= -l:=by rw[<-Oz g];exact Int.ofNat_le.mpr h.1
theorem Qz{n k:Nat}(h:k<((n:Int)+2-2).toNat):k<n:=by rw[Int.add_sub_cancel]at h;exact h
theorem QA{l v:Int}(j:1<=v)(e:¬v=l.natAbs):¬v=l:=λq=>e (by rw[q];exact(MZ (Int.lt_of_lt_of_le (by decide) (q▸j))).symm)
theorem QB{l v:Int}(j:1<=v)(e:¬v=l.natAbs):¬-v=l:=λq=>e (by rw[<-q,Int.natAbs_neg];exact(MZ (Int.lt_of_lt_of_le (by decide) j)).symm)
theorem PV{n p k q:Nat}(j:n=p+k+1)(h:n<=q+(k+1)):p<=q:=Nat.le_of_add_le_add_right (show p+(k+1)<=q+(k+1) by rw[j]at h;exact h)
theorem ON{n p k q:Nat}(j:n=p+k+1)(h:n<=q+(k+1))(e:¬q=p):n<=q+k:=by rw[j,Nat.add_right_comm];exact Nat.add_le_add_right (Nat.lt_of_le_of_ne (PV j h) λg=>e g.symm) k
theorem OA{k:Nat}:(0:Int)<4+k:=Int.add_pos_of_pos_of_nonneg (by decide) (Int.natCast_nonneg k)
theorem QC{k:Nat}:4+(k:Int)≠0:=Int.ne_of_gt OA
theorem PW{k:Nat}:¬4+(k:Int)<=3:=Int.not_le.mpr (Int.lt_of_lt_of_le (by decide:(3:Int)<4) (Int.le_add_of_nonneg_right (Int.natCast_nonneg k)))
theorem PX{k:Nat}:(4+(k:Int)-4).toNat=k:=by rw[Int.add_comm,Int.add_sub_cancel];rfl
theorem gl{P:Prop}(h:let G:=P;G):P:=h
@[elab_as_elim] theorem rwG{α:Sort u}{a b:α}{motive:α->Prop}(h:a=b)(p:motive b):motive a:=h▸p
@[elab_as_elim] theorem rwB{α:Sort u}{a b:α}{motive:α->Prop}(h:b=a)(p:motive b):motive a:=h▸p
theorem jL{α:Type u}{j:Type v}{f:α->j}{l:List α}{b:j}{G:Prop}(h:b∈l.map f)(k:∀a,a∈l->f a=b->G):G:=(List.mem_map.mp h).elim λa h=>k a h.1 h.2
@[elab_as_elim] theorem Ef{α:Type u}{j:Type v}{f:α->j}{l:List α}{motive:j->Prop}{b:j}(h:b∈l.map f)(k:∀a,a∈l->motive (f a)):motive b:=jL h λa h e=>e▸k a h
theorem dp{α:Type u}{a b:α}{l:List α}{G:Prop}(h:a∈b::l)(j:a=b->G)(m:a∈l->G):G:=(List.mem_cons.mp h).elim j m
@[elab_as_elim] theorem dz{α:Type u}{b:α}{l:List α}{motive:α->Prop}{a:α}(h:a∈b::l)(j:motive b)(m:a∈l->motive a):motive a:=dp h (λe=>e▸j) m
theorem cx{α:Type u}{a:α}{l m:List α}{G:Prop}(h:a∈l++m)(j:a∈l->G)(q:a∈m->G):G:=(List.mem_append.mp h).elim j q
end Mine
end
local macro_rules (kind := Lean.Parser.Tactic.rcases) | s => Mac.up (s[1].getNumArgs == 1 && s[1][0][0].isNone && s[2].getNumArgs == 2) (Mac.rc s[1][0][1] s[2][1])
local macro_rules (kind := Lean.Parser.Tactic.obtain) | s => Mac.up (s[2].isNone && s[1].getNumArgs == 1 && s[3].getNumArgs == 2 && s[3][1].getNumArgs == 1) (some (Mac.ob (Mac.N "rcasesPatLo" [s[1][0], Mac.L []]) s[3][1][0]))
local macro_rules (kind := Lean.Parser.Tactic.exact) | s => Mac.up true (Mac.pk Mac.ex s[1])
local macro_rules (kind := Lean.Parser.Tactic.refine) | s => Mac.up true (Mac.pk Mac.rf s[1])
local macro_rules (kind := Lean.Parser.Tactic.cases) | s => Mac.up (s[1].getNumArgs == 1 && s[1][0][1].isIdent && s[1][0][0].isNone && s[2].isNone && s[3].isNone) (some (Mac.cs s[1][0][1]))
local macro_rules (kind := Lean.Parser.Tactic.omega) | s => Mac.up (s[1][0].getNumArgs == 0) (some Mac.om)
local macro_rules (kind := Lean.Parser.Tactic.rwSeq) | s => Mac.up (s[1][0].getNumArgs == 0 && s[3].isNone) (some (Mac.sq (Mac.rws (Mac.un s[2][1]))))
local macro_rules (kind := Lean.Parser.Tactic.rintro) | s => Mac.up s[2].isNone (some (Mac.sq (Mac.ris 0 s[1].getArgs.toList)))
open PySem renaming wpAny_bind→So,wpAny_pure→Sv,wpAny_mono→Sz,wpAny_holding→SK
open List renaming mem_of_getElem?→Sp,getElem?_eq_some_iff→Sr,mem_cons_of_mem→Ss,length_map→Su,length_append→Sw,mem_singleton→Sx,mem_cons_self→Sy,getElem?_eq_getElem→SA,getElem?_map→SG,mem_cons→SH,mem_append_left→SN,mem_filter→SO,mem_iff_getElem?→SQ,getElem?_append_left→SV,take_length→SW,map_append→SX,mem_map_of_mem→SY,getElem?_append_right→SZ,mem_nil_iff→Ta,nodup_cons→Tb,filterMap_cons→Tc,map_map→Td,mem_map→Te,length_take→Tf,any_eq_true→Th,all_eq_true→Ti,length_range→Tj,mem_range→Tl,nodup_append→Tn,nodup_iff_pairwise_ne→Tp,getElem?_eq_none→Tq,pairwise_iff_getElem→Tr,getElem?_set_self→Ts,mem_append→Tv,not_mem_nil→Tw,filter_sublist→TA,pairwise_map→TB,length_filter_le→TG,lookup_cons→TJ,length_cons→TK,mem_singleton_self→TL,map_cons→TM,getElem_map→TO,take_append_of_le_length→TR,length_set→TT,map_congr_left→TX,length_pos_iff→TY,nodup_nil→T5,getElem?_take→T6,mem_append_right→T7,pairwise_append→T9,take_zero→Ua,pairwise_cons→Uc,take_add_one→Ue,getElem?_set_ne→Ui,getElem_inj→Uj,getElem?_range→Un,filter_map→Uo,pairwise_singleton→Uq,head_eq_of_cons_eq→Ur,size_toArray→Ut,flatMap_cons→Uu,filter_cons→Uy,filter_eq_self→UD,any_map→UE,findIdx?_eq_none_iff→UJ,exists_mem_of_ne_nil→UK,filter_congr→UL,ext_getElem?→UM,length_eq_zero_iff→UQ,map_id'→UR,find?_cons→UU,take_take→UZ,set_comm→U2,map_nil→U6,take_sublist→U',append_assoc→Va,any_eq_false→Vb,map_reverse→Ve,length_drop→Vf,getElem_mem→Vg,ext_getElem→Vh,drop_length→Vi,cons_append→Vj,map_id→Vk,length_nil→Vm,head?_cons→Vn,forIn_cons→Vo,append_nil→Vp,getElem?_eq_none_iff→Vw,drop_eq_getElem_cons→Vx
open PySem.Heap renaming get?_push_of_some→Sq,get?_push_size→SM,get?_none_of_le→Tx,get?_update_self→TC,lt_size→TQ,size_push→Uh,get?_update_other→Uv,get?_push_at→U7
open Bool renaming and_eq_true→SF,and_eq_true_iff→SU,false_ne_true→To,eq_iff_iff→TU,or_eq_true_iff→TZ,false_eq_true→Up,or_eq_true→UB,not_eq_true'→Vc
open Nat renaming zero_le→SI,le_trans→SJ,le_refl→SR,ne_of_lt→Tu,le_of_lt→TH,lt_of_lt_of_le→TP,lt_succ_of_lt→TV,lt_irrefl→T3,le_of_not_lt→T4,succ_ne_zero→Ub,lt_of_le_of_lt→Ud,ne_of_gt→Uk,lt_or_ge→Ul,lt_succ_self→Um,le_succ→Us,le_succ_of_le→Uw,le_add_right→Uz,not_lt_zero→UC,add_lt_add_left→UG,lt_trichotomy→UN,min_eq_left→UW,le_antisymm→UX,add_le_add→U0,mul_le_mul_right→U1,sub_lt_sub_left→U3,sub_le_sub_left→U4,zero_add→Vd,min_le_right→Vl,sub_lt→Vu,sub_le→Vv
open Int renaming natAbs_neg→S9,neg_neg→TS,toNat_natCast→UO,ofNat_le→US,le_of_lt→UT,toNat_of_nonneg→U5
open Array renaming length_toList→Tz,getElem?_eq_getElem→T8,mem_toList_iff→Ug,getElem?_toList→Ux,size_push→UA,toList_push→UH,any_toList→UP,toList_reverse→UY,perm_iff_toList_perm→Vq,getElem?_eq_some_iff→Vs,getElem?_eq_none_iff→Vt
open Option renaming bind_eq_some_iff→TI,isNone_iff_eq_none→TN,map_eq_some_iff→T2,isSome_iff_exists→UI,getD_some→U8,bind_some→U9
namespace Mine
section
open PySem PySem.W PySem.Calls PyProof.Rows PySem.SeqAt
section
set_option backward.match.sparseCases false
def QD:List Stmt:=PySem.Challenge.pw_nz0393_01.main.body
def top(i:Nat):Stmt:=(QD[i]?).getD (.Pass ⟨0,0,0,0⟩)
def M0:Stmt->List Stmt
 | .ClassDef _ _ _ b _ _ _ _ _ _ _=>b
 |_=>[]
def D3(i j:Nat):Stmt:=((M0 (top i))[j]?).getD (.Pass ⟨0,0,0,0⟩)
def He:Stmt->Str
 | .FunctionDef n _ _ _ _ _ _ _ _ _=>n
 |_=>Str.empty
def E7:Stmt->Arguments
 | .FunctionDef _ a _ _ _ _ _ _ _ _=>a
 |_=>⟨[],[],none,[],[],none,[]⟩
def Eh:Stmt->List Stmt
 | .FunctionDef _ _ b _ _ _ _ _ _ _=>b
 |_=>[]
def z':Stmt->Scope
 | .FunctionDef _ _ _ _ _ _ sc _ _ _=>sc
 |_=>⟨.function,[],false,false,[]⟩
def Jl(st:Stmt)(qual:Str)(cl:List (Str×Addr))(pm cd ct:Value):Obj:=
 ⟨.type "function",none,.func (fnX (He st) qual (E7 st) (Eh st) (z' st) cl .none .none .none pm none cd ct),#[]⟩
def cS:Value:=.str (Str.ofString "relfinder.solver") 312
def kC:Value:=.str (Str.ofString "relfinder.cores") 250
def yI:Value:=.str (Str.ofString "relfinder.errors") 194
def gp:Value:=.str (Str.ofString "law_nz0393_01") 560
def Ew(P:Params)(n:String)(t:Tok)(v:Value):DictEntry:=⟨PyData.keyHash P (Str.ofString n),.str (Str.ofString n) t,v⟩
def ML(es:Array DictEntry)(n:Nat):Obj:=⟨.type "dict",none,.dict es n,#[]⟩
def KU(n:String)(t:Tok):Option Value:=some (.str (Str.ofString n) t)
def FR(s:Stmt)(q:String)(m:Value)(c:Addr):Obj:=Jl s (Str.ofString q) [] m (.ref c) .none
def PY(P:Params):Obj:=ML #[Ew P "__name__" 165 gp,Ew P "__doc__" 166 .none,Ew P "__package__" 167 .none,Ew P "__loader__" 168 (.builtin "__main__.__loader__#opaque"),Ew P "__spec__" 169 .none,Ew P "__annotations__" 170 (.ref 6),Ew P "__builtins__" 171 (.ref 4),Ew P "__file__" 173 (.str (Str.ofString "/claim/cut.py") 172),Ew P "__cached__" 174 .none,Ew P "_wall" 193 (.ref 21),Ew P "FinderError" 233 (.ref 47),Ew P "LimitFault" 249 (.ref 60),Ew P "CoreFinder" 311 (.ref 103),Ew P "FIRST_SPAN" 315 (.int 16 314),Ew P "MOST_HEAT" 317 (.int 1000000000 316),Ew P "ordered" 326 (.ref 114),Ew P "Values" 388 (.ref 152),Ew P "Search" 559 (.ref 272),Ew P "_law_draw" 570 (.ref 281),Ew P "_law_literal" 578 (.ref 288),Ew P "_law_formula" 590 (.ref 295),Ew P "_law_can" 596 (.ref 300),Ew P "_law_told" 602 (.ref 305),Ew P "_law_left" 608 (.ref 310),Ew P "_law_is_core_right" 614 (.ref 315),Ew P "law" 630 (.ref 322)] 26
def OO(P:Params):Obj:=FR (top 0) "_wall" (.str (Str.ofString "__main__") 164) 20
def OP(P:Params):Obj:=⟨(.type "cell"),none,.cell (some (.ref 47)),#[]⟩
def OQ(P:Params):Obj:=Jl (D3 2 0) (Str.ofString "FinderError.__init__") [((Str.ofString "__class__"),25)] yI (.ref 36) (.ref 30)
def OR(P:Params):Obj:=FR (D3 2 1) "FinderError.told" yI 43
def OS(P:Params):Obj:=ML #[Ew P "__module__" 203 yI,Ew P "__firstlineno__" 207 (.int 5 206),Ew P "__init__" 216 (.ref 37),Ew P "told" 223 (.ref 44),Ew P "__static_attributes__" 225 (.ref 45),Ew P "__weakref__" 228 (.ref 48),Ew P "__doc__" 229 .none] 4
def OT(P:Params):Obj:=⟨(.type "type"),none,.cls {name:=(Str.ofString "FinderError"),bases:=[(.type "Exception")],mro:=[(.ref 47),(.type "Exception"),(.type "BaseException"),(.type "object")],ns:=46,qualname:=(Str.ofString "FinderError"),hasDict:=true,slotNames:=[],subclasses:=[(.ref 60)],abstract:=false,collection:=none,hasDel:=false},#[(some (.ref 22)),none,KU "FinderError" 196,KU "FinderError" 204,(some (.builtin "Exception.__new__")),(some (.bool true))]⟩
def OU(P:Params):Obj:=ML #[Ew P "__module__" 241 yI,Ew P "__firstlineno__" 245 (.int 13 244),Ew P "__static_attributes__" 246 (.ref 58),Ew P "__doc__" 247 .none] 2
def LV(P:Params):Obj:=⟨(.type "type"),none,.cls {name:=(Str.ofString "LimitFault"),bases:=[(.ref 47)],mro:=[(.ref 60),(.ref 47),(.type "Exception"),(.type "BaseException"),(.type "object")],ns:=59,qualname:=(Str.ofString "LimitFault"),hasDict:=true,slotNames:=[],subclasses:=[],abstract:=false,collection:=none,hasDel:=false},#[(some (.ref 51)),none,KU "LimitFault" 234,KU "LimitFault" 242,(some (.builtin "Exception.__new__")),(some (.bool true))]⟩
def OV(P:Params):Obj:=FR (D3 5 0) "CoreFinder.__init__" kC 75
def OW(P:Params):Obj:=FR (D3 5 1) "CoreFinder.failed_of" kC 80
def OX(P:Params):Obj:=FR (D3 5 2) "CoreFinder.core" kC 87
def OY(P:Params):Obj:=FR (D3 5 3) "CoreFinder.shrunk" kC 92
def M1(P:Params):Obj:=FR (D3 5 4) "CoreFinder.fewer_of" kC 99
def M3(P:Params):Obj:=ML #[Ew P "__module__" 259 kC,Ew P "__firstlineno__" 263 (.int 16 262),Ew P "__init__" 272 (.ref 76),Ew P "failed_of" 278 (.ref 81),Ew P "core" 286 (.ref 88),Ew P "shrunk" 292 (.ref 93),Ew P "fewer_of" 300 (.ref 100),Ew P "__static_attributes__" 304 (.ref 101),Ew P "__dict__" 306 (.ref 104),Ew P "__weakref__" 308 (.ref 105),Ew P "__doc__" 309 .none] 4
def M7(P:Params):Obj:=⟨(.type "type"),none,.cls {name:=(Str.ofString "CoreFinder"),bases:=[(.type "object")],mro:=[(.ref 103),(.type "object")],ns:=102,qualname:=(Str.ofString "CoreFinder"),hasDict:=true,slotNames:=[],subclasses:=[],abstract:=false,collection:=none,hasDel:=false},#[none,none,KU "CoreFinder" 252,KU "CoreFinder" 260,(some (.builtin "object.__new__")),(some (.bool true))]⟩
def M8(P:Params):Obj:=FR (top 9) "ordered" cS 113
def Na(P:Params):Obj:=FR (D3 10 0) "Values.__init__" cS 127
def Nb(P:Params):Obj:=FR (D3 10 1) "Values.says" cS 134
def Nc(P:Params):Obj:=FR (D3 10 2) "Values.let" cS 141
def Nd(P:Params):Obj:=FR (D3 10 3) "Values.back_to" cS 148
def Nf(P:Params):Obj:=ML #[Ew P "__module__" 334 cS,Ew P "__firstlineno__" 338 (.int 60 337),Ew P "__init__" 345 (.ref 128),Ew P "says" 354 (.ref 135),Ew P "let" 364 (.ref 142),Ew P "back_to" 373 (.ref 149),Ew P "__static_attributes__" 381 (.ref 150),Ew P "__dict__" 383 (.ref 153),Ew P "__weakref__" 385 (.ref 154),Ew P "__doc__" 386 .none] 4
def Ng(P:Params):Obj:=⟨(.type "type"),none,.cls {name:=(Str.ofString "Values"),bases:=[(.type "object")],mro:=[(.ref 152),(.type "object")],ns:=151,qualname:=(Str.ofString "Values"),hasDict:=true,slotNames:=[],subclasses:=[(.ref 272)],abstract:=false,collection:=none,hasDel:=false},#[none,none,KU "Values" 327,KU "Values" 335,(some (.builtin "object.__new__")),(some (.bool true))]⟩
def Nh(P:Params):Obj:=⟨(.type "cell"),none,.cell (some (.ref 272)),#[]⟩
def Ni(P:Params):Obj:=Jl (D3 11 0) (Str.ofString "Search.__init__") [((Str.ofString "__class__"),160)] cS (.ref 169) (.ref 165)
def Nj(P:Params):Obj:=FR (D3 11 1) "Search.add_clause" cS 174
def Nk(P:Params):Obj:=FR (D3 11 2) "Search.refute" cS 181
def Nl(P:Params):Obj:=FR (D3 11 3) "Search.keep" cS 188
def Nm(P:Params):Obj:=FR (D3 11 4) "Search.spread" cS 195
def Nn(P:Params):Obj:=FR (D3 11 5) "Search.has_moved" cS 202
def Np(P:Params):Obj:=FR (D3 11 6) "Search.warm" cS 207
def Nq(P:Params):Obj:=FR (D3 11 7) "Search.lesson" cS 214
def Nr(P:Params):Obj:=FR (D3 11 8) "Search.height_of" cS 221
def Nt(P:Params):Obj:=FR (D3 11 9) "Search.learn" cS 228
def Nu(P:Params):Obj:=FR (D3 11 10) "Search.blame" cS 233
def Nv(P:Params):Obj:=FR (D3 11 11) "Search.hottest" cS 240
def Nw(P:Params):Obj:=FR (D3 11 12) "Search.decide" cS 247
def Nx(P:Params):Obj:=FR (D3 11 13) "Search.solve" cS 254
def Ny(P:Params):Obj:=FR (D3 11 14) "Search.value" cS 261
def Nz(P:Params):Obj:=FR (D3 11 15) "Search.failed" cS 268
def NA(P:Params):Obj:=ML #[Ew P "__module__" 396 cS,Ew P "__firstlineno__" 400 (.int 89 399),Ew P "__init__" 407 (.ref 170),Ew P "add_clause" 413 (.ref 175),Ew P "refute" 420 (.ref 182),Ew P "keep" 429 (.ref 189),Ew P "spread" 441 (.ref 196),Ew P "has_moved" 452 (.ref 203),Ew P "warm" 458 (.ref 208),Ew P "lesson" 473 (.ref 215),Ew P "height_of" 481 (.ref 222),Ew P "learn" 490 (.ref 229),Ew P "blame" 496 (.ref 234),Ew P "hottest" 505 (.ref 241),Ew P "decide" 515 (.ref 248),Ew P "solve" 529 (.ref 255),Ew P "value" 537 (.ref 262),Ew P "failed" 544 (.ref 269),Ew P "__static_attributes__" 555 (.ref 270),Ew P "__doc__" 557 .none] 3
def NB(P:Params):Obj:=⟨(.type "type"),none,.cls {name:=(Str.ofString "Search"),bases:=[(.ref 152)],mro:=[(.ref 272),(.ref 152),(.type "object")],ns:=271,qualname:=(Str.ofString "Search"),hasDict:=true,slotNames:=[],subclasses:=[],abstract:=false,collection:=none,hasDel:=false},#[(some (.ref 157)),none,KU "Search" 389,KU "Search" 397,(some (.builtin "object.__new__")),(some (.bool true))]⟩
def NC(P:Params):Obj:=FR (top 13) "_law_draw" gp 280
def ND(P:Params):Obj:=FR (top 14) "_law_literal" gp 287
def NF(P:Params):Obj:=FR (top 15) "_law_formula" gp 294
def NG(P:Params):Obj:=FR (top 16) "_law_can" gp 299
def NH(P:Params):Obj:=FR (top 17) "_law_told" gp 304
def NI(P:Params):Obj:=FR (top 18) "_law_left" gp 309
def NJ(P:Params):Obj:=FR (top 19) "_law_is_core_right" gp 314
def K(P:Params):Frag:=[(3,PY P),(21,OO P),(25,OP P),(37,OQ P),(44,OR P),(46,OS P),(47,OT P),(59,OU P),(60,LV P),(76,OV P),(81,OW P),(88,OX P),(93,OY P),(100,M1 P),(102,M3 P),(103,M7 P),(114,M8 P),(128,Na P),(135,Nb P),(142,Nc P),(149,Nd P),(151,Nf P),(152,Ng P),(160,Nh P),(170,Ni P),(175,Nj P),(182,Nk P),(189,Nl P),(196,Nm P),(203,Nn P),(208,Np P),(215,Nq P),(222,Nr P),(229,Nt P),(234,Nu P),(241,Nv P),(248,Nw P),(255,Nx P),(262,Ny P),(269,Nz P),(271,NA P),(272,NB P),(281,NC P),(288,ND P),(295,NF P),(300,NG P),(305,NH P),(310,NI P),(315,NJ P)]
def codes:List (Addr×Str):=([(20,"_wall"),(36,"FinderError.__init__"),(43,"FinderError.told"),(75,"CoreFinder.__init__"),(80,"CoreFinder.failed_of"),(87,"CoreFinder.core"),(92,"CoreFinder.shrunk"),(99,"CoreFinder.fewer_of"),(113,"ordered"),(127,"Values.__init__"),(134,"Values.says"),(141,"Values.let"),(148,"Values.back_to"),(169,"Search.__init__"),(174,"Search.add_clause"),(181,"Search.refute"),(188,"Search.keep"),(195,"Search.spread"),(202,"Search.has_moved"),(207,"Search.warm"),(214,"Search.lesson"),(221,"Search.height_of"),(228,"Search.learn"),(233,"Search.blame"),(240,"Search.hottest"),(247,"Search.decide"),(254,"Search.solve"),(261,"Search.value"),(268,"Search.failed"),(280,"_law_draw"),(287,"_law_literal"),(294,"_law_formula"),(299,"_law_can"),(304,"_law_told"),(309,"_law_left"),(314,"_law_is_core_right")]:List (Addr×String)).map λp=>(p.1,Str.ofString p.2)
def Gg:Str:=PySem.Challenge.pw_nz0393_01.main.file
def fieldsOf:Data->Option (Array Value)
 | .fields vs=>some vs
 |_=>none
theorem km{d:Data}{vs:Array Value}(h:fieldsOf d=some vs):d=.fields vs:=by
 cases d<;>first|(cases h;rfl)|cases h
def strOf:Value->Option Str
 | .str s _=>some s
 |_=>none
theorem xA{v:Value}{x:Str}(h:strOf v=some x):∃t,v=.str x t:=by
 cases v<;>first|(cases h;exact⟨_,rfl⟩)|cases h
def Io(o:Option Obj):Option (Str×Str):=o.bind λo=>(fieldsOf o.data).bind λvs=>(vs[1]?.bind strOf).bind λn=>(vs[2]?.bind strOf).map λf=>(n,f)
def I1:List Addr:=[3,21,25,37,44,46,47,59,60,76,81,88,93,100,102,103,114,128,135,142,149,151,152,160,170,175,182,189,196,203,208,215,222,229,234,241,248,255,262,269,271,272,281,288,295,300,305,310,315]
theorem nK:∀P,I1=(K P).map (·.1):=λ_=>rfl
def F8(h:Heap)(c:Addr)(q:Str):Prop:=∃o vs t,h.get? c=some o/\o.data=.fields vs/\vs[1]? =some (.str q t)/\∃tf,vs[2]? =some (.str Gg tf)
theorem F8.rec{h:Heap}{c:Addr}{q:Str}(x:F8 h c q):h.CodeRec (.ref c) q:=(by obtain⟨o,vs,t,h1,h2,h3,_⟩:=x;exact⟨c,o,vs,t,rfl,h1,h2,h3⟩)
theorem strAt{o:Option Value}{x:Str}(h:o.bind strOf=some x):∃t,o=some (.str x t):=by
 obtain⟨v,rfl,h⟩:=TI.mp h
 obtain⟨t,rfl⟩:=xA h;exact⟨t,rfl⟩
theorem F8.K3{h:Heap}{c:Addr}{q:Str}(e:Io (h.get? c)=some (q,Gg)):F8 h c q:=by
 obtain⟨o,ho,e⟩:=TI.mp e
 obtain⟨vs,hv,e⟩:=TI.mp e
 obtain⟨n,hn,e⟩:=TI.mp e
 obtain⟨f,hf,e⟩:=T2.mp e
 obtain⟨rfl,rfl⟩:=Prod.mk.inj e
 obtain⟨t,hn⟩:=strAt hn
 exact⟨o,vs,t,ho,km hv,hn,strAt hf⟩
def Jm(h:Heap):Prop:=∀c∈codes,F8 h c.1 c.2
theorem Jm.keeps{h h':Heap}(x:Jm h)(k:∀b o,h.get? b=some o->h'.get? b=some o):Jm h':=λc hc=>(by obtain⟨o,vs,t,h1,h2⟩:=x c hc;exact⟨o,vs,t,k _ _ h1,h2⟩)
def G5(w:World)(h:Heap):Prop:=(K w.params).In h/\Jm h/\(∃o,h.get? sysModules=some o)/\∃mc,h.Ns cStatics mc/\mc "thirdparty.any"=none
theorem G5.keeps{w:World}{h h':Heap}(x:G5 w h)(k:∀b o,h.get? b=some o->h'.get? b=some o):G5 w h':=
 ⟨x.1.keeps k,x.2.1.keeps k,(by obtain⟨o,e⟩:=x.2.2.1;exact⟨o,k _ _ e⟩),(by obtain⟨mc,e,r⟩:=x.2.2.2;exact⟨mc,e.keeps k,r⟩)⟩
def hook:Hook where
 α:=List (Option Obj)×List (Option (Str×Str))×Bool
 obs:=λs=>(I1.map s.heap.get?,codes.map (λc=>Io (s.heap.get? c.1)),(s.heap.get? sysModules).isSome&&(s.heap.isNs cStatics&&(s.heap.nsMap cStatics "thirdparty.any").isNone))
 val:=λw=>((K w.params).map (λp=>some p.2),codes.map (λc=>some (c.2,Gg)),true)
 says:=G5
 of:=λw s e=>⟨Frag.in_of (nK _) (Prod.mk.inj e).1,(λc hc=>F8.K3 (by
  have:=(Prod.mk.inj (Prod.mk.inj e).2).1
  exact List.map_inj_left.mp this c hc)),UI.mp (SU.mp (Prod.mk.inj (Prod.mk.inj e).2).2).1,by
  have h:=SU.mp (SU.mp (Prod.mk.inj (Prod.mk.inj e).2).2).2
  exact⟨_,.of_isNs h.1,TN.mp h.2⟩⟩
 keeps:=λ_ _ _ x k=>x.keeps k
end
def JV:Value->Bool
 | .str _ _=>true
 |_=>false
def I4:Value->Bool
 | .int _ _=>true
 |_=>false
def Jn:Value->Bool
 | .bool _=>true
 |_=>false
theorem uK(h:JV v=true):∃x t,v=.str x t:=by
 cases v<;>first|exact⟨_,_,rfl⟩|cases h
theorem ol(h:I4 v=true):∃x t,v=.int x t:=by
 cases v<;>first|exact⟨_,_,rfl⟩|cases h
theorem sS(h:Jn v=true):∃x,v=.bool x:=by
 cases v<;>first|exact⟨_,rfl⟩|cases h
def JW:Data->Option FuncData
 | .func fd=>some fd
 |_=>none
theorem wd(h:JW d=some fd):d=.func fd:=by
 cases d<;>first|(cases h;rfl)|cases h
def NK(o:Obj)(vs:Array Value):Bool:=decide (o.cls=.type "code")&&(decide (vs[11]? =some (.ref 317))&&(JV (vs.getD 18 .none)&&(I4 (vs.getD 7 .none)&&(Jn (vs.getD 9 .none)&&I4 (vs.getD 10 .none)))))
def JX(o:Option Obj):Bool:=(o.bind λo=>(fieldsOf o.data).map λvs=>NK o vs)==some true
set_option tactic.hygienic true in
theorem vC(e:JX (h.get? 321)=true):CodeHd h 321 317:=by
 obtain⟨o,q,e⟩:=TI.mp (eq_of_beq e)
 obtain⟨vs,d,e⟩:=T2.mp e
 unfold NK at e
 simp only[SF,decide_eq_true_eq]at e
 obtain⟨e1,e2,e3,e4,e5,e6⟩:=e
 obtain⟨f,tf,e3⟩:=uK e3
 obtain⟨i,ti,e4⟩:=ol e4
 obtain⟨b,e5⟩:=sS e5
 obtain⟨j,tj,e6⟩:=ol e6
 exact⟨o,vs,f,tf,i,ti,b,j,tj,q,e1,km d,e2,by rw[Array.getD_eq_getD_getElem?,e2];rfl,e3,e4,e5,e6,by decide⟩
def codeOf(o:Option Obj):Option Value:=o.bind λo=>(JW o.data).map (·.code)
structure Jo (h:Heap):Prop where
 tab:h.get? 317=some (tabObj #[])
 hd:CodeHd h 321 317
 fn:∃o fd,h.get? 322=some o/\o.data=.func fd/\fd.code=.ref 321
 law:∃m,h.Ns mainGlobals m/\m "law"=some (.ref 322)
theorem Jo.keeps(x:Jo h)(k:∀b o,h.get? b=some o->h'.get? b=some o):Jo h':=by
 obtain⟨j,q,⟨o,fd,r,w⟩,m,A,B⟩:=x
 exact⟨k _ _ j,q.keeps k,⟨o,fd,k _ _ r,w⟩,m,A.keeps k,B⟩
set_option tactic.hygienic true in
noncomputable def GQ:Hook where
 α:=hook.α×Option Obj×Bool×Option Value×Bool×Option Value
 obs:=λs=>(hook.obs s,s.heap.get? 317,JX (s.heap.get? 321),codeOf (s.heap.get? 322),s.heap.isNs mainGlobals,s.heap.nsMap mainGlobals "law")
 val:=λw=>(hook.val w,some (tabObj #[]),true,some (.ref 321),true,some (.ref 322))
 says:=λw h=>G5 w h/\Jo h
 of:=λw s e=>by
  obtain⟨e0,e⟩:=Prod.mk.inj e
  obtain⟨e1,e⟩:=Prod.mk.inj e
  obtain⟨e2,e⟩:=Prod.mk.inj e
  obtain⟨e3,e⟩:=Prod.mk.inj e
  obtain⟨e4,e5⟩:=Prod.mk.inj e
  refine⟨hook.of w s e0,e1,vC e2,?_,_,.of_isNs e4,e5⟩
  obtain⟨o,h1,h2⟩:=TI.mp e3
  obtain⟨fd,h3,h4⟩:=T2.mp h2
  exact⟨o,fd,h1,wd h3,h4⟩
 keeps:=λ_ _ _ x k=>⟨x.1.keeps k,x.2.keeps k⟩
noncomputable def view:Program:={PySem.Challenge.rw_nz0393_01.row.toRowW.prog with main:={PySem.Challenge.rw_nz0393_01.row.toRowW.prog.main with body:=[top 0,top 2,top 3,top 5,top 7,top 8,top 9,top 10,top 11,top 13,top 14,top 15,top 16,top 17,top 18,top 19,top 20]}}
set_option maxRecDepth 100000 in
set_option maxHeartbeats 0 in
theorem NL:LeftO PySem.Challenge.rw_nz0393_01.row.prog Mine.view [] (λs=>xlAt Mine.view [] s&&recOk (RowW.records PySem.Challenge.rw_nz0393_01.row.toRowW) s) Mine.GQ.obs Mine.GQ.val 4662:=by
 intro w
 kernel_rfl
set_option maxRecDepth 100000 in
theorem NM:OpenLaw.wellSaid PySem.Challenge.rw_nz0393_01=true:=by
 kernel_rfl
section
set_option genInjectivity true in
inductive AV where
 |none|bool (b:Bool)|int (i:Int)|str (s:Str)|ref (a:Addr)|OB (v:Value)
 deriving DecidableEq
def av:Value->AV
 | .none=> .none| .bool b=> .bool b| .int i _=> .int i| .str s _=> .str s| .ref a=> .ref a|v=> .OB v
theorem fR(h:av v=.none):v=.none:=by cases v<;>first|rfl|cases h
theorem dX(h:av v=.bool b):v=.bool b:=by cases v<;>first|(cases h;rfl)|cases h
theorem dh(h:av v=.int i):∃t,v=.int i t:=by cases v<;>first|(cases h;exact⟨_,rfl⟩)|cases h
theorem qK(h:av v=.str x):∃t,v=.str x t:=by cases v<;>first|(cases h;exact⟨_,rfl⟩)|cases h
theorem cv(h:av v=.ref a):v=.ref a:=by cases v<;>first|(cases h;rfl)|cases h
set_option genInjectivity true in
inductive AO where
 |list (xs:List AV)
 |tup (xs:List AV)
 |EG (lo hi:Int)
 |D0 (kvs:List (Int×AV)) (o:Obj)
 |D4 (tab:Nat) (fl:List AV)
 |inst (C dx:Addr) (fl:List AV)
 |part (a:Addr)
 |obj (o:Obj)
abbrev AH:=Addr->Option AO
def AO.mut:AO->Bool
 | .list _| .D0 _ _| .D4 _ _| .inst _ _ _| .part _=>true
 |_=>false
def AO.own:AO->Bool
 | .inst _ _ _| .part _=>false
 |_=>true
def Ee(σ:AH)(a:Addr):Bool:=match σ a with|some o=>o.mut|none=>false
def upd(σ:AH)(a:Addr)(o:AO):AH:=λb=>if b=a then some o else σ b
@[simp] theorem bO(σ:AH)(a:Addr)(o:AO):upd σ a o a=some o:=by simp[upd]
theorem bP{o:AO}(h:b≠a):upd σ a o b=σ b:=by simp[upd,h]
@[elab_as_elim] theorem jC{o ob:AO}{motive:Addr->AO->Prop}(e:upd σ a o b=some ob)(j:motive a o)(m:b≠a->σ b=some ob->motive b ob):motive b ob:=by
 by_cases q:b=a
 ·subst q;rw[bO]at e;cases e;exact j
 ·rw[bP q]at e;exact m q e
theorem Ep{o:AO}(h:σ a=some o):Ee σ a=o.mut:=by unfold Ee;rw[h]
theorem cj(h:σ a=none):Ee σ a=false:=by unfold Ee;rw[h]
abbrev big:Nat:=1048576
def attrTab:Addr->List Str
 |103=>["ask","many","is_least"]
 |272=>["known","heights","causes","row","begins","seen","liked","rows","watching","heats","gain","log","is_refuted","blamed","clashes","conflict_limit"]
 |_=>[]
def EC:Nat->List Str
 |0=>["cells","spot"]
 |1=>["tape","formulas","asked","search"]
 |_=>[]
section
variable (prog:Program) (w:World)
def Fx(h:Heap)(a:Addr)(j:List Str)(q:List AV):Prop:=
 ∃m:List (Str×Value),h.DictOf (strKind prog w) a m/\m.map (·.1)=j.take q.length/\m.map (λp=>av p.2)=q
def OH(h:Heap)(a:Addr):AO->Prop
 | .list xs=>∃vs n,h.get? a=some ⟨.type "list",none,.seq vs n,#[]⟩/\vs.toList.map av=xs/\xs.length<=big
 | .tup xs=>∃vs n,h.get? a=some ⟨.type "tuple",none,.seq vs n,#[]⟩/\vs.toList.map av=xs/\xs.length<=big
 | .EG lo j=>∃t u v,IsRange h a lo j 1 t u v/\(-(big:Int)<=lo/\lo<=big/\ -(big:Int)<=j/\j<=big)
 | .D0 kvs o=>h.get? a=some o/\∃r:List (Int×Value),h.DictOf (intKind prog w) a r/\r.map (λp=>(p.1,av p.2))=kvs/\kvs.length<=big
 | .D4 m q=>Fx prog w h a (EC m) q
 | .inst C A q=>h.get? a=some ⟨.ref C,some A,.plain,#[]⟩/\Fx prog w h A (attrTab C) q
 | .part _=>∃ob,h.get? a=some ob
 | .obj o=>h.get? a=some o
def foot(a:Addr):AO->List Addr
 | .inst _ j _=>[a,j]
 |_=>[a]
variable {prog w}
theorem Fx.congr{j:List Str}(x:Fx prog w h a j m)(e:h'.get? a=h.get? a):Fx prog w h' a j m:=by
 obtain⟨q,⟨o,es,A,B,r⟩,C⟩:=x;exact⟨q,⟨o,es,A,e.trans B,r⟩,C⟩
theorem Fx.there{j:List Str}(x:Fx prog w h a j q):∃ob,h.get? a=some ob:=by
 obtain⟨A,⟨o,es,B,m,r⟩,C⟩:=x;exact⟨o,m⟩
theorem OH.congr{o:AO}(x:OH prog w h a o)(k:∀b∈foot a o,h'.get? b=h.get? b):OH prog w h' a o:=by
 have e:h'.get? a=h.get? a:=k a (by cases o<;>simp[foot])
 cases o with
 |list xs=>obtain⟨vs,n,j,m⟩:=x;exact⟨vs,n,e.trans j,m⟩
 |tup xs=>obtain⟨vs,n,j,m⟩:=x;exact⟨vs,n,e.trans j,m⟩
 |EG lo H=>obtain⟨t,u,v,j,m⟩:=x;exact⟨t,u,v,e.trans j,m⟩
 |D0 kvs o=>obtain⟨q,A,⟨o,es,B,j,r⟩,m⟩:=x;exact⟨e.trans q,A,⟨o,es,B,e.trans j,r⟩,m⟩
 |D4 D E=>exact Fx.congr x e
 |inst C G E=>exact⟨e.trans x.1,x.2.congr (k G (by simp[foot]))⟩
 |part b=>obtain⟨ob,j⟩:=x;exact⟨ob,e.trans j⟩
 |obj o=>exact e.trans x
theorem OH.there{o:AO}(x:OH prog w h a o):∀b∈foot a o,∃ob,h.get? b=some ob:=by
 intro b j
 cases o with
 |list xs=>obtain⟨vs,n,m,q⟩:=x;simp[foot]at j;exact j▸⟨_,m⟩
 |tup xs=>obtain⟨vs,n,m,q⟩:=x;simp[foot]at j;exact j▸⟨_,m⟩
 |EG lo D=>obtain⟨t,u,v,m,q⟩:=x;simp[foot]at j;exact j▸⟨_,m⟩
 |D0 kvs o=>obtain⟨r,_⟩:=x;simp[foot]at j;exact j▸⟨_,r⟩
 |D4 A B=>simp[foot]at j;exact j▸Fx.there x
 |inst C E B=>
  simp[foot]at j
  rcases j with rfl|rfl
  ·exact⟨_,x.1⟩
  ·exact x.2.there
 |part c=>simp[foot]at j;exact j▸x
 |obj o=>simp[foot]at j;exact j▸⟨_,x⟩
theorem OH.JY{o:AO}(x:OH prog w h a o):∃ob,h.get? a=some ob:=x.there a (by cases o<;>simp[foot])
theorem OH.kept{o:AO}(x:OH prog w h a o)(k:∀b ob,h.get? b=some ob->h'.get? b=some ob):OH prog w h' a o:=
 x.congr λb j=>by obtain⟨ob,e⟩:=x.there b j;exact(k b ob e).trans e.symm
end
structure Cx where
 L:Addr
 D1:Env
 outer:List Env
 base:Heap
 os:OsState
structure GT (g:Heap):Prop where
 glob:∃mg mb,g.Ns mainGlobals mg/\g.Ns builtinsNs mb/\(∀x:Str,x≠"__name__"->mb x=bootBuiltins x)
 nolimit:g.NoLimit
theorem GT.keeps(x:GT g)(k:∀b o,g.get? b=some o->j.get? b=some o):GT j:=by
 obtain⟨⟨mg,m,q,r,w⟩,A⟩:=x
 exact⟨⟨mg,m,q.keeps k,r.keeps k,w⟩,A.keeps k⟩
structure NN (w:World) (c:Cx):Prop where
 says:G5 w c.base
 gt:GT c.base
 frame:c.D1.frame=some c.L
 kind:c.D1.scope.kind=.function
def D2(c:Cx):List Addr:=(c.D1::c.outer).filterMap (·.frame)
def Parts(σ:AH):Prop:=∀a C j m,σ a=some (.inst C j m)->σ j=some (.part a)
def Pg(prog:Program):Prop:=(prog.main.file:Str)=Gg/\(prog.main.scope.names.lookup (Str.ofString "super")).isSome=false
structure w' (prog:Program) (w:World) (c:Cx) (σ:AH) (s:Shared):Prop where
 ok:NN w c
 stays:∀b o,c.base.get? b=some o->s.heap.get? b=some o
 frames:s.heap.FunFrames c.base (c.D1::c.outer)
 ns:∃mc,s.heap.Ns c.L mc
 own:∀a o,σ a=some o->OH prog w s.heap a o
 parts:Parts σ
 apart:∀a,Ee σ a=true->c.base.get? a=none/\a∉D2 c
 off:∀a,σ a≠none->a∉D2 c
 gens:s.gens=#[]
 os:s.os=c.os/\Pg prog
structure Kp (c:Cx) (σ:AH) (s:Shared) (Eb:AH) (s':Shared):Prop where
 keep:∀b ob,Ee σ b=false->s.heap.get? b=some ob->∃sl,s'.heap.get? b=some {ob with slots:=sl}/\(b∉D2 c->sl=ob.slots)
 fresh:∀a,Ee Eb a=true->Ee σ a=true\/s.heap.get? a=none
 GR:∀a o,Eb a=some o->σ a≠none\/s.heap.get? a=none
theorem Kp.refl(c:Cx)(σ:AH)(s:Shared):Kp c σ s σ s:=⟨λb ob j e=>⟨ob.slots,e,λj=>rfl⟩,λa h=> .inl h,λa o h=> .inl (by rw[h];simp)⟩
theorem Kp.trans{s m r:Shared}(x:Kp c σ s j m)(y:Kp c j m A r):Kp c σ s A r:=by
 have w:∀a,m.heap.get? a=none->Ee σ a=true\/s.heap.get? a=none:=λa h=>by
  cases B:Ee σ a with
  |true=>exact .inl rfl
  |false=>
   right
   cases q:s.heap.get? a with
   |none=>rfl
   |some ob=>obtain⟨G,e,_⟩:=x.keep a ob B q;rw[h]at e;cases e
 refine⟨λb ob B e=>?_,λa h=>?_,λa o h=>?_⟩
 ·obtain⟨G,e1,H⟩:=x.keep b ob B e
  have C:Ee j b=false:=by
   cases q:Ee j b with
   |false=>rfl
   |true=>
    rcases x.fresh b q with h|h
    ·rw[B]at h;cases h
    ·rw[h]at e;cases e
  obtain⟨D,I,J⟩:=y.keep b _ C e1
  exact⟨D,I,λE=>(J E).trans (H E)⟩
 ·rcases y.fresh a h with h|h
  ·exact x.fresh a h
  ·exact w a h
 ·rcases y.GR a o h with h|h
  ·cases q:j a with
   |none=>exact absurd q h
   |some o'=>exact x.GR a o' q
  ·rcases w a h with h|h
   ·left;intro q;unfold Ee at h;rw[q]at h;cases h
   ·exact .inr h
structure MM (σ:AH) (s:Shared) (Eb:AH) (s':Shared):Prop where
 keep:∀b ob,Ee σ b=false->s.heap.get? b=some ob->s'.heap.get? b=some ob
 fresh:∀a,Ee Eb a=true->Ee σ a=true\/s.heap.get? a=none
 GR:∀a o,Eb a=some o->σ a≠none\/s.heap.get? a=none
theorem MM.kp{s q:Shared}(x:MM σ s m q):Kp c σ s m q:=⟨λb ob r e=>⟨ob.slots,x.keep b ob r e,λj=>rfl⟩,x.fresh,x.GR⟩
theorem rT{o o':AO}{h:Heap}(e:σ a=some o):∀b ob,upd σ a o' b=some ob->σ b≠none\/h.get? b=none:=λb ob q=>by
 by_cases z:b=a
 ·subst z;left;rw[e];simp
 ·rw[bP z]at q;left;rw[q];simp
theorem r8{o':AO}{h:Heap}(e:h.get? a=none):∀b ob,upd σ a o' b=some ob->σ b≠none\/h.get? b=none:=λb ob q=>by
 by_cases z:b=a
 ·subst z;exact .inr e
 ·rw[bP z]at q;left;rw[q];simp
section
theorem w'.K4(x:w' prog w c σ s)(e:c.base.get? b=some o):Ee σ b=false:=by
 cases q:Ee σ b with
 |false=>rfl
 |true=>rw[(x.apart b q).1]at e;cases e
theorem w'.Gh(x:w' prog w c σ s)(e:b∈D2 c):Ee σ b=false:=by
 cases q:Ee σ b with
 |false=>rfl
 |true=>exact absurd e (x.apart b q).2
theorem w'.Gz(x:w' prog w c σ s):c.L∈D2 c:=by
 unfold D2;rw[Tc,x.ok.frame];exact Sy
theorem e9{h h' base:Heap}:h.FunFrames base l->(∀b∈l.filterMap (·.frame),∀o,h.get? b=some o->∃o',h'.get? b=some o'/\o'.data=o.data)->h'.FunFrames base l:=by
 induction l with
 |nil=>exact λj j=>trivial
 |cons env m ih=>
  intro g k
  have x:=g.2.1
  obtain⟨L,o,r,A,B,C⟩:=x
  have w:(env::m).filterMap (·.frame)=L::m.filterMap (·.frame):=by rw[Tc,r]
  obtain⟨o',e,q⟩:=k L (w▸.head _) o B
  exact⟨g.1,⟨L,o',r,A,e,λvs D=>C vs (q▸D)⟩,ih g.2.2 λb E=>k b (w▸.tail _ E)⟩
theorem df{h h':Heap}{m:Str->Option Value}(q:h.Ns a m)(k:∀o,h.get? a=some o->∃j,h'.get? a=some {o with slots:=j}):h'.Ns a m:=by
 obtain⟨o,es,w,A,B,r⟩:=q
 obtain⟨j,e⟩:=k o A
 exact⟨_,es,w,e,B,r⟩
theorem w'.step(x:w' prog w c σ s)(k:Kp c σ s m A)(C:∀a o,m a=some o->OH prog w A.heap a o)(E:Parts m)(G:A.gens=s.gens)(H:A.os=s.os):w' prog w c m A:=by
 have D:∀b o,b∈D2 c->s.heap.get? b=some o->∃B,A.heap.get? b=some {o with slots:=B}:=λb o j e=>by
  obtain⟨B,r,_⟩:=k.keep b o (x.Gh j) e
  exact⟨B,r⟩
 refine⟨x.ok,λb o e=>?_,e9 x.frames λb j o e=>?_,?_,C,E,λa h=>?_,λa h j=>?_,G.trans x.gens,⟨H.trans x.os.1,x.os.2⟩⟩
 ·obtain⟨B,r,h⟩:=k.keep b o (x.K4 e) (x.stays b o e)
  have:b∉D2 c:=λj=>by rw[(x.frames.mem j).1]at e;cases e
  rw[h this]at r;exact r
 ·obtain⟨B,r⟩:=D b o j e
  exact⟨_,r,rfl⟩
 ·obtain⟨I,h⟩:=x.ns
  exact⟨I,df h λo e=>D c.L o x.Gz e⟩
 ·rcases k.fresh a h with h|h
  ·exact x.apart a h
  ·refine⟨?_,λj=>?_⟩
   ·cases q:c.base.get? a with
    |none=>rfl
    |some o=>rw[x.stays a o q]at h;cases h
   ·obtain⟨_,o,e,_⟩:=x.frames.mem j
    rw[e]at h;cases h
 ·cases q:m a with
  |none=>exact h q
  |some o=>
   rcases k.GR a o q with h'|h'
   ·exact x.off a h' j
   ·obtain⟨_,o,e,_⟩:=x.frames.mem j
    rw[e]at h';cases h'
theorem Parts.ne(x:Parts σ){o ob:AO}(q:σ a=some o)(r:o.own=true)(w:σ b=some ob)(j:b≠a):∀c∈foot b ob,c≠a:=by
 intro c m
 cases ob with
 |inst C B A=>
  simp[foot]at m
  rcases m with rfl|rfl
  ·exact j
  ·rintro rfl
   rw[x b C c A w]at q;cases q;cases r
 |_=>simp[foot]at m;exact m▸j
theorem Parts.upd(x:Parts σ){o o':AO}(A:∀q,σ a=some q->q.own=true)(m:o'.own=true):Parts (upd σ a o'):=by
 intro b C r B j
 by_cases q:b=a
 ·subst q;rw[bO]at j;cases j;cases m
 ·rw[bP q]at j
  have:=x b C r B j
  by_cases w:r=a
  ·subst w;have:=A _ this;cases this
  ·rw[bP w];exact this
theorem eo{h':Heap}{tk:Nat}(x:w' prog w c σ s)(m:σ d=some o)(hs:Heap.SameBut d s.heap h')(C:OH prog w h' d o')(D:o.mut=true:=by rfl)(E:o'.mut=true:=by rfl)(B:o.own=true:=by rfl)(A:o'.own=true:=by rfl):
  w' prog w c (upd σ d o') {s with heap:=h',toks:=tk}/\Kp c σ s (upd σ d o') {s with heap:=h',toks:=tk}:=by
 have j:Ee σ d=true:=(Ep m).trans D
 have k:MM σ s (upd σ d o') {s with heap:=h',toks:=tk}:=by
  refine⟨λb ob r e=>(hs.2 b (λq=>by rw[q,j]at r;cases r)).trans e,λa h=>?_,rT m⟩
  by_cases q:a=d
  ·subst q;exact .inl j
  ·left;unfold Ee at h;rw[bP q]at h;exact h
 refine⟨x.step k.kp (λa ob e=>?_) (x.parts.upd (o:=o) (λq e=>by rw[m]at e;cases e;exact B) A) rfl rfl,k.kp⟩
 refine jC e ?_ λq e=>?_
 ·exact C
 ·exact(x.own a ob e).congr λb r=>hs.2 b (x.parts.ne m B e q b r)
theorem wH{h':Heap}{tk:Nat}(x:w' prog w c σ s)(D:σ a=some (.inst C A Z))(hs:Heap.SameBut A s.heap h')(N:Fx prog w h' A (attrTab C) E):
  w' prog w c (upd σ a (.inst C A E)) {s with heap:=h',toks:=tk}/\Kp c σ s (upd σ a (.inst C A E)) {s with heap:=h',toks:=tk}:=by
 have m:=x.parts _ _ _ _ D
 have G:Ee σ a=true:=Ep D
 have H:Ee σ A=true:=Ep m
 have I:a≠A:=by rintro rfl;rw[D]at m;cases m
 have k:MM σ s (upd σ a (.inst C A E)) {s with heap:=h',toks:=tk}:=by
  refine⟨λb ob r e=>(hs.2 b (λq=>by rw[q,H]at r;cases r)).trans e,λb h=>?_,rT D⟩
  by_cases q:b=a
  ·subst q;exact .inl G
  ·left;unfold Ee at h;rw[bP q]at h;exact h
 refine⟨x.step k.kp (λb ob e=>?_) (λb C' J Q r=>?_) rfl rfl,k.kp⟩
 ·by_cases q:b=a
  ·subst q;rw[bO]at e;cases e
   exact⟨(hs.2 b I).trans (x.own _ _ D).1,N⟩
  ·rw[bP q]at e
   by_cases O:b=A
   ·clear k H
    subst O;rw[m]at e;cases e
    exact(hs.1:_)|>λj=>N.there
   ·refine(x.own b ob e).congr λf M=>hs.2 f ?_
    clear k H N hs
    rintro rfl
    cases ob with
    |inst C2 U Y=>
     simp[foot]at M
     rcases M with rfl|rfl
     ·exact O rfl
     ·have:=x.parts _ _ _ _ e
      rw[m]at this;cases this;exact q rfl
    |_=>simp[foot]at M;exact O M.symm
 ·have B:J≠a:=by
   clear k G
   rintro rfl
   by_cases q:b=J
   ·subst q;rw[bO]at r;cases r;exact I rfl
   ·rw[bP q]at r
    have:=x.parts _ _ _ _ r;rw[D]at this;cases this
  rw[bP B]
  by_cases q:b=a
  ·clear B k I G D
   subst q;rw[bO]at r;cases r;exact m
  ·rw[bP q]at r;exact x.parts _ _ _ _ r
theorem ci(x:w' prog w c σ s)(k:∀b o,s.heap.get? b=some o->h'.get? b=some o):
  w' prog w c σ {s with heap:=h',toks:=tk}/\Kp c σ s σ {s with heap:=h',toks:=tk}:=by
 have m:MM σ s σ {s with heap:=h',toks:=tk}:=⟨λb ob j e=>k b ob e,λa h=> .inl h,λa o h=> .inl (by rw[h];simp)⟩
 exact⟨x.step m.kp (λa ob e=>(x.own a ob e).kept k) x.parts rfl rfl,m.kp⟩
theorem cu(x:w' prog w c σ s):w' prog w c σ {s with toks:=tk}/\Kp c σ s σ {s with toks:=tk}:=
 ci (h':=s.heap) x λj j e=>e
theorem bV(x:w' prog w c σ s)(j:s.heap.get? a=none):σ a=none:=by
 cases q:σ a with
 |none=>rfl
 |some ob=>obtain⟨_,e⟩:=(x.own a ob q).JY;rw[j]at e;cases e
theorem iV{h':Heap}{tk:Nat}(x:w' prog w c σ s)(k:∀b o,s.heap.get? b=some o->h'.get? b=some o)(m:s.heap.get? a=none)(B:OH prog w h' a o)(C:o.own=true:=by rfl):
  σ a=none/\w' prog w c (upd σ a o) {s with heap:=h',toks:=tk}/\Kp c σ s (upd σ a o) {s with heap:=h',toks:=tk}:=by
 have r:σ a=none:=bV x m
 have A:MM σ s (upd σ a o) {s with heap:=h',toks:=tk}:=by
  refine⟨λb ob j e=>k b ob e,λb h=>?_,r8 m⟩
  by_cases q:b=a
  ·subst q;exact .inr m
  ·left;unfold Ee at h;rw[bP q]at h;exact h
 refine⟨r,x.step A.kp (λb ob e=>?_) (x.parts.upd (o:=o) (λq e=>by rw[r]at e;cases e) C) rfl rfl,A.kp⟩
 refine jC e ?_ λq e=>?_
 ·exact B
 ·exact(x.own b ob e).kept k
theorem w'.less(x:w' prog w c m s)(B:Parts σ)(h:∀a o,σ a=some o->m a=some o):w' prog w c σ s:=
 ⟨x.ok,x.stays,x.frames,x.ns,λa o e=>x.own a o (h a o e),B,λa j=>x.apart a (by
  unfold Ee at j⊢
  cases q:σ a with
  |none=>rw[q]at j;cases j
  |some o=>rw[q]at j;rw[h a o q];exact j),(λa q=>x.off a λr=>by
  cases A:σ a with
  |none=>exact q A
  |some o=>rw[h a o A]at r;cases r),x.gens,x.os⟩
theorem Kp.less(x:Kp c j m w s)(h:∀a o,σ a=some o->w a=some o):Kp c j m σ s:=
 ⟨x.keep,λa r=>x.fresh a (by
  unfold Ee at r⊢
  cases q:σ a with
  |none=>rw[q]at r;cases r
  |some o=>rw[q]at r;rw[h a o q];exact r),λa o e=>x.GR a o (h a o e)⟩
theorem bW(h:Heap):h.get? h.objs.size=none:=by
 cases q:h.get? h.objs.size with
 |none=>rfl
 |some o=>exact absurd (TQ q) (T3 _)
theorem w'.says(x:w' prog w c σ s):G5 w s.heap:=x.ok.says.keeps x.stays
theorem w'.gt(x:w' prog w c σ s):GT s.heap:=x.ok.gt.keeps x.stays
theorem w'.Fm(x:w' prog w c σ s)(h:Ee σ d=true):(d==sysModules)=false:=by
 obtain⟨o,e⟩:=x.ok.says.2.2.1
 cases q:d==sysModules with
 |false=>rfl
 |true=>rw[<-beq_iff_eq.mp q,(x.apart d h).1]at e;cases e
end
end
section
abbrev EO:=AV->AH->Prop
inductive Ec (prog:Program) (w:World) (c:Cx) (σ:AH) (s:Shared) (Q:EO) (v:Value) (s':Shared):Prop
 |mk (Eb) (h0:w' prog w c Eb s') (h1:Kp c σ s Eb s') (h2:Q (av v) Eb)
inductive HN (prog:Program) (w:World) (c:Cx) (σ:AH) (s:Shared) (Q:AH->Prop) (_:Unit) (s':Shared):Prop
 |mk (Eb) (h0:w' prog w c Eb s') (h1:Kp c σ s Eb s') (h2:Q Eb)
def GA(op:Operator)(a b:AV)(Q:EO)(σ:AH):Prop:=∀prog w c s A E v u,w' prog w c σ s->av v=a->av u=b->wpAny (model prog w) A (binaryOp op v u) (Ec prog w c σ s Q) E s
def HE(σ:AH)(n:Nat)(a b:AV)(r:Bool):Prop:=∀prog w c s A v u,w' prog w c σ s->A.units+n<cLine->av v=a->av u=b->RcAt A s v u r/\RcNeAt A s v u (!r)/\EqAt A s v u r
section
variable {A:Around}
theorem QE(e:x=y)(h:wpAny (model prog w) A y Q E s):wpAny (model prog w) A x Q E s:=by subst e;exact h
theorem wl(h:let m:=M;let q:=Q;let e:=E;wpAny m A x q e s):wpAny M A x Q E s:=h
theorem wc{c:Code}(h:let m:=M;let r:=R;codeAny m A c r s):codeAny M A c R s:=h
theorem cn(h:n<=big):n<=sizeLine:=SJ h (by rw[sizeLine_eq];decide)
theorem ua{y:Int}(j:0<y)(h:y<2^64):y.natAbs.log2<9000:=by
 have:=(Nat.log2_lt (n:=y.natAbs) (k:=64) (by omega)).mpr (Int.natAbs_lt_natAbs_of_nonneg_of_lt (UT j) h)
 exact Nat.lt_trans this (by decide)
theorem iN(x:w' prog w c σ s)(q:Q (av v) σ):Ec prog w c σ s Q v s:=⟨σ,x,.refl ..,q⟩
theorem cC(x:w' prog w c σ s)(q:Q (av v) σ):Ec prog w c σ s Q v {s with toks:=tk}:=⟨σ,(cu x).1,(cu x).2,q⟩
theorem rY(x:w' prog w c σ s)(k:∀b o,s.heap.get? b=some o->h'.get? b=some o)(j:s.heap.get? a=none)(m:OH prog w h' a o)(q:∀z,σ z=none->Q (.ref z) (upd σ z o))(r:o.own=true:=by rfl):
  Ec prog w c σ s Q (.ref a) {s with heap:=h',toks:=tk}:=
 (by obtain⟨B,C,D⟩:=iV x k j m r;exact⟨_,C,D,q _ B⟩)
theorem iX(x:w' prog w c σ s)(j:OH prog w (s.heap.push ob) s.heap.objs.size o)(q:∀z,σ z=none->Q (.ref z) (upd σ z o))(m:o.own=true:=by rfl):
  Ec prog w c σ s Q (.ref s.heap.objs.size) {s with heap:=s.heap.push ob,toks:=tk}:=rY x (λb o e=>Sq _ e) (bW s.heap) j q m
theorem pa(x:w' prog w c σ s)(hz:(vs.toList.map av).length<=big)(q:∀z,σ z=none->Q (.ref z) (upd σ z (.list (vs.toList.map av)))):
  Ec prog w c σ s Q (.ref s.heap.objs.size) {s with heap:=s.heap.push {cls:=.type "list",data:=.seq vs n},toks:=tk}:=iX (o:=.list (vs.toList.map av)) x ⟨vs,n,SM _ rfl,rfl,hz⟩ q
theorem j5(x:w' prog w c σ s)(hz:(vs.toList.map av).length<=big)(q:∀z,σ z=none->Q (.ref z) (upd σ z (.tup (vs.toList.map av)))):
  Ec prog w c σ s Q (.ref s.heap.objs.size) {s with heap:=s.heap.push {cls:=.type "tuple",data:=.seq vs n},toks:=tk}:=iX (o:=.tup (vs.toList.map av)) x ⟨vs,n,SM _ rfl,rfl,hz⟩ q
theorem Ec.less(k:Kp c σ s r B)(h:Ec prog w c r B Q v m):Ec prog w c σ s Q v m:=(by obtain⟨j,L,C,q⟩:=h;exact⟨j,L,k.trans C,q⟩)
@[elab_as_elim] theorem i1{P:Value->Prop}(h:av v=.int i)(k:∀t,P (.int i t)):P v:=(by obtain⟨t,e⟩:=dh h;exact e▸k t)
@[elab_as_elim] theorem ii{P:Value->Value->Prop}(h:av v=.int i)(g:av u=.int j)(k:∀t r,P (.int i t) (.int j r)):P v u:=by obtain⟨t,rfl⟩:=dh h;obtain⟨r,rfl⟩:=dh g;exact k t r
@[elab_as_elim] theorem r1{P:Value->Prop}(h:av v=.ref a)(k:P (.ref a)):P v:=cv h▸k
@[elab_as_elim] theorem rr{P:Value->Value->Prop}(h:av v=.ref a)(g:av u=.ref b)(k:P (.ref a) (.ref b)):P v u:=by rw[cv h,cv g];exact k
@[elab_as_elim] theorem NO{P:Value->Value->Prop}(h:av v=.ref a)(g:av u=.int i)(k:∀t,P (.ref a) (.int i t)):P v u:=by obtain⟨t,rfl⟩:=dh g;rw[cv h];exact k t
theorem GB{vs:Array Value}:(vs.toList.map av).length<=m↔vs.size<=m:=by rw[Su,Tz]
theorem EJ(vs:Array Value):(vs.toList.map av).length=vs.size:=by rw[Su,Tz]
theorem listOf(x:OH prog w h a (.list xs)):∃vs,h.IsList a vs/\vs.toList.map av=xs:=(by obtain⟨vs,n,e,r,_⟩:=x;exact⟨vs,⟨_,e,rfl,n,rfl⟩,r⟩)
theorem Ip(x:OH prog w h a (.tup xs)):∃vs,h.IsTuple a vs/\vs.toList.map av=xs:=(by obtain⟨vs,n,e,r,_⟩:=x;exact⟨vs,⟨_,e,rfl,n,rfl⟩,r⟩)
section
theorem Cj(x:w' prog w c σ s)(j:av v=a)(m:av u=b)(h:GA op a b Q σ):wpAny (model prog w) A (binaryOp op v u) (Ec prog w c σ s Q) E s:=h _ _ _ _ _ _ _ _ x j m
theorem su(q:Q (.int (i+j)) σ):GA .Add (.int i) (.int j) Q σ:=λm m m m m m m m x r w=>ii r w λm m=>PyProof.Rows.add_int (cC x q)
theorem AB(q:Q (.int (i-j)) σ):GA .Sub (.int i) (.int j) Q σ:=λm m m m m m m m x r w=>ii r w λm m=>PyProof.Rows.sub_int (cC x q)
theorem zk(z: -(2^64)<i/\i<2^64)(q:Q (.int (i*j)) σ):GA .Mult (.int i) (.int j) Q σ:=λm m m m m m m m x r w=>ii r w λm m=>PyProof.Rows.mul_int (cC x q) (IntMulOk.of_left (intBits_le_64 z.1 z.2))
theorem AZ(z:0<j/\j<2^64)(q:Q (.int (i/j)) σ):GA .FloorDiv (.int i) (.int j) Q σ:=λm m m m m m m m x r w=>ii r w λm m=>
 PyProof.Rows.floordiv_int (Int.ne_of_gt z.1) (cC x (Int.fdiv_eq_ediv_of_nonneg _ (UT z.1)▸q)) (.inl (PyProof.noPylong_of_log2 (ua z.1 z.2)))
theorem zW(z:0<j)(q:Q (.int (i%j)) σ):GA .Mod (.int i) (.int j) Q σ:=λm m m m m m m m x r w=>ii r w λm m=>
 PyProof.Rows.mod_int (Int.ne_of_gt z) (cC x (Int.fmod_eq_emod_of_nonneg _ (UT z)▸q))
theorem y5(z:0<=j/\j<=1000/\i.natAbs<2^64)(q:Q (.int (i^j.toNat)) σ):GA .Pow (.int i) (.int j) Q σ:=λm m m m m m m m x r w=>ii r w λm m=>
 PyProof.Rows.pow_int_small z.1 (Int.le_trans z.2.1 (by decide)) z.2.2 (cC x q)
theorem ny{vs j:Array Value}(h:(vs.toList.map av).length+(j.toList.map av).length<=big):vs.size+j.size<=big:=by rw[EJ,EJ]at h;exact h
theorem ib(vs j:Array Value):(vs++j).toList.map av=vs.toList.map av++j.toList.map av:=by rw[Array.toList_append,SX]
theorem yG(h:σ x=some (.list xs))(g:σ y=some (.list ys))(hz:xs.length+ys.length<=big)(q:∀z,σ z=none->Q (.ref z) (upd σ z (.list (xs++ys)))):GA .Add (.ref x) (.ref y) Q σ:=λj j j j j j j j L m r=>rr m r (by
 obtain⟨vs,n,e1,rfl,_⟩:=L.own _ _ h
 obtain⟨B,C,w,rfl,_⟩:=L.own _ _ g
 refine PySem.P.add_list e1 w (pa L ?_ ?_) (cn (ny hz))
 ·rw[ib,Sw];exact hz
 ·rw[ib];exact q)
theorem CH(h:σ x=some (.tup xs))(g:σ y=some (.tup ys))(r:xs≠[])(w:ys≠[])(hz:xs.length+ys.length<=big)(q:∀z,σ z=none->Q (.ref z) (upd σ z (.tup (xs++ys)))):GA .Add (.ref x) (.ref y) Q σ:=λj j j j j j j j L B C=>rr B C (by
 obtain⟨vs,n,e1,rfl,_⟩:=L.own _ _ h
 obtain⟨E,G,D,rfl,_⟩:=L.own _ _ g
 have m:∀{vs:Array Value},vs.toList.map av≠[]->¬vs.isEmpty=true:=λh e=>h (by rw[Array.isEmpty_iff.mp e];rfl)
 refine PySem.P.add_tuple e1 D (m r) (m w) (j5 L ?_ ?_) (cn (ny hz))
 ·rw[ib,Sw];exact hz
 ·rw[ib];exact q)
end
section
theorem u0(h:A.units+n<cLine):A.units<cLine:=Ud (Uz ..) h
theorem tQ{i j:Int}:HE σ n (.int i) (.int j) (i==j):=λm m m m m m m m m q r=>ii q r λm m=>⟨.int_int _ _ _ _,.int_int _ _ _ _,.int_int _ _ _ _⟩
theorem BH:HE σ n (.bool i) (.bool j) (i==j):=λm m m m m m m m m q r=>by rw[dX q,dX r];exact⟨.bool_bool _ _,.bool_bool _ _,.bool_bool _ _⟩
theorem yB:HE σ n (.str i) (.str j) (i==j):=λm m m m m m m m m q r=>by
 obtain⟨t,rfl⟩:=qK q;obtain⟨w,rfl⟩:=qK r;exact⟨.str_str _ _ _ _,.str_str _ _ _ _,.str_str _ _ _ _⟩
theorem tS:HE σ n .none (.bool b) false:=λj j j j j j j j j m q=>by rw[fR m,dX q];exact⟨.none_bool _,.none_bool _,.none_bool _⟩
theorem Do(h:σ x=some (.tup xs)):HE σ n (.ref x) (.str t) false:=λj j j j j j j L m r w=>by
 obtain⟨vs,q,_⟩:=Ip (L.own _ _ h)
 obtain⟨t,rfl⟩:=qK w
 rw[cv r];exact⟨.tuple_str _ _ q (u0 m),.tuple_str _ _ q (u0 m),.tuple_str _ _ q (u0 m)⟩
theorem pn(hs:x=y->r=true)(h:RcAt A s (.ref x) (.ref y) r):EqAt A s (.ref x) (.ref y) r:=by
 by_cases q:x=y
 ·subst q;rw[hs rfl];exact .same _
 ·exact .of_refs q h
theorem yR{vs:Array Value}(h:j<vs.size):(vs.toList.map av)[j]? =some (av vs[j]):=by
 rw[SG,Ux,T8 h];rfl
theorem yQ{vs m:Array Value}{e:Nat->Bool}(L:w' prog w c σ s)(q:A.units+(n+1)<cLine)(he:∀j a b,(vs.toList.map av)[j]? =some a->(m.toList.map av)[j]? =some b->HE σ n a b (e j))(j:Nat)(r:j<vs.size)(B:j<m.size):EqAt A.in1 s vs[j] m[j] (e j):=
 (he j _ _ (yR r) (yR B) _ _ _ _ A.in1 _ _ L (by show A.units+1+n<cLine;rw[Nat.add_assoc,Nat.add_comm 1];exact q) rfl rfl).2.2
theorem tZ{e:Nat->Bool}{r:Bool}(G:σ x=some (.list xs))(H:σ y=some (.list ys))(w:xs.length=ys.length)(he:∀j a b,xs[j]? =some a->ys[j]? =some b->HE σ n a b (e j))(C:(List.range xs.length).all e=r)(hs:x=y->r=true):HE σ (n+1) (.ref x) (.ref y) r:=λm m m m m m m L B I J=>rr I J (by
 obtain⟨vs,D,rfl⟩:=listOf (L.own _ _ G)
 obtain⟨M,E,rfl⟩:=listOf (L.own _ _ H)
 rw[EJ,EJ]at w
 rw[EJ]at C
 have q:=yQ L B he
 subst C
 have r1:=RcAt.lists D E w (u0 B) q
 exact⟨r1,RcNeAt.lists D E w (u0 B) q,pn hs r1⟩)
theorem yX(B:σ x=some (.list xs))(m:σ y=some (.list ys))(w:xs.length≠ys.length):HE σ n (.ref x) (.ref y) false:=λj j j j j j j L C G H=>rr G H (by
 obtain⟨vs,D,rfl⟩:=listOf (L.own _ _ B)
 obtain⟨I,E,rfl⟩:=listOf (L.own _ _ m)
 rw[EJ,EJ]at w
 have r:(vs.size !=I.size)=true:=bne_iff_ne.mpr w
 have r1:=RcAt.lists_lengths D E r (u0 C)
 exact⟨r1,RcNeAt.lists_lengths D E r (u0 C),pn (λq=>by subst q;rw[B]at m;injection m with m;injection m with m;exact absurd (by rw[<-EJ,m,EJ]) w) r1⟩)
theorem DW{e:Nat->Bool}{r:Bool}(E:σ x=some (.tup xs))(G:σ y=some (.tup ys))(he:∀j a b,xs[j]? =some a->ys[j]? =some b->HE σ n a b (e j))(B:((List.range (min xs.length ys.length)).all e&&xs.length==ys.length)=r)(hs:x=y->r=true):HE σ (n+1) (.ref x) (.ref y) r:=λm m m m m m m L w H I=>rr H I (by
 obtain⟨vs,C,rfl⟩:=Ip (L.own _ _ E)
 obtain⟨J,D,rfl⟩:=Ip (L.own _ _ G)
 rw[EJ,EJ]at B
 have q:=yQ L w he
 subst B
 have r1:=RcAt.tuples C D (u0 w) q
 exact⟨r1,RcNeAt.tuples C D (u0 w) q,pn hs r1⟩)
end
end
end
section
section
variable {K:Type} [DecidableEq K]
def lk(kvs:List (K×V))(k:K):Option V:=(kvs.find? λj=>j.1=k).map (·.2)
def put(kvs:List (K×V))(k:K)(v:V):List (K×V):=if kvs.any (λj=>j.1=k)then kvs.map (λj=>if j.1=k then(j.1,v)else j)else kvs++[(k,v)]
def del(kvs:List (K×V))(k:K):List (K×V):=kvs.filter λj=>decide (j.1≠k)
def GS(kvs more:List (K×V)):List (K×V):=more.foldl (λj m=>put j m.1 m.2) kvs
abbrev Gy:K×Value->K×AV:=λp=>(p.1,av p.2)
theorem j6(j:List (K×Value))(k:K):lk (j.map Gy) k=(valueAt j k).map av:=by
 delta lk valueAt
 induction j with
 |nil=>rfl
 |cons p r ih=>
  simp only[TM,UU]
  by_cases h:p.1=k
  ·simp[h]
  ·simp only[h,decide_false];exact ih
theorem qn(m:List (K×Value))(k:K)(v:Value):(stored m k v).map Gy=put (m.map Gy) k (av v):=by
 delta stored put
 have:(m.map Gy).any (λq=>decide (q.1=k))=m.any (λq=>decide (q.1=k)):=by rw[UE];rfl
 rw[this]
 split
 ·rw[Td,Td]
  refine TX λp j=>?_
  simp only[Function.comp]
  by_cases h:p.1=k<;>simp[h]
 ·simp
theorem Bo(j:List (K×Value))(k:K):(without j k).map Gy=del (j.map Gy) k:=by
 delta without del
 rw[Uo];rfl
theorem vZ(more j:List (K×Value)):(merged j more).map Gy=GS (j.map Gy) (more.map Gy):=by
 delta merged GS
 induction more generalizing j with
 |nil=>rfl
 |cons p r ih=>simp only[List.foldl_cons,TM];rw[ih,qn]
theorem tP(kvs:List (K×V))(k:K)(v:V):(put kvs k v).length<=kvs.length+1:=by
 delta put;split<;>simp
theorem sI(kvs:List (K×V))(k:K):(del kvs k).length<=kvs.length:=TG ..
end
def ix(xs:List AV)(k:Int):Option AV:=(seqIndex? k xs.length).bind (xs[·]?)
def E5(op:CmpOp)(a b:AV)(K:Bool->Prop)(σ:AH):Prop:=∀prog w c s A E v u,w' prog w c σ s->A.units+8<cLine->av v=a->av u=b->
 wpAny (model prog w) A (compareOp op v u) (λx j=>∃r tk,x=.bool r/\j={s with toks:=tk}/\K r) E s
section
theorem IV(k:Int)(t:Tok):(intKind prog w).is k (.int k t)=true:=by show Value.isInt k (.int k t)=true;simp[Value.isInt]
theorem Cb(x:w' prog w c σ s)(m:av v=a)(q:av u=b)(B:A.units+8<cLine)(h:E5 op a b (λr=>Q (.bool r) σ) σ):
  wpAny (model prog w) A (compareOp op v u) (Ec prog w c σ s Q) E s:=
 Sz (h _ _ _ _ A E v u x B m q) (λy G C=>(by obtain⟨r,tk,e1,D,k⟩:=C;subst e1 D;exact cC x k)) λj j y=>y
section
variable {K:Bool->Prop}
theorem fy(h:HE σ 4 a b r)(k:K r):E5 .Eq a b K σ:=λj j j j j j j j x w m q=>(h _ _ _ _ _ _ _ x (by omega) m q).1 _ _ _ _ ⟨_,_,rfl,rfl,k⟩
theorem gq(h:HE σ 4 a b r)(k:K (!r)):E5 .NotEq a b K σ:=λj j j j j j j j x w m q=>(h _ _ _ _ _ _ _ x (by omega) m q).2.1 _ _ _ _ ⟨_,_,rfl,rfl,k⟩
theorem wf(k:K (decide (i<j))):E5 .Lt (.int i) (.int j) K σ:=λm m m m m m m m m m q r=>ii q r λm m=>PyProof.Rows.lt_int ⟨_,_,rfl,rfl,k⟩
theorem Bw(k:K (decide (i<=j))):E5 .LtE (.int i) (.int j) K σ:=λm m m m m m m m m m q r=>ii q r λm m=>PySem.P.le_int ⟨_,_,rfl,rfl,k⟩
theorem Ca(k:K (decide (i>j))):E5 .Gt (.int i) (.int j) K σ:=λm m m m m m m m m m q r=>ii q r λm m=>PyProof.Rows.gt_int ⟨_,_,rfl,rfl,k⟩
theorem BY(k:K (decide (i>=j))):E5 .GtE (.int i) (.int j) K σ:=λm m m m m m m m m m q r=>ii q r λm m=>PySem.P.ge_int ⟨_,_,rfl,rfl,k⟩
theorem Bq(k:K (decide (a=.none))):E5 .Is a .none K σ:=λj j j j j j v u j j m q=>by
 rw[fR q]
 refine is_none ⟨_,_,rfl,rfl,?_⟩
 rw[show(v==Value.none)=decide (a=AV.none) by subst m;cases v<;>rfl];exact k
theorem vA(w:σ y=some (.list xs)\/σ y=some (.tup xs))(q:∀x∈xs,HE σ 3 x a (f x))(k:K (xs.any f)):E5 .In a (.ref y) K σ:=λj j j j A j v u x D B C=>r1 C (by
 have r:∀{vs:Array Value},(∀z∈vs.toList.map av,HE σ 3 z a (f z))->∀z∈vs,EqAt A.in1 _ z v (f (av z)):=λh z hz=>(h _ (SY (Ug.mpr hz)) _ _ _ _ A.in1 _ _ x (by show A.units+1+3<cLine;omega) rfl B).2.2
 rcases w with e|e
 ·obtain⟨vs,m,rfl⟩:=listOf (x.own _ _ e)
  exact in_listAt (λz=>f (av z)) m (r q) ⟨_,_,rfl,rfl,by rw[UE,UP]at k;exact k⟩
 ·obtain⟨vs,m,rfl⟩:=Ip (x.own _ _ e)
  exact in_tupleAt (λz=>f (av z)) m (r q) ⟨_,_,rfl,rfl,by rw[UE,UP]at k;exact k⟩)
theorem B8(w:σ y=some (.list xs)\/σ y=some (.tup xs))(q:∀x∈xs,HE σ 3 x a (f x))(k:K (!xs.any f)):E5 .NotIn a (.ref y) K σ:=λj j j j A j v u x D B C=>r1 C (by
 have r:∀{vs:Array Value},(∀z∈vs.toList.map av,HE σ 3 z a (f z))->∀z∈vs,EqAt A.in1 _ z v (f (av z)):=λh z hz=>(h _ (SY (Ug.mpr hz)) _ _ _ _ A.in1 _ _ x (by show A.units+1+3<cLine;omega) rfl B).2.2
 rcases w with e|e
 ·obtain⟨vs,m,rfl⟩:=listOf (x.own _ _ e)
  exact notIn_listAt (λz=>f (av z)) m (r q) ⟨_,_,rfl,rfl,by rw[UE,UP]at k;exact k⟩
 ·obtain⟨vs,m,rfl⟩:=Ip (x.own _ _ e)
  exact notIn_tupleAt (λz=>f (av z)) m (r q) ⟨_,_,rfl,rfl,by rw[UE,UP]at k;exact k⟩)
theorem lH(j:List (Int×Value))(k:Int):(lk (j.map Gy) k).isSome=(valueAt j k).isSome:=by rw[j6,Option.isSome_map]
theorem Af(e:σ y=some (.D0 kvs ob))(k:K (lk kvs i).isSome):E5 .In (.int i) (.ref y) K σ:=λj j j j j j j j x w m q=>r1 q (i1 m λt=>by
 obtain⟨_,A,r,rfl,_⟩:=x.own _ _ e
 rw[lH]at k
 exact wpAny_in_of (IV i t) (x.Fm (Ep e)) r.mapOf ⟨_,_,rfl,rfl,k⟩)
theorem AN(e:σ y=some (.D0 kvs ob))(k:K (!(lk kvs i).isSome)):E5 .NotIn (.int i) (.ref y) K σ:=λj j j j j j j j x w m q=>r1 q (i1 m λt=>by
 obtain⟨_,A,r,rfl,_⟩:=x.own _ _ e
 rw[lH]at k
 exact wpAny_notIn_of (IV i t) (x.Fm (Ep e)) r.mapOf ⟨_,_,rfl,rfl,k⟩)
end
end
end
section
def JZ(o i:AV)(Q:EO)(σ:AH):Prop:=∀prog w c s A E v u j m,w' prog w c σ s->av v=o->av u=i->wpAny (model prog w) A (subscriptTail j m v u) (Ec prog w c σ s Q) E s
def LW(o:AV)(q i:Nat)(Q:EO)(σ:AH):Prop:=∀prog w c s A E v k t j m,w' prog w c σ s->av v=o->(EC q)[i]? =some k->wpAny (model prog w) A (subscriptTail j m v (.str k t)) (Ec prog w c σ s Q) E s
def K5(o i y:AV)(Q:AH->Prop)(σ:AH):Prop:=∀prog w c s A E v j u,w' prog w c σ s->av v=o->av j=i->av u=y->wpAny (model prog w) A (setItem v j u) (HN prog w c σ s Q) E s
def HZ(o:AV)(j i:Nat)(y:AV)(Q:AH->Prop)(σ:AH):Prop:=∀prog w c s A E v k t u,w' prog w c σ s->av v=o->av u=y->(EC j)[i]? =some k->wpAny (model prog w) A (setItem v (.str k t) u) (HN prog w c σ s Q) E s
def GC(j:List AV)(i:Nat)(v:AV):List AV:=if i<j.length then j.set i v else j++[v]
def Hk(o:Obj)(xs:List AV):Prop:=∃vs n,o.data=.seq vs n/\o.cls=.type "list"/\vs.toList.map av=xs/\xs.length<=big
section
theorem wS(j:Expr)(o i:Value):∃m,subscripted j false o i=operate m (getItem o i):=by
 cases j with
 |Slice l u st p=>cases st<;>exact⟨_,rfl⟩
 |_=>exact⟨_,rfl⟩
theorem wP{k:Int}(q:IsL s.heap l items n)(C:0<=k)(m:k<2^63)(H:k<items.size)(D:Q () {s with heap:=s.heap.update l (Obj.mapSeq (·.setIfInBounds k.toNat v))}):wpAny (model prog w) A (setItem (.ref l) (.int k t) v) Q E s:=by
 have B:s.heap.IsList l items:=⟨_,q,rfl,n,rfl⟩
 unfold setItem
 try with_reducible refine SK ?_
 first|refine So (Sv ?_)|skip
 refine So (wpAny_sequenceKey B.typeIs (by decide) ?_)
 refine So (wpAny_callSpecial?_slot (name:=Str.ofString "__setitem__") B.typeIs slot_list_setitem
  (wpAny_call_entry slot_list_setitem B.typeIs entry_list_setitem ?_ (args_list_setitem _ _ _)))
 show wpAny _ _ (Builtin.List.listSubscript? (.int k t)>>=_) _ _ s
 refine So (wpAny_listSubscript_int (fitsIndex_of C m) ?_)
 clear m
 obtain⟨j,rfl⟩:=Int.eq_ofNat_of_zero_le C
 have G:j<items.size:=by omega
 show wpAny _ _ ((seqItemAt l j>>=λr=>pure (r.map (j,·)))>>=_) _ _ s
 refine So (So (wpAny_seqItemAt q rfl (Sv ?_)))
 rw[T8 G]
 show wpAny _ _ (setSeqItemAt l j v>>=_) _ _ s
 refine So (wpAny_setSeqItemAt q rfl ?_)
 first
  |exact So (Sv (Sv ⟨.none,rfl,Sv D⟩))
  |exact Sv ⟨.none,rfl,Sv D⟩
theorem yH{vs:Array Value}(h:ix (vs.toList.map av) k=some v):∃j u,seqIndex? k vs.size=some j/\vs[j]? =some u/\av u=v:=by
 have m:(vs.toList.map av).length=vs.size:=by simp
 unfold ix at h
 rw[m]at h
 cases r:seqIndex? k vs.size with
 |none=>rw[r]at h;cases h
 |some j=>
  rw[r]at h
  simp only[U9,SG]at h
  have e:vs.toList[j]? =vs[j]? :=by simp
  rw[e]at h
  cases q:vs[j]? with
  |none=>rw[q]at h;cases h
  |some u=>rw[q]at h;exact⟨j,u,rfl,q,by simpa using h⟩
set_option tactic.hygienic true in
theorem ij(r:n<=big)(h:seqIndex? k n=some j): -(2^63)<=k/\k<2^63/\ -(n:Int)<=k/\k<n/\j=(if k<0 then k+n else k).toNat:=by
 have w:(n:Int)<=1048576:=US.mpr r
 by_cases m:k<0
 ·have e:seqIndex? k n=if(decide (0<=k+n)&&decide (k+n<n))=true then some (k+n).toNat else none:=by unfold seqIndex?;simp[m]
  rw[e]at h
  split at h
  ·rename_i q
   simp only[SF,decide_eq_true_eq]at q
   injection h with h
   exact⟨by omega,by omega,by omega,by omega,by rw[if_pos m,h]⟩
  ·cases h
 ·have e:seqIndex? k n=if(decide (0<=k)&&decide (k<n))=true then some k.toNat else none:=by unfold seqIndex?;simp[m]
  rw[e]at h
  split at h
  ·rename_i q
   simp only[SF,decide_eq_true_eq]at q
   injection h with h
   exact⟨by omega,by omega,by omega,by omega,by rw[if_neg m,h]⟩
  ·cases h
theorem ip{T id:String}(q:s.TypeIs o T)(r:typeLookup (.type T) "__getitem__"=pure (some (.builtin id)))(h:wpAny (model prog w) A (getItem o i) Q E s):wpAny (model prog w) A (subscriptTail m j o i) Q E s:=by
 obtain⟨B,e⟩:=wS j o i
 exact tail_any q r h e
section
variable {k:Int}
theorem DH(e:σ a=some (.list xs))(B:ix xs k=some y)(q:Q y σ):JZ (.ref a) (.int k) Q σ:=λm m m m m m m m m m x C D=>NO C D λt=>by
 obtain⟨vs,n,e1,rfl,hsz⟩:=x.own _ _ e
 have A:Heap.IsList _ a vs:=⟨_,e1,rfl,n,rfl⟩
 obtain⟨j,z,E,hz,rfl⟩:=yH B
 obtain⟨G,H,I,J,r⟩:=ij (GB.mp hsz) E
 refine ip A.typeIs slot_list_getitem.lookup ?_
 by_cases w:k<0
 ·rw[if_pos w]at r
  exact wpAny_getItem_list_neg A w I G (r▸hz) (iN x q)
 ·rw[if_neg w]at r
  exact wpAny_getItem_list A (Int.not_lt.mp w) H (r▸hz) (iN x q)
theorem De(e:σ a=some (.tup xs))(A:ix xs k=some y)(q:Q y σ):JZ (.ref a) (.int k) Q σ:=λm m m m m m m m m m x B C=>NO B C λt=>by
 obtain⟨vs,n,e1,rfl,hsz⟩:=x.own _ _ e
 have r:IsTup _ a vs:=⟨_,e1,rfl,n,rfl⟩
 obtain⟨j,z,w,hz,rfl⟩:=yH A
 obtain⟨D,E,H,I,G⟩:=ij (GB.mp hsz) w
 exact ip r.typeIs slot_tuple_getitem.lookup (PyProof.Rows.getItem_tuple r D E w hz (iN x q))
theorem wr(h:lk (j.map Gy) k=some y):∃z,valueAt j k=some z/\av z=y:=by
 rw[j6]at h;exact T2.mp h
theorem Dz(e:σ a=some (.D0 kvs ob))(r:lk kvs k=some y)(q:Q y σ):JZ (.ref a) (.int k) Q σ:=λj j j j j j j j j j x w A=>NO w A λt=>by
 obtain⟨_,C,m,rfl,hsz⟩:=x.own _ _ e
 obtain⟨z,B,rfl⟩:=wr r
 exact ip m.mapOf.typeIs slot_dict_getitem.lookup (wpAny_getItem_of (IV k t) m.mapOf B (cC x q))
theorem yV(e:σ a=some (.list xs))(hz:0<=k/\k<xs.length)(q:R (upd σ a (.list (xs.set k.toNat u)))):K5 (.ref a) (.int k) u R σ:=λj j j s j j j j u x m r w=>NO m r λt=>by
 subst w
 obtain⟨vs,n,e1,rfl,hsz⟩:=x.own _ _ e
 rw[EJ]at hz
 rw[EJ]at hsz
 refine wP e1 hz.1 (by have:vs.size<=1048576:=hsz;omega) hz.2 ?_
 obtain⟨A,B⟩:=eo (tk:=s.toks) (o':=.list ((vs.toList.map av).set k.toNat (av u))) x e (Heap.SameBut.update ..) ⟨vs.setIfInBounds k.toNat u,_,IsL.update e1 (·.setIfInBounds k.toNat u),by rw[Array.toList_setIfInBounds,List.map_set],by rw[TT,EJ];exact hsz⟩
 exact⟨_,A,B,q⟩
theorem K6{j:List (Int×Value)}(h:(j.map Gy).length<=m):j.length<=m:=by rw[Su]at h;exact h
theorem yL(e:σ a=some (.D0 kvs ob))(hz:(put kvs k u).length<=big)(q:∀o',R (upd σ a (.D0 (put kvs k u) o'))):K5 (.ref a) (.int k) u R σ:=λj j j s j j j j u x A B C=>NO A B λt=>by
 subst C
 obtain⟨_,D,E,rfl,hsz⟩:=x.own _ _ e
 refine wpAny_setItem_pairs (IV k t) E (λh' m r=>?_) (cn (K6 hsz))
 obtain⟨o',G,H,w,I⟩:=id m
 obtain⟨J,M⟩:=eo (tk:=s.toks+1) (o':=.D0 (put (D.map Gy) k (av u)) o') x e r ⟨w,_,m,qn ..,hz⟩
 exact⟨_,J,M,q _⟩
end
theorem MN(k:Str)(t:Tok):(strKind prog w).is k (.str k t)=true:=by show Value.isStr (.str k t) k=true;simp[Value.isStr]
theorem qc{i:Nat}(x:Fx prog w h a r A)(E:r[i]? =some k)(B:A[i]? =some v):
  ∃j u,h.DictOf (strKind prog w) a j/\valueAt j k=some u/\av u=v:=by
 obtain⟨j,C,G,D⟩:=x
 have H:(j.map (·.1)).Nodup:=C.choose_spec.choose_spec.choose_spec.2.2.2.2.2
 have q:i<A.length:=(Sr.mp B).1
 have m:i<j.length:=by rw[<-D]at q;simpa using q
 have e1:j[i].1=k:=by
  have:(j.map (·.1))[i]? =some j[i].1:=by simp[m]
  rw[G,T6,if_pos q,E]at this
  exact(Option.some.inj this).symm
 have I:av j[i].2=v:=by
  have:(j.map λp=>av p.2)[i]? =some (av j[i].2):=by simp[m]
  rw[D,B]at this
  exact(Option.some.inj this).symm
 refine⟨j,j[i].2,C,valueAt_of_get (i:=i) H ?_,I⟩
 rw[SA m,<-e1]
set_option tactic.hygienic true in
theorem nW{A:List Str}(M:A.Nodup)(J:A[i]? =some k)(hi:i<=G.length)(N:m.map (·.1)=A.take G.length)(O:m.map (λp=>av p.2)=G):
  (stored m k u).map (·.1)=A.take (GC G i (av u)).length/\(stored m k u).map (λp=>av p.2)=GC G i (av u):=by
 have r:m.length=G.length:=by rw[<-O];simp
 have ab:i<A.length:=(Sr.mp J).1
 have B:∀j (D:j<m.length),A[j]? =some m[j].1:=λj D=>by
  have:(m.map (·.1))[j]? =some m[j].1:=by simp[D]
  rw[N,T6,if_pos (r▸D)]at this
  exact this
 unfold GC
 split
 ·rename_i H
  have E:i<m.length:=r▸H
  have C:(m.any λq=>decide (q.1=k))=true:=by
   rw[Th]
   refine⟨m[i],Vg E,?_⟩
   have:=B i E
   rw[J]at this;simp[Option.some.inj this]
  unfold stored
  rw[if_pos C]
  refine⟨by rw[keys_map_store,N,TT],?_⟩
  apply Vh
  ·simp[r]
  ·intro j Q ac
   have D:j<m.length:=by simpa using Q
   simp only[Td,TO,Function.comp,List.getElem_set]
   have e2:G[j]'(r▸D)=av m[j].2:=by
    have:(m.map λp=>av p.2)[j]? =some (av m[j].2):=by simp[D]
    rw[O,SA (r▸D)]at this
    exact Option.some.inj this
   have w:=B j D
   by_cases I:i=j
   ·subst I
    rw[J]at w
    rw[if_pos (Option.some.inj w).symm,if_pos rfl]
   ·have U:¬m[j].1=k:=by
     intro e
     rw[e]at w
     have Y:=Sr.mp J
     have Z:=Sr.mp w
     exact I ((Uj M).mp (Y.2.trans Z.2.symm))
    rw[if_neg U,if_neg I,e2]
 ·rename_i H
  have aa:i=G.length:=UX hi (T4 H)
  subst aa
  have C:¬(m.any λq=>decide (q.1=k))=true:=by
   rw[Th]
   rintro⟨q,hq,e⟩
   obtain⟨j,D,rfl⟩:=List.mem_iff_getElem.mp hq
   have e':m[j].1=k:=by simpa using e
   have w:=B j D
   rw[e']at w
   have Y:=Sr.mp J
   have Z:=Sr.mp w
   have:=(Uj M).mp (Y.2.trans Z.2.symm)
   omega
  unfold stored
  rw[if_neg C]
  refine⟨?_,by simp[O]⟩
  rw[SX,N,Sw,List.length_singleton,Ue,J]
  rfl
theorem wD{Q:EO}(e:σ a=some (.D4 m w))(A:w[i]? =some y)(q:Q y σ):LW (.ref a) m i Q σ:=λj j j j j j j k t j j x B C=>r1 B (by
 obtain⟨E,u,r,D,rfl⟩:=qc (x.own _ _ e) C A
 exact ip r.mapOf.typeIs slot_dict_getitem.lookup (wpAny_getItem_of (MN k t) r.mapOf D (cC x q)))
theorem nE(j:Nat):(EC j).Nodup:=by
 cases j with
 |zero=>decide+kernel
 |succ n=>cases n with
  |zero=>decide+kernel
  |succ n=>exact .nil
theorem tF(C:Addr):(attrTab C).Nodup:=by
 unfold attrTab;split
 ·decide+kernel
 ·decide+kernel
 ·exact T5
theorem lO(j:Nat):(EC j).length<=15:=by
 cases j with
 |zero=>decide
 |succ n=>cases n with
  |zero=>decide
  |succ n=>exact SI _
theorem rL(C:Addr):(attrTab C).length<=16:=by
 unfold attrTab;split<;>decide
theorem tX(h:n<=16):n<=sizeLine:=SJ h (by rw[sizeLine_eq];decide)
theorem kG{m:List (Str×Value)}{j:List Str}(h:m.map (·.1)=j.take n)(ht:j.length<=16):m.length<=sizeLine:=by
 refine tX ?_
 have:m.length=(j.take n).length:=by rw[<-h];simp
 rw[this,Tf];exact SJ (Vl ..) ht
theorem nJ{a:Addr}{m i:Nat}(e:σ a=some (.D4 m r))(C:i<=r.length)(q:R (upd σ a (.D4 m (GC r i y)))):HZ (.ref a) m i y R σ:=λj j j s j j j k t u x D E G=>r1 D (by
 obtain⟨Q,H,B,I⟩:=x.own _ _ e
 subst E
 obtain⟨J,M⟩:=nW (u:=u) (nE _) G C B I
 refine wpAny_setItem_pairs (MN k t) H (λh' w A=>?_) (kG B (Uw (lO _)))
 obtain⟨N,O⟩:=eo (tk:=s.toks+1) (o':=.D4 m (GC r i (av u))) x e A ⟨_,w,J,M⟩
 exact⟨_,N,O,q⟩)
theorem BV(x:w' prog w c σ s)(q:av v=o)(r:av u=i)(h:JZ o i Q σ):wpAny (model prog w) A (subscriptTail j m v u) (Ec prog w c σ s Q) E s:=h _ _ _ _ _ _ _ _ _ _ x q r
theorem Cp(x:w' prog w c σ s)(r:av v=o)(B:(EC j)[i]? =some k)(h:LW o j i Q σ):wpAny (model prog w) A (subscriptTail m q v (.str k t)) (Ec prog w c σ s Q) E s:=h _ _ _ _ _ _ _ _ _ _ _ x r B
theorem wJ(x:w' prog w c σ s)(m:av v=o)(q:av u=y)(r:(EC j)[i]? =some k)(h:HZ o j i y Q σ):wpAny (model prog w) A (setItem v (.str k t) u) (HN prog w c σ s Q) E s:=h _ _ _ _ _ _ _ _ _ _ x m q r
theorem BZ(x:w' prog w c σ s)(m:av v=o)(q:av j=i)(r:av u=y)(h:K5 o i y Q σ):wpAny (model prog w) A (setItem v j u) (HN prog w c σ s Q) E s:=h _ _ _ _ _ _ _ _ _ x m q r
end
end
section
def Hl(o lo C:AV)(Q:EO)(σ:AH):Prop:=∀prog w c s A E v r B j m,w' prog w c σ s->av v=o->av r=lo->av B=C->
 wpAny (model prog w) A (newFields "slice" [r,B,.none]) (λi q=>wpAny (model prog w) A (subscriptTail j m v i) (Ec prog w c σ s Q) E q) E s
def K7(o:AV)(Q:EO)(σ:AH):Prop:=∀prog w c s A E v tk j m,w' prog w c σ s->av v=o->
 wpAny (model prog w) A (newFields "slice" [.none,.none,.int (-1) tk]) (λi q=>wpAny (model prog w) A (subscriptTail j m v i) (Ec prog w c σ s Q) E q) E s
section
theorem w2{o lo r:AV}(x:w' prog w c σ s)(B:av v=o)(C:av D=lo)(G:av H=r)(h:Hl o lo r Q σ):
  wpAny (model prog w) A (newFields "slice" [D,H,.none]) (λi j=>wpAny (model prog w) A (subscriptTail m q v i) (Ec prog w c σ s Q) E j) E s:=h _ _ _ _ _ _ _ _ _ _ _ x B C G
theorem BL(x:w' prog w c σ s)(r:av v=o)(h:K7 o Q σ):
  wpAny (model prog w) A (newFields "slice" [.none,.none,.int (-1) tk]) (λi j=>wpAny (model prog w) A (subscriptTail m q v i) (Ec prog w c σ s Q) E j) E s:=h _ _ _ _ _ _ _ _ _ _ x r
theorem kL{lo m st:Value}(x:w' prog w c σ s)(e:σ a=some (.list xs)\/∃o,σ a=some (.obj o)/\Hk o xs)(q:∀z,σ z=none->Q (.ref z) (upd σ z (.list ys)))(h:∀(H:Heap) (vs:Array Value) (j:Shared),H.IsList a vs->vs.size<=sizeLine->vs.toList.map av=xs->H.IsSliceOf s.heap.objs.size lo m st->j={s with heap:=H}->
   (∀zs:List Value,zs.map av=ys->Ec prog w c σ s Q (.ref H.objs.size) {s with heap:=H.push {cls:=.type "list",data:=.seq zs.toArray}})->wpAny (model prog w) A (getItem (.ref a) (.ref s.heap.objs.size)) (Ec prog w c σ s Q) E j)(M:ys.length<=xs.length):
  wpAny (model prog w) A (newFields "slice" [lo,m,st]) (λi j=>wpAny (model prog w) A (subscriptTail B C (.ref a) i) (Ec prog w c σ s Q) E j) E s:=by
 delta newFields
 refine wpAny_newObj_type ?_
 have r:(s.heap.push {cls:=.type "slice",dict:=none,data:=.fields ([lo,m,st]:List Value).toArray}).IsSliceOf s.heap.objs.size lo m st:=Heap.IsSliceOf.new ..
 have I:∀b o,s.heap.get? b=some o->(s.heap.push {cls:=.type "slice",dict:=none,data:=.fields ([lo,m,st]:List Value).toArray}).get? b=some o:=λb o e=>Sq _ e
 generalize s.heap.push {cls:=.type "slice",dict:=none,data:=.fields ([lo,m,st]:List Value).toArray}=H at r I
 obtain⟨D,N⟩:=ci (tk:=s.toks) x I
 obtain⟨vs,J,rfl,hz⟩:∃vs,H.IsList a vs/\vs.toList.map av=xs/\xs.length<=big:=e.elim (λe=>(by obtain⟨vs,n,e1,G,hz⟩:=D.own _ _ e;exact⟨vs,⟨_,e1,rfl,n,rfl⟩,G,hz⟩)) λO=>(by obtain⟨o,e,vs,n,U,G,Y,Z⟩:=O;exact⟨vs,⟨o,D.own _ _ e,G,n,U⟩,Y,Z⟩)
 exact ip (s:={s with heap:=H}) J.typeIs slot_list_getitem.lookup (h H vs _ J (cn (GB.mp hz)) rfl r rfl λzs e=>Ec.less N (pa (vs:=zs.toArray) (n:=0) D (by show(zs.map av).length<=big;rw[e];exact SJ M hz) (by show ∀z,_->Q _ (upd σ z (.list (zs.map av)));rw[e];exact q)))
section
variable {n:Nat}
theorem yl(e:σ a=some (.list xs)\/∃o,σ a=some (.obj o)/\Hk o xs)(q:∀z,σ z=none->Q (.ref z) (upd σ z (.list (xs.take n)))):Hl (.ref a) .none (.int n) Q σ:=λj j j j j j j j j j j x r w A=>r1 r (by
 rw[fR w];obtain⟨t,rfl⟩:=dh A
 refine kL x e q (λH vs m B hz C hs D fin=>?_) (by rw[Tf];exact Vl ..)
 subst D
 refine wpAny_getItem_list_slice B hs .none (.int _ _) .none (by simp) ?_ hz
 rw[slicePick_upto']
 exact fin _ (by rw[List.map_take,C]))
theorem yn(e:σ a=some (.list xs)\/∃o,σ a=some (.obj o)/\Hk o xs)(q:∀z,σ z=none->Q (.ref z) (upd σ z (.list (xs.drop n)))):Hl (.ref a) (.int n) .none Q σ:=λj j j j j j j j j j j x r w A=>r1 r (by
 rw[fR A];obtain⟨t,rfl⟩:=dh w
 refine kL x e q (λH vs m B hz C hs D fin=>?_) (by rw[Vf];exact Vv ..)
 subst D
 refine wpAny_getItem_list_slice B hs (.int _ _) .none .none (by simp) ?_ hz
 rw[slicePick_from']
 exact fin _ (by rw[List.map_drop,C]))
end
theorem lF(n:Nat):sliceRange ((n:Int)-1) (-1) (-1)=(List.range n).map (λk=>n-1-k):=by
 delta sliceRange
 have j:¬((-1:Int)>0):=by decide
 by_cases h:(n:Int)-1> -1
 ·have e:((n:Int)-1 - -1 - -1-1)/(- -1)=(n:Int):=by
   rw[show(- -1:Int)=1 by decide,Int.ediv_one];omega
  simp only[j,if_false,h,if_true,e,UO]
  apply TX
  intro k m
  exact p1 (Tl.mp m)
 ·have e:n=0:=by omega
  subst e
  simp
theorem mm(n:Nat):(List.range n).map (λk=>n-1-k)=(List.range n).reverse:=by
 apply Vh
 ·simp
 ·intro i j m
  simp at j⊢
theorem nM(vs:Array Value):(List.range vs.size).filterMap (vs[·]?)=vs.toList:=by
 have:=pick_run vs 0 vs.size
 simp only[Vd,UR,List.drop_zero]at this
 rw[this,List.take_of_length_le (by simp)]
theorem oF(vs:Array Value):slicePick vs none none (some (-1))=vs.toList.reverse.toArray:=by
 delta slicePick
 have:sliceBounds none none (some (-1)) vs.size=((vs.size:Int)-1,-1,-1):=by simp[sliceBounds]
 rw[this]
 show((sliceRange ((vs.size:Int)-1) (-1) (-1)).filterMap (vs[·]?)).toArray=_
 rw[lF,mm,List.filterMap_reverse,nM]
theorem kO{n:Nat}(hs:s.heap.IsSliceOf r .none .none (.int (-1) u))(h:Q ((n:Int)-1,-1,n) s):
  wpAny (model prog w) A (Builtin.Slice.sliceApplied (.ref r) (pure (n:Int))) Q E s:=by
 obtain⟨os,j,B,m⟩:=id hs
 delta Builtin.Slice.sliceApplied Builtin.Slice.sliceFields
 refine So (So (wpAny_field j m (x:=.none) rfl (So (wpAny_field j m (x:=.none) rfl (So (wpAny_field j m (x:=.int (-1) u) rfl (Sv ?_)))))))
 refine So (slicePart_int ?_)
 show wpAny _ _ (if((-1:Int)==0)=true then _ else _) _ _ s
 rw[if_neg (by decide)]
 refine So (slicePart_none (So (slicePart_none (So (Sv ?_)))))
 have e:Builtin.Slice.sliceAdjust none none (-1) (n:Int)=((n:Int)-1,-1):=by simp[Builtin.Slice.sliceAdjust]
 show wpAny _ _ (match Builtin.Slice.sliceAdjust none none (-1) (n:Int)with|(lo,C)=>pure (lo,(-1:Int),Builtin.Slice.slicePlaces lo C (-1))) _ _ s
 rw[e]
 show wpAny _ _ (pure ((n:Int)-1,(-1:Int),Builtin.Slice.slicePlaces ((n:Int)-1) (-1) (-1))) _ _ s
 have D:Builtin.Slice.slicePlaces ((n:Int)-1) (-1) (-1)=n:=by
  delta Builtin.Slice.slicePlaces
  simp only[show ¬((-1:Int)>0) by decide,if_false]
  by_cases q:(n:Int)-1> -1
  ·rw[if_pos q,show(- -1:Int)=1 by decide,Int.ediv_one];omega
  ·rw[if_neg q];omega
 rw[D]
 exact Sv h
theorem ux(xs:Array Value):((List.range xs.size).filterMap λ(k:Nat)=>xs[(((xs.size:Int)-1)+(k:Int)*(-1)).toNat]?).toArray=xs.toList.reverse.toArray:=by
 have e:((List.range xs.size).filterMap λ(k:Nat)=>xs[(((xs.size:Int)-1)+(k:Int)*(-1)).toNat]?)=((List.range xs.size).map (λk=>xs.size-1-k)).filterMap (xs[·]?):=by
  rw[List.filterMap_map]
  have m:∀l:List Nat,(∀k∈l,k<xs.size)->l.filterMap (λ(k:Nat)=>xs[(((xs.size:Int)-1)+(k:Int)*(-1)).toNat]?)=l.filterMap ((xs[·]?)∘λk=>xs.size-1-k):=by
   intro l
   induction l with
   |nil=>intro _;rfl
   |cons k r ih=>
    intro w
    have q:=w k (Sy ..)
    have e1:(((xs.size:Int)-1)+(k:Int)*(-1)).toNat=xs.size-1-k:=p2 q
    rw[Tc,Tc,e1,ih λj A=>w j (Ss _ A)];rfl
  exact m _ λk q=>Tl.mp q
 rw[e,mm,List.filterMap_reverse,nM]
theorem j8(ht:IsTup s.heap t items)(hs:s.heap.IsSliceOf D .none .none (.int (-1) u))(h:Q (.ref s.heap.objs.size) {s with heap:=s.heap.push {cls:=.type "tuple",data:=.seq items.toList.reverse.toArray}})(hsz:items.size<=sizeLine:=by size_fits):wpAny (model prog w) A (getItem (.ref t) (.ref D)) Q E s:=by
 have j:sizeOk (.seq items.toList.reverse.toArray):=by
  show items.toList.reverse.toArray.size<=sizeLine
  simpa using hsz
 obtain⟨os,q,r,G⟩:=id hs
 have B:s.TypeIs (.ref D) "slice":=⟨os,q,r⟩
 delta getItem
 try with_reducible refine SK ?_
 first|refine So (Sv ?_)|skip
 refine So (wpAny_sequenceKey ht.typeIs (by decide) ?_)
 refine So (wpAny_callSpecial?_slot (name:=Str.ofString "__getitem__") ht.typeIs slot_tuple_getitem
  (wpAny_call_entry slot_tuple_getitem ht.typeIs entry_tuple_getitem ?_ (args_tuple_getitem _ _)))
 show wpAny _ _ (Builtin.Tuple.tupleItemsOf (.ref t)>>=_) _ _ s
 refine So (tupleItemsOf_ ht ?_)
 refine So (wpAny_typeOf B ?_)
 rw[if_pos (by decide)]
 refine So (kO (n:=items.size) hs ?_)
 have C:¬(((items.size:Int)-1==0&&(-1:Int)==1&&items.size==items.size)=true):=by simp
 show wpAny _ _ (if((items.size:Int)-1==0&&(-1:Int)==1&&items.size==items.size)=true then _ else _) _ _ s
 rw[if_neg C,ux items]
 first
  |exact So (m:=Builtin.Tuple.tupleExact _) (wpAny_newObj_type (Sv ⟨_,rfl,Sv h⟩) j)
  |exact So (m:=Builtin.Tuple.tupleExact _) (wpAny_newObj_type (So (Sv (Sv ⟨_,rfl,Sv h⟩))) j)
  |exact So (So (m:=Builtin.Tuple.tupleExact _) (wpAny_newObj_type (Sv (Sv ⟨_,rfl,Sv h⟩)) j))
  |exact So (So (m:=Builtin.Tuple.tupleExact _) (wpAny_newObj_type (Sv ⟨_,rfl,Sv h⟩) j))
theorem Da(e:σ a=some (.list xs))(q:∀z,σ z=none->Q (.ref z) (upd σ z (.list xs.reverse))):K7 (.ref a) Q σ:=λj j j j j j j j j j x r=>r1 r (by
 refine kL x (.inl e) q (λH vs m w hz A hs B fin=>?_) (by rw[List.length_reverse];exact SR _)
 subst B
 refine wpAny_getItem_list_slice w hs .none .none (.int _ _) (by simp) ?_ hz
 rw[oF]
 exact fin _ (by rw[Ve,A]))
theorem Dj(e:σ a=some (.tup xs))(q:∀z,σ z=none->Q (.ref z) (upd σ z (.tup xs.reverse))):K7 (.ref a) Q σ:=λj j j s j j j tk j j x C=>r1 C (by
 delta newFields
 refine wpAny_newObj_type ?_
 have m:(s.heap.push {cls:=.type "slice",dict:=none,data:=.fields ([.none,.none,.int (-1) tk]:List Value).toArray}).IsSliceOf s.heap.objs.size .none .none (.int (-1) tk):=Heap.IsSliceOf.new ..
 have r:∀b o,s.heap.get? b=some o->(s.heap.push {cls:=.type "slice",dict:=none,data:=.fields ([.none,.none,.int (-1) tk]:List Value).toArray}).get? b=some o:=λb o e=>Sq _ e
 generalize s.heap.push {cls:=.type "slice",dict:=none,data:=.fields ([.none,.none,.int (-1) tk]:List Value).toArray}=H at m r
 obtain⟨w,D⟩:=ci (tk:=s.toks) x r
 obtain⟨vs,n,e1,rfl,hz⟩:=w.own _ _ e
 have A:IsTup H a vs:=⟨_,e1,rfl,n,rfl⟩
 refine ip (s:={s with heap:=H}) A.typeIs slot_tuple_getitem.lookup (j8 A m ?_ (cn (GB.mp hz)))
 have B:vs.toList.reverse.toArray.toList.map av=(vs.toList.map av).reverse:=Ve
 exact Ec.less D (j5 w (by rw[B,List.length_reverse];exact hz) (by rw[B];exact q)))
inductive BM where|Ed|Fo|I6|HF|H0|Ek|Gi
def BM.PZ:BM->Bool
 | .Ed| .Fo| .I6=>true
 |_=>false
def BM.name:BM->Str
 | .Ed=>"append"| .Fo=>"extend"| .I6=>"pop"| .H0=>"pop"| .HF=>"get"| .Ek=>"setdefault"| .Gi=>"update"
def BM.id:BM->String
 | .Ed=>"list.append"| .Fo=>"list.extend"| .I6=>"list.pop"| .H0=>"dict.pop"| .HF=>"dict.get"| .Ek=>"dict.setdefault"| .Gi=>"dict.update"
def F9(b:BM)(o:AV)(σ:AH):Prop:=∀prog w c s A E v j (Q:Value×List Value->Shared->Prop),w' prog w c σ s->av v=o->Q (.builtin b.id,[v]) s->wpAny (model prog w) A (getMethod v b.name j) Q E s
def Ij(b:BM)(o:AV)(args:List AV)(Q:EO)(σ:AH):Prop:=∀prog w c s A E v j,w' prog w c σ s->av v=o->j.map av=args->wpAny (model prog w) A (call (.builtin b.id) (v::j)) (Ec prog w c σ s Q) E s
theorem gX(f:Array Value->Array Value)(x:w' prog w c σ s)(e:σ a=some (.list xs))(e1:IsL s.heap a vs n)(hz:(f vs).size<=big):
  w' prog w c (upd σ a (.list ((f vs).toList.map av))) {s with heap:=s.heap.update a (Obj.mapSeq f)}/\Kp c σ s (upd σ a (.list ((f vs).toList.map av))) {s with heap:=s.heap.update a (Obj.mapSeq f)}:=
 eo (tk:=s.toks) x e (Heap.SameBut.update ..) ⟨f vs,_,IsL.update e1 f,rfl,by simpa using hz⟩
theorem nr{dflt:Value}(N:s.heap.DictOf (intKind prog w) d kvs)(O:valueAt kvs k=none)(hz:kvs.length<=big)(U:∀h',h'.DictOf (intKind prog w) d (kvs++[(k,dflt)])->Heap.SameBut d s.heap h'->Q dflt {s with heap:=h',toks:=s.toks+1}):
  wpAny (model prog w) A (dictSetDefault d (.int k t) dflt) Q E s:=by
 obtain⟨o,es,Y,D,Z,B,I,j,G⟩:=N
 delta dictSetDefault
 try with_reducible refine SK ?_
 refine So ((intKind prog w).pyHash (IV k t) ?_)
 refine So (wpAny_dictFind_of (s:={s with toks:=s.toks+1}) (IV k t) D B I ?_)
 have H:=j.find k
 have J:(es.findIdx? λe=>(intKind prog w).is k e.key)=none:=by
  cases q:es.findIdx? λe=>(intKind prog w).is k e.key with
  |none=>rfl
  |some i=>
   have C:(es.toList.findIdx? λe=>(intKind prog w).is k e.key)=some i:=by rw[<-q];exact PySem.nswFindIdx_arr _ _
   obtain⟨e,_,_,M⟩:=j.at C
   rw[O]at M;cases M
 rw[J]
 have m:es.size=kvs.length:=by have:=j.length;simpa using this
 refine So (wpAny_rule (So (wpAny_updateDictKeys (hz:=by rw[m];exact cn hz) (s:={s with toks:=s.toks+1}) D B (Sv (U _ ⟨_,_,Y+1,TC _ D (Obj.isFreed_of_dict (Obj.data_mapDictKeys B _)),
   Z.mapDictKeys _,Obj.data_mapDictKeys B _,I.push (IV k t) _,?_,?_⟩ (Heap.SameBut.update ..))))))
 ·simpa using j.append (IV k t) _ dflt
 ·rw[SX,Tn]
  refine⟨G,by simp,λy hy z r e=>?_⟩
  simp at r
  have C:(es.toList.findIdx? λe=>(intKind prog w).is k e.key)=none:=by rw[<-J];exact PySem.nswFindIdx_arr _ _
  rw[j.findIdx]at C
  rw[r]at e
  exact not_mem_of_findIdx_none C (e▸hy)
end
end
section
section
theorem vO(x:w' prog w c σ s)(j:av v=o)(m:F9 b o σ)(h:Q (.builtin b.id,[v]) s):
  wpAny (model prog w) A (getMethod v b.name q) Q E s:=m _ _ _ _ _ _ _ _ _ x j h
theorem Dp(x:w' prog w c σ s)(j:av v=o)(m:q.map av=args)(h:Ij b o args Q σ):
  wpAny (model prog w) A (call (.builtin b.id) (v::q)) (Ec prog w c σ s Q) E s:=h _ _ _ _ _ _ _ _ x j m
theorem ec(e:σ a=some (.list xs))(w:b.PZ=true:=by rfl):F9 b (.ref a) σ:=λj j j j j j j j j x A h=>by
 rw[cv A]at h⊢
 obtain⟨vs,n,e1,_⟩:=x.own _ _ e
 have m:Shared.TypeIs _ (.ref a) "list":=⟨_,e1,rfl⟩
 have r:∀b,Value.ref a=.ref b->∃o,Heap.get? _ b=some o/\o.dict=none:=λb q=>by cases q;exact⟨_,e1,rfl⟩
 cases b with
 |Ed=>exact getMethod_builtin m PySem.F.plainAttrs_list PySem.F.slot_list_append PySem.F.type_list_append r h
 |Fo=>exact getMethod_builtin m PySem.F.plainAttrs_list PySem.F.slot_list_extend PySem.F.type_list_extend r h
 |I6=>exact getMethod_builtin m PySem.F.plainAttrs_list PySem.F.slot_list_pop PySem.F.type_list_pop r h
 |_=>cases w
theorem ft(e:σ a=some (.D0 kvs ob))(q:b.PZ=false:=by rfl):F9 b (.ref a) σ:=λj j j j j j j j j x r h=>by
 rw[cv r]at h⊢
 obtain⟨_,w,m,_⟩:=x.own _ _ e
 cases b with
 |HF=>exact getMethod_builtin m.mapOf.typeIs PySem.F.plainAttrs_dict PySem.F.slot_dict_get PySem.F.type_dict_get m.mapOf.noDict h
 |H0=>exact getMethod_builtin m.mapOf.typeIs PySem.F.plainAttrs_dict PySem.F.slot_dict_pop PySem.F.type_dict_pop m.mapOf.noDict h
 |Ek=>exact getMethod_builtin m.mapOf.typeIs PySem.F.plainAttrs_dict PySem.F.slot_dict_setdefault PySem.F.type_dict_setdefault m.mapOf.noDict h
 |Gi=>exact getMethod_builtin m.mapOf.typeIs PySem.F.plainAttrs_dict PySem.F.slot_dict_update PySem.F.type_dict_update m.mapOf.noDict h
 |_=>cases q
@[elab_as_elim] theorem u1{P:List Value->Prop}(h:j.map av=[a])(k:∀v,av v=a->P [v]):P j:=by
 obtain⟨v,rfl⟩:=I0 (l:=j) (by rw[<-Su (f:=av),h];rfl)
 exact k v (Ur h)
@[elab_as_elim] theorem u2{P:List Value->Prop}(h:j.map av=[a,b])(k:∀v u,av v=a->av u=b->P [v,u]):P j:=by
 obtain⟨v,u,rfl⟩:=JG (l:=j) (by rw[<-Su (f:=av),h];rfl)
 exact k v u (Ur h) (Ur (List.tail_eq_of_cons_eq h))
@[elab_as_elim] theorem QF{P:List Value->Prop}(h:j.map av=[])(k:P []):P j:=List.map_eq_nil_iff.mp h▸k
section
variable {k:Int}
theorem oi(e:σ a=some (.list xs))(hz:xs.length<big)(q:Q .none (upd σ a (.list (xs++[v])))):Ij .Ed (.ref a) [v] Q σ:=λj j j j j j j j x r m=>r1 r (u1 m λu m=>by
 subst m
 obtain⟨vs,n,e1,rfl,_⟩:=x.own _ _ e
 rw[EJ]at hz
 refine call_meets PySem.F.slot_list_append ⟨_,e1,rfl⟩ PySem.F.entry_list_append (PySem.F.args_list_append_2 _ _) (PySem.list_append a vs n u (cn (TH hz))) ⟨e1,?_⟩
 obtain⟨w,A⟩:=gX (λz=>z.push u) x e e1 (by rw[UA];exact hz)
 exact⟨_,w,A,by rw[UH,SX];exact q⟩)
theorem vw(e:σ a=some (.list xs))(A:σ y=some (.list ys))(hz:xs.length+ys.length<=big)(q:Q .none (upd σ a (.list (xs++ys)))):Ij .Fo (.ref a) [.ref y] Q σ:=λj j j j j j j j x B m=>r1 B (u1 m λu m=>r1 m (by
 obtain⟨vs,n,e1,rfl,_⟩:=x.own _ _ e
 obtain⟨r,C,D,rfl,_⟩:=x.own _ _ A
 have hz:=ny hz
 have w:=cn hz
 refine call_meets PySem.F.slot_list_extend ⟨_,e1,rfl⟩ PySem.F.entry_list_extend (PySem.F.args_list_extend_2 _ _) (AutoSeq1.list_extend_list_list_0 a vs n y r C (by
  simp only[Builtin.List.listTooLong,SF,not_and]
  intro _
  have:sizeLine=16777216:=sizeLine_eq
  have:vs.size+r.size<=1048576:=hz
  simp;omega) (SJ (Uz ..) w) (Uw w)) ⟨e1,D,?_⟩
 obtain⟨E,G⟩:=gX (λz=>z++r) x e e1 (by rw[Array.size_append];exact hz)
 exact⟨_,E,G,by rw[ib];exact q⟩))
theorem zB(e:σ a=some (.list (xs++[v])))(q:Q v (upd σ a (.list xs))):Ij .I6 (.ref a) [] Q σ:=λj j j j j j j j x D E=>r1 D (QF E (by
 obtain⟨vs,n,e1,B,hz⟩:=x.own _ _ e
 obtain⟨l,r,G,H,C⟩:=List.map_eq_append_iff.mp B
 obtain⟨z,rfl⟩:=I0 (l:=r) (by rw[<-Su (f:=av),C];rfl)
 have m:vs=l.toArray.push z:=Array.toList_inj.mp (by rw[G,UH])
 subst m
 have w:av z=v:=Ur C
 subst w H
 have hsz:(l.toArray.push z).size-1=l.toArray.size:=by rw[UA,Nat.add_sub_cancel]
 have A:(l.toArray.push z).size<=big:=by rw[<-EJ,B];exact hz
 refine call_meets PySem.F.slot_list_pop ⟨_,e1,rfl⟩ PySem.F.entry_list_pop (PySem.F.args_list_pop_1 _) (MeetsSeq.list_pop_last a (l.toArray.push z) n z (by rw[hsz,Array.getElem?_push_size]) (cn A)) ⟨e1,?_⟩
 have hs:(l.toArray.push z).eraseIdxIfInBounds ((l.toArray.push z).size-1)=l.toArray:=by
  unfold Array.eraseIdxIfInBounds
  rw[dif_pos (by rw[hsz,UA];exact Um _)]
  apply Array.toList_inj.mp
  rw[Array.toList_eraseIdx,hsz,UH]
  exact(List.eraseIdx_append_of_length_le (SR _) _).trans (by simp)
 rw[UA]at A
 obtain⟨I,J⟩:=gX (λM=>M.eraseIdxIfInBounds ((l.toArray.push z).size-1)) x e e1 (by rw[hs];exact Nat.le_of_succ_le A)
 exact⟨_,I,J,by rw[hs];exact q⟩))
theorem rR(d:Value):(lk (j.map Gy) k).getD (av d)=av ((valueAt j k).getD d):=by rw[j6];cases valueAt j k<;>rfl
theorem BW(e:σ a=some (.D0 kvs ob))(q:Q ((lk kvs k).getD .none) σ):Ij .HF (.ref a) [.int k] Q σ:=λj j j j j j j j x w m=>r1 w (u1 m λu m=>i1 m λt=>by
 obtain⟨_,A,r,rfl,_⟩:=x.own _ _ e
 refine call_meetsIn PySem.F.slot_dict_get r.mapOf.typeIs PySem.F.entry_dict_get (PySem.F.args_dict_get_2 _ _) (meets_dict_get (intKind _ _) a (IV k t) (x.Fm (Ep e))) ⟨_,r.mapOf,cC x ?_⟩
 exact rR (k:=k) .none▸q)
theorem zM(e:σ a=some (.D0 kvs ob))(q:Q ((lk kvs k).getD v) σ):Ij .HF (.ref a) [.int k,v] Q σ:=λj j j j j j j j x w m=>r1 w (u2 m λu u2 m A=>i1 m λt=>by
 subst A
 obtain⟨_,B,r,rfl,_⟩:=x.own _ _ e
 refine call_meetsIn PySem.F.slot_dict_get r.mapOf.typeIs PySem.F.entry_dict_get (PySem.F.args_dict_get_3 _ _ _) (meets_dict_get_default (intKind _ _) a (IV k t) (x.Fm (Ep e)) u2) ⟨_,r.mapOf,cC x ?_⟩
 exact rR (k:=k) u2▸q)
theorem sf(x:w' prog w c σ s)(e:σ a=some (.D0 (j.map Gy) ob))(hz:(j.map Gy).length<=big)(r:h'.DictOf (intKind prog w) a (without j k))(hs:Heap.SameBut a s.heap h')(q:∀o',Q (av z) (upd σ a (.D0 (del (j.map Gy) k) o'))):
  Ec prog w c σ s Q z {s with heap:=h',toks:=s.toks+1}:=by
 obtain⟨o',A,B,m,C⟩:=id r
 obtain⟨D,E⟩:=eo (tk:=s.toks+1) (o':=.D0 (del (j.map Gy) k) o') x e hs ⟨m,_,r,Bo ..,SJ (sI ..) hz⟩
 exact⟨_,D,E,q _⟩
theorem zY(e:σ a=some (.D0 kvs ob))(w:lk kvs k=some v)(q:∀o',Q v (upd σ a (.D0 (del kvs k) o'))):Ij .H0 (.ref a) [.int k] Q σ:=λj j j j j j j j x A m=>r1 A (u1 m λu m=>i1 m λt=>by
 obtain⟨_,B,r,rfl,hz⟩:=x.own _ _ e
 obtain⟨z,C,rfl⟩:=wr w
 exact call_meetsIn PySem.F.slot_dict_pop r.mapOf.typeIs PySem.F.entry_dict_pop (PySem.F.args_dict_pop_2 _ _) (meets_dict_pop_there (intKind _ _) a (IV k t) [] (.inl rfl) rfl) ⟨B,z,r,cn (K6 hz),C,λh' D hs=>sf x e hz D hs q⟩)
theorem yN:lk (j.map Gy) k=none↔valueAt j k=none:=by rw[j6,Option.map_eq_none_iff]
theorem w9(e:σ a=some (.D0 kvs ob))(B:∀w,lk kvs k=some w->∀o',Q w (upd σ a (.D0 (del kvs k) o')))(C:lk kvs k=none->Q v σ):Ij .H0 (.ref a) [.int k,v] Q σ:=λj j j j j j j j x D r=>r1 D (u2 r λu u2 r E=>i1 r λt=>by
 subst E
 obtain⟨_,A,m,rfl,hz⟩:=x.own _ _ e
 cases q:valueAt A k with
 |none=>exact call_meetsIn PySem.F.slot_dict_pop m.mapOf.typeIs PySem.F.entry_dict_pop (PySem.F.args_dict_pop_3 _ _ _) (meets_dict_pop_default (intKind _ _) a (IV k t) (x.Fm (Ep e)) rfl u2) ⟨A,m,q,cC x (C (yN.mpr q))⟩
 |some z=>exact call_meetsIn PySem.F.slot_dict_pop m.mapOf.typeIs PySem.F.entry_dict_pop (PySem.F.args_dict_pop_3 _ _ _) (meets_dict_pop_there (intKind _ _) a (IV k t) [u2] (.inr ⟨_,rfl⟩) rfl) ⟨A,z,m,cn (K6 hz),q,λh' G hs=>sf x e hz G hs (B _ (by rw[j6,q];rfl))⟩)
theorem Ag(e:σ a=some (.D0 kvs ob))(N:∀w,lk kvs k=some w->Q w σ)(O:lk kvs k=none->kvs.length<big/\∀o',Q v (upd σ a (.D0 (kvs++[(k,v)]) o'))):Ij .Ek (.ref a) [.int k,v] Q σ:=λj j j s j j j j x U D=>r1 U (u2 D λu u2 D Y=>i1 D λt=>by
 subst Y
 obtain⟨_,I,q,rfl,hz⟩:=x.own _ _ e
 have hsz:=K6 hz
 have Z:=x.Fm (Ep e:Ee σ a=true)
 refine wpAny_call_entry PySem.F.slot_dict_setdefault q.mapOf.typeIs PySem.F.entry_dict_setdefault ?_ (PySem.F.args_dict_setdefault_3 _ _ _)
 unfold Builtin.«dict.setdefault»
 refine So ?_
 unfold Builtin.Dict.keyAndDefault
 refine So (wpAny_notOrdered_dict q.mapOf.typeIs ?_)
 refine(Sv ?_:wpAny _ _ (pure (a,_,some u2)) _ _ s)
 refine(?_:wpAny _ _ (if(a==sysModules)=true then _ else(dictSetDefault a (.int k t) u2>>=_)) _ _ s)
 refine wpAny_ite_false (by rw[Z];rfl) ?_
 cases r:valueAt I k with
 |some z=>
  obtain⟨o,es,ep,ho,J⟩:=id q
  refine So (wpAny_dictSetDefault_of (IV k t) q.mapOf (λv A=>?_) (λB=>by rw[r]at B;cases B) λo' E G m C=>?_)
  ·rw[r]at A;cases A
   exact Sv ⟨z,rfl,cC x (N _ (by rw[j6,r];rfl))⟩
  ·rw[ho]at m;cases m
   rw[J.2.1]at C;cases C
   have:=J.2.2.2.1.length
   rw[Tz]at this
   rw[this];exact cn hsz
 |none=>
  obtain⟨H,h⟩:=O (yN.mpr r)
  refine So (nr q r hsz λh' M hs=>Sv ⟨u2,rfl,?_⟩)
  obtain⟨o',E,G,m,aa⟩:=id M
  obtain⟨L',k'⟩:=eo (tk:=s.toks+1) (o':=.D0 (I.map Gy++[(k,av u2)]) o') x e hs ⟨m,_,M,by rw[SX];rfl,by rw[Sw];exact H⟩
  exact⟨_,L',k',h _⟩)
theorem vI(e:σ a=some (.D0 kvs ob))(E:σ y=some (.D0 more I))(w:a≠y)(hz:kvs.length+more.length<=big)(q:∀o',Q .none (upd σ a (.D0 (GS kvs more) o'))):Ij .Gi (.ref a) [.ref y] Q σ:=λj j j s j j j j x J A=>r1 J (u1 A λu A=>r1 A (by
 obtain⟨_,G,H,rfl,_⟩:=x.own _ _ e
 obtain⟨_,m,B,rfl,_⟩:=x.own _ _ E
 rw[Su,Su]at hz
 refine call_meetsIn PySem.F.slot_dict_update H.mapOf.typeIs PySem.F.entry_dict_update (PySem.F.args_dict_update_2 _ _) (meets_dict_update (intKind _ _) a y w (x.Fm (Ep E))) ⟨G,m,H,B,cn hz,λh' r j C=>?_⟩
 obtain⟨o',M,N,D,O⟩:=id r
 obtain⟨U,Y⟩:=eo (tk:=s.toks) (o':=.D0 (GS (G.map Gy) (m.map Gy)) o') x e C ⟨D,_,r,vZ ..,by
  rw[<-vZ,Su];exact SJ (merged_length_le ..) hz⟩
 exact⟨_,U,Y,q _⟩))
end
inductive BF where|len|abs|repr|int|range|list|tuple
def BF.val:BF->Value
 | .len=> .builtin "len"| .abs=> .builtin "abs"| .repr=> .builtin "repr"| .int=> .type "int"| .range=> .type "range"| .list=> .type "list"| .tuple=> .type "tuple"
def EK(lo j:Int):List AV:=(List.range (j-lo).toNat).map λ(i:Nat)=> .int (lo+i)
def small(i:Int):Prop:= -(big:Int)<=i/\i<=big
theorem sm{n:Nat}(h:n<=1048576):small n:=Qu h
def Ik(b:BF)(args:List AV)(Q:EO)(σ:AH):Prop:=∀prog w c s A E j,A.handled=none->w' prog w c σ s->j.map av=args->wpAny (model prog w) A (call b.val j) (Ec prog w c σ s Q) E s
end
end
theorem NP(h:n<=big):(n:Int)<2^63:=by have:n<=1048576:=h;omega
theorem gV{lo j:Int}(h: -(big:Int)<=lo/\lo<=big/\ -(big:Int)<=j/\j<=big):Builtin.Range.small lo j 1=true:=by
 obtain⟨m,q,r,w⟩:=h
 have A:(big:Int)=1048576:=rfl
 rw[A]at m q r w
 exact small_one (by omega) (by omega) (by omega) (by omega)
theorem i5(J:A.handled=none)(H:IsRange s.heap r a b 1 t u v)(hs:Builtin.Range.small a b 1=true)(hz:(b-a).toNat<=2^24)(M:∀h' tk j,(∀b o',s.heap.get? b=some o'->h'.get? b=some o')->ItemsOf (λi v=>∃t,v=.int (a+i*1) t) j (b-a).toNat->Q j.toList {s with heap:=h',toks:=tk}):
  wpAny (model prog w) A (collect (.ref r)) Q E s:=by
 unfold collect
 refine So (wpAny_runValue (codeAny_builtin F.entry_proto_collect ?_))
 rw[Around.under_plainId F.plain_proto_collect _]
 show wpAny _ A.in1 (newList []>>=λl=>again (.builtin "list.__iadd__" ⟨[l,.ref r],[]⟩)) _ _ s
 refine So (wpAny_newObj_type ?_)
 refine Sv ⟨plainId_quiet F.plain_list_iadd _,codeAny_builtin F.entry_list_iadd ?_⟩
 rw[Around.under_plainId F.plain_list_iadd _]
 show wpAny _ A.in1 (Builtin.List.listExtendWith (.ref s.heap.objs.size) (.ref r) (.ref s.heap.objs.size)) _ _ _
 have N:(s.heap.push {cls:=.type "list",data:=.seq ([]:List Value).toArray}).get? s.heap.objs.size=some {cls:=.type "list",data:=.seq #[] 0}:=SM _ rfl
 refine Sz (wpAny_extend_range (A:=A) (R:=λr I=>∃h' tk j B,r=.ok (.ret (.ref s.heap.objs.size))/\I={s with heap:=h',toks:=tk}/\(∀b o',s.heap.get? b=some o'->h'.get? b=some o')/\
   h'.get? s.heap.objs.size=some {cls:=.type "list",dict:=none,data:=.seq j B,slots:=#[]}/\ItemsOf (λi v=>∃t,v=.int (a+i*1) t) j (b-a).toNat)
  (s:={s with heap:=s.heap.push {cls:=.type "list",data:=.seq ([]:List Value).toArray}}) J (Sq _ H) hs (rangeSize_nat a b) hz _ _ 0 N
   λh' tk G B D q m=>⟨h',tk,G,B,rfl,rfl,λO o' e=>D O o' (Tu (TQ e)) (Sq _ e),q,m⟩) (λfin I h=>?_) (λe I h=>?_)
 ·have C:∀h' tk j B,(∀b o',s.heap.get? b=some o'->h'.get? b=some o')->h'.get? s.heap.objs.size=some {cls:=.type "list",dict:=none,data:=.seq j B,slots:=#[]}->ItemsOf (λi v=>∃t,v=.int (a+i*1) t) j (b-a).toNat->
    wpAny (model prog w) A (match Value.ref s.heap.objs.size with
   |Value.ref a=>do
    match(<-load a).data with
     |Data.seq xs _=>pure xs.toList
     |_=>unsupported "internal:collect"
   |_=>unsupported "internal:collect") Q E {s with heap:=h',toks:=tk}:=λh' tk j B D q m=>by
   show wpAny _ A (load s.heap.objs.size>>=_) _ _ _
   refine So (wpAny_load q ?_)
   exact Sv (M h' tk j D m)
  cases fin with
  |done f=>
   obtain⟨h',tk,j,B,e,rfl,D,q,m⟩:=h
   cases e
   exact C h' tk j B D q m
  |again B=>exact⟨h.1,codeAny_mono h.2 λr U H=>by obtain⟨h',tk,j,B,rfl,rfl,D,q,m⟩:=H;exact C h' tk j B D q m⟩
 ·obtain⟨_,_,_,_,e,_⟩:=h
  cases e
theorem ia(r:Addr)(a b:Int)(t u v:Tok)(hs:Builtin.Range.small a b 1=true)(hz:(b-a).toNat<=big):
  Meets (Builtin.«tuple.__new__» ⟨[.type "tuple",.ref r],[]⟩)
   (λA R s=>A.handled=none/\IsRange s.heap r a b 1 t u v/\∀(h':Heap) tk j,(∀b o',s.heap.get? b=some o'->h'.get? b=some o')->ItemsOf (λi v=>∃t,v=.int (a+i*1) t) j (b-a).toNat->
    R (.ok (.ret (.ref h'.objs.size))) {s with heap:=h'.push {cls:=.type "tuple",data:=.seq j},toks:=tk}):=
 .of_wp λprog w A R s h=>by
  obtain⟨G,g,d,tk,os⟩:=s;obtain⟨H,ht,h⟩:=h
  have E:=sub_tuple_self
  have B:=init_tuple_lookup
  have I:=madeHere_tuple
  have J:Shared.TypeIs ⟨G,g,d,tk,os⟩ (.ref r) "range":=⟨_,ht,rfl⟩
  have C:A.in1.handled=none:=H
  have q:(b-a).toNat<=2^24:=SJ hz (by decide)
  wp_walk using AutoSeq1.wpAny_loadPart' ht,wpAny_typeOf J,i5 C ht hs q
  intro h' D j M m
  have hsz:j.size<=sizeLine:=by rw[m.1];exact cn hz
  show wpAny _ _ (Builtin.Tuple.tupleExact j.toList.toArray>>=λv=>ret v) _ _ _
  unfold Builtin.Tuple.tupleExact
  refine So (wpAny_newObj_type ?_ (by show j.toList.toArray.size<=sizeLine;simpa using hsz))
  refine Sv ⟨_,rfl,?_⟩
  have e:j.toList.toArray=j:=by simp
  rw[e]
  exact h h' D j M m
theorem kP(B:A.handled=none)(C:IsRange s.heap r a b 1 t u v)(hs:Builtin.Range.small a b 1=true)(hz:(b-a).toNat<=big)(h:∀(h':Heap) tk j,(∀b o',s.heap.get? b=some o'->h'.get? b=some o')->ItemsOf (λi v=>∃t,v=.int (a+i*1) t) j (b-a).toNat->
    Q (.ref h'.objs.size) {s with heap:=h'.push {cls:=.type "tuple",data:=.seq j},toks:=tk}):
  wpAny (model prog w) A (call (.type "tuple") [.ref r]) Q E s:=
 callType_new F.called_tuple (by decide) (F.typeCall_tuple_1 _) (F.newCall_tuple_1 _) (λq=>F.args_object_init_2 q _) F.entry_tuple_new
  (ia r a b t u v hs hz) ⟨B,C,λh' tk j D m=>⟨⟨_,SM _ rfl,rfl⟩,h h' tk j D m⟩⟩
theorem sM(h:ItemsOf (λi v=>∃t,v=.int (a+i*1) t) j (b-a).toNat):j.toList.map av=EK a b:=by
 unfold EK
 apply Vh
 ·rw[Su,Su,Tj,Tz];exact h.1
 ·intro i m q
  rw[Su,Tz]at m
  obtain⟨t,e⟩:=h.2 i j[i] (T8 m)
  rw[TO,TO,List.getElem_range,Array.getElem_toList,e,Int.mul_one];rfl
theorem yP(j:A.handled=none)(x:w' prog w c σ s)(m:q.map av=args)(h:Ik b args Q σ):wpAny (model prog w) A (call b.val q) (Ec prog w c σ s Q) E s:=h _ _ _ _ _ _ _ j x m
theorem vQ(e:σ a=some (.list xs)\/σ a=some (.tup xs)\/∃o,σ a=some (.obj o)/\Hk o xs)(q:Q (.int xs.length) σ):Ik .len [.ref a] Q σ:=λj j j j j j j j x w=>u1 w λu w=>r1 w (by
 have m:∀{vs:Array Value},vs.toList.map av=xs->xs.length<=big->(vs.size:Int)<2^63/\Q (.int vs.size) σ:=λh hz=>by subst h;rw[EJ]at hz q;exact⟨NP hz,q⟩
 rcases e with e|e|⟨o,e,vs,n,B,C,A,hz⟩
 ·obtain⟨vs,n,e1,r,hz⟩:=x.own _ _ e
  exact PyProof.Rows.len_list ⟨_,e1,rfl,n,rfl⟩ (m r hz).1 (cC x (m r hz).2)
 ·obtain⟨vs,n,e1,r,hz⟩:=x.own _ _ e
  exact PyProof.Rows.len_tuple ⟨_,e1,rfl,n,rfl⟩ (m r hz).1 (cC x (m r hz).2)
 ·exact PyProof.Rows.len_list ⟨_,x.own _ _ e,C,n,B⟩ (m A hz).1 (cC x (m A hz).2))
theorem pD(q:Q (.int i.natAbs) σ):Ik .abs [.int i] Q σ:=λj j j j j j j j x m=>u1 m λu m=>i1 m λt=>by
 refine call_abs_int λu tk=>cC x ?_
 have:(if i<0 then -i else i)=(i.natAbs:Int):=by
  by_cases h:i<0
  ·rw[if_pos h];exact(Int.ofNat_natAbs_of_nonpos (UT h)).symm
  ·rw[if_neg h];exact(Int.natAbs_of_nonneg (Int.not_lt.mp h)).symm
 show Q (.int _) σ
 rw[this];exact q
theorem sv(q:Q (.str (if b then "True" else "False")) σ):Ik .repr [.bool b] Q σ:=λj j j j j j j j x m=>u1 m λu m=>by
 rw[dX m];exact PySem.P.repr_of_bool (cC x q)
theorem B9(q:Q (.int (if b then 1 else 0)) σ):Ik .int [.bool b] Q σ:=λj j j j j j j j x m=>u1 m λu m=>by
 rw[dX m];exact call_int_bool (cC x q)
theorem nT(hz:small j)(q:∀z,σ z=none->Q (.ref z) (upd σ z (.EG 0 j))):Ik .range [.int j] Q σ:=λm m m m m m m m x r=>u1 r λu r=>i1 r λt=>
 call_range_1 (iX (o:=.EG 0 j) x ⟨_,_,_,IsRange.new ..,by decide,by decide,hz.1,hz.2⟩ q)
theorem un(hz:small i/\small j)(q:∀z,σ z=none->Q (.ref z) (upd σ z (.EG i j))):Ik .range [.int i,.int j] Q σ:=λm m m m m m m m x r=>u2 r λu u2 w A=>ii w A λt B=>
 call_range_2 (iX (o:=.EG i j) x ⟨_,_,_,IsRange.new ..,hz.1.1,hz.1.2,hz.2.1,hz.2.2⟩ q)
theorem mP(e:σ a=some (.list xs)\/σ a=some (.tup xs))(q:∀z,σ z=none->Q (.ref z) (upd σ z (.list xs))):Ik .list [.ref a] Q σ:=λj j j s j j j j x m=>u1 m λu m=>r1 m (by
 obtain⟨T,vs,n,r,e1,rfl,hz⟩:∃(T:String) (vs:Array Value) (n:Nat),(T="list"\/T="tuple")/\s.heap.get? a=some ⟨.type T,none,.seq vs n,#[]⟩/\vs.toList.map av=xs/\xs.length<=big:=
  e.elim (λe=>(by obtain⟨vs,n,h⟩:=x.own _ _ e;exact⟨_,vs,n,.inl rfl,h⟩)) λe=>(by obtain⟨vs,n,h⟩:=x.own _ _ e;exact⟨_,vs,n,.inr rfl,h⟩)
 exact call_list_seq a r e1 rfl rfl (λh' w A B=>rY (o:=.list (vs.toList.map av)) x A (bW s.heap) ⟨vs,w,B,rfl,hz⟩ q) (cn (GB.mp hz)))
theorem rO(e:σ a=some (.list xs))(q:∀z,σ z=none->Q (.ref z) (upd σ z (.tup xs))):Ik .tuple [.ref a] Q σ:=λj j j s j j j j x m=>u1 m λu m=>r1 m (by
 obtain⟨vs,n,e1,rfl,hz⟩:=x.own _ _ e
 refine call_tuple_list ⟨_,e1,rfl,n,rfl⟩ (λh' r=>?_) (cn (GB.mp hz))
 obtain⟨w,A⟩:=ci (tk:=s.toks) x r
 exact Ec.less A (j5 w hz q))
theorem zo(e:σ a=some (.tup xs))(q:Q (.ref a) σ):Ik .tuple [.ref a] Q σ:=λj j j j j j j j x m=>u1 m λu m=>r1 m (by
 obtain⟨vs,n,e1,_⟩:=x.own _ _ e
 exact call_tuple_same ⟨_,e1,rfl,n,rfl⟩ (iN x q))
theorem zm(e:σ a=some (.EG i j))(hz:(EK i j).length<=big)(q:∀z,σ z=none->Q (.ref z) (upd σ z (.tup (EK i j)))):Ik .tuple [.ref a] Q σ:=λm m m m m m m B x w=>u1 w λu w=>r1 w (by
 obtain⟨t,u,v,C,hs⟩:=x.own _ _ e
 refine kP B C (gV hs) (by unfold EK at hz;rw[Su,Tj]at hz;exact hz) λh' tk D E r=>?_
 obtain⟨G,H⟩:=ci (tk:=tk) x E
 have A:=sM r
 exact Ec.less H (j5 G (by rw[A];exact hz) (by rw[A];exact q)))
def Iq(o:AV)(C:Addr)(i:Nat)(Q:EO)(σ:AH):Prop:=∀prog w c s A E v n j,w' prog w c σ s->av v=o->(attrTab C)[i]? =some n->wpAny (model prog w) A (getAttr v n j) (Ec prog w c σ s Q) E s
def FG(o:AV)(C:Addr)(i:Nat)(y:AV)(Q:AH->Prop)(σ:AH):Prop:=∀prog w c s A E v u n,w' prog w c σ s->av v=o->av u=y->(attrTab C)[i]? =some n->wpAny (model prog w) A (setAttr v n u) (HN prog w c σ s Q) E s
theorem ez(P:Params)(C:Addr)(j:C=103\/C=272):
  findIn (K P) (.ref C) "__getattribute__"=some (some (.builtin "object.__getattribute__"))/\findIn (K P) (.ref C) "__getattr__"=some none/\
  findIn (K P) (.ref C) "__setattr__"=some (some (.builtin "object.__setattr__"))/\plainOver (K P) C=true/\∃cd,clsIn (K P) C=some cd/\cd.hasDict=true:=by
 rcases j with rfl|rfl
 ·exact⟨rfl,rfl,rfl,rfl,_,rfl,rfl⟩
 ·exact⟨rfl,rfl,rfl,rfl,_,rfl,rfl⟩
def noAttr(P:Params)(C:Addr):Bool:=(attrTab C).all λn=>decide (findIn (K P) (.ref C) n=some none)
theorem jx(P:Params)(C:Addr)(i:Nat)(n:Str)(h:(attrTab C)[i]? =some n):(C=103\/C=272)/\findIn (K P) (.ref C) n=some none:=by
 by_cases j:C=103
 ·subst j
  exact⟨.inl rfl,of_decide_eq_true (Ti.mp (show noAttr P 103=true from rfl) n (Sp h))⟩
 ·by_cases m:C=272
  ·subst m
   exact⟨.inr rfl,of_decide_eq_true (Ti.mp (show noAttr P 272=true from rfl) n (Sp h))⟩
  ·unfold attrTab at h
   split at h
   ·exact absurd rfl j
   ·exact absurd rfl m
   ·cases h
theorem I7(j:KeysOf (strKind prog w) es)(he:e∈es):∃x t,e.key=.str x t:=by
 obtain⟨k,h,_⟩:=j e he
 obtain⟨t,h⟩:=Value.isStrOf_shape h
 exact⟨k,t,h⟩
theorem pO(j:KeysOf (strKind prog w) es)(he:e∈es)(n:Str):e.key.isStr n=(strKind prog w).is n e.key:=by
 obtain⟨x,t,h⟩:=I7 j he
 rw[h]
 exact((strKind prog w).strs n n 0 (.str x t) (MN n 0)).symm
theorem rj{l:List α}(h:∀x∈l,p x=q x):l.find? p=l.find? q:=by
 induction l with
 |nil=>rfl
 |cons x l ih=>rw[UU,UU,h x Sy,ih λy j=>h y (Ss _ j)]
theorem nj{l:List DictEntry}(h:∀x∈l,p x=q x):l.findIdx? p=l.findIdx? q:=by
 induction l with
 |nil=>rfl
 |cons x l ih=>rw[List.findIdx?_cons,List.findIdx?_cons,h x Sy,ih λy j=>h y (Ss _ j)]
theorem er{h:Heap}{j:List (Str×Value)}(x:h.DictOf (strKind prog w) r j)(n:Str):∃o,h.get? r=some o/\lookIn n o=some (valueAt j n):=by
 obtain⟨o,es,D,A,E,B,m,C,G⟩:=x
 refine⟨o,A,?_⟩
 unfold lookIn
 rw[B]
 dsimp only
 rw[rj λe he=>pO m (Ug.mp he) n,<-C.find n]
 cases q:es.toList.find? λe=>(strKind prog w).is n e.key with
 |some e=>rfl
 |none=>
  have:es.toList.any (·.refKey)=false:=by
   rw[Vb]
   intro e he
   obtain⟨x,t,h⟩:=I7 m (Ug.mp he)
   simp[DictEntry.refKey,h]
  simp[this]
theorem lL(x:Fx prog w h a j q)(r:n∉j):∃m,h.DictOf (strKind prog w) a m/\valueAt m n=none:=by
 obtain⟨m,A,B,E⟩:=x
 refine⟨m,A,?_⟩
 unfold valueAt
 rw[Option.map_eq_none_iff,List.find?_eq_none]
 intro p C e
 have D:p.1=n:=by simpa using e
 have:p.1∈j.take q.length:=by rw[<-B];exact SY C
 exact r (D▸List.mem_of_mem_take this)
theorem uj(h:∀u,av v≠.OB u):handedIn v=true:=by
 cases v<;>first|rfl|(exact absurd rfl (h _))
theorem rW(x:w' prog w c σ s)(m:av v=o)(q:(attrTab C)[i]? =some n)(h:Iq o C i Q σ):wpAny (model prog w) A (getAttr v n j) (Ec prog w c σ s Q) E s:=h _ _ _ _ _ _ _ _ _ x m q
theorem zK(e:σ a=some (.inst C B D))(E:D[i]? =some y)(G:∀u,y≠.OB u)(q:Q y σ):Iq (.ref a) C i Q σ:=λj w j j j j j n j x H A=>r1 H (by
 obtain⟨J,M⟩:=x.own _ _ e
 obtain⟨kv,u,N,O,rfl⟩:=qc M A E
 obtain⟨m,r,U⟩:=er N n
 obtain⟨Y,Z⟩:=jx w.params C i n A
 obtain⟨f1,f2,f3,f4,cd,f5,f6⟩:=ez w.params C Y
 have I:InstAt _ a ⟨.ref C,some B,.plain,#[]⟩ C (some m):=⟨J,rfl,rfl,r⟩
 refine get_value x.says.1 I f1 (v:=u) ?_ (uj G) (cC x q)
 unfold findObj
 rw[f5,Z]
 show(W.ownOf cd (some m) n).bind _=_
 unfold W.ownOf
 rw[if_pos f6]
 show(lookIn n m).bind _=_
 rw[U,O]
 rfl)
theorem xb{h:Heap}{N:Addr}(x:h.DictOf (strKind prog w) N B):
  (h.update N (Obj.putName n (hashStr w n) (.str n tk) v)).DictOf (strKind prog w) N (stored B n v):=by
 obtain⟨o,es,E,Z,hc,hd,O,Q,U⟩:=x
 obtain⟨M,r,aa,A⟩:=o
 dsimp only at hd
 subst hd
 obtain⟨H,I,J⟩:=hc
 have m:(es.findIdx? λe=>e.key.isStr n)=es.findIdx? λe=>(strKind prog w).is n e.key:=by
  rw[<-PySem.nswFindIdx_arr,<-PySem.nswFindIdx_arr]
  exact nj λe he=>pO O (Ug.mp he) n
 have q:(es.findIdx? λe=>(strKind prog w).is n e.key)=B.findIdx? λp=>decide (p.1=n):=by
  rw[<-Q.findIdx n,PySem.nswFindIdx_arr]
 cases G:es.findIdx? λe=>(strKind prog w).is n e.key with
 |some i=>
  have j:Obj.putName n (hashStr w n) (.str n tk) v ⟨M,r,.dict es E,A⟩=⟨M,r,.dict (es.modify i λe=>{e with val:=v}) E,A⟩:=by
   simp only[Obj.putName_eq,Obj.putNameByArray,m,G]
  refine⟨_,_,E,(TC _ Z (by rw[j];rfl)).trans (congrArg some j),⟨H,I,J⟩,rfl,O.modify _ _,?_,?_⟩
  ·rw[stored,if_pos (any_of_findIdx_some (q▸G))]
   have hl:(es.toList.findIdx? λe=>(strKind prog w).is n e.key)=some i:=by rw[<-G];exact PySem.nswFindIdx_arr _ _
   have:=Q.modify U hl v
   obtain⟨l⟩:=es
   simpa using this
  ·rw[stored,if_pos (any_of_findIdx_some (q▸G)),keys_map_store];exact U
 |none=>
  have j:Obj.putName n (hashStr w n) (.str n tk) v ⟨M,r,.dict es E,A⟩=⟨M,r,.dict (es.push ⟨hashStr w n,.str n tk,v⟩) (E+1),A⟩:=by
   simp only[Obj.putName_eq,Obj.putNameByArray,m,G]
  have C:n∉B.map (·.1):=not_mem_of_findIdx_none (q▸G)
  have D:¬(B.any λB=>decide (B.1=n))=true:=by
   rw[Th];rintro⟨B,Y,he⟩
   exact C (Te.mpr ⟨B,Y,of_decide_eq_true he⟩)
  refine⟨_,_,E+1,(TC _ Z (by rw[j];rfl)).trans (congrArg some j),⟨H,I,J⟩,rfl,O.push (MN n tk) _,?_,?_⟩
  ·rw[stored,if_neg D]
   have:=Q.append (MN n tk) (hashStr w n) v
   obtain⟨l⟩:=es
   simpa using this
  ·rw[stored,if_neg D,SX,Tn]
   refine⟨U,by simp,?_⟩
   intro a ha b hb
   simp only[TM,U6,Sx]at hb
   subst hb
   exact λe=>C (e▸ha)
theorem xD{a D q:Addr}(X:(K w.params).In s.heap)(O:s.heap.get? a=some ⟨.ref D,some q,.plain,#[]⟩)(C:s.heap.DictOf (strKind prog w) q E)(Z:D=103\/D=272)(hf:findIn (K w.params) (.ref D) n=some none)(hz:E.length<=sizeLine)(h:∀h',h'.DictOf (strKind prog w) q (stored E n u)->Heap.SameBut q s.heap h'->R (.ok (.ret .none)) {s with heap:=h',toks:=s.toks+1}):
  codeAny (model prog w) A (.call (.builtin "object.__setattr__") ⟨[.ref a,.str n tk,u],[]⟩) R s:=by
 obtain⟨f1,f2,f3,f4,cd,f5,f6⟩:=ez w.params D Z
 obtain⟨od,j,hl⟩:=er C n
 have I:InstAt s.heap a ⟨.ref D,some q,.plain,#[]⟩ D (some od):=⟨O,rfl,rfl,j⟩
 refine osa_open X I f4 (by unfold takerIn;rw[hf];rfl) λb=>?_
 refine So (Sv (So (So (wpAny_loadPart O (So ((looks_clsIn X f5).here ?_))))))
 rw[f6]
 refine Sv (a:=some q) (So (Sv (So ?_)))
 unfold nsSet
 refine So (So (wpAny_askSetting (Sv (So (wpAny_mkText (So (wpAny_loadPart j ?_)))))))
 obtain⟨o2,es,ep,r,aa,G,H,ab,ac⟩:=id C
 rw[j]at r;cases r
 rw[G]
 dsimp only
 have cz:(!es.any (·.key.isStr n)&&es.any (·.refKey))=false:=by
  have:es.any (·.refKey)=false:=by
   rw[Array.any_eq_false']
   intro e he
   obtain⟨x,t,h⟩:=I7 H he
   simp[DictEntry.refKey,h]
  rw[this,Bool.and_false]
 rw[aRefKeyMayBeTheName_at,cz]
 refine wpAny_updatePart j ?_
 have Q:=xb (n:=n) (v:=u) (tk:=s.toks) C
 obtain⟨o3,m,ae,J,af,M,U,B,Y⟩:=id Q
 have N:m.size<=sizeLine+1:=by
  have e1:=B.length
  have e2:m.toList.length=m.size:=by simp
  have e3:=stored_length_le E n u
  omega
 refine So (wpAny_lookBehind J (by rw[M];exact pastItsLine_dict N) ?_)
 exact Sv (h _ Q (Heap.SameBut.update ..))
theorem tM(x:w' prog w c σ s)(j:av v=o)(m:av u=y)(q:(attrTab C)[i]? =some n)(h:FG o C i y Q σ):wpAny (model prog w) A (setAttr v n u) (HN prog w c σ s Q) E s:=h _ _ _ _ _ _ _ _ _ x j m q
theorem iD{a C r:Addr}(e:σ a=some (.inst C r D))(M:i<=D.length)(q:Q (upd σ a (.inst C r (GC D i y)))):FG (.ref a) C i y Q σ:=λj w j s j j j u n x N O E=>r1 N (by
 subst O
 obtain⟨G,kv,H,m,A⟩:=x.own _ _ e
 obtain⟨U,B,hl⟩:=er H n
 obtain⟨J,Y⟩:=jx w.params C i n E
 obtain⟨f1,f2,Z,f4,cd,f5,f6⟩:=ez w.params C J
 have I:InstAt _ a ⟨.ref C,some r,.plain,#[]⟩ C (some U):=⟨G,rfl,rfl,B⟩
 obtain⟨g1,g2⟩:=nW (u:=u) (tF _) E M m A
 refine set_plain x.says.1 I Z (xD (s:={s with toks:=s.toks+1}) x.says.1 G H J Y (kG m (rL _)) λh' hD hs=>?_)
 obtain⟨L',k'⟩:=wH (tk:=s.toks+1+1) x e hs ⟨_,hD,g1,g2⟩
 exact⟨_,L',k',q⟩)
def methTab:Addr->List (Str×Addr)
 |103=>[("failed_of",81),("core",88),("shrunk",93),("fewer_of",100)]
 |272=>[("says",135),("let",142),("back_to",149),("add_clause",175),("refute",182),("keep",189),("spread",196),("has_moved",203),("warm",208),("lesson",215),("height_of",222),("learn",229),("blame",234),("hottest",241),("decide",248),("solve",255),("failed",269)]
 |_=>[]
def LX(P:Params)(C:Addr):Bool:=(methTab C).all λp=>decide (findIn (K P) (.ref C) p.1=some (some (.ref p.2)))&&(decide (typeIn (K P) (.ref p.2)=some (.type "function"))&&(decide (p.1∉attrTab C)&&keepIn (K P) (.ref p.2)))
theorem lA(P:Params){i:Nat}(h:(methTab C)[i]? =some (n,f)):(C=103\/C=272)/\findIn (K P) (.ref C) n=some (some (.ref f))/\typeIn (K P) (.ref f)=some (.type "function")/\n∉attrTab C/\keepIn (K P) (.ref f)=true:=by
 have m:LX P C=true->_:=λq=>by
  have:=Ti.mp q _ (Sp h)
  have j:=SU.mp (SU.mp this).2
  have r:=SU.mp j.2
  exact(⟨of_decide_eq_true (SU.mp this).1,of_decide_eq_true j.1,of_decide_eq_true r.1,r.2⟩:findIn (K P) (.ref C) n=some (some (.ref f))/\typeIn (K P) (.ref f)=some (.type "function")/\n∉attrTab C/\keepIn (K P) (.ref f)=true)
 by_cases w:C=103
 ·subst w;exact⟨.inl rfl,m rfl⟩
 ·by_cases j:C=272
  ·subst j;exact⟨.inr rfl,m rfl⟩
  ·unfold methTab at h
   split at h
   ·exact absurd rfl w
   ·exact absurd rfl j
   ·cases h
def GD(o:AV)(C:Addr)(σ:AH):Prop:=∃a j m,o=.ref a/\σ a=some (.inst C j m)
theorem vD{o:AV}{C:Addr}{i:Nat}(x:w' prog w c σ s)(q:av v=o)(r:(methTab C)[i]? =some (n,f))(B:GD o C σ)(h:Q (.ref f,[v]) s):wpAny (model prog w) A (getMethod v n pl) Q E s:=by
 obtain⟨a,D,fl,rfl,e⟩:=B
 rw[cv q]at h⊢
 obtain⟨G,H,ht,j,_⟩:=lA w.params r
 obtain⟨J,M,f3,f4,cd,f5,f6⟩:=ez w.params C G
 obtain⟨N,O⟩:=x.own _ _ e
 obtain⟨kv,U,Y⟩:=lL O j
 obtain⟨Z,m,hl⟩:=er U n
 have I:InstAt s.heap a ⟨.ref C,some D,.plain,#[]⟩ C (some Z):=⟨N,rfl,rfl,m⟩
 exact method_fn x.says.1 I J M H ht (by unfold shadowIn;simp only;rw[hl,Y];rfl) h
section
set_option backward.match.sparseCases false
def FH:Option AO->Option (List AV)
 |some (.list xs)=>some xs
 |some (.tup xs)=>some xs
 |some (.EG lo j)=>some (EK lo j)
 |some (.D0 kvs _)=>some (kvs.map λp=> .int p.1)
 |_=>none
def items(σ:AH)(v:AV):Option (List AV):=match v with| .ref a=>FH (σ a)|_=>none
def same(σ j:AH)(v:AV):Prop:=
 match v with
 | .ref a=>j a=σ a
 |_=>False
def JI(o:Obj):Nat:=match o.data with| .dict _ j=>j|_=>0
def KV(h:Heap)(I a:Addr)(i:Nat):Option AO->Prop
 |some (.list _)=>h.IsListIter I a i
 |some (.tup _)=>h.IsTupleIter I a i
 |some (.EG lo j)=>IsRangeIter h I (lo+i) (((j-lo).toNat:Int)-i) 1
 |some (.D0 kvs o)=>h.IsKeyIter I a i kvs.length (JI o)
 |_=>False
def Ex(σ:AH)(h:Heap)(I a:Addr)(i:Nat):Prop:=KV h I a i (σ a)
theorem Ex.of(e:σ a=o)(x:KV h I a i o):Ex σ h I a i:=by subst e;exact x
theorem Ex.get(x:Ex σ h I a i)(e:σ a=o):KV h I a i o:=by subst e;exact x
@[elab_as_elim] theorem KV.el{P:Option AO->Prop}(x:KV h I a i o)(l:∀xs,h.IsListIter I a i->P (some (.list xs)))(t:∀xs,h.IsTupleIter I a i->P (some (.tup xs)))(r:∀lo j:Int,IsRangeIter h I (lo+i) (((j-lo).toNat:Int)-i) 1->P (some (.EG lo j)))(d:∀kvs o,h.IsKeyIter I a i kvs.length (JI o)->P (some (.D0 kvs o))):P o:=by
 cases o with
 |none=>exact x.elim
 |some o=>cases o with
  |list xs=>exact l _ x
  |tup xs=>exact t _ x
  |EG lo j=>exact r _ _ x
  |D0 kvs o=>exact d _ _ x
  |_=>exact x.elim
@[elab_as_elim] theorem iL{P:List AV->Prop}(h:items σ (.ref a)=some xs)(l:∀xs,σ a=some (.list xs)->P xs)(t:∀xs,σ a=some (.tup xs)->P xs)(r:∀lo j,σ a=some (.EG lo j)->P (EK lo j))(d:∀kvs o,σ a=some (.D0 kvs o)->P (kvs.map λp=> .int p.1)):P xs:=by
 have h:FH (σ a)=some xs:=h
 generalize σ a=o at h l t r d
 cases o with
 |none=>exact no_ns h
 |some o=>cases o with
  |list xs=>exact Option.some.inj h▸l _ rfl
  |tup xs=>exact Option.some.inj h▸t _ rfl
  |EG lo j=>exact Option.some.inj h▸r _ _ rfl
  |D0 kvs o=>exact Option.some.inj h▸d _ _ rfl
  |_=>exact no_ns h
theorem jO(h:items σ v=some xs):∃a,v=.ref a:=by
 cases v with
 |ref a=>exact⟨a,rfl⟩
 |_=>exact no_ns h
theorem iM(h:items σ (.ref a)=some xs):σ a≠none:=λq=>by
 have h:FH (σ a)=some xs:=h
 rewrite[q]at h;exact no_ns h
theorem mY(h:σ a=some (.list xs)):items σ (.ref a)=some xs:=congrArg FH h
theorem wW(h:σ a=some (.tup xs)):items σ (.ref a)=some xs:=congrArg FH h
theorem kR{lo j:Int}(h:σ a=some (.EG lo j)):items σ (.ref a)=some (EK lo j):=congrArg FH h
theorem yA(h:σ a=some (.D0 kvs o)):items σ (.ref a)=some (kvs.map λp=> .int p.1):=congrArg FH h
theorem Ex.at{h h':Heap}(x:Ex σ h I a i)(e:∀o,h.get? I=some o->h'.get? I=some o):Ex σ h' I a i:=
 KV.el (P:=λo=>KV h' I a i o) x (λj x=>x.at e) (λj x=>x.at e) (λj j x=>e _ x) (λj j x=>x.at e)
theorem Ex.there{h:Heap}(x:Ex σ h I a i):∃o,h.get? I=some o:=
 KV.el (P:=λj=>∃o,h.get? I=some o) x (λj m=>(by obtain⟨o,h,_⟩:=m;exact⟨o,h⟩)) (λj m=>(by obtain⟨o,h,_⟩:=m;exact⟨o,h⟩)) (λj j x=>⟨_,x⟩) (λj j m=>(by obtain⟨o,h,_⟩:=m;exact⟨o,h⟩))
theorem jD(x:OH prog w h a (.D0 kvs o)):∃j:List (Int×Value),h.DictAt (intKind prog w) a j (JI o)/\j.map Gy=kvs:=by
 obtain⟨m,j,⟨o',es,C,q,r1,r,A⟩,B,D⟩:=x
 rw[m]at q;cases q
 exact⟨j,⟨o,es,m,r1,by rw[r];unfold JI;rw[r],A⟩,B⟩
theorem qH(lo j:Int):(EK lo j).length=(j-lo).toNat:=(Su ..).trans Tj
theorem pM(lo j:Int)(i:Nat)(h:i<(j-lo).toNat):(EK lo j)[i]? =some (.int (lo+i)):=by
 unfold EK
 rw[SG,Un h];rfl
theorem iW{v:Value}(x:w' prog w c σ s)(j:items σ (av v)=some xs)(k:∀a o,v=.ref a->Ex σ (s.heap.push o) s.heap.objs.size a 0->Q (.ref s.heap.objs.size) {s with heap:=s.heap.push o}):wpAny (model prog w) A (pyIter v) Q E s:=by
 obtain⟨a,m⟩:=jO j
 cases cv m
 refine iL j (λxs e=>?_) (λxs e=>?_) (λlo j e=>?_) λkvs o e=>?_
 ·obtain⟨vs,n,e1,_⟩:=x.own _ _ e
  exact wpAny_pyIter_list ⟨_,e1,rfl,n,rfl⟩ (k a _ rfl (.of e ⟨_,SM _ rfl,rfl,rfl⟩))
 ·obtain⟨vs,n,e1,_⟩:=x.own _ _ e
  exact wpAny_pyIter_tuple ⟨_,e1,rfl,n,rfl⟩ (k a _ rfl (.of e ⟨_,SM _ rfl,rfl,rfl⟩))
 ·obtain⟨t,u,v,q,hs⟩:=x.own _ _ e
  refine wpAny_pyIter_range q (gV hs) (k a _ rfl (.of e ?_))
  show IsRangeIter _ _ _ _ _
  rw[rangeSize_nat,show lo+((0:Nat):Int)=lo from Int.add_zero _,show((j-lo).toNat:Int)-((0:Nat):Int)=((j-lo).toNat:Int)from Int.sub_zero _]
  exact SM _ rfl
 ·obtain⟨C,r,B⟩:=jD (x.own _ _ e)
  refine wpAny_pyIter_dict (x.Fm (Ep e)) r (k a _ rfl (.of e ⟨_,SM _ rfl,rfl,?_⟩))
  rw[<-B,Su];rfl
theorem gB{I a:Addr}(M:A.handled=none)(x:w' prog w c σ s)(D:items σ (.ref a)=some xs)(r:Ex σ s.heap I a i)(Y:a≠I)(k:∀v h' tk,xs[i]? =some (av v)->Ex σ h' I a (i+1)->(∀b o,b≠I->s.heap.get? b=some o->h'.get? b=some o)->Q (some v) {s with heap:=h',toks:=tk})(B:∀h' tk,i=xs.length\/xs.length<i->(∀b o,b≠I->s.heap.get? b=some o->h'.get? b=some o)->Q none {s with heap:=h',toks:=tk}):wpAny (model prog w) A (pyNext (.ref I)) Q E s:=by
 have N:∀{n:Nat},n<=i->i=n\/n<i:=λh=>(Nat.lt_or_eq_of_le h).elim .inr λe=> .inl e.symm
 revert k B
 refine iL D (λxs e=>?_) (λxs e=>?_) (λlo D e=>?_) λkvs o e=>?_
 ·intro k B
  obtain⟨vs,n,e1,rfl,_⟩:=x.own _ _ e
  have G:s.heap.IsList a vs:=⟨_,e1,rfl,n,rfl⟩
  cases q:vs[i]? with
  |some y=>
   exact wpAny_pyNext_list_item (r.get e) G q λh' j hs=>k y h' s.toks (by rw[SG,Ux,q];rfl) (.of e j) λb o m e=>hs.extBut b o m e
  |none=>
   refine wpAny_pyNext_list_end M (r.get e) G q λh' hs=>B h' s.toks (N ?_) λb o m e=>hs b o m e
   rw[EJ];exact Vt.mp q
 ·intro k B
  obtain⟨vs,n,e1,rfl,_⟩:=x.own _ _ e
  have G:s.heap.IsTuple a vs:=⟨_,e1,rfl,n,rfl⟩
  cases q:vs[i]? with
  |some y=>
   exact wpAny_pyNext_tuple_item (r.get e) G q λh' j hs=>k y h' s.toks (by rw[SG,Ux,q];rfl) (.of e j) λb o m e=>hs.extBut b o m e
  |none=>
   refine wpAny_pyNext_tuple_end M (r.get e) G q λh' hs=>B h' s.toks (N ?_) λb o m e=>hs b o m e
   rw[EJ];exact Vt.mp q
 ·intro k B
  have r:=r.get e
  by_cases C:i<(D-lo).toNat
  ·refine wpAny_pyNext_range_item r (Int.sub_pos_of_lt (Int.ofNat_lt.mpr C)) λh' j hs=>k _ h' _ (by rw[pM _ _ _ C];rfl) (.of e ?_) λb o m e=>hs.extBut b o m e
   show IsRangeIter _ _ _ _ _
   rw[show lo+((i+1:Nat):Int)=lo+(i:Int)+1 from(congrArg (lo+ ·) (Int.natCast_succ i)).trans (Int.add_assoc ..).symm,show(((D-lo).toNat:Nat):Int)-((i+1:Nat):Int)=((D-lo).toNat:Int)-(i:Int)-1 from by omega];exact j
  ·exact wpAny_pyNext_range_end M r (Int.sub_nonpos_of_le (US.mpr (T4 C))) λh' hs=>B h' s.toks (N (by rw[qH];exact T4 C)) λb o m e=>hs b o m e
 ·intro k B
  obtain⟨H,U,rfl⟩:=jD (x.own _ _ e)
  have r:=r.get e
  have O:(H.map Gy).length=H.length:=Su ..
  have r:s.heap.IsKeyIter I a i H.length (JI o):=O▸r
  cases q:H[i]? with
  |some p=>
   refine wpAny_pyNext_dict_item r U q λZ h' J j hs=>k Z h' s.toks ?_ (.of e (show h'.IsKeyIter I a (i+1) (H.map Gy).length (JI o)from O▸j)) λb o m e=>hs.extBut b o m e
   obtain⟨t,rfl⟩:=Value.isInt_shape J
   rw[SG,SG,q];rfl
  |none=>
   refine wpAny_pyNext_dict_end M r U q λh' hs=>B h' s.toks (N ?_) λb o m e=>hs b o m e
   rw[Su,O];exact Vw.mp q
theorem nQ{I a:Addr}(m:Ex σ s.heap I a i)(k:Q (.ref I) s):wpAny (model prog w) A (pyIter (.ref I)) Q E s:=
 KV.el (P:=λj=>wpAny (model prog w) A (pyIter (.ref I)) Q E s) m (λj m=>wpAny_pyIter_listiter m k) (λj m=>wpAny_pyIter_tupleiter m k) (λj j m=>wpAny_pyIter_rangeiter m k) (λj j m=>wpAny_pyIter_keyiter m k)
theorem gD(x:w' prog w c σ s)(A:c.base.get? I=none)(m:I∉D2 c)(B:∀b o,σ b=some o->I∉foot b o)(k:∀b o,b≠I->s.heap.get? b=some o->h'.get? b=some o):
  w' prog w c σ {s with heap:=h',toks:=tk}:=by
 refine⟨x.ok,λb o e=>k b o (λq=>by rw[q,A]at e;cases e) (x.stays b o e),e9 x.frames λb j o e=>⟨o,k b o (λq=>m (q▸j)) e,rfl⟩,?_,λa o e=>?_,x.parts,x.apart,x.off,x.gens,x.os⟩
 ·obtain⟨C,h⟩:=x.ns
  exact⟨C,df h λo e=>⟨o.slots,k _ o (λq=>m (q▸x.Gz)) e⟩⟩
 ·refine(x.own a o e).congr λb j=>?_
  obtain⟨ob,r⟩:=(x.own a o e).there b j
  exact(k b ob (λq=>B a o e (q▸j)) r).trans r.symm
end
section
set_option backward.match.sparseCases false
abbrev Hm:Value:=.ref 60
inductive J0 (c:Cx) (a:Addr) (B:Heap) (h:Heap):Prop
 |made (oe:Obj) (vs:Array Value) (a0:Value) (he:h.get? a=some oe) (hc:oe.cls=Hm) (hd:oe.data=.fields vs) (h0:vs[0]? =some a0) (h1:vs[1]? =some .none) (st:B.StaysIn h) (hn:B.get? a=none) (fr:h.FunFrames B (c.D1::c.outer))
 |NQ (a0:Value) (x:Heap.FlyingW B (c.D1::c.outer) a Hm a0 h)
 |held (a0:Value) (x:Heap.HeldW B (c.D1::c.outer) a Hm a0 c.L h)
structure J1 (prog:Program) (w:World) (c:Cx) (σ:AH) (s:Shared) (a:Addr) (Eb:AH) (B:Heap) (s':Shared):Prop where
 ok:NN w c
 base:∀b o,c.base.get? b=some o->B.get? b=some o
 own:∀b o,Eb b=some o->OH prog w B b o
 parts:Parts Eb
 apart:∀b,Ee Eb b=true->c.base.get? b=none/\b∉D2 c
 off:∀b,Eb b≠none->b∉D2 c
 keep:∀b ob,Ee σ b=false->s.heap.get? b=some ob->b∉D2 c->B.get? b=some ob
 fresh:∀b,Ee Eb b=true->Ee σ b=true\/s.heap.get? b=none
 GR:∀b o,Eb b=some o->σ b≠none\/s.heap.get? b=none
 frames:∀b ob,b∈D2 c->s.heap.get? b=some ob->∃sl,s'.heap.get? b=some {ob with slots:=sl}
 gens:s'.gens=#[]
 os:s'.os=c.os/\Pg prog
 I8:J0 c a B s'.heap
inductive EX (prog:Program) (w:World) (c:Cx) (X:AH->Prop) (σ:AH) (s:Shared) (e:Value) (s':Shared):Prop
 |mk (a Eb B) (h0:e=.ref a) (h1:X Eb) (h2:J1 prog w c σ s a Eb B s')
theorem Kp.gone(k:Kp c σ s m j):∀a,j.heap.get? a=none->Ee σ a=true\/s.heap.get? a=none:=λa h=>by
 cases r:Ee σ a with
 |true=>exact .inl rfl
 |false=>
  right
  cases q:s.heap.get? a with
  |none=>rfl
  |some ob=>obtain⟨w,e,_⟩:=k.keep a ob r q;rw[h]at e;cases e
theorem EX.trans(x:w' prog w c σ s)(k:Kp c σ s j m)(h:EX prog w c X j m e G):EX prog w c X σ s e G:=by
 obtain⟨a,r,B,rfl,I,H⟩:=h
 refine⟨a,r,B,rfl,I,⟨H.ok,H.base,H.own,H.parts,H.apart,H.off,λb ob C e D=>?_,λb h=>?_,λb o e=>?_,λb ob E e=>?_,H.gens,H.os,H.I8⟩⟩
 ·obtain⟨J,e1,M⟩:=k.keep b ob C e
  rw[M D]at e1
  refine H.keep b ob ?_ e1 D
  cases q:Ee j b with
  |false=>rfl
  |true=>
   rcases k.fresh b q with h|h
   ·rw[C]at h;cases h
   ·rw[h]at e;cases e
 ·rcases H.fresh b h with h|h
  ·exact k.fresh b h
  ·exact k.gone b h
 ·rcases H.GR b o e with h|h
  ·cases q:j b with
   |none=>exact absurd q h
   |some o'=>exact k.GR b o' q
  ·rcases k.gone b h with h|h
   ·left;intro q;unfold Ee at h;rw[q]at h;cases h
   ·exact .inr h
 ·obtain⟨J,e1,_⟩:=k.keep b ob (x.Gh E) e
  obtain⟨A,N⟩:=H.frames b _ E e1
  exact⟨A,N⟩
structure J2 (c:Cx) (A:Around) (d:Nat):Prop where
 stack:A.frames=some (c.D1::c.outer)
 calm:A.handled=none
 depth:A.depth+d<recursionLimit
 units:A.units+6*d+100<cLine
def Jp(prog:Program)(w:World)(c:Cx)(σ:AH)(s:Shared)(Q:EO)(X:AH->Prop):Result->Shared->Prop:=λr j=>match r with
 | .ok (.ret v)=>Ec prog w c σ s Q v j
 | .ok _=>False
 | .error e=>EX prog w c X σ s e j
def D5(d:Nat)(f:AV)(args:List AV)(Q:EO)(X:AH->Prop)(σ:AH):Prop:=
 (∀prog w c s j,w' prog w c σ s->av j=f->∃k,(k=Keeper.frame\/k=Keeper.machine\/k=Keeper.boundFrame)/\Looks (model prog w) s.heap (keeperOf j) k)/\
 ∀prog w c A s j vs,J2 c A d->w' prog w c σ s->av j=f->vs.map av=args->codeAny (model prog w) A (.call j ⟨vs,[]⟩) (Jp prog w c σ s Q X) s
abbrev D7:=List (Option AV)
def Em(m:D7)(i:Nat):Option AV:=(m[i]?).getD none
set_option genCtorIdx false in
inductive X where
 |nil|cons (a as:X)
 |D6 (v:AV)
 |var (i:Nat)
 |glob (n:Nat)
 |neg (a:X)|not (a:X)
 |bin (op:Operator) (a b:X)
 |cmp (op:CmpOp) (a b:X)
 |JJ (o1 o2:CmpOp) (a b c:X)
 |MO (a b c d:X)
 |and (a b:X)|or (a b:X)
 |ite (t a b:X)
 |tup (as:X)|lst (as:X)
 |Fy
 |Gj (tab:Nat) (as:X)
 |Ir (k v:X)
 |sub (a i:X)
 |key (a:X) (tab i:Nat)
 |slice (a lo hi:X)
 |rev (a:X)
 |attr (a:X) (C i:Nat)
 |bf (b:BF) (as:X)
 |bm (b:BM) (a as:X)
 |call (f as:X)
 |D3 (a:X) (C i:Nat) (as:X)
 |Iu (a:X) (C i:Nat) (as:X)
 |GU (a:X)
 |Iv (a o:X)
 |comp (elt:X) (j:Nat) (it cond:X)
 |HO (elt:X) (j:Nat) (it cond:X)
 |GV (elt:X) (j1:Nat) (QG:X) (j2:Nat) (QH cond:X)
 |Gl (k v:X) (j:Nat) (it:X)
 |JK (a:X) (t:Str)
def I9:List (Str×AV):=[("LimitFault",.ref 60),("CoreFinder",.ref 103),("FIRST_SPAN",.int 16),("MOST_HEAT",.int 1000000000),("ordered",.ref 114),("Search",.ref 272),("_law_draw",.ref 281),("_law_literal",.ref 288),("_law_formula",.ref 295),
 ("_law_can",.ref 300),("_law_told",.ref 305),("_law_left",.ref 310),("_law_is_core_right",.ref 315)]
def BF.Jq:BF->Str
 | .len=>"len"| .abs=>"abs"| .repr=>"repr"| .int=>"int"| .range=>"range"| .list=>"list"| .tuple=>"tuple"
def Ext(σ j:AH):Prop:=∀a o,σ a=some o->j a=some o
def Hn:AV->Int| .int i=>i.natAbs|_=>0
def isInt:AV->Prop| .int _=>True|_=>False
structure Ev where
 e:D7->EO->AH->Prop
 t:D7->(Bool->AH->Prop)->AH->Prop
 l:D7->(List AV->AH->Prop)->AH->Prop
def truth(K:Bool->AH->Prop)(v:AV)(σ:AH):Prop:=match v with| .bool b=>K b σ|_=>False
def MP(e:D7->EO->AH->Prop):Ev:=⟨e,λm K σ=>e m (truth K) σ,λj j j=>False⟩
def HG(e:D7->EO->AH->Prop):Ev:=⟨e,λj j j=>False,λj j j=>False⟩
def E8(v:AV)(P:Int->Prop):Prop:=match v with| .int i=>P i|_=>False
def Ho(v:AV)(P:Bool->Prop):Prop:=match v with| .bool b=>P b|_=>False
def Ej{α:Type}(v:Option α)(P:α->Prop):Prop:=match v with|some x=>P x|none=>False
def d'(_:AH):Prop:=False
def ev(d:Nat)(q:Bool):X->(AH->Prop)->Ev
 | .nil,_=>⟨λA A A=>False,λA K σ=>K true σ,λA Q σ=>Q [] σ⟩
 | .cons a as,Xp=>⟨λA A A=>False,λA A A=>False,λm Q σ=>(ev d q a Xp).e m (λv σ=>(ev d q as Xp).l m (λvs σ=>Q (v::vs) σ) σ) σ⟩
 | .D6 v,_=>MP λA Q σ=>Q v σ
 | .var i,_=>MP λm Q σ=>Ej (Em m i) λv=>Q v σ
 | .glob n,_=>HG λA Q σ=>Ej I9[n]? λp=>Q p.2 σ
 | .neg a,Xp=>HG λm Q σ=>(ev d q a Xp).e m (λv σ=>E8 v λi=>Q (.int (-i)) σ) σ
 | .not a,Xp=>⟨λm Q σ=>(ev d q a Xp).e m (λv σ=>Ho v λb=>Q (.bool (!b)) σ) σ,λm K σ=>(ev d q a Xp).t m (λb σ=>K (!b) σ) σ,λA A A=>False⟩
 | .bin op a b,Xp=>HG λm Q σ=>(ev d q a Xp).e m (λv σ=>(ev d q b Xp).e m (λu σ=>GA op v u Q σ) σ) σ
 | .cmp op a b,Xp=>⟨λm Q σ=>(ev d q a Xp).e m (λv σ=>(ev d q b Xp).e m (λu σ=>E5 op v u (λr=>Q (.bool r) σ) σ) σ) σ,
   λm K σ=>(ev d q a Xp).e m (λv σ=>(ev d q b Xp).e m (λu σ=>E5 op v u (λr=>K r σ) σ) σ) σ,λA A A=>False⟩
 | .JJ o1 o2 a b c,Xp=>⟨λA A A=>False,
   λm K σ=>(ev d q a Xp).e m (λv σ=>(ev d q b Xp).e m (λu σ=>E5 o1 v u (λr=>if r then(ev d q c Xp).e m (λw σ=>E5 o2 u w (λr=>K r σ) σ) σ else K false σ) σ) σ) σ,λA A A=>False⟩
 | .MO a b c f,Xp=>⟨λA A A=>False,
   λm K σ=>(ev d q a Xp).e m (λv1 σ=>(ev d q b Xp).e m (λv2 σ=>(ev d q c Xp).e m (λv3 σ=>(ev d q f Xp).e m (λv4 σ=>E8 v1 λi=>E8 v2 λj=>E8 v3 λk=>E8 v4 λl=>
    K (decide (i>k\/i=k/\j>l)) σ) σ) σ) σ) σ,λA A A=>False⟩
 | .and a b,Xp=>⟨λm Q σ=>(ev d q a Xp).e m (λv σ=>Ho v λt=>if t then(ev d q b Xp).e m Q σ else Q (.bool false) σ) σ,
   λm K σ=>(ev d q a Xp).t m (λt σ=>if t then(ev d q b Xp).t m K σ else K false σ) σ,λA A A=>False⟩
 | .or a b,Xp=>⟨λm Q σ=>(ev d q a Xp).e m (λv σ=>Ho v λt=>if t then Q (.bool true) σ else(ev d q b Xp).e m Q σ) σ,
   λm K σ=>(ev d q a Xp).t m (λt σ=>if t then K true σ else(ev d q b Xp).t m K σ) σ,λA A A=>False⟩
 | .ite t a b,Xp=>⟨λm Q σ=>(ev d q t Xp).t m (λr σ=>if r then(ev d q a Xp).e m Q σ else(ev d q b Xp).e m Q σ) σ,
   λA A A=>False,λA A A=>False⟩
 | .tup as,Xp=>HG λm Q σ=>(ev d q as Xp).l m (λvs σ=>vs.length<=big/\∀z,σ z=none->Q (.ref z) (upd σ z (.tup vs))) σ
 | .lst as,Xp=>HG λm Q σ=>(ev d q as Xp).l m (λvs σ=>vs.length<=big/\∀z,σ z=none->Q (.ref z) (upd σ z (.list vs))) σ
 | .Fy,_=>HG λA Q σ=>∀z o,σ z=none->Q (.ref z) (upd σ z (.D0 [] o))
 | .Gj I as,Xp=>HG λm Q σ=>(ev d q as Xp).l m (λvs σ=>∀z,σ z=none->Q (.ref z) (upd σ z (.D4 I vs))) σ
 | .Ir k v,Xp=>HG λm Q σ=>(ev d q k Xp).e m (λkv σ=>(ev d q v Xp).e m (λvv σ=>E8 kv λi=>∀z o,σ z=none->Q (.ref z) (upd σ z (.D0 [(i,vv)] o))) σ) σ
 | .sub a i,Xp=>HG λm Q σ=>(ev d q a Xp).e m (λv σ=>(ev d q i Xp).e m (λu σ=>JZ v u Q σ) σ) σ
 | .key a I i,Xp=>HG λm Q σ=>(ev d q a Xp).e m (λv σ=>LW v I i Q σ) σ
 | .slice a lo hi,Xp=>HG λm Q σ=>(ev d q a Xp).e m (λv σ=>(ev d q lo Xp).e m (λl σ=>(ev d q hi Xp).e m (λh σ=>Hl v l h Q σ) σ) σ) σ
 | .rev a,Xp=>HG λm Q σ=>(ev d q a Xp).e m (λv σ=>K7 v Q σ) σ
 | .attr a C i,Xp=>MP λm Q σ=>(ev d q a Xp).e m (λv σ=>Iq v C i Q σ) σ
 | .bf b as,Xp=>HG λm Q σ=>q=true/\(ev d q as Xp).l m (λvs σ=>Ik b vs Q σ) σ
 | .bm b a as,Xp=>MP λm Q σ=>(ev d q a Xp).e m (λv σ=>F9 b v σ/\(ev d q as Xp).l m (λvs σ=>Ij b v vs Q σ) σ) σ
 | .call f as,Xp=>MP λm Q σ=>q=true/\(ev d q f Xp).e m (λM σ=>(ev d q as Xp).l m (λvs σ=>D5 d M vs Q Xp σ) σ) σ
 | .D3 a C i as,Xp=>MP λm Q σ=>q=true/\(ev d q a Xp).e m (λv σ=>GD v C σ/\(ev d q as Xp).l m (λvs σ=>Ej (methTab C)[i]? λp=>D5 d (.ref p.2) (v::vs) Q Xp σ) σ) σ
 | .Iu a C i as,Xp=>HG λm Q σ=>q=true/\(ev d q a Xp).e m (λv σ=>GD v C σ/\Iq v C i (λM σ=>(ev d q as Xp).l m (λvs σ=>D5 d M vs Q Xp σ) σ) σ) σ
 | .comp D j J cond,Xp=>HG λm Q σ=>q=true/\(ev d q J Xp).e m (λE σ=>Ej (items σ E) λxs=>
   ∃(p:AV->Bool) (F:AV->AV),(∀x∈xs,(ev d q cond d').t (m.set j (some x)) (λb B=>b=p x/\Ext σ B) σ)/\
     (∀x∈xs,p x=true->(ev d q D d').e (m.set j (some x)) (λy B=>y=F x/\Ext σ B) σ)/\xs.length<=big/\∀z,σ z=none->Q (.ref z) (upd σ z (.list ((xs.filter p).map F)))) σ
 | .HO D j J cond,Xp=>HG λm Q σ=>q=true/\(ev d q J Xp).e m (λE σ=>Ej (items σ E) λxs=>
   ∃(p:AV->Bool) (F:AV->AV),(∀x∈xs,(ev d q cond d').t (m.set j (some x)) (λb B=>b=p x/\Ext σ B) σ)/\
     (∀x∈xs,p x=true->(ev d q D d').e (m.set j (some x)) (λy B=>y=F x/\Ext σ B) σ)/\xs.length<=big/\∀z,σ z=none->Q (.ref z) (upd σ z (.list ((xs.filter p).map F)))) σ
 | .Gl k v j J,Xp=>HG λm Q σ=>q=true/\(ev d q J Xp).e m (λE σ=>Ej (items σ E) λxs=>
   ∃(F:AV->Int) (G:AV->AV),(∀x∈xs,(ev d q k d').e (m.set j (some x)) (λy B=>y=.int (F x)/\Ext σ B) σ)/\
     (∀x∈xs,(ev d q v d').e (m.set j (some x)) (λy B=>y=G x/\Ext σ B) σ)/\xs.length<=big/\∀z o,σ z=none->Q (.ref z) (upd σ z (.D0 (GS [] (xs.map λx=>(F x,G x))) o))) σ
 | .JK a _,Xp=>HG λm Q σ=>(ev d q a Xp).e m (λv σ=>E8 v λi=>(0<=i/\i<=1)/\∀x,Q (.str x) σ) σ
 | .GU a,Xp=>HG λm Q σ=>q=true/\(ev d q a Xp).e m (λE σ=>Ej (items σ E) λxs=>
   ((∀x∈xs,isInt x)/\xs.length<64)/\∀ys:List AV,ys.Perm xs->ys.Pairwise (λx y=>Hn x<=Hn y)->∀z,σ z=none->Q (.ref z) (upd σ z (.list ys))) σ
 | .Iv a o,Xp=>HG λm Q σ=>q=true/\(ev d q a Xp).e m (λE σ=>(ev d q o Xp).e m (λY σ=>GD Y 272 σ/\Ej (items σ E) λxs=>
   ∃H:AV->Int,(xs.length<64/\0<d/\∀x∈xs,D5 (d-1) (.ref 222) [Y,x] (λy B=>y=.int (H x)/\Ext σ B) d' σ)/\
     ∀ys:List AV,ys.Perm xs->ys.Pairwise (λx y=>H y<=H x)->∀z,σ z=none->Q (.ref z) (upd σ z (.list ys))) σ) σ
 | .GV D N O Z U cond,Xp=>HG λm Q σ=>q=true/\(ev d q O Xp).e m (λE σ=>Ej (items σ E) λxs=>
   ∃(G:AV->List AV) (p:AV->AV->Bool) (F:AV->AV->AV),(∀x∈xs,(ev d q U d').e (m.set N (some x)) (λjv B=>items σ jv=some (G x)/\Ext σ B) σ)/\
     (∀x∈xs,∀y∈G x,(ev d q cond d').t ((m.set N (some x)).set Z (some y)) (λb B=>b=p x y/\Ext σ B) σ)/\
     (∀x∈xs,∀y∈G x,p x y=true->(ev d q D d').e ((m.set N (some x)).set Z (some y)) (λv B=>v=F x y/\Ext σ B) σ)/\(xs.flatMap G).length<=big/\
     ∀z,σ z=none->Q (.ref z) (upd σ z (.list (xs.flatMap λx=>((G x).filter (p x)).map (F x))))) σ
end
section
set_option backward.match.sparseCases false
abbrev Ks:=List (Str×NameKind)
abbrev Tab:=List (Nat×Str×Bool)
def NR:Option NameKind->Bool
 |some .local|some .cell|some .free=>true
 |_=>false
def Ja:Option NameKind->Bool
 |some .cell|some .free=>true
 |_=>false
def NS(ks:Ks)(T:Tab)(i:Nat)(x:Str):Bool:=
 (match T.lookup i with|some (y,_)=>decide (y=x)|none=>false)&&NR (ks.lookup x)&& !(x==("__debug__":Str))&& !(x==("__classdict__":Str))
def IW(ks:Ks)(x:Str):Bool:=decide (ks.lookup x=some .globalImplicit)&& !(x==("__debug__":Str))
set_option genInjectivity false in
set_option genSizeOf false in
structure ED where
 t:Nat
 a:Expr
 b:Expr
 c:Expr
 es:List Expr
 os:List (Option Expr)
 x:Str
 p:Pos
 k:Nat
 v:Const
 l:Option Expr
 h:Option Expr
 st:Option Expr
 cs:List CmpOp
 kw:List Keyword
 gs:List Comprehension
 sc:Scope
 i:Int
 u:UnaryOp
 o:Operator
 bo:BoolOp
def p0:Pos:=⟨0,0,0,0⟩
def e0:Expr:=.Constant .none 0 p0
def d0:ED:=⟨0,e0,e0,e0,[],[],Str.empty,p0,0,.none,none,none,none,[],[],[],⟨.function,[],false,false,[]⟩,0,.Not,.Add,.And⟩
def data:Expr->ED
 | .Constant v k p=>{d0 with t:=1,v:=v,k:=k,p:=p}
 | .UnaryOp u a p=>{d0 with t:=2,u:=u,a:=a,p:=p}
 | .Name x p=>{d0 with t:=3,x:=x,p:=p}
 | .Compare a cs es p=>{d0 with t:=4,a:=a,cs:=cs,es:=es,p:=p}
 | .BoolOp bo es p=>{d0 with t:=5,bo:=bo,es:=es,p:=p}
 | .IfExp a b c p=>{d0 with t:=6,a:=a,b:=b,c:=c,p:=p}
 | .Tuple es k p=>{d0 with t:=7,es:=es,k:=k,p:=p}
 | .List es p=>{d0 with t:=8,es:=es,p:=p}
 | .Dict os es p=>{d0 with t:=9,os:=os,es:=es,p:=p}
 | .Subscript a b p=>{d0 with t:=10,a:=a,b:=b,p:=p}
 | .Slice l h st p=>{d0 with t:=11,l:=l,h:=h,st:=st,p:=p}
 | .Attribute a x p=>{d0 with t:=12,a:=a,x:=x,p:=p}
 | .Call a es kw p=>{d0 with t:=13,a:=a,es:=es,kw:=kw,p:=p}
 | .ListComp a gs sc p=>{d0 with t:=14,a:=a,gs:=gs,sc:=sc,p:=p}
 | .DictComp a b gs sc p=>{d0 with t:=15,a:=a,b:=b,gs:=gs,sc:=sc,p:=p}
 | .JoinedStr es p=>{d0 with t:=16,es:=es,p:=p}
 | .FormattedValue a i l p=>{d0 with t:=17,a:=a,i:=i,l:=l,p:=p}
 | .BinOp a o b p=>{d0 with t:=18,a:=a,o:=o,b:=b,p:=p}
 | .Set es k p=>{d0 with t:=19,es:=es,k:=k,p:=p}
 | .Starred a p=>{d0 with t:=20,a:=a,p:=p}
 | .SetComp a gs sc p=>{d0 with t:=21,a:=a,gs:=gs,sc:=sc,p:=p}
 |_=>d0
def OZ(d:ED)(n:Nat):Expr:=([e0,.Constant d.v d.k d.p,.UnaryOp d.u d.a d.p,.Name d.x d.p,.Compare d.a d.cs d.es d.p,.BoolOp d.bo d.es d.p,.IfExp d.a d.b d.c d.p,.Tuple d.es d.k d.p,.List d.es d.p,.Dict d.os d.es d.p,.Subscript d.a d.b d.p,.Slice d.l d.h d.st d.p,.Attribute d.a d.x d.p,.Call d.a d.es d.kw d.p,.ListComp d.a d.gs d.sc d.p,.DictComp d.a d.b d.gs d.sc d.p,.JoinedStr d.es d.p,.FormattedValue d.a d.i d.l d.p,.BinOp d.a d.o d.b d.p,.Set d.es d.k d.p,.Starred d.a d.p,.SetComp d.a d.gs d.sc d.p]:List Expr)[n]?.getD e0
theorem K8(e:Expr):(data e).t=0\/e=OZ (data e) (data e).t:=by
 cases e<;>first|exact .inr rfl|exact .inl rfl
theorem DU(h:(data e).t=n+1):e=OZ (data e) (n+1):=
 (K8 e).elim (λq=>Nat.noConfusion (q.symm.trans h)) λq=>h▸q
def H4(e:Expr)(n:Nat)(b:Bool):Bool:=Nat.beq (data e).t n&&b
theorem b9(h:H4 e (n+1) b=true):e=OZ (data e) (n+1)/\b=true:=
 ⟨DU (Nat.eq_of_beq_eq_true (SU.mp h).1),(SU.mp h).2⟩
section
@[irreducible] def Fp(e:Expr)(f:Const->Bool):Bool:=H4 e 1 (f (data e).v)
theorem iY(h:Fp e f=true):∃v k p,e=.Constant v k p/\f v=true:=by
 unfold Fp at h;exact⟨_,_,_,(b9 h).1,(b9 h).2⟩
@[elab_as_elim] theorem iG{motive:Expr->Prop}(j:Fp e f=true)(m:∀v k p,f v=true->motive (.Constant v k p)):motive e:=by
 obtain⟨v,k,p,rfl,q⟩:=iY j;exact m v k p q
@[irreducible] def JL(e:Expr)(f:UnaryOp->Expr->Bool):Bool:=H4 e 2 (f (data e).u (data e).a)
theorem sd(h:JL e f=true):∃u a p,e=.UnaryOp u a p/\f u a=true:=by
 unfold JL at h;exact⟨_,_,_,(b9 h).1,(b9 h).2⟩
@[elab_as_elim] theorem mt{motive:Expr->Prop}(j:JL e f=true)(m:∀u a p,f u a=true->motive (.UnaryOp u a p)):motive e:=by
 obtain⟨u,a,p,rfl,q⟩:=sd j;exact m u a p q
@[irreducible] def EU(e:Expr)(f:Str->Pos->Bool):Bool:=H4 e 3 (f (data e).x (data e).p)
theorem d3(h:EU e f=true):∃x p,e=.Name x p/\f x p=true:=by
 unfold EU at h;exact⟨_,_,(b9 h).1,(b9 h).2⟩
@[elab_as_elim] theorem gI{motive:Expr->Prop}(j:EU e f=true)(m:∀x p,f x p=true->motive (.Name x p)):motive e:=by
 obtain⟨x,p,rfl,q⟩:=d3 j;exact m x p q
@[irreducible] def HP(e:Expr)(f:Expr->List CmpOp->List Expr->Bool):Bool:=H4 e 4 (f (data e).a (data e).cs (data e).es)
theorem xn(h:HP e f=true):∃a cs es p,e=.Compare a cs es p/\f a cs es=true:=by
 unfold HP at h;exact⟨_,_,_,_,(b9 h).1,(b9 h).2⟩
@[elab_as_elim] theorem iR{motive:Expr->Prop}(j:HP e f=true)(m:∀a cs es p,f a cs es=true->motive (.Compare a cs es p)):motive e:=by
 obtain⟨a,cs,es,p,rfl,q⟩:=xn j;exact m a cs es p q
@[irreducible] def Gm(e:Expr)(f:BoolOp->List Expr->Pos->Bool):Bool:=H4 e 5 (f (data e).bo (data e).es (data e).p)
theorem te(h:Gm e f=true):∃bo es p,e=.BoolOp bo es p/\f bo es p=true:=by
 unfold Gm at h;exact⟨_,_,_,(b9 h).1,(b9 h).2⟩
@[elab_as_elim] theorem fL{motive:Expr->Prop}(j:Gm e f=true)(m:∀bo es p,f bo es p=true->motive (.BoolOp bo es p)):motive e:=by
 obtain⟨bo,es,p,rfl,q⟩:=te j;exact m bo es p q
@[irreducible] def K9(e:Expr)(f:Expr->Expr->Expr->Bool):Bool:=H4 e 6 (f (data e).a (data e).b (data e).c)
theorem ze(h:K9 e f=true):∃a b c p,e=.IfExp a b c p/\f a b c=true:=by
 unfold K9 at h;exact⟨_,_,_,_,(b9 h).1,(b9 h).2⟩
@[elab_as_elim] theorem Ay{motive:Expr->Prop}(j:K9 e f=true)(m:∀a b c p,f a b c=true->motive (.IfExp a b c p)):motive e:=by
 obtain⟨a,b,c,p,rfl,q⟩:=ze j;exact m a b c p q
@[irreducible] def GW(e:Expr)(f:List Expr->Bool):Bool:=H4 e 7 (f (data e).es)
theorem lb(h:GW e f=true):∃es k p,e=.Tuple es k p/\f es=true:=by
 unfold GW at h;exact⟨_,_,_,(b9 h).1,(b9 h).2⟩
@[elab_as_elim] theorem lq{motive:Expr->Prop}(j:GW e f=true)(m:∀es k p,f es=true->motive (.Tuple es k p)):motive e:=by
 obtain⟨es,k,p,rfl,q⟩:=lb j;exact m es k p q
@[irreducible] def Jr(e:Expr)(f:List Expr->Bool):Bool:=H4 e 8 (f (data e).es)
theorem yo(h:Jr e f=true):∃es p,e=.List es p/\f es=true:=by
 unfold Jr at h;exact⟨_,_,(b9 h).1,(b9 h).2⟩
@[elab_as_elim] theorem xV{motive:Expr->Prop}(j:Jr e f=true)(m:∀es p,f es=true->motive (.List es p)):motive e:=by
 obtain⟨es,p,rfl,q⟩:=yo j;exact m es p q
@[irreducible] def GF(e:Expr)(f:List (Option Expr)->List Expr->Bool):Bool:=H4 e 9 (f (data e).os (data e).es)
theorem vM(h:GF e f=true):∃os es p,e=.Dict os es p/\f os es=true:=by
 unfold GF at h;exact⟨_,_,_,(b9 h).1,(b9 h).2⟩
@[elab_as_elim] theorem jQ{motive:Expr->Prop}(j:GF e f=true)(m:∀os es p,f os es=true->motive (.Dict os es p)):motive e:=by
 obtain⟨os,es,p,rfl,q⟩:=vM j;exact m os es p q
@[irreducible] def Gn(e:Expr)(f:Expr->Expr->Bool):Bool:=H4 e 10 (f (data e).a (data e).b)
theorem pW(h:Gn e f=true):∃a b p,e=.Subscript a b p/\f a b=true:=by
 unfold Gn at h;exact⟨_,_,_,(b9 h).1,(b9 h).2⟩
@[elab_as_elim] theorem gm{motive:Expr->Prop}(j:Gn e f=true)(m:∀a b p,f a b=true->motive (.Subscript a b p)):motive e:=by
 obtain⟨a,b,p,rfl,q⟩:=pW j;exact m a b p q
@[irreducible] def Go(e:Expr)(f:Option Expr->Option Expr->Option Expr->Bool):Bool:=H4 e 11 (f (data e).l (data e).h (data e).st)
theorem sN(h:Go e f=true):∃l h st p,e=.Slice l h st p/\f l h st=true:=by
 unfold Go at h;exact⟨_,_,_,_,(b9 h).1,(b9 h).2⟩
@[elab_as_elim] theorem ma{motive:Expr->Prop}(j:Go e f=true)(m:∀l h st p,f l h st=true->motive (.Slice l h st p)):motive e:=by
 obtain⟨l,h,st,p,rfl,q⟩:=sN j;exact m l h st p q
@[irreducible] def Fq(e:Expr)(f:Expr->Str->Pos->Bool):Bool:=H4 e 12 (f (data e).a (data e).x (data e).p)
theorem gP(h:Fq e f=true):∃a x p,e=.Attribute a x p/\f a x p=true:=by
 unfold Fq at h;exact⟨_,_,_,(b9 h).1,(b9 h).2⟩
@[elab_as_elim] theorem gx{motive:Expr->Prop}(j:Fq e f=true)(m:∀a x p,f a x p=true->motive (.Attribute a x p)):motive e:=by
 obtain⟨a,x,p,rfl,q⟩:=gP j;exact m a x p q
@[irreducible] def GG(e:Expr)(f:Expr->List Expr->List Keyword->Pos->Bool):Bool:=H4 e 13 (f (data e).a (data e).es (data e).kw (data e).p)
theorem jK(h:GG e f=true):∃a es kw p,e=.Call a es kw p/\f a es kw p=true:=by
 unfold GG at h;exact⟨_,_,_,_,(b9 h).1,(b9 h).2⟩
@[elab_as_elim] theorem wu{motive:Expr->Prop}(j:GG e f=true)(m:∀a es kw p,f a es kw p=true->motive (.Call a es kw p)):motive e:=by
 obtain⟨a,es,kw,p,rfl,q⟩:=jK j;exact m a es kw p q
@[irreducible] def JM(e:Expr)(f:Expr->List Comprehension->Scope->Bool):Bool:=H4 e 14 (f (data e).a (data e).gs (data e).sc)
theorem mK(h:JM e f=true):∃a gs sc p,e=.ListComp a gs sc p/\f a gs sc=true:=by
 unfold JM at h;exact⟨_,_,_,_,(b9 h).1,(b9 h).2⟩
@[elab_as_elim] theorem mV{motive:Expr->Prop}(j:JM e f=true)(m:∀a gs sc p,f a gs sc=true->motive (.ListComp a gs sc p)):motive e:=by
 obtain⟨a,gs,sc,p,rfl,q⟩:=mK j;exact m a gs sc p q
@[irreducible] def La(e:Expr)(f:Expr->Expr->List Comprehension->Scope->Bool):Bool:=H4 e 15 (f (data e).a (data e).b (data e).gs (data e).sc)
theorem zj(h:La e f=true):∃a b gs sc p,e=.DictComp a b gs sc p/\f a b gs sc=true:=by
 unfold La at h;exact⟨_,_,_,_,_,(b9 h).1,(b9 h).2⟩
@[elab_as_elim] theorem AU{motive:Expr->Prop}(j:La e f=true)(m:∀a b gs sc p,f a b gs sc=true->motive (.DictComp a b gs sc p)):motive e:=by
 obtain⟨a,b,gs,sc,p,rfl,q⟩:=zj j;exact m a b gs sc p q
@[irreducible] def Lc(e:Expr)(f:List Expr->Bool):Bool:=H4 e 16 (f (data e).es)
theorem Bj(h:Lc e f=true):∃es p,e=.JoinedStr es p/\f es=true:=by
 unfold Lc at h;exact⟨_,_,(b9 h).1,(b9 h).2⟩
@[elab_as_elim] theorem zy{motive:Expr->Prop}(j:Lc e f=true)(m:∀es p,f es=true->motive (.JoinedStr es p)):motive e:=by
 obtain⟨es,p,rfl,q⟩:=Bj j;exact m es p q
@[irreducible] def Ld(e:Expr)(f:Expr->Int->Option Expr->Bool):Bool:=H4 e 17 (f (data e).a (data e).i (data e).l)
theorem AG(h:Ld e f=true):∃a i l p,e=.FormattedValue a i l p/\f a i l=true:=by
 unfold Ld at h;exact⟨_,_,_,_,(b9 h).1,(b9 h).2⟩
@[elab_as_elim] theorem AQ{motive:Expr->Prop}(j:Ld e f=true)(m:∀a i l p,f a i l=true->motive (.FormattedValue a i l p)):motive e:=by
 obtain⟨a,i,l,p,rfl,q⟩:=AG j;exact m a i l p q
@[irreducible] def Js(e:Expr)(f:Expr->Operator->Expr->Bool):Bool:=H4 e 18 (f (data e).a (data e).o (data e).b)
theorem yt(h:Js e f=true):∃a o b p,e=.BinOp a o b p/\f a o b=true:=by
 unfold Js at h;exact⟨_,_,_,_,(b9 h).1,(b9 h).2⟩
@[elab_as_elim] theorem yv{motive:Expr->Prop}(j:Js e f=true)(m:∀a o b p,f a o b=true->motive (.BinOp a o b p)):motive e:=by
 obtain⟨a,o,b,p,rfl,q⟩:=yt j;exact m a o b p q
end
theorem D9(h:(a&&b)=true):a=true/\b=true:=SU.mp h
theorem QI{G:Prop}(k:a=true->b=true->G):(a&&b)=true->G:=λh=>k (D9 h).1 (D9 h).2
theorem KW{G:Prop}(k:a=true->b=true->c=true->G):(a&&(b&&c))=true->G:=λh=>QI (k (D9 h).1) (D9 h).2
theorem NT{G:Prop}(k:a=true->b=true->c=true->d=true->G):(a&&(b&&(c&&d)))=true->G:=λh=>KW (k (D9 h).1) (D9 h).2
theorem NU{G:Prop}(k:a=true->b=true->c=true->d=true->e=true->G):(a&&(b&&(c&&(d&&e))))=true->G:=λh=>NT (k (D9 h).1) (D9 h).2
theorem OC{G:Prop}(k:a=true->b=true->c=true->d=true->e=true->f=true->G):(a&&(b&&(c&&(d&&(e&&f)))))=true->G:=λh=>NU (k (D9 h).1) (D9 h).2
theorem QJ{G:Prop}(k:a=true->b=true->c=true->d=true->e=true->f=true->g=true->G):(a&&(b&&(c&&(d&&(e&&(f&&g))))))=true->G:=λh=>OC (k (D9 h).1) (D9 h).2
theorem QK{G:Prop}(k:a=true->b=true->c=true->d=true->e=true->f=true->g=true->h=true->G):(a&&(b&&(c&&(d&&(e&&(f&&(g&&h)))))))=true->G:=λh=>QJ (k (D9 h).1) (D9 h).2
theorem P0{G:Prop}(k:a=true->b=true->c=true->d=true->e=true->f=true->g=true->h=true->i=true->G):(a&&(b&&(c&&(d&&(e&&(f&&(g&&(h&&i))))))))=true->G:=λh=>QK (k (D9 h).1) (D9 h).2
def one{α:Type}(f:α->Bool):List α->Bool
 |[x]=>f x
 |_=>false
theorem uu(h:one f l=true):∃x,l=[x]/\f x=true:=by
 cases l with
 |nil=>cases h
 |cons x r=>cases r with
  |nil=>exact⟨x,rfl,h⟩
  |cons y r=>cases h
@[elab_as_elim] theorem cy{α:Type}{l:List α}{f:α->Bool}{motive:List α->Prop}(j:one f l=true)(m:∀x,f x=true->motive ([x])):motive l:=by
 obtain⟨x,rfl,q⟩:=uu j;exact m x q
def NV(P:AV->AH->Prop)(vs:List AV)(σ:AH):Prop:=match vs with
 |[v]=>P v σ
 |_=>False
theorem lP(h:NV P (vs.map av) σ):∃u,vs=[u]/\P (av u) σ:=by
 cases vs with
 |nil=>exact False.elim h
 |cons u r=>cases r with
  |nil=>exact⟨u,rfl,h⟩
  |cons v r=>exact False.elim h
def two{α:Type}(f:α->α->Bool):List α->Bool
 |[x,y]=>f x y
 |_=>false
theorem um(h:two f l=true):∃x y,l=[x,y]/\f x y=true:=by
 cases l with
 |nil=>cases h
 |cons x r=>cases r with
  |nil=>cases h
  |cons y r=>cases r with
   |nil=>exact⟨x,y,rfl,h⟩
   |cons z r=>cases h
@[elab_as_elim] theorem gi{α:Type}{l:List α}{f:α->α->Bool}{motive:List α->Prop}(j:two f l=true)(m:∀x y,f x y=true->motive ([x,y])):motive l:=by
 obtain⟨x,y,rfl,q⟩:=um j;exact m x y q
theorem d4(h:l.isEmpty=true):l=[]:=List.isEmpty_iff.mp h
def LY(f:Str->Bool):Const->Bool
 | .str x=>f x
 |_=>false
theorem rZ(h:LY f c=true):∃x,c=.str x/\f x=true:=by
 cases c<;>first|exact⟨_,rfl,h⟩|exact(To h).elim
@[elab_as_elim] theorem DX{motive:Const->Prop}(j:LY f c=true)(m:∀x,f x=true->motive (.str x)):motive c:=by
 obtain⟨x,rfl,q⟩:=rZ j;exact m x q
@[irreducible] def onStr(e:Expr)(f:Str->Bool):Bool:=Fp e (LY f)
theorem pU(h:onStr e f=true):∃x k p,e=.Constant (.str x) k p/\f x=true:=by
 unfold onStr at h
 obtain⟨v,k,p,rfl,j⟩:=iY h
 obtain⟨x,rfl,m⟩:=rZ j
 exact⟨x,k,p,rfl,m⟩
@[elab_as_elim] theorem kK{motive:Expr->Prop}(j:onStr e f=true)(m:∀x k p,f x=true->motive (.Constant (.str x) k p)):motive e:=by
 obtain⟨x,k,p,rfl,q⟩:=pU j;exact m x k p q
def E'(e:Expr):Bool:=EU e (λj j=>true)||(Fq e (λj j j=>true)||(Gn e (λj j=>true)||GG e λf j j j=>Fq f λj j j=>true))
def ES(e:Expr):Bool:= !(Nat.beq (data e).t 19)
def Fe(ks names:Ks):Ks:=names.map λy=>if(y.2==.free&&ks.lookup y.1==some .cell)then(y.1,.cell)else y
def EL(ks:Ks)(sc:Scope)(x:Str):Bool:=
 decide (sc.kind=.function)&&sc.names.all (λy=>decide (y.2≠.cell))&&sc.names.all (λy=>decide (y.2≠.local)||decide (sc.names.lookup y.1=some .local))&&decide (sc.names.lookup x=some .local)&&
  sc.names.all (λy=>decide (y.2≠.free)||(Ja (ks.lookup y.1)&&decide (sc.names.lookup y.1=some .free)))
def H5(ks:Ks)(sc:Scope)(x:Str):Bool:=
 decide (sc.kind=.function)&&decide (sc.names.filter (λy=>y.2==.cell)=[(x,.cell)])&&sc.names.all (λy=>decide (y.2≠.local)||decide (sc.names.lookup y.1=some .local))&&decide (sc.names.lookup x=some .cell)&&
  sc.names.all (λy=>decide (y.2≠.free)||(Ja (ks.lookup y.1)&&decide (sc.names.lookup y.1=some .free)))
def EH(T:Tab)(sc:Scope)(j:Nat)(x:Str):Tab:=(j,x,false)::T.filter λt=>decide (t.1≠j)&&decide (sc.names.lookup t.2.1=some .free)
def GH(T:Tab)(j:Nat)(x:Str):Tab:=(j,x,false)::T.filter λt=>decide (t.1≠j)
def NW(k:Str)(o:Option Expr):Bool:=match o with
 |some e=>onStr e λx=>decide (k=x)
 |none=>false
def Fa:List Str->List (Option Expr)->Bool
 |k::ks,o::es=>NW k o&&Fa ks es
 |[],[]=>true
 |_,_=>false
structure Ck where
 e:Ks->Tab->Expr->Bool
 l:Ks->Tab->List Expr->Bool
def FT(f:Ks->Tab->Expr->Bool):Ck:=⟨f,λj j j=>false⟩
def Le(j:Bool)(f:Expr->Bool):Option Expr->Bool
 |none=>j
 |some e=>f e
def GX(b:Bool)(f:Expr->Bool):List Expr->Bool
 |[]=>b
 |[e]=>f e
 |_=>false
def Iw(v:AV):Const->Bool
 | .none=>decide (v=.none)
 | .bool b=>decide (v=.bool b)
 | .int i=>decide (v=.int i)
 | .str x=>decide (v=.str x)
 |_=>false
def LZ(f:Expr->Bool)(g:List Expr->Bool):List Expr->Bool
 |e::es=>f e&&g es
 |[]=>false
def Jb(op:BoolOp)(f g:Expr->Bool)(p:Pos):List Expr->Bool
 |[e1,j]=>f e1&&g j
 |e1::j::m::es=>f e1&&g (.BoolOp op (j::m::es) p)
 |_=>false
@[irreducible] def GI(e:Expr)(f:Expr->Str->Pos->List Expr->Pos->Bool):Bool:=GG e λm args kw pos=>kw.isEmpty&&Fq m λv n j=>f v n j args pos
theorem jk(h:GI e f=true):∃v n j args pos,e=.Call (.Attribute v n j) args [] pos/\f v n j args pos=true:=by
 unfold GI at h
 obtain⟨w,args,kw,pos,rfl,h'⟩:=jK h
 clear h
 obtain⟨m,q⟩:=D9 h'
 obtain⟨v,n,j,rfl,r⟩:=gP q
 cases d4 m
 exact⟨v,n,j,args,pos,rfl,r⟩
@[elab_as_elim] theorem jS{motive:Expr->Prop}(m:GI e f=true)(r:∀v n j args pos,f v n j args pos=true->motive (.Call (.Attribute v n j) args [] pos)):motive e:=by
 obtain⟨v,n,j,args,pos,rfl,q⟩:=jk m;exact r v n j args pos q
@[irreducible] def Iy(e:Expr)(f:Str->Pos->List Expr->List Keyword->Bool):Bool:=GG e λm args kw j=>EU m λx p=>f x p args kw
theorem nv(h:Iy e f=true):∃x p args kw pos,e=.Call (.Name x p) args kw pos/\f x p args kw=true:=by
 unfold Iy at h
 obtain⟨q,args,kw,pos,rfl,j⟩:=jK h
 obtain⟨x,p,rfl,m⟩:=d3 j
 exact⟨x,p,args,kw,pos,rfl,m⟩
@[elab_as_elim] theorem jY{motive:Expr->Prop}(j:Iy e f=true)(m:∀x p args kw pos,f x p args kw=true->motive (.Call (.Name x p) args kw pos)):motive e:=by
 obtain⟨x,p,args,kw,pos,rfl,q⟩:=nv j;exact m x p args kw pos q
def Hp(f:Str->Expr->List Expr->Bool)(g:Comprehension):Bool:=EU g.target λx j=>decide (g.is_async=0)&&f x g.iter g.ifs
theorem iz(h:Hp f g=true):∃x p m j,g=⟨.Name x p,m,j,0⟩/\f x m j=true:=by
 obtain⟨t,m,j,z⟩:=g
 obtain⟨x,p,q,h'⟩:=d3 h
 clear h
 obtain⟨r,w⟩:=D9 h'
 obtain rfl:t=_:=q
 obtain rfl:z=0:=of_decide_eq_true r
 exact⟨x,p,m,j,rfl,w⟩
@[elab_as_elim] theorem gg{motive:Comprehension->Prop}(r:Hp f g=true)(w:∀x p m j,f x m j=true->motive (⟨.Name x p,m,j,0⟩)):motive g:=by
 obtain⟨x,p,m,j,rfl,q⟩:=iz r;exact w x p m j q
def J3(k:Str)(f:Expr->Bool)(y:Keyword):Bool:=decide (y.arg=some k)&&f y.value
theorem AI(h:J3 k f y=true):∃v p,y=⟨some k,v,p⟩/\f v=true:=by
 obtain⟨a,v,p⟩:=y
 obtain⟨j,m⟩:=D9 h
 obtain rfl:a=some k:=of_decide_eq_true j
 exact⟨v,p,rfl,m⟩
@[elab_as_elim] theorem ng{motive:Keyword->Prop}(j:J3 k f y=true)(m:∀v p,f v=true->motive (⟨some k,v,p⟩)):motive y:=by
 obtain⟨v,p,rfl,q⟩:=AI j;exact m v p q
def ck:X->Ck
 | .nil=>⟨λm m m=>false,λm m es=>es.isEmpty⟩
 | .cons a as=>⟨λm m m=>false,λks T=>LZ ((ck a).e ks T) ((ck as).l ks T)⟩
 | .D6 v=>FT λm m e=>Fp e (Iw v)
 | .var i=>FT λks T e=>EU e λx m=>NS ks T i x
 | .glob n=>FT λks m e=>EU e λx m=>decide (I9[n]?.map (·.1)=some x)&&IW ks x
 | .neg a=>FT λks T e=>JL e λo x=>decide (o=.USub)&&(ck a).e ks T x
 | .not a=>FT λks T e=>JL e λo x=>decide (o=.Not)&&(ck a).e ks T x
 | .bin op a b=>FT λks T e=>Js e λl o r=>decide (o=op)&&((ck a).e ks T l&&(ck b).e ks T r)
 | .cmp op a b=>FT λks T e=>HP e λl os G=>one (λo=>decide (o=op)) os&&one (λr=>(ck a).e ks T l&&((ck b).e ks T r&& !(behindInMarks op r))) G
 | .JJ o1 o2 a b c=>FT λks T e=>HP e λl os G=>two (λp1 p2=>decide (p1=o1)&&decide (p2=o2)) os&&two (λr1 U=>(ck a).e ks T l&&((ck b).e ks T r1&&((ck c).e ks T U&& !(lastMarks [o1,o2] [r1,U])))) G
 | .MO a b c f=>FT λks T e=>HP e λl os G=>one (λo=>decide (o=.Gt)) os&&(GW l (two λx1 x2=>(ck a).e ks T x1&&(ck b).e ks T x2)&&one (λr=>GW r (two λy1 y2=>(ck c).e ks T y1&&(ck f).e ks T y2)) G)
 | .and a b=>FT λks T e=>Gm e λo es p=>decide (o=.And)&&Jb .And ((ck a).e ks T) ((ck b).e ks T) p es
 | .or a b=>FT λks T e=>Gm e λo es p=>decide (o=.Or)&&Jb .Or ((ck a).e ks T) ((ck b).e ks T) p es
 | .ite t a b=>FT λks T e=>K9 e λt' a' b'=>(ck t).e ks T t'&&((ck a).e ks T a'&&(ck b).e ks T b')
 | .tup as=>FT λks T e=>GW e ((ck as).l ks T)
 | .lst as=>FT λks T e=>Jr e ((ck as).l ks T)
 | .Fy=>FT λm m e=>GF e λos es=>os.isEmpty&&es.isEmpty
 | .Gj E as=>FT λks T e=>GF e λH B=>Fa ((EC E).take B.length) H&&((ck as).l ks T B&&(decide (0<B.length)&&decide (B.length<=(EC E).length)))
 | .Ir k v=>FT λks T e=>GF e λos es=>one (Le false ((ck k).e ks T)) os&&one ((ck v).e ks T) es
 | .sub a i=>FT λks T e=>Gn e λv q=>(ck a).e ks T v&&(ck i).e ks T q
 | .key a E i=>FT λks T e=>Gn e λv q=>(ck a).e ks T v&&onStr q λx=>decide ((EC E)[i]? =some x)
 | .slice a lo Y=>FT λks T e=>Gn e λv q=>(ck a).e ks T v&&Go q λl h st=>st.isNone&&(Le ((ck lo).e ks T e0) ((ck lo).e ks T) l&&Le ((ck Y).e ks T e0) ((ck Y).e ks T) h)
 | .rev a=>FT λks T e=>Gn e λv q=>(ck a).e ks T v&&Go q λl h st=>l.isNone&&(h.isNone&&Le false (λs=>JL s λo c=>decide (o=.USub)&&Fp c (Iw (.int 1))) st)
 | .attr a C i=>FT λks T e=>Fq e λv n m=>(ck a).e ks T v&&(decide ((attrTab C)[i]? =some n)&&E' v)
 | .bf b as=>FT λks T e=>Iy e λx m args kw=>kw.isEmpty&&(decide (x=b.Jq)&&(IW ks x&&(ck as).l ks T args))
 | .bm b a as=>FT λks T e=>GI e λv n w args pos=>decide (n=b.name)&&((ck a).e ks T v&&(E' v&&((ck as).l ks T args&&((w.endLine==pos.line)&&decide (args.length<29)))))
 | .call f as=>FT λks T e=>Iy e λx p args kw=>kw.isEmpty&&((ck f).e ks T (.Name x p)&&(ck as).l ks T args)
 | .D3 a C i as=>FT λks T e=>GI e λv n w args pos=>decide ((methTab C)[i]?.map (·.1)=some n)&&((ck a).e ks T v&&(E' v&&((ck as).l ks T args&&((w.endLine==pos.line)&&decide (args.length<29)))))
 | .Iu a C i as=>FT λks T e=>GI e λv n w args pos=>decide ((attrTab C)[i]? =some n)&&((ck a).e ks T v&&(E' v&&((ck as).l ks T args&&((w.endLine==pos.line)&&decide (args.length<29)))))
 | .GU a=>FT λks T e=>Iy e λx m args kw=>decide (x="sorted")&&(IW ks x&&(one ((ck a).e ks T) args&&one (J3 "key" λv=>EU v λy m=>decide (y="abs")&&IW ks y) kw))
 | .Iv a o=>FT λks T e=>Iy e λx m args kw=>decide (x="sorted")&&(IW ks x&&(one ((ck a).e ks T) args&&two (λk1 k2=>J3 "key" (λv=>Fq v λv n m=>decide (n="height_of")&&(E' v&&(ck o).e ks T v)) k1&&J3 "reverse" (λv=>Fp v (Iw (.bool true))) k2) kw))
 | .comp D j I cond=>FT λks T e=>JM e λJ gs sc=>one (Hp λx q A=>EL ks sc x&&(ES q&&((ck I).e ks T q&&((ck D).e (Fe ks sc.names) (EH T sc j x) J&&GX ((ck cond).l [] [] []) ((ck cond).e (Fe ks sc.names) (EH T sc j x)) A)))) gs
 | .HO D j I cond=>FT λks T e=>JM e λJ gs sc=>one (Hp λx q A=>H5 ks sc x&&(ES q&&((ck I).e ks T q&&((ck D).e (Fe ks sc.names) (EH T sc j x) J&&GX ((ck cond).l [] [] []) ((ck cond).e (Fe ks sc.names) (EH T sc j x)) A)))) gs
 | .Gl k v j I=>FT λks T e=>La e λke ve gs sc=>one (Hp λx q A=>A.isEmpty&&(EL ks sc x&&(ES q&&((ck I).e ks T q&&((ck k).e (Fe ks sc.names) (EH T sc j x) ke&&(ck v).e (Fe ks sc.names) (EH T sc j x) ve))))) gs
 | .JK a t=>FT λks T e=>Lc e (two λe1 e2=>Ld e1 (λv i sp=>decide (i= -1)&&(sp.isNone&&(ck a).e ks T v))&&onStr e2 λx=>decide (x=t)&&decide (t.length<=100))
 | .GV D N O Z Q cond=>FT λks T e=>JM e λJ gs sc=>two (λg1 g2=>Hp (λx q M=>M.isEmpty&&Hp (λy je A=>EL ks sc x&&(EL ks sc y&&(decide (x≠y)&&(ES q&&((ck O).e ks T q&&(ES je&&((ck Q).e (Fe ks sc.names) (EH T sc N x) je&&((ck D).e (Fe ks sc.names) (GH (EH T sc N x) Z y) J&&GX ((ck cond).l [] [] []) ((ck cond).e (Fe ks sc.names) (GH (EH T sc N x) Z y)) A)))))))) g2) g1) gs
structure D' (w:World) (c:Cx) (A:Around) (q:Bool) (d:Nat) (env:Env) (ks:Ks):Prop where
 names:env.scope.names=ks
 kind:env.scope.kind=.function
 glob:env.globals=mainGlobals
 blt:env.builtins=builtinsNs
 frame:env.frame=some c.L
 stack:A.frames=some (c.D1::c.outer)
 calm:q=true->A.handled=none
 depth:A.depth+d<recursionLimit
 units:A.units+6*d+100<cLine
 cells:∀x,Ja (ks.lookup x)=true->∃a,env.cells.lookup x=some a
theorem D'.kindOf(x:D' w c A q d env ks)(n:Str):env.kindOf n=ks.lookup n:=by
 unfold Env.kindOf;rw[x.names]
theorem D'.room(x:D' w c A true d env ks):J2 c A d:=⟨x.stack,x.calm rfl,x.depth,x.units⟩
inductive Bound (env:Env) (x:Str) (v:AV) (σ:AH) (h:Heap):Prop
 |loc (hk:env.kindOf x=some .local) (mc:Str->Option Value) (u:Value) (hn:h.Ns env.locals mc) (hx:mc x=some u) (hv:av u=v)
 |cell (hk:env.kindOf x=some .cell\/env.kindOf x=some .free) (a:Addr) (u:Value) (hc:env.cells.lookup x=some a) (hx:h.IsCell a (some u)) (hv:av u=v) (hm:Ee σ a=false)
structure Vr (env:Env) (T:Tab) (m:D7) (σ:AH) (h:Heap):Prop where
 loc:Ee σ env.locals=false
 ns:∃mc,h.Ns env.locals mc
 var:∀t∈T,∀v,Em m t.1=some v->Bound env t.2.1 v σ h
section
variable {T:Tab}
theorem kS(k:Kp c σ s j r)(m:Ee σ b=false)(e:s.heap.get? b=some o):Ee j b=false:=by
 cases q:Ee j b with
 |false=>rfl
 |true=>
  rcases k.fresh b q with h|h
  ·rw[m]at h;cases h
  ·rw[h]at e;cases e
theorem iF{h:Heap}(x:h.Ns a j):∃o,h.get? a=some o:=(by obtain⟨o,_,_,e,_⟩:=x;exact⟨o,e⟩)
theorem sh(k:Kp c σ s j m)(q:Ee σ a=false)(x:s.heap.Ns a r):m.heap.Ns a r:=
 df x λo e=>(by obtain⟨w,A,_⟩:=k.keep a o q e;exact⟨w,A⟩)
theorem nV(k:Kp c σ s j m)(q:Ee σ a=false)(x:s.heap.IsCell a v):m.heap.IsCell a v:=by
 obtain⟨o,e,r⟩:=x
 obtain⟨A,w,_⟩:=k.keep a o q e
 exact⟨_,w,r⟩
theorem Vr.kept(x:Vr env T m σ s.heap)(k:Kp c σ s r E):Vr env T m r E.heap:=by
 obtain⟨w,⟨A,C⟩,G⟩:=x
 obtain⟨o,e⟩:=iF C
 refine⟨kS k w e,⟨A,sh k w C⟩,λt H v j=>?_⟩
 cases G t H v j with
 |loc B A u I q j=>exact .loc B A u (sh k w I) q j
 |cell B a u J q j D=>
  obtain⟨o,e,M⟩:=id q
  exact .cell B a u J (nV k D q) j (kS k D e)
theorem lB(h:T.lookup i=some p):(i,p)∈T:=LD h
inductive J4 (prog:Program) (w:World) (c:Cx) (σ:AH) (s:Shared) (K:Bool->AH->Prop) (b:Bool) (s':Shared):Prop
 |mk (Eb:AH) (h0:w' prog w c Eb s') (h1:Kp c σ s Eb s') (h2:K b Eb)
inductive LF (prog:Program) (w:World) (c:Cx) (σ:AH) (s:Shared) (Q:List AV->AH->Prop) (vs:List Value) (s':Shared):Prop
 |mk (Eb:AH) (h0:w' prog w c Eb s') (h1:Kp c σ s Eb s') (h2:Q (vs.map av) Eb)
def SE(x:X):Prop:=∀(ks:Ks) (T:Tab) (e:Expr) (prog:Program) (w:World) (c:Cx) (A:Around) (q:Bool) (d:Nat) (env:Env) (m:D7) (σ:AH) (s:Shared) (Xp:AH->Prop) (Q:EO),
 (ck x).e ks T e=true->D' w c A q d env ks->Vr env T m σ s.heap->w' prog w c σ s->(ev d q x Xp).e m Q σ->wpAny (model prog w) A (eval e env) (Ec prog w c σ s Q) (EX prog w c Xp σ s) s
def ST(x:X):Prop:=∀(ks:Ks) (T:Tab) (e:Expr) (prog:Program) (w:World) (c:Cx) (A:Around) (q:Bool) (d:Nat) (env:Env) (m:D7) (σ:AH) (s:Shared) (Xp:AH->Prop) (K:Bool->AH->Prop),
 (ck x).e ks T e=true->D' w c A q d env ks->Vr env T m σ s.heap->w' prog w c σ s->(ev d q x Xp).t m K σ->wpAny (model prog w) A (isTrue e env (eval e env)) (J4 prog w c σ s K) (EX prog w c Xp σ s) s
def SL(x:X):Prop:=∀(ks:Ks) (T:Tab) (es:List Expr) (pos:Pos) (prog:Program) (w:World) (c:Cx) (A:Around) (q:Bool) (d:Nat) (env:Env) (m:D7) (σ:AH) (s:Shared) (Xp:AH->Prop) (Q:List AV->AH->Prop),
 (ck x).l ks T es=true->D' w c A q d env ks->Vr env T m σ s.heap->w' prog w c σ s->(ev d q x Xp).l m Q σ->wpAny (model prog w) A (spliced (backTo pos (starEach es env))) (LF prog w c σ s Q) (EX prog w c Xp σ s) s
theorem Ec.trans(k:Kp c σ s j m)(h:Ec prog w c j m Q v A):Ec prog w c σ s Q v A:=by
 obtain⟨r,L,K,q⟩:=h;exact⟨r,L,k.trans K,q⟩
end
end
theorem SE.at(J:SE x)(D:(ck x).e ks T e=true)(he:D' w c A q d env ks)(M:w' prog w c σ s)(H:Kp c σ s B C)(I:Vr env T m B C.heap)(N:w' prog w c B C)(E:(ev d q x Xp).e m Q B)(k:∀v j r,w' prog w c j r->Kp c σ s j r->Vr env T m j r.heap->Q (av v) j->G v r):
  wpAny (model prog w) A (eval e env) G (EX prog w c Xp σ s) C:=
 Sz (J ks T e prog w c A q d env m B C Xp Q D he I N E) (λv r O=>(by obtain⟨j,L,K,U⟩:=O;exact k v j r L (H.trans K) (I.kept K) U)) λY Z y=>y.trans M H
theorem ST.at(J:ST x)(D:(ck x).e ks T e=true)(he:D' w c A q d env ks)(M:w' prog w c σ s)(H:Kp c σ s B C)(I:Vr env T m B C.heap)(N:w' prog w c B C)(E:(ev d q x Xp).t m Q B)(k:∀v j r,w' prog w c j r->Kp c σ s j r->Vr env T m j r.heap->Q v j->G v r):
  wpAny (model prog w) A (isTrue e env (eval e env)) G (EX prog w c Xp σ s) C:=
 Sz (J ks T e prog w c A q d env m B C Xp Q D he I N E) (λv r O=>(by obtain⟨j,L,K,U⟩:=O;exact k v j r L (H.trans K) (I.kept K) U)) λY Z y=>y.trans M H
theorem SL.at(J:SL x)(D:(ck x).l ks T es=true)(he:D' w c A q d env ks)(M:w' prog w c σ s)(H:Kp c σ s B C)(I:Vr env T m B C.heap)(N:w' prog w c B C)(E:(ev d q x Xp).l m Q B)(k:∀v j r,w' prog w c j r->Kp c σ s j r->Vr env T m j r.heap->Q (v.map av) j->G v r):
  wpAny (model prog w) A (spliced (backTo pos (starEach es env))) G (EX prog w c Xp σ s) C:=
 Sz (J ks T es pos prog w c A q d env m B C Xp Q D he I N E) (λv r O=>(by obtain⟨j,L,K,U⟩:=O;exact k v j r L (H.trans K) (I.kept K) U)) λY Z y=>y.trans M H
theorem GY(k:Kp c σ s q m)(h:wpAny (model prog w) A a (Ec prog w c q m Q) E m):wpAny (model prog w) A a (Ec prog w c σ s Q) E m:=
 Sz h (λv r y=>y.trans k) λj j y=>y
set_option tactic.hygienic true in
theorem JN{K:Bool->AH->Prop}(he:isTrue e env (eval e env)=(do let v<-eval e env;standAt e.pos;holding [v] (truthy v)))(h:wpAny (model prog w) A (eval e env) (Ec prog w c σ s (truth K)) E s):wpAny (model prog w) A (isTrue e env (eval e env)) (J4 prog w c σ s K) E s:=by
 refine isTrue_plain (Sz h (λv r ⟨m,L,k,q⟩=>?_) λj j y=>y) he
 unfold truth at q
 split at q<;>try (exact q.elim)
 rename_i b B
 rw[dX B]
 exact wpAny_truthy_bool ⟨m,L,k,q⟩
theorem zb(h:(ck as).l ks T es=true):(es=[]/\as=.nil)\/∃a j e m,as=.cons a j/\es=e::m/\(ck a).e ks T e=true/\(ck j).l ks T m=true:=by
 cases as with
 |nil=>cases es with
  |nil=>exact .inl ⟨rfl,rfl⟩
  |cons e es=>exact Et h rfl
 |cons a as=>cases es with
  |nil=>exact Et h rfl
  |cons e es=>exact .inr ⟨a,as,e,es,rfl,rfl,SU.mp h⟩
 |_=>exact Et h rfl
theorem Av:(ck a).e ks T (.Starred v p)=false:=by
 cases a<;>with_unfolding_all rfl
theorem ul(e:Expr):(∃v p,e=.Starred v p)\/∀es,starEach (e::es) env=(false,eval e env)::starEach es env:=by
 cases e<;>first|exact .inr λj=>rfl|exact .inl ⟨_,_,rfl⟩
theorem fz(h:(ck a).e ks T e=true)(es:List Expr):starEach (e::es) env=(false,eval e env)::starEach es env:=by
 rcases ul (env:=env) e with⟨v,p,rfl⟩|h'
 ·rw[Av]at h;cases h
 ·exact h' es
theorem notStar(h:(ck a).e ks T e=true):starEach [e] env=[(false,eval e env)]:=fz h []
theorem mD(as:X)(es:List Expr)(h:(ck as).l ks T es=true):starEach es env=es.map λe=>(false,eval e env):=by
 induction es generalizing as with
 |nil=>rfl
 |cons e es ih=>
  rcases zb h with h'|⟨a,j,e1,m,rfl,q,r,w⟩
  ·cases h'.1
  ·injection q with A B;subst A B
   rw[fz r,ih j w];rfl
section
section
variable {T:Tab}
theorem jt(h:Ho v P):∃b,v=.bool b/\P b:=by
 cases v<;>first|exact⟨_,rfl,h⟩|exact h.elim
theorem eg(h:E8 v P):∃i,v=.int i/\P i:=by
 cases v<;>first|exact⟨_,rfl,h⟩|exact h.elim
theorem dk(h:Ej v P):∃i,v=some i/\P i:=by
 cases v<;>first|exact⟨_,rfl,h⟩|exact h.elim
theorem yE(v:AV):SE (.D6 v):=by
 intro ks T e prog w c A q d env m σ s Xp Q j he C L B
 refine iG j λx k p j=>?_
 have r:∀{u:AV},decide (v=u)=true->Q u σ:=λh=>of_decide_eq_true h▸B
 cases x with
 |none=>exact wpAny_Constant_none ⟨σ,L,.refl ..,r j⟩
 |bool b=>exact wpAny_Constant_bool ⟨σ,L,.refl ..,r j⟩
 |int i=>exact wpAny_Constant_int ⟨σ,(cu L).1,(cu L).2,r j⟩
 |str x=>exact wpAny_Constant_str ⟨σ,(cu L).1,(cu L).2,r j⟩
 |_=>exact Et j rfl
theorem ml(h:(!b)=true):b=false:=by cases b<;>first|rfl|exact Et h rfl
theorem Bk(h:(match T.lookup i with|some (z,_)=>decide (z=y)|none=>false)=true):∃b,T.lookup i=some (y,b):=by
 cases q:T.lookup i with
 |none=>rw[q]at h;exact Et h rfl
 |some p=>rw[q]at h;obtain⟨z,b⟩:=p;exact⟨b,by rw[of_decide_eq_true h]⟩
theorem yY(i:Nat):SE (.var i):=by
 intro ks T e prog w c A q d env m σ s Xp Q j he I L r
 refine gI j λy pos j=>?_
 obtain⟨v,J,r⟩:=dk (v:=Em m i) r
 replace j:=D9 j;obtain⟨j,E⟩:=j
 replace j:=D9 j;obtain⟨j,G⟩:=j
 replace G:=ml G
 replace E:=ml E
 obtain⟨b,hz⟩:=Bk (D9 j).1
 refine wpAny_Name ?_ G
 cases I.var _ (lB hz) v J with
 |loc B N u M C D=>exact wpAny_loadName_local he.kind B M C ⟨σ,L,.refl ..,D▸r⟩
 |cell B a u H C D O=>
  rcases B with B|B
  ·exact wpAny_loadName_cell he.kind B H C ⟨σ,L,.refl ..,D▸r⟩
  ·exact wpAny_loadName_free he.kind B H C ⟨σ,L,.refl ..,D▸r⟩ E
def O0(P:Params):Bool:=I9.all λp=>decide (((nsIn (K P) mainGlobals p.1).bind λo=>o.map av)=some p.2)
theorem iB(P:Params)(n:Nat)(y:Str)(v:AV)(h:I9[n]? =some (y,v)):∃u,nsIn (K P) mainGlobals y=some (some u)/\av u=v:=by
 have:=of_decide_eq_true (Ti.mp (show O0 P=true from rfl) _ (Sp h))
 obtain⟨o,j,m⟩:=TI.mp this
 obtain⟨u,rfl,q⟩:=T2.mp m
 exact⟨u,j,q⟩
theorem jM(he:D' w c A q d env ks)(L:w' prog w c σ s)(j:IW ks y=true)(r:nsIn (K w.params) mainGlobals y=some (some u))(h:Q u s):
  wpAny (model prog w) A (eval (.Name y pos) env) Q E s:=by
 unfold IW at j
 simp only[SF,Vc]at j
 obtain⟨mg,B,m,C,D⟩:=L.gt.glob
 exact Name_function_global he.kind ((he.kindOf y).trans (of_decide_eq_true j.1)) (loadGlobal_global (by rw[he.glob];exact m) (mg_of L.says.1 m r) h) j.2
theorem f9(he:D' w c A q d env ks)(L:w' prog w c σ s)(j:IW ks y=true)(r:nsIn (K w.params) mainGlobals y=some none)(B:bootBuiltins y=some u)(C:y≠"__name__")(h:Q u s):
  wpAny (model prog w) A (eval (.Name y pos) env) Q E s:=by
 unfold IW at j
 simp only[SF,Vc]at j
 obtain⟨mg,H,m,D,G⟩:=L.gt.glob
 exact Name_function_global he.kind ((he.kindOf y).trans (of_decide_eq_true j.1)) (loadGlobal_builtin (by rw[he.glob];exact m) (mg_none_of L.says.1 m r) (by rw[he.blt];exact D) ((G y C).trans B) h) j.2
theorem CP(n:Nat):SE (.glob n):=by
 intro ks T e prog w c A q d env m σ s Xp Q j he E L r
 refine gI j λy pos j=>?_
 obtain⟨p,B,r⟩:=dk (v:=I9[n]?) r
 obtain⟨z,v⟩:=p
 replace j:=D9 j
 have C:=of_decide_eq_true j.1
 rw[B]at C
 obtain rfl:z=y:=Option.some.inj C
 obtain⟨u,D,rfl⟩:=iB w.params n z v B
 exact jM he L j.2 D ⟨σ,L,.refl ..,r⟩
theorem B0(L:w' prog w c σ s)(h:E8 (av v) λi=>Q (.int (-i)) σ):wpAny (model prog w) A (unaryOp .USub v) (Ec prog w c σ s Q) E s:=by
 replace h:=eg h;obtain⟨i,j,h⟩:=h
 obtain⟨t,rfl⟩:=dh j
 exact PySem.P.neg_int ⟨σ,(cu L).1,(cu L).2,h⟩
theorem Bm(L:w' prog w c σ s)(h:Ho (av v) λb=>Q (.bool (!b)) σ):wpAny (model prog w) A (unaryOp .Not v) (Ec prog w c σ s Q) E s:=by
 replace h:=jt h;obtain⟨b,j,h⟩:=h
 rw[dX j]
 exact not_of (wpAny_truthy_bool ⟨σ,L,.refl ..,h⟩)
theorem DA(a:X)(H:SE a):SE (.neg a):=by
 intro ks T e prog w c A q d env m σ s Xp Q j he I L C
 refine mt j λo x p j=>?_
 replace j:=D9 j;obtain⟨J,j⟩:=j
 obtain rfl:=of_decide_eq_true J
 exact wpAny_UnaryOp (H.at j he L (.refl ..) I L C λv D E r B G h=>GY B (B0 r h))
theorem CS(a:X)(H:SE a):SE (.not a):=by
 intro ks T e prog w c A q d env m σ s Xp Q j he I L C
 refine mt j λo x p j=>?_
 replace j:=D9 j;obtain⟨J,j⟩:=j
 obtain rfl:=of_decide_eq_true J
 exact wpAny_UnaryOp (H.at j he L (.refl ..) I L C λv D E r B G h=>GY B (Bm r h))
theorem CU(a:X)(H:ST a):ST (.not a):=by
 intro ks T e prog w c A q d env m σ s Xp K j he I L D
 refine mt j λo x p j=>?_
 replace j:=D9 j;obtain⟨J,j⟩:=j
 obtain rfl:=of_decide_eq_true J
 exact isTrue_not (H.at j he L (.refl ..) I L D λv r E B C G h=>⟨r,B,C,h⟩)
theorem Dt(op:Operator)(a b:X)(U:SE a)(Y:SE b):SE (.bin op a b):=by
 intro ks T e prog w c A q d env m σ s Xp Q j he Z L H
 refine yv j λl o r p j=>?_
 revert j;refine KW λh0 h1 h2=>?_
 obtain rfl:=of_decide_eq_true h0
 exact wpAny_BinOp (U.at h1 he L (.refl ..) Z L H λv I M B C D h=>Y.at h2 he L C D B h λu J N E G O h=>GY G (Cj E rfl rfl h))
theorem CX(op:CmpOp)(a b:X)(Z:SE a)(hb:SE b):SE (.cmp op a b):=by
 intro ks T e prog w c A q d env m σ s Xp Q j he vr L H
 refine iR j λl os rs p j=>?_
 replace j:=D9 j;obtain⟨I,j⟩:=j
 refine cy I λo I=>?_
 obtain rfl:=of_decide_eq_true I
 refine cy j λr j=>?_
 revert j;refine KW λh1 h2 J=>?_
 replace J:=ml J
 exact wpAny_Compare1 (Z.at h1 he L (.refl ..) vr L H λv M O B C D h=>hb.at h2 he L C D B h λu N U E G Y h=>GY G (Cb E rfl rfl (OL he.units) h)) J
theorem kN{K:Bool->Prop}(L:w' prog w c σ s)(B:A.units+8<cLine)(h:E5 op (av v) (av u) K σ)(k:∀r m,w' prog w c σ m->Kp c σ s σ m->K r->G r m):wpAny (model prog w) A (compareOp op v u) (λC m=>wpAny (model prog w) A (truthy C) G E m) E s:=
 Sz (h _ _ _ _ A E v u L B rfl rfl) (λy m D=>(by obtain⟨r,tk,e1,H,q⟩:=D;subst e1 H;exact wpAny_truthy_bool (k r _ (cu L).1 (cu L).2 q))) λj j y=>y
theorem Db(op:CmpOp)(a b:X)(Y:SE a)(Z:SE b):ST (.cmp op a b):=by
 intro ks T e prog w c A q d env m σ s Xp K j he vr L I
 refine iR j λl os rs p j=>?_
 replace j:=D9 j;obtain⟨J,j⟩:=j
 refine cy J λo J=>?_
 obtain rfl:=of_decide_eq_true J
 refine cy j λr j=>?_
 revert j;refine KW λh1 h2 M=>?_
 replace M:=ml M
 exact wpAny_isTrue_Compare1 (Y.at h1 he L (.refl ..) vr L I λv N O C D E h=>Z.at h2 he L D E C h λu B Q G H U h=>
  kN G (OL he.units) h λr s' L' k' hr=>⟨B,L',H.trans k',hr⟩) M
theorem B4(o1 o2:CmpOp)(a b c':X)(ha:SE a)(hb:SE b)(hc:SE c'):ST (.JJ o1 o2 a b c'):=by
 intro ks T e prog w c A q d env m σ s Xp K j he vr L Z
 refine iR j λl os rs p j=>?_
 replace j:=D9 j;obtain⟨Q,j⟩:=j
 refine gi Q λp1 p2 Q=>?_
 obtain rfl:=of_decide_eq_true (D9 Q).1
 obtain rfl:=of_decide_eq_true (D9 Q).2
 refine gi j λr1 r2 j=>?_
 revert j;refine NT λh1 h2 h3 h4=>?_
 replace h4:=ml h4
 have hu:A.units+8<cLine:=OL he.units
 refine isTrue_chain (ha.at h1 he L (.refl ..) vr L Z λv aa ab E G H h=>test_link (hb.at h2 he L G H E h λu C ac I B J h=>
  kN I hu h λr s' U M Y=>?_)) h4
 cases r with
 |false=>exact⟨C,U,B.trans M,Y⟩
 |true=>
  refine test_last (hc.at h3 he L (B.trans M) (J.kept M) U Y λz D ae N O af h=>?_)
  exact kN N hu h λr s' U M Y=>⟨D,U,O.trans M,Y⟩
end
end
theorem gy(h:Jb op f g p es=true):∃e1 m j,es=e1::m::j/\f e1=true/\((j=[]/\g m=true)\/g (.BoolOp op (m::j) p)=true):=by
 cases es with
 |nil=>exact Et h rfl
 |cons e1 es=>cases es with
  |nil=>exact Et h rfl
  |cons m es=>cases es with
   |nil=>exact⟨e1,m,[],rfl,(D9 h).1,.inl ⟨rfl,(D9 h).2⟩⟩
   |cons q es=>exact⟨e1,m,q::es,rfl,(D9 h).1,.inr (D9 h).2⟩
theorem Dx(a b:X)(I:SE a)(H:SE b):SE (.and a b):=by
 intro ks T e prog w c A q d env m σ s Xp Q j he J L G
 refine fL j λo es p j=>?_
 replace j:=D9 j;obtain⟨M,j⟩:=j
 obtain rfl:=of_decide_eq_true M
 replace j:=gy j
 obtain⟨e1,U,N,rfl,O,j⟩:=j
 refine BoolOp_and (I.at O he L (.refl ..) J L G λv r E B C D h=>?_)
 replace h:=jt h;obtain⟨t,ht,h⟩:=h
 rw[dX ht]
 refine wpAny_truthy_bool ?_
 cases t with
 |false=>exact⟨r,B,C,h⟩
 |true=>
  rcases j with⟨rfl,j⟩|j
  ·exact BoolOp_one (H.at j he L C D B h λv r E B C D h=>⟨r,B,C,h⟩)
  ·exact H.at j he L C D B h λv r E B C D h=>⟨r,B,C,h⟩
theorem DT(a b:X)(I:SE a)(H:SE b):SE (.or a b):=by
 intro ks T e prog w c A q d env m σ s Xp Q j he J L G
 refine fL j λo es p j=>?_
 replace j:=D9 j;obtain⟨M,j⟩:=j
 obtain rfl:=of_decide_eq_true M
 replace j:=gy j
 obtain⟨e1,U,N,rfl,O,j⟩:=j
 refine BoolOp_or (I.at O he L (.refl ..) J L G λv r E B C D h=>?_)
 replace h:=jt h;obtain⟨t,ht,h⟩:=h
 rw[dX ht]
 refine wpAny_truthy_bool ?_
 cases t with
 |true=>exact⟨r,B,C,h⟩
 |false=>
  rcases j with⟨rfl,j⟩|j
  ·exact BoolOp_one (H.at j he L C D B h λv r E B C D h=>⟨r,B,C,h⟩)
  ·exact H.at j he L C D B h λv r E B C D h=>⟨r,B,C,h⟩
theorem Ds(a b:X)(I:ST a)(H:ST b):ST (.and a b):=by
 intro ks T e prog w c A q d env m σ s Xp K j he J L G
 refine fL j λo es p j=>?_
 replace j:=D9 j;obtain⟨M,j⟩:=j
 obtain rfl:=of_decide_eq_true M
 replace j:=gy j
 obtain⟨e1,Q,N,rfl,O,j⟩:=j
 refine isTrue_and (I.at O he L (.refl ..) J L G λt r E B C D h=>?_)
 cases t with
 |false=>exact⟨r,B,C,h⟩
 |true=>
  rcases j with⟨rfl,j⟩|j
  ·refine isTrue_and (H.at j he L C D B h λv r E B C D h=>?_)
   cases v with
   |false=>exact⟨r,B,C,h⟩
   |true=>exact isTrue_and_nil ⟨r,B,C,h⟩
  ·exact H.at j he L C D B h λv r E B C D h=>⟨r,B,C,h⟩
theorem DP(a b:X)(I:ST a)(H:ST b):ST (.or a b):=by
 intro ks T e prog w c A q d env m σ s Xp K j he J L G
 refine fL j λo es p j=>?_
 replace j:=D9 j;obtain⟨M,j⟩:=j
 obtain rfl:=of_decide_eq_true M
 replace j:=gy j
 obtain⟨e1,Q,N,rfl,O,j⟩:=j
 refine isTrue_or (I.at O he L (.refl ..) J L G λt r E B C D h=>?_)
 cases t with
 |true=>exact⟨r,B,C,h⟩
 |false=>
  rcases j with⟨rfl,j⟩|j
  ·refine isTrue_or (H.at j he L C D B h λv r E B C D h=>?_)
   cases v with
   |true=>exact⟨r,B,C,h⟩
   |false=>exact isTrue_or_nil ⟨r,B,C,h⟩
  ·exact H.at j he L C D B h λv r E B C D h=>⟨r,B,C,h⟩
theorem Dc(t a b:X)(ht:ST t)(I:SE a)(J:SE b):SE (.ite t a b):=by
 intro ks T e prog w c A q d env m σ s Xp Q G he M L H
 refine Ay G λY Z b' p G=>?_
 revert G;refine KW λN O U=>?_
 refine IfExp_ (ht.at N he L (.refl ..) M L H λr C E j B D h=>?_)
 cases r with
 |true=>exact I.at O he L B D j h λv C E j B D h=>⟨C,j,B,h⟩
 |false=>exact J.at U he L B D j h λv C E j B D h=>⟨C,j,B,h⟩
theorem sY:SL .nil:=by
 intro ks T es pos prog w c A q d env m σ s Xp Q j he B L r
 cases d4 j
 exact spliced_nil ⟨σ,L,.refl ..,r⟩
theorem qz(a as:X)(U:SE a)(H:SL as):SL (.cons a as):=by
 intro ks T es pos prog w c A q d env m σ s Xp Q j he Y L I
 cases es with
 |nil=>exact Et j rfl
 |cons e es=>
 replace j:=D9 j
 rw[fz j.1]
 show wpAny _ _ (spliced ((false,eval e env)::backTo pos (starEach es env))) _ _ _
 exact spliced_cons (U.at j.1 he L (.refl ..) Y L I λv J M B C D h=>H.at j.2 he L C D B h λvs r N E G O h=>⟨r,E,G,h⟩)
theorem xg{vs:List Value}(L:w' prog w c σ s)(hz:(vs.map av).length<=big)(h:∀z,σ z=none->Q (.ref z) (upd σ z (.list (vs.map av)))):
  Ec prog w c σ s Q (.ref s.heap.objs.size) {s with heap:=s.heap.push {cls:=.type "list",data:=.seq vs.toArray}}:=by
 obtain⟨j,m,q⟩:=iV (tk:=s.toks) (o:=.list (vs.map av)) L (λb o e=>Sq _ e) (bW s.heap) ⟨vs.toArray,0,SM _ rfl,by simp,hz⟩
 exact⟨_,m,q,h _ j⟩
theorem zE{vs:List Value}(L:w' prog w c σ s)(hz:(vs.map av).length<=big)(h:∀z,σ z=none->Q (.ref z) (upd σ z (.tup (vs.map av)))):
  Ec prog w c σ s Q (.ref s.heap.objs.size) {s with heap:=s.heap.push {cls:=.type "tuple",data:=.seq vs.toArray}}:=by
 obtain⟨j,m,q⟩:=iV (tk:=s.toks) (o:=.tup (vs.map av)) L (λb o e=>Sq _ e) (bW s.heap) ⟨vs.toArray,0,SM _ rfl,by simp,hz⟩
 exact⟨_,m,q,h _ j⟩
theorem Dg(as:X)(C:SL as):SE (.tup as):=by
 intro ks T e prog w c A q d env m σ s Xp Q j he I L D
 refine lq j λes k p j=>?_
 exact wpAny_Tuple (C.at j he L (.refl ..) I L D λvs E G r B H h=>⟨cn (by simpa using h.1),(zE r h.1 h.2).trans B⟩)
theorem Dr(as:X)(C:SL as):SE (.lst as):=by
 intro ks T e prog w c A q d env m σ s Xp Q j he I L D
 refine xV j λes p j=>?_
 exact wpAny_List (C.at j he L (.refl ..) I L D λvs E G r B H h=>⟨cn (by simpa using h.1),(xg r h.1 h.2).trans B⟩)
theorem fM(h:Heap){K:Type}[DecidableEq K](knd:KeyKind prog w K):(h.push {cls:=.type "dict",data:=.dict #[]}).DictOf knd h.objs.size []:=
 ⟨_,#[],0,SM _ rfl,⟨rfl,rfl,rfl⟩,rfl,λj he=>by simp at he,.nil,T5⟩
theorem y0:SE .Fy:=by
 intro ks T e prog w c A q d env m σ s Xp Q j he E L r
 refine jQ j λos es p j=>?_
 cases d4 (D9 j).1
 cases d4 (D9 j).2
 refine wpAny_Dict_empty ?_
 obtain⟨B,C,D⟩:=iV (tk:=s.toks) (o:=.D0 [] {cls:=.type "dict",data:=.dict #[]}) L (λb o e=>Sq _ e) (bW s.heap) ⟨SM _ rfl,[],fM ..,rfl,SI _⟩
 exact⟨_,C,D,r _ _ B⟩
theorem Dl(a i:X)(O:SE a)(U:SE i):SE (.sub a i):=by
 intro ks T e prog w c A q d env m σ s Xp Q j he Y L G
 refine gm j λv Z p j=>?_
 replace j:=D9 j
 exact Subscript_ (O.at j.1 he L (.refl ..) Y L G λv H J r B C h=>U.at j.2 he L B C r h λu I M D E N h=>GY E (BV D rfl rfl h))
theorem Dd(a:X)(C i:Nat)(I:SE a):SE (.key a C i):=by
 intro ks T e prog w c A q d env m σ s Xp Q j he J L D
 refine gm j λv N p j=>?_
 replace j:=D9 j;obtain⟨M,j⟩:=j
 refine kK j λx k p2 j=>?_
 replace j:=of_decide_eq_true j
 refine Subscript_ (I.at M he L (.refl ..) J L D λv E G r B H h=>wpAny_Constant_str ?_)
 exact GY (B.trans (cu r).2) (Cp (cu r).1 rfl j h)
theorem uM(H:SE x)(D:Le ((ck x).e ks T e0) ((ck x).e ks T) o=true)(he:D' w c A q d env ks)(I:w' prog w c σ s)(J:Kp c σ s r C)(M:Vr env T m r C.heap)(N:w' prog w c r C)(E:(ev d q x Xp).e m Q r)(k:∀v j B,w' prog w c j B->Kp c σ s j B->Vr env T m j B.heap->Q (av v) j->G v B):
  wpAny (model prog w) A (valueOrNone (evalOpt o env)) G (EX prog w c Xp σ s) C:=by
 cases o with
 |some e=>exact H.at D he I J M N E k
 |none=>
  show wpAny _ _ (eval e0 env) _ _ _
  exact H.at D he I J M N E k
theorem lz{lo B:Option Expr}(h:wpAny (model prog w) A (valueOrNone (evalOpt lo env)) (λl m=>wpAny (model prog w) A (valueOrNone (evalOpt B env)) (λu q=>wpAny (model prog w) A (newFields "slice" [l,u,.none]) Q E q) E m) E s):
  wpAny (model prog w) A (eval (.Slice lo B none pos) env) Q E s:=by
 rw[arm_eval_Slice]
 exact So (Sz h (λl m h₁=>So (SK (Sz h₁ (λu q r=>So (SK (Sv r))) λj j y=>y))) λj j y=>y)
theorem A8(a lo Z:X)(ha:SE a)(hl:SE lo)(hh:SE Z):SE (.slice a lo Z):=by
 intro ks T e prog w c A q d env m σ s Xp Q B he vr L N
 refine gm B λv ie p B=>?_
 replace B:=D9 B;obtain⟨h1,B⟩:=B
 refine ma B λl h' st p2 B=>?_
 revert B;refine KW λh0 h2 h3=>?_
 obtain rfl:=TN.mp h0
 refine Subscript_ (ha.at h1 he L (.refl ..) vr L N λv O aa C D E h=>lz (uM hl h2 he L D E C h λl U ab G H I h=>uM hh h3 he L H I G h λu Y ac J M ae h=>?_))
 refine Sz (w2 J rfl rfl rfl h) (λi af h5=>Sz h5 (λr ag h6=>h6.trans M) λj j y=>y) λj j y=>y
theorem uB{c:Const}(h:Iw (.int i) c=true):c=.int i:=by
 cases c with
 |int j=>cases of_decide_eq_true h;rfl
 |none=>exact nomatch of_decide_eq_true (show decide (AV.int i=.none)=true from h)
 |bool b=>exact nomatch of_decide_eq_true (show decide (AV.int i=.bool b)=true from h)
 |str b=>exact nomatch of_decide_eq_true (show decide (AV.int i=.str b)=true from h)
 |_=>exact Et h rfl
theorem DM(a:X)(Y:SE a):SE (.rev a):=by
 intro ks T e prog w c A q d env m σ s Xp Q B he Z L H
 refine gm B λv ie p B=>?_
 replace B:=D9 B;obtain⟨B,I⟩:=B
 refine ma I λl h' st p2 I=>?_
 revert I;refine KW λh1 h2 C=>?_
 obtain rfl:=TN.mp h1
 obtain rfl:=TN.mp h2
 cases st with
 |none=>exact Et C rfl
 |some st=>
 replace C:=sd (e:=st) C;obtain⟨o,x,p3,rfl,C⟩:=C
 replace C:=D9 C;obtain⟨h4,C⟩:=C
 obtain rfl:=of_decide_eq_true h4
 refine iG C λv1 k1 p4 C=>?_
 obtain rfl:=uB C
 refine Subscript_ (Y.at B he L (.refl ..) Z L H λv J D E G M h=>?_)
 rw[arm_eval_Slice]
 refine So (Sv (So (SK (Sv (So (SK ?_))))))
 show wpAny _ _ (eval (.UnaryOp .USub (.Constant (.int 1) _ _) _) env) _ _ _
 refine wpAny_UnaryOp (wpAny_Constant_int (PySem.P.neg_int ?_))
 have N:=cu (tk:=D.toks+1+1) E
 refine Sz (BL (tk:=D.toks+1) N.1 rfl h) (λi O h5=>Sz h5 (λr U h6=>h6.trans (G.trans N.2)) λj j y=>y) λj j y=>y
theorem y6(m:E' o=true):attributeBase o n env W=W:=by
 refine(TZ.mp m).elim (λh=>?_) λh=>(TZ.mp h).elim (λh=>?_) λh=>(TZ.mp h).elim (λh=>?_) λh=>?_
 ·refine gI h λj j j=>?_;rfl
 ·refine gx h λj j j j=>?_;rfl
 ·refine gm h λj j j j=>?_;rfl
 ·refine wu h λj j j j g=>?_
  refine gx g λj j j j=>?_;rfl
theorem iK(j:E' o=true)(h:wpAny (model prog w) A (eval o env) Q E s):wpAny (model prog w) A (attributeBase o n env (eval o env)) Q E s:=QE (y6 j) h
theorem wB(a:X)(C i:Nat)(U:SE a):SE (.attr a C i):=by
 intro ks T e prog w c A q d env m σ s Xp Q B he Y L G
 refine gx B λv n p B=>?_
 revert B;refine KW λZ H I=>?_
 replace H:=of_decide_eq_true H
 show wpAny _ _ (attributeBase _ _ env (eval _ env)>>=_) _ _ _
 refine So (iK I (U.at Z he L (.refl ..) Y L G λv J M D E N h=>?_))
 refine So (wpAny_standAt (So (SK ?_)))
 exact Sz (rW D rfl H h) (λr O I=>So (wpAny_letTemporaryGo (Sv (I.trans E)))) λj j y=>y
def Kept(prog:Program)(w:World)(f:Value)(h:Heap):Prop:=∃k,(k=Keeper.frame\/k=Keeper.machine\/k=Keeper.boundFrame)/\Looks (model prog w) h (keeperOf f) k
theorem rv(q:∀p∈l,p.1=false)(h:wpAny (model prog w) A (spliced l) (λvs m=>Q ⟨vs,[]⟩ m) E s):
  wpAny (model prog w) A (evalArgs f true l []) Q E s:=by
 cases l with
 |nil=>
  unfold evalArgs
  show wpAny _ _ (spliced []>>=_) _ _ _
  refine So (Sz h (λvs m h'=>?_) λj j y=>y)
  refine So (Sv (SK ?_))
  exact So (Sv (So (Sv (Sv h'))))
 |cons p r=>
  obtain⟨b,t⟩:=p
  have:=q (b,t) (Sy ..)
  dsimp only at this
  subst this
  exact Calls.evalArgs_plain h
theorem lU(h:(ck as).l ks T es=true):∀p∈backTo pos (starEach es env),p.1=false:=by
 intro p j
 rw[mD as es h]at j
 unfold backTo at j
 simp only[Td,Te]at j
 obtain⟨e,_,rfl⟩:=j
 rfl
theorem d6(m:(ck as).l ks T es=true)(h:wpAny (model prog w) A (spliced (backTo pos (starEach es env))) (λvs j=>Kept prog w f j.heap/\wpAny (model prog w) A (call f (first++vs)) Q E j) E s):
  wpAny (model prog w) A (callWith pos f first (backTo pos (starEach es env)) (backToKw pos (keywordEach [] env))) Q E s:=by
 have q:=lU (env:=env) (pos:=pos) m
 refine callWith_of (P:=Kept prog w f) (keywords:=[]) ?_ (λh x=>x) (rv q h)
 simp only[List.any_nil,Bool.or_false]
 rw[Vb]
 intro p r
 simp[q p r]
theorem iP(id:String)(h:Heap):Kept prog w (.builtin id) h:=⟨.machine,.inr (.inl rfl),Looks.now⟩
theorem vh(id:String)(h:Heap):Kept prog w (.type id) h:=⟨.machine,.inr (.inl rfl),Looks.now⟩
theorem Ax(b:BF)(h:Heap):Kept prog w b.val h:=by
 cases b<;>first|exact iP _ _|exact vh _ _
theorem j7(L:w' prog w c σ s)(h:keepIn (K w.params) (.ref f)=true):Kept prog w (.ref f) s.heap:=keeps_K h s.heap L.says.1
theorem xL(P:Params)(b:BF):nsIn (K P) mainGlobals b.Jq=some none/\bootBuiltins b.Jq=some b.val/\b.Jq≠"__name__":=by
 cases b
 ·exact⟨rfl,Boot.«len»,by decide+kernel⟩
 ·exact⟨rfl,Boot.«abs»,by decide+kernel⟩
 ·exact⟨rfl,Boot.«repr»,by decide+kernel⟩
 ·exact⟨rfl,Boot.«int»,by decide+kernel⟩
 ·exact⟨rfl,Boot.«range»,by decide+kernel⟩
 ·exact⟨rfl,Boot.«list»,by decide+kernel⟩
 ·exact⟨rfl,Boot.«tuple»,by decide+kernel⟩
theorem DR(b:BF)(as:X)(D:SL as):SE (.bf b as):=by
 intro ks T e prog w c A q d env m σ s Xp Q j he M L r
 refine jY j λx p args kw pos j=>?_
 replace j:=D9 j;obtain⟨E,j⟩:=j
 cases d4 E
 replace j:=D9 j;obtain⟨E,j⟩:=j
 obtain rfl:=of_decide_eq_true E
 obtain⟨N,H⟩:=D9 j
 obtain⟨rfl,r⟩:=r
 obtain⟨O,U,Y⟩:=xL w.params b
 refine wpAny_Call_Name_kw (f9 he L N O U Y (d6 H (D.at H he L (.refl ..) M L r λvs G I B C J h=>⟨Ax b _,?_⟩)))
 exact GY C (yP (he.calm rfl) B rfl h)
theorem jB(N:E' o=true)(H:(ck as).l ks T es=true)(I:(m.endLine==pos.line)=true)(C:es.length<29)(h:wpAny (model prog w) A (eval o env) (λM q=>∀O,wpAny (model prog w) A (getMethod M n O) (λJ r=>wpAny (model prog w) A (callWith pos J.1 J.2 (backTo pos (starEach es env)) (backToKw pos (keywordEach [] env))) Q E r) E q) E s):
  wpAny (model prog w) A (eval (.Call (.Attribute o n m) es [] pos) env) Q E s:=by
 rw[arm_eval_Call]
 refine So (iK N (Sz h (λM q h₁=>?_) λj j y=>y))
 refine So (wpAny_standAt ?_)
 have B:methodCallForm (es.length+([]:List Keyword).length) (backTo pos (starEach es env)) (backToKw pos (keywordEach [] env))=true:=by
  unfold methodCallForm
  have U:=lU (env:=env) (pos:=pos) H
  rw[Ti.mpr λp I=>by rw[U p I];rfl]
  exact decide_eq_true (TV C)
 have D:methodCallPos true o env m pos=pure pos:=if_pos I
 unfold methodCall
 rw[B]
 refine So (SK ?_)
 unfold calleeOf
 rw[if_pos rfl]
 exact Sz (h₁ _) (λJ r G=>So (wpAny_of_eq D G)) λj j y=>y
theorem Cr(b:BM)(a as:X)(ha:SE a)(G:SL as):SE (.bm b a as):=by
 intro ks T e prog w c A q d env m σ s Xp Q r he vr L H
 refine jS r λvE nm U args pos r=>?_
 revert r;refine OC λI h1 h2 J h4 M=>?_
 replace I:=of_decide_eq_true I
 replace M:=of_decide_eq_true M
 subst I
 refine jB h2 J h4 M (ha.at h1 he L (.refl ..) vr L H λv N Y j B C h pl=>?_)
 refine vO j rfl h.1 (d6 J (G.at J he L B C j h.2 λvs O Z D E aa h=>⟨iP _ _,?_⟩))
 exact GY E (Dp D rfl rfl h)
theorem zN(m:J2 c A d)(L:w' prog w c σ s)(q:av j=f)(B:vs.map av=args)(h:D5 d f args Q Xp σ):
  wpAny (model prog w) A (call j vs) (Ec prog w c σ s Q) (EX prog w c Xp σ s) s:=
 wpAny_call (codeAny_mono (h.2 prog w c A s j vs m L q B) λr C h'=>by
  cases r with
  |ok f=>cases f with|ret v=>exact h'|_=>exact h'
  |error e=>exact h')
theorem J5(he:D' w c A true d env ks)(B:w' prog w c σ s)(k:Kp c σ s m j)(L:w' prog w c m j)(r:av q=f)(C:vs.map av=args)(h:D5 d f args Q Xp m):
  Kept prog w q j.heap/\wpAny (model prog w) A (call q vs) (Ec prog w c σ s Q) (EX prog w c Xp σ s) j:=
 ⟨h.1 prog w c j q L r,Sz (zN he.room L r C h) (λv D y=>y.trans k) λe D y=>y.trans B k⟩
theorem wo(f as:X)(U:SE f)(H:SL as):SE (.call f as):=by
 intro ks T e prog w c A q d env m σ s Xp Q j he Y L r
 refine jY j λx p args kw pos j=>?_
 replace j:=D9 j;obtain⟨Z,j⟩:=j
 cases d4 Z
 replace j:=D9 j
 obtain⟨rfl,r⟩:=r
 exact wpAny_Call_Name_kw (U.at j.1 he L (.refl ..) Y L r λfv I M B C D h=>d6 j.2 (H.at j.2 he L C D B h λvs J N E G O h=>J5 he L G E rfl rfl h))
theorem vu(a:X)(C i:Nat)(as:X)(ha:SE a)(J:SL as):SE (.D3 a C i as):=by
 intro ks T e prog w c A q d env m σ s Xp Q B he vr L j
 refine jS B λvE nm Z args pos B=>?_
 revert B;refine OC λD h1 h2 M h4 N=>?_
 replace D:=of_decide_eq_true D
 replace N:=of_decide_eq_true N
 obtain⟨rfl,j⟩:=j
 cases O:(methTab C)[i]? with
 |none=>rw[O]at D;cases D
 |some p=>
  obtain⟨n,f⟩:=p
  rw[O]at D j
  simp only[Option.map_some,Option.some.injEq]at D
  subst D
  refine jB h2 M h4 N (ha.at h1 he L (.refl ..) vr L j λv U aa r E G h pl=>?_)
  exact vD r rfl O h.1 (d6 M (J.at M he L E G r h.2 λvs Y ab H I ac h=>J5 he L I H rfl rfl h))
theorem zx(a:X)(C i:Nat)(as:X)(ha:SE a)(Z:SL as):SE (.Iu a C i as):=by
 intro ks T e prog w c A q d env m σ s Xp Q D he vr L E
 refine jS D λvE nm ah args pos D=>?_
 revert D;refine OC λY h1 h2 h3 h4 h5=>?_
 replace Y:=of_decide_eq_true Y
 replace h5:=of_decide_eq_true h5
 obtain⟨rfl,E⟩:=E
 refine jB h2 h3 h4 h5 (ha.at h1 he L (.refl ..) vr L E λv aa G r H J h pl=>?_)
 obtain⟨⟨a,dx,fl,ab,e⟩,h⟩:=h
 obtain⟨y1,kv,hd,_⟩:=r.own _ _ e
 obtain⟨hC,hf⟩:=jx w.params C i _ Y
 obtain⟨f1,f2,f3,f4,cd,f5,f6⟩:=ez w.params C hC
 obtain⟨od,ac,hl⟩:=er hd nm
 have I:InstAt G.heap a ⟨.ref C,some dx,.plain,#[]⟩ C (some od):=⟨y1,rfl,rfl,ac⟩
 have ae:=cv ab
 subst ae
 refine method_usual r.says.1 I f1 f2 hf rfl (Sz (rW r rfl Y h) (λfv ai ⟨af,M,B,h⟩=>?_) λj j y=>y)
 have N:=J.kept B
 exact d6 h3 (Z.at h3 he L (H.trans B) N M h λvs ag aj O U al h=>J5 he L U O rfl rfl h)
section
open AutoSeq1 (wpAny_loadPart')
theorem rP(h:Q (.bool (decide (a>b))) s):
  wpAny (model prog w) A (richCompare .Gt (.int a t) (.int b u)) Q E s:=PyProof.Rows.gt_int h
set_option tactic.hygienic true in
theorem oW(l b:Addr)(i j k r:Int)(H E I G:Tok)(n Q:Nat):
  Meets (Builtin.«tuple.__gt__» ⟨[.ref l,.ref b],[]⟩)
   (λA R s=>s.heap.get? l=some {cls:=.type "tuple",dict:=none,data:=.seq #[.int i H,.int j E] n,slots:=#[]}/\s.heap.get? b=some {cls:=.type "tuple",dict:=none,data:=.seq #[.int k I,.int r G] Q,slots:=#[]}/\
    R (.ok (.ret (.bool (decide (i>k\/i=k/\j>r))))) s):=
 .of_wp λprog w A R s h=>by
  obtain⟨J,g,d,tk,os⟩:=s;obtain⟨U,Y,h⟩:=h
  have Z:=AutoSeq1.sub_tuple_tuple
  wp_walk using wpAny_loadPart' U,wpAny_loadPart' Y,wpAny_forIn_list _ (λq b M=>b.1=none/\M=⟨J,g,d,tk,os⟩/\
   (q=[(.int i H,.int k I),(.int j E,.int r G)]\/(q=[(.int j E,.int r G)]/\i=k)\/(q=[]/\i=k/\j=r))) _
  case turn=>
   rintro⟨y,x⟩ q b M ⟨C,rfl,hz⟩
   rcases hz with hz|⟨hz,m⟩|⟨hz,_⟩
   ·injection hz with D N
    injection D with D O
    subst D O
    refine So ((EqAt.int_int i H k I (A:=A.in1) (s:=⟨J,g,d,tk,os⟩)) prog w _ _ ?_)
    by_cases m:i=k
    ·have:(i==k)=true:=by simpa using m
     rw[this]
     wp_walk
     exact⟨rfl,rfl,.inr (.inl ⟨N,m⟩)⟩
    ·have:(i==k)=false:=by simpa using m
     rw[this]
     wp_walk using rP
     have:decide (i>k\/i=k/\j>r)=decide (i>k):=by simp[m]
     rw[this]at h
     exact⟨_,rfl,h⟩
   ·injection hz with D N
    injection D with D O
    subst D O
    refine So ((EqAt.int_int j E r G (A:=A.in1) (s:=⟨J,g,d,tk,os⟩)) prog w _ _ ?_)
    by_cases B:j=r
    ·have:(j==r)=true:=by simpa using B
     rw[this]
     wp_walk
     exact⟨rfl,rfl,.inr (.inr ⟨N,m,B⟩)⟩
    ·have:(j==r)=false:=by simpa using B
     rw[this]
     wp_walk using rP
     have:decide (i>k\/i=k/\j>r)=decide (j>r):=by simp[m]
     rw[this]at h
     exact⟨_,rfl,h⟩
   ·cases hz
  case fin=>
   rintro⟨b1,b2⟩ M ⟨C,rfl,hz⟩
   simp only at C
   subst C
   rcases hz with hz|⟨hz,m⟩|⟨hz,m,B⟩
   ·cases hz
   ·cases hz
   ·wp_walk
    have:decide (i>k\/i=k/\j>r)=false:=by simp[m,B]
    rw[this]at h
    exact⟨_,rfl,by simpa[Builtin.Tuple.tupleCompareSizes]using h⟩
  case h=>
   exact⟨rfl,rfl,.inl rfl⟩
end
section
theorem sy{P:AV->AV->AH->Prop}(ha:SE a)(hb:SE b)(U:(ck a).e ks T e1=true)(Y:(ck b).e ks T e2=true)(he:D' w c A q d env ks)(Z:w' prog w c σ s)(k0:Kp c σ s B C)(vr:Vr env T m B C.heap)(x1:w' prog w c B C)(Q:(ev d q a Xp).e m (λv1 σ=>(ev d q b Xp).e m (λv2 σ=>P v1 v2 σ) σ) B)(k:∀v u j r,w' prog w c j r->Kp c σ s j r->Vr env T m j r.heap->P (av v) (av u) j->G [v,u] r):
  wpAny (model prog w) A (spliced (backTo pos (starEach [e1,e2] env))) G (EX prog w c Xp σ s) C:=by
 rw[fz U,fz Y]
 exact spliced_cons (ha.at U he Z k0 vr x1 Q λv j r E H I h=>spliced_cons (hb.at Y he Z H I E h λu D J M N O h=>spliced_nil (k v u D J M N O h)))
theorem C8(a b c' f:X)(ha:SE a)(hb:SE b)(hc:SE c')(hf:SE f):ST (.MO a b c' f):=by
 intro ks T e prog w c A q d env m σ s Xp K Q he vr L ae
 refine iR Q λl os rs p Q=>?_
 revert Q;refine KW λh0 N I=>?_
 refine wl ?_
 intro W4 Q4 E4
 refine cy h0 λo h0=>?_
 obtain rfl:=of_decide_eq_true h0
 refine lq N λes k p1 N=>?_
 refine gi N λx1 x2 N=>?_
 replace N:=D9 N;obtain⟨N,h2⟩:=N
 refine cy I λr I=>?_
 refine lq I λes k2 p2 I=>?_
 refine gi I λy1 y2 I=>?_
 replace I:=D9 I;obtain⟨I,h4⟩:=I
 refine wpAny_isTrue_Compare1 (wpAny_Tuple (sy ha hb N h2 he L (.refl ..) vr L ae λZ v2 E C J O aa h=>⟨by rw[sizeLine_eq];simp,?_⟩)) rfl
 refine wl ?_
 intro al am an
 obtain⟨L3,k3⟩:=ci (tk:=C.toks) (h':=C.heap.push {cls:=.type "tuple",data:=.seq [Z,v2].toArray}) J λb o e=>Sq _ e
 have af:(C.heap.push {cls:=.type "tuple",data:=.seq [Z,v2].toArray}).get? C.heap.objs.size=some {cls:=.type "tuple",data:=.seq [Z,v2].toArray}:=SM _ rfl
 refine(?_:E C.heap.objs.size=none->_) (bV J (bW _))
 intro fresh
 have ag:C.heap.objs.size∉D2 c:=λhb=>by
  obtain⟨_,o,e,_⟩:=J.frames.mem hb
  rw[bW]at e;cases e
 have ah:Ee E C.heap.objs.size=false:=cj fresh
 refine wpAny_Tuple (Sz (sy (Xp:=Xp) (G:=λvs B=>∃v3 v4 D,vs=[v3,v4]/\w' prog w c D B/\Kp c E {C with heap:=C.heap.push {cls:=.type "tuple",data:=.seq [Z,v2].toArray}} D B/\(E8 (av Z) λi=>E8 (av v2) λj=>E8 (av v3) λk=>E8 (av v4) λl=>K (decide (i>k\/i=k/\j>l)) D))
  hc hf I h4 he L3 (.refl ..) (aa.kept k3) L3 h λv3 v4 D B M H aj h=>⟨v3,v4,D,rfl,M,H,h⟩) (λvs B ai=>?_) λe' s' y=>y.trans L (O.trans k3))
 obtain⟨v3,v4,D,rfl,M,H,h⟩:=ai
 refine⟨by rw[sizeLine_eq];simp,?_⟩
 obtain⟨i,e1,h⟩:=eg h
 obtain⟨j,e2,h⟩:=eg h
 obtain⟨k,e3,h⟩:=eg h
 obtain⟨l,e4,h⟩:=eg h
 obtain⟨t1,rfl⟩:=dh e1
 obtain⟨t2,rfl⟩:=dh e2
 obtain⟨U,rfl⟩:=dh e3
 obtain⟨Y,rfl⟩:=dh e4
 obtain⟨L5,k5⟩:=ci (tk:=B.toks) (h':=B.heap.push {cls:=.type "tuple",data:=.seq [Value.int k U,.int l Y].toArray}) M λb o e=>Sq _ e
 obtain⟨sl,q1,q2⟩:=H.keep _ _ ah af
 rw[q2 ag]at q1
 have ab:=Sq {cls:=.type "tuple",data:=.seq [Value.int k U,.int l Y].toArray} q1
 have ac:(B.heap.push {cls:=.type "tuple",data:=.seq [Value.int k U,.int l Y].toArray}).get? B.heap.objs.size=some {cls:=.type "tuple",data:=.seq [Value.int k U,.int l Y].toArray}:=SM _ rfl
 have fin:wpAny (model prog w) A (richCompare .Gt (.ref C.heap.objs.size) (.ref B.heap.objs.size)) (λc' s'=>wpAny (model prog w) A (truthy c') (J4 prog w c σ s K) (EX prog w c Xp σ s) s') (EX prog w c Xp σ s) {B with heap:=B.heap.push {cls:=.type "tuple",data:=.seq [Value.int k U,.int l Y].toArray}}:=
  richCompare_meets_room (op:=.Gt) ⟨_,ab,rfl⟩ ⟨_,ac,rfl⟩ F.slot_tuple_gt F.entry_tuple_gt (F.args_tuple_gt_2 _ _) (oW _ _ i j k l t1 t2 U Y 0 0)
   ⟨ab,ac,⟨(λx=>(by cases x)),wpAny_truthy_bool ⟨D,L5,(O.trans k3).trans (H.trans k5),h⟩⟩⟩ (by have:=he.units;omega)
 exact fin
end
set_option tactic.hygienic true in
theorem Cu(a:X)(t:Str)(ha:SE a):SE (.JK a t):=by
 intro ks T e prog w c A q d env m σ s Xp Q IX he vr L OD
 refine zy IX λes p3 IX=>?_
 refine gi IX λe1 e2 IX=>?_
 replace IX:=D9 IX;obtain⟨h1,h2⟩:=IX
 refine AQ h1 λvE i' sp p1 h1=>?_
 replace h1:=D9 h1;obtain⟨h0,h1⟩:=h1
 obtain rfl:=of_decide_eq_true h0
 replace h1:=D9 h1;obtain⟨h0,h1⟩:=h1
 obtain rfl:=TN.mp h0
 refine kK h2 λx kx p2 h2=>?_
 replace h2:=D9 h2;obtain⟨h0,h2⟩:=h2
 obtain rfl:=of_decide_eq_true h0
 replace h2:=of_decide_eq_true h2
 refine PyProof.Rows.JoinedStr_many (joinParts_cons (PyProof.Rows.FormattedValue_plain (ha.at h1 he L (.refl ..) vr L OD λv Fz Jc Lg k₂ O1 h=>?_)))
 obtain⟨i,e1,⟨RW,RX⟩,hQ⟩:=eg h
 obtain⟨tk,rfl⟩:=dh e1
 have hi:i=0\/i=1:=by omega
 have hlen:(Str.empty++Str.ofString (toString i)).length<=10:=by rcases hi with rfl|rfl<;>decide
 have hd:i.natAbs.log2<1920:=by rcases hi with rfl|rfl<;>decide
 refine formatField_int_small hd ⟨SJ hlen (by rw[sizeLine_eq];decide),?_⟩
 refine joinParts_cons (wpAny_Constant_str ⟨?_,?_⟩)
 ·rw[strLen_append]
  have:(Str.empty++Str.ofString (toString i)).length+x.length<=110:=by omega
  exact SJ this (by rw[sizeLine_eq];decide)
 ·refine joinParts_nil ?_ ?_
  ·exact⟨Fz,(cu Lg).1,k₂.trans (cu Lg).2,hQ _⟩
  ·rw[strLen_append]
   have:(Str.empty++Str.ofString (toString i)).length+x.length<=110:=by omega
   exact SJ this (by rw[sizeLine_eq];decide)
def GJ(env:Env)(pos:Pos):List (Option Expr)->List Expr->List (Sem Value×Sem Value)
 |some k::ks,v::vs=>(eval k env,do let x<-eval v env;standAt pos;pure x)::GJ env pos ks vs
 |_,_=>[]
theorem fV(h:Fa (n::ns) m=true):∃r w j,m=some (.Constant (.str n) r w)::j/\Fa ns j=true:=by
 cases m with
 |nil=>exact Et h rfl
 |cons o j=>
  cases o with
  |none=>exact Et h rfl
  |some e=>
   obtain⟨q,A⟩:=D9 (a:=onStr e λx=>decide (n=x)) h
   refine kK q λx k p q=>?_
   exact⟨k,p,j,by rw[of_decide_eq_true q],A⟩
theorem FI(h:Fa [] j=true):j=[]:=by
 cases j with
 |nil=>rfl
 |cons o ks=>exact absurd (show false=true from h) To
theorem ql(env:Env)(pos:Pos)(names:List Str):∀(m:List (Option Expr)) (j:List Expr),Fa names m=true->names.length=j.length->
  (evalEachOpt m env).zip ((evalEach j env).map λv=>do let x<-v;standAt pos;pure x)=(GJ env pos m j).map λp=>(some p.1,p.2):=by
 induction names with
 |nil=>intro m j h q;cases FI h;cases j with
  |nil=>rfl
  |cons v vs=>cases q
 |cons n ns ih=>
  intro m j h q
  obtain⟨w,A,r,rfl,h'⟩:=fV h
  cases j with
  |nil=>cases q
  |cons v vs=>exact congrArg (List.cons _) (ih r vs h' (Nat.succ.inj q))
theorem oG(env:Env)(pos:Pos)(names:List Str):∀(m:List (Option Expr)) (j:List Expr),Fa names m=true->names.length=j.length->(GJ env pos m j).length=j.length:=by
 induction names with
 |nil=>intro m j h q;cases FI h;cases j with
  |nil=>rfl
  |cons v vs=>cases q
 |cons n ns ih=>
  intro m j h q
  obtain⟨w,A,r,rfl,h'⟩:=fV h
  cases j with
  |nil=>cases q
  |cons v vs=>exact congrArg Nat.succ (ih r vs h' (Nat.succ.inj q))
inductive StrKeys:List Str->List (Value×Value)->Prop
 |nil:StrKeys [] []
 |cons (n:Str) (t:Tok) (v:Value) {ns:List Str} {ps:List (Value×Value)}:StrKeys ns ps->StrKeys (n::ns) ((.str n t,v)::ps)
def SP(x:X):Prop:=∀(ks:Ks) (T:Tab) (names:List Str) (j:List (Option Expr)) (es:List Expr) (pos:Pos) (prog:Program) (w:World) (c:Cx) (A:Around) (q:Bool) (d:Nat) (env:Env) (m:D7) (σ:AH) (s:Shared) (Xp:AH->Prop) (Q:List AV->AH->Prop),
 (ck x).l ks T es=true->Fa names j=true->names.length=es.length->D' w c A q d env ks->Vr env T m σ s.heap->w' prog w c σ s->(ev d q x Xp).l m Q σ->
 wpAny (model prog w) A (evalPairs (GJ env pos j es)) (λr B=>StrKeys names r/\LF prog w c σ s Q (r.map (·.2)) B) (EX prog w c Xp σ s) s
theorem Du:SP .nil:=by
 intro ks T names j es pos prog w c A q d env m σ s Xp Q r C D he E L B
 cases d4 r
 have:names=[]:=by simpa using D
 subst this
 have:j=[]:=FI C
 subst this
 exact Sv ⟨.nil,σ,L,.refl ..,B⟩
theorem CQ(a as:X)(Z:SE a)(H:SP as):SP (.cons a as):=by
 intro ks T names N es pos prog w c A q d env m σ s Xp Q j hk O he vr L I
 cases es with
 |nil=>exact Et j rfl
 |cons e es=>
 replace j:=D9 j
 cases names with
 |nil=>simp at O
 |cons n ns=>
  obtain⟨kx,px,C,rfl,J⟩:=fV hk
  show wpAny _ _ (evalPairs ((eval (.Constant (.str n) kx px) env,do let x<-eval e env;standAt pos;pure x)::GJ env pos C es)) _ _ _
  unfold evalPairs
  refine So (wpAny_Constant_str ?_)
  obtain⟨L1,U⟩:=cu (tk:=s.toks+1) L
  refine So (SK (So (Z.at j.1 he L U (vr.kept U) L1 I λv B D E r G h=>So (wpAny_standAt (Sv ?_)))))
  refine So (SK (Sz (H ks T ns C es pos prog w c A q d env m B D Xp _ j.2 J (by simpa using O) he G E h) (λps s' Y=>Sv ⟨.cons n _ v Y.1,?_⟩) λe s' y=>y.trans L r))
  obtain⟨M,L',k',hq⟩:=Y.2
  exact⟨M,L',r.trans k',hq⟩
theorem rD(h:StrKeys ns j):ns.length=j.length:=by
 induction h with
 |nil=>rfl
 |cons n t v h ih=>exact congrArg Nat.succ ih
theorem lQ(h:StrKeys ns j):Carries (PySem.strKind prog w) j (ns.zip (j.map (·.2))):=by
 induction h with
 |nil=>trivial
 |cons n t v h ih=>exact⟨MN n t,rfl,ih⟩
theorem adopt(L:w' prog w c σ s)(H:s.heap.get? D=none)(J:∀b o,s.heap.get? b=some o->U.heap.get? b=some o)(M:∃ob,U.heap.get? D=some ob)(G:w' prog w c m B)(E:Kp c σ U m B)(hs:Heap.SameBut D B.heap h')(Y:OH prog w h' D o)(Z:o.own=true):
  m D=none/\w' prog w c (upd m D o) {B with heap:=h',toks:=tk}/\Kp c σ s (upd m D o) {B with heap:=h',toks:=tk}:=by
 have hn:σ D=none:=bV L H
 obtain⟨ob,N⟩:=M
 have r:m D=none:=by
  cases q:m D with
  |none=>rfl
  |some o'=>
   rcases E.GR D o' q with h|h
   ·exact absurd hn h
   ·rw[N]at h;cases h
 have I:c.base.get? D=none:=by
  cases q:c.base.get? D with
  |none=>rfl
  |some o=>rw[L.stays D o q]at H;cases H
 have O:D∉D2 c:=λI=>by
  obtain⟨_,o,e,_⟩:=L.frames.mem I
  rw[H]at e;cases e
 have j:=gD (tk:=tk) (h':=h') G I O (λb o' e A=>by
  cases o' with
  |inst C dx fl=>
   simp[foot]at A
   rcases A with rfl|rfl
   ·rw[r]at e;cases e
   ·have:=G.parts _ _ _ _ e;rw[r]at this;cases this
  |_=>simp[foot]at A;subst A;rw[r]at e;cases e) λb o' Q e=>(hs.2 b Q).trans e
 refine⟨r,⟨j.ok,j.stays,j.frames,j.ns,λa o' e=>?_,j.parts.upd (o:=o) (λq e=>by rw[r]at e;cases e) Z,λa A=>?_,λa A=>?_,j.gens,j.os⟩,⟨λb o' A e=>?_,λa A=>?_,λa o' e=>?_⟩⟩
 ·refine jC e ?_ λq e=>?_
  ·exact Y
  ·exact j.own a o' e
 ·by_cases q:a=D
  ·subst q;exact⟨I,O⟩
  ·unfold Ee at A;rw[bP q]at A;exact j.apart a A
 ·by_cases q:a=D
  ·subst q;exact O
  ·rw[bP q]at A;exact j.off a A
 ·obtain⟨sl,e1,e2⟩:=E.keep b o' A (J b o' e)
  exact⟨sl,(hs.2 b (λq=>by rw[q,H]at e;cases e)).trans e1,e2⟩
 ·by_cases q:a=D
  ·subst q;exact .inr H
  ·unfold Ee at A;rw[bP q]at A
   rcases E.fresh a A with h|h
   ·exact .inl h
   ·right
    cases q:s.heap.get? a with
    |none=>rfl
    |some o=>rw[J a o q]at h;cases h
 ·by_cases q:a=D
  ·subst q;exact .inr H
  ·rw[bP q]at e
   rcases E.GR a o' e with h|h
   ·exact .inl h
   ·right
    cases q:s.heap.get? a with
    |none=>rfl
    |some o=>rw[J a o q]at h;cases h
theorem AC(C:Nat)(as:X)(Y:SP as):SE (.Gj C as):=by
 intro ks T e prog w c A q d env m σ s Xp Q H he vr L Z
 refine jQ H λD j pos H=>?_
 revert H;refine NT λh1 h2 h3 h4=>?_
 replace h3:=of_decide_eq_true h3
 replace h4:=of_decide_eq_true h4
 have B:((EC C).take j.length).length=j.length:=by rw[Tf];omega
 have M:=oG env pos _ D j h1 B
 have ah:j.length<=15:=SJ h4 (lO _)
 refine wpAny_Dict_pairs (knd:=PySem.strKind prog w) (pairs:=GJ env pos D j) (ql env pos _ D j h1 B) (by intro h;rw[h]at M;simp at M;omega) (by omega) ?_
 obtain⟨L1,k1⟩:=ci (tk:=s.toks) (h':=s.heap.push {cls:=.type "dict",data:=.dict #[]}) L λb o e=>Sq _ e
 have fresh:σ s.heap.objs.size=none:=bV L (bW _)
 have aa:s.heap.objs.size∉D2 c:=λhb=>by
  obtain⟨_,o,e,_⟩:=L.frames.mem hb
  rw[bW]at e;cases e
 refine Sz (Y ks T _ D j pos prog w c A q d env m σ _ Xp _ h2 h1 B he (vr.kept k1) L1 Z) (λJ E hp=>?_) λe' s' y=>y.trans L k1
 obtain⟨hk,ab,N,G,h⟩:=hp
 have hc:=lQ (prog:=prog) (w:=w) hk
 have hl:=rD hk
 have I:J.length=j.length:=by rw[<-hl,B]
 have ac:=fM (prog:=prog) (w:=w) s.heap (PySem.strKind prog w)
 have ae:E.heap.DictOf (PySem.strKind prog w) s.heap.objs.size []:=by
  obtain⟨o,es,ep,ho,r⟩:=ac
  obtain⟨sl,e1,e2⟩:=G.keep _ _ (cj fresh) ho
  rw[e2 aa]at e1
  exact⟨o,es,ep,e1,r⟩
 refine⟨_,hc,ae,λh' O af=>?_⟩
 have U:(((EC C).take j.length).zip (J.map (·.2))).map (·.1)=(EC C).take j.length:=by
  rw[List.map_fst_zip];rw[B];simp[I]
 have ag:merged [] (((EC C).take j.length).zip (J.map (·.2)))=((EC C).take j.length).zip (J.map (·.2)):=by
  refine merged_nil_of_nodup _ ?_
  rw[U];exact List.Sublist.nodup (U' ..) (nE C)
 rw[ag]at O
 obtain⟨hn,L',k'⟩:=adopt (o:=.D4 C ((J.map (·.2)).map av)) (tk:=E.toks+J.length) L (bW s.heap) (λb o e=>Sq _ e) ⟨_,SM _ rfl⟩ N G af
  ⟨_,O,by rw[U];simp[I],by
   have e1:(λp:Str×Value=>av p.2)=av∘(λp=>p.2):=rfl
   rw[e1,<-Td,List.map_snd_zip]
   rw[B];simp[I]⟩ rfl
 exact⟨_,L',k',h _ hn⟩
theorem zX(k v:X)(hk:SE k)(hv:SE v):SE (.Ir k v):=by
 intro ks T e prog w c A q d env m σ s Xp Q C he vr L Z
 refine jQ C λos es pos C=>?_
 replace C:=D9 C;obtain⟨Y,h2⟩:=C
 refine cy Y λo Y=>?_
 refine cy h2 λve h2=>?_
 cases o with
 |none=>exact Et Y rfl
 |some ke=>
 have C:(ck k).e ks T ke=true/\(ck v).e ks T ve=true:=⟨Y,h2⟩
 refine wpAny_Dict_pairs (knd:=PySem.intKind prog w) (pairs:=[(eval ke env,do let x<-eval ve env;standAt pos;pure x)]) rfl (by simp) (by simp) ?_
 obtain⟨L1,k1⟩:=ci (tk:=s.toks) (h':=s.heap.push {cls:=.type "dict",data:=.dict #[]}) L λb o e=>Sq _ e
 have fresh:σ s.heap.objs.size=none:=bV L (bW _)
 have aa:s.heap.objs.size∉D2 c:=λhb=>by
  obtain⟨_,o,e,_⟩:=L.frames.mem hb
  rw[bW]at e;cases e
 delta evalPairs evalPairs
 refine Sz (E:=EX prog w c Xp σ {s with heap:=s.heap.push {cls:=.type "dict",data:=.dict #[]}}) (Q:=λps B=>∃M H j,ps=[(M,H)]/\w' prog w c j B/\Kp c σ {s with heap:=s.heap.push {cls:=.type "dict",data:=.dict #[]}} j B/\E8 (av M) λi=>∀z o,j z=none->Q (.ref z) (upd j z (.D0 [(i,av H)] o)))
  ?_ (λps B hp=>?_) λe' s' y=>y.trans L k1
 ·refine So (hk.at C.1 he L1 (.refl ..) (vr.kept k1) L1 Z λM j B G D N h=>?_)
  refine So (SK (So (hv.at C.2 he L1 D N G h λH I ah O U ai h=>So (wpAny_standAt (Sv ?_)))))
  exact So (SK (Sv (Sv ⟨M,H,I,rfl,O,U,h⟩)))
 ·obtain⟨M,H,j,rfl,G,D,h⟩:=hp
  obtain⟨i,e1,h⟩:=eg h
  obtain⟨t,rfl⟩:=dh e1
  have ab:=fM (prog:=prog) (w:=w) s.heap (PySem.intKind prog w)
  have ac:B.heap.DictOf (PySem.intKind prog w) s.heap.objs.size []:=by
   obtain⟨o,es,ep,ho,r⟩:=ab
   obtain⟨sl,e1,e2⟩:=D.keep _ _ (cj fresh) ho
   rw[e2 aa]at e1
   exact⟨o,es,ep,e1,r⟩
  refine⟨[(i,H)],⟨IV i t,rfl,trivial⟩,ac,λh' J ae=>?_⟩
  have af:merged [] [(i,H)]=[(i,H)]:=rfl
  rw[af]at J
  obtain⟨o',aj,al,ag,am⟩:=id J
  obtain⟨hn,L',k'⟩:=adopt (o:=.D0 [(i,av H)] o') (tk:=B.toks+[((Value.int i t),H)].length) L (bW s.heap) (λb o e=>Sq _ e) ⟨_,SM _ rfl⟩ G D ae
   ⟨ag,_,J,rfl,by show 1<=1048576;decide⟩ rfl
  exact⟨_,L',k',h _ _ hn⟩
set_option tactic.hygienic true in
theorem uf(names:Ks):(∀y∈names,y.2=.free->∃a,env.cells.lookup y.1=some a)->∀cs:List (Str×Addr),
  ∃cl,(forIn names cs λ(x:Str×NameKind) (r:List (Str×Addr))=>(match x with
   |(name,kind)=>if(kind==NameKind.free)=true then do let y<-cellOf env name;pure (ForInStep.yield ((name,y)::r))else pure (ForInStep.yield r):Sem (ForInStep (List (Str×Addr)))))=pure cl/\
   (∀y a,((y,NameKind.free)∈names\/cs.lookup y=some a)->(∀b,cs.lookup y=some b->env.cells.lookup y=some b)->env.cells.lookup y=some a->cl.lookup y=some a):=by
 induction names with
 |nil=>intro _ cs;exact⟨cs,rfl,λy a h _ _=>h.elim (λh=>by cases h) id⟩
 |cons p r ih=>
  intro h cs
  obtain⟨n,k⟩:=p
  rw[Vo]
  by_cases hk:k=.free
  ·subst hk
   obtain⟨a0,MQ⟩:=h (n,.free) (Sy ..) rfl
   have hc:cellOf env n=pure a0:=by unfold cellOf;dsimp only at MQ;rw[MQ]
   dsimp only
   rw[if_pos (by rfl),hc,pure_bind,pure_bind]
   obtain⟨cl,h1,h2⟩:=ih (λy hy=>h y (Ss _ hy)) ((n,a0)::cs)
   refine⟨cl,h1,λy a hy Iz he=>h2 y a ?_ (λb hb=>?_) he⟩
   ·by_cases q:y=n
    ·subst q;right;rw[TJ];simp;dsimp only at MQ;rw[MQ]at he;exact Option.some.inj he
    ·rcases hy with hy|hy
     ·refine dp hy (λe=>?_) λhy=>?_
      ·exact absurd (Prod.mk.inj e).1 q
      ·exact .inl hy
     ·right
      have qb:(y==n)=false:=by simpa using q
      rw[TJ,qb];exact hy
   ·rw[TJ]at hb
    by_cases q:y=n
    ·subst q;simp at hb;dsimp only at MQ;rw[MQ,hb]
    ·have qb:(y==n)=false:=by simpa using q
     rw[qb]at hb;exact Iz b hb
  ·dsimp only
   rw[if_neg (by simpa using hk),pure_bind]
   obtain⟨cl,h1,h2⟩:=ih (λy hy=>h y (Ss _ hy)) cs
   refine⟨cl,h1,λy a hy Iz he=>h2 y a ?_ Iz he⟩
   rcases hy with hy|hy
   ·refine dp hy (λe=>?_) λhy=>?_
    ·exact absurd (Prod.mk.inj e).2.symm hk
    ·exact .inl hy
   ·exact .inr hy
set_option tactic.hygienic true in
theorem sP(h:∀y∈sc.names,y.2=.free->∃a,env.cells.lookup y.1=some a):
  ∃cl,closureFor sc env=pure cl/\∀y a,(y,NameKind.free)∈sc.names->env.cells.lookup y=some a->cl.lookup y=some a:=by
 obtain⟨cl,h1,h2⟩:=uf (env:=env) sc.names h []
 refine⟨cl,?_,λy a hy he=>h2 y a (.inl hy) (λb hb=>by cases hb) he⟩
 simp only[closureFor]
 have e2:(forIn sc.names [] λ(x:Str×NameKind) (r:List (Str×Addr))=>(match x with
   |(name,kind)=>if(kind==NameKind.free)=true then do let y<-cellOf env name;pure (ForInStep.yield ((name,y)::r))else pure (ForInStep.yield r):Sem (ForInStep (List (Str×Addr)))))>>=(λr=>pure r)=(pure cl:Sem (List (Str×Addr))):=by rw[h1];rfl
 exact e2
section
section
variable {m:D7}
theorem cM(L:w' prog w c σ s)(h:s.heap.get? b=none):c.base.get? b=none/\b∉D2 c/\(∀j o,σ j=some o->b∉foot j o)/\σ b=none:=by
 have A:=bV L h
 refine⟨?_,λB=>?_,λj o e C=>?_,A⟩
 ·cases q:c.base.get? b with
  |none=>rfl
  |some o=>rw[L.stays b o q]at h;cases h
 ·obtain⟨_,o,e,_⟩:=L.frames.mem B
  rw[h]at e;cases e
 ·obtain⟨ob,r⟩:=(L.own j o e).there b C
  rw[h]at r;cases r
theorem dC(j:w' prog w c σ s)(A:s.heap.get? I=none)(L:w' prog w c σ r)(k:Kp c σ s σ r)(B:∀b o,b≠I->r.heap.get? b=some o->h'.get? b=some o):
  w' prog w c σ {r with heap:=h',toks:=tk}/\Kp c σ s σ {r with heap:=h',toks:=tk}:=by
 obtain⟨C,D,E,M⟩:=cM j A
 refine⟨gD L C D E B,⟨λb o G e=>?_,k.fresh,k.GR⟩⟩
 obtain⟨H,e1,J⟩:=k.keep b o G e
 exact⟨H,B b _ (λq=>by rw[q,A]at e;cases e) e1,J⟩
theorem mi(q:w' prog w c σ s)(k:Kp c σ s σ B)(C:w' prog w c r j)(D:Kp c σ B r j)(A:Ext σ r):w' prog w c σ j/\Kp c σ s σ j:=
 ⟨C.less q.parts A,k.trans (D.less A)⟩
theorem dj(j:w' prog w c σ s)(r:Kp c σ A B q)(h:s.heap.get? b=none)(e:A.heap.get? b=some o):q.heap.get? b=some o:=by
 obtain⟨G,C,H,D⟩:=cM j h
 obtain⟨I,e1,E⟩:=r.keep b o (cj D) e
 rw[E C]at e1;exact e1
theorem qV{f:Str×NameKind->Str×NameKind}(j:∀y,(f y).1=y.1)(names:Ks)(y:Str):(names.map f).lookup y=(names.lookup y).map λk=>(f (y,k)).2:=by
 induction names with
 |nil=>rfl
 |cons p r ih=>
  have w:=j p
  rw[TM,show f p=(p.1,(f p).2)from by rw[<-w],show p=(p.1,p.2)from rfl,TJ,TJ]
  by_cases q:y=p.1
  ·rw[<-q,beq_self_eq_true];subst q;rfl
  ·rw[beq_eq_false_iff_ne.mpr q];exact ih
theorem r9(he:D' w c A q d env ks)(names:Ks):(names.map λ(n,k)=>if(k==NameKind.free&&env.scope.kind==.function&&env.kindOf n==some .cell)then(n,NameKind.cell)else(n,k))=Fe ks names:=by
 unfold Fe
 apply TX
 rintro⟨n,k⟩ _
 have j:(env.scope.kind==ScopeKind.function)=true:=by rw[he.kind];rfl
 simp only[j,he.kindOf,Bool.and_true]
theorem cF(names:Ks)(y:Str):(Fe ks names).lookup y=(names.lookup y).map λk=>if(k==.free&&ks.lookup y==some .cell)then .cell else k:=by
 unfold Fe
 rw[qV (λy=>by split<;>rfl)]
 congr 1
 funext k
 dsimp only
 split<;>rfl
theorem dH{names:Ks}(h:names.lookup y=some k):(y,k)∈names:=mem_of_lookup h
structure J6 (ks:Ks) (sc:Scope) (x:Str):Prop where
 kind:sc.kind=.function
 cell:∀y∈sc.names,y.2≠.cell
 loc:∀y∈sc.names,y.2=.local->sc.names.lookup y.1=some .local
 var:sc.names.lookup x=some .local
 free:∀y∈sc.names,y.2=.free->Ja (ks.lookup y.1)=true
theorem dm{x:Str}(h:EL ks sc x=true):J6 ks sc x:=by
 unfold EL at h
 simp only[SF,Ti,decide_eq_true_eq,UB]at h
 obtain⟨⟨⟨⟨q,r⟩,w⟩,A⟩,B⟩:=h
 refine⟨q,r,λy j e=>?_,A,λy j e=>?_⟩
 ·rcases w y j with h|h
  ·exact absurd e h
  ·exact h
 ·rcases B y j with h|h
  ·exact absurd e h
  ·exact h.1
theorem e8(he:D' w c A q d env ks)(h:EL ks sc y=true)(B:∀y a,(y,NameKind.free)∈sc.names->env.cells.lookup y=some a->D.lookup y=some a):D' w c A q d (compEnvC sc D C env) (Fe ks sc.names):=by
 refine⟨r9 he _,(dm h).kind,he.glob,he.blt,he.frame,he.stack,he.calm,he.depth,he.units,λy j=>?_⟩
 rw[cF]at j
 cases r:sc.names.lookup y with
 |none=>rw[r]at j;cases j
 |some k=>
  rw[r]at j
  have E:k=.free:=by
   cases k<;>first|rfl|exact no_ft j|(exact absurd rfl ((dm h).cell _ (dH r)))
  subst E
  obtain⟨a,G⟩:=he.cells y ((dm h).free _ (dH r) rfl)
  exact⟨a,B y a (dH r) G⟩
theorem dQ(h:Em (m.set j (some u)) j=some v):v=u:=by
 unfold Em at h
 by_cases q:j<m.length
 ·rw[Ts q]at h
  simpa using h.symm
 ·rw[Tq (by simp;omega)]at h
  cases h
theorem eb(h:i≠j):Em (m.set j u) i=Em m i:=by
 unfold Em
 rw[Ui (Ne.symm h)]
theorem sK{C:Addr}{x y:Str}(he:D' w c A q d env ks)(H:EL ks sc x=true)(r:∀y a,(y,NameKind.free)∈sc.names->env.cells.lookup y=some a->I.lookup y=some a)(B:sc.names.lookup y=some .free)(b:Bound env y v σ h):Bound (compEnvC sc I C env) y v σ h:=by
 have j:=(dm H).free _ (dH B) rfl
 dsimp only at j
 have D:(compEnvC sc I C env).kindOf y=some (if ks.lookup y==some .cell then .cell else .free):=by
  rw[(e8 he H r).kindOf,cF,B]
  rfl
 cases b with
 |loc E O u Q J M=>rw[he.kindOf]at E;rw[E]at j;cases j
 |cell E a u G J M N=>
  refine .cell ?_ a u (r y a (dH B) G) J M N
  rw[D]
  split
  ·exact .inl rfl
  ·exact .inr rfl
theorem jZ{x:Str}(he:D' w c A q d env ks)(B:EL ks sc x=true)(r:∀y a,(y,NameKind.free)∈sc.names->env.cells.lookup y=some a->I.lookup y=some a)(M:Vr env T m σ h)(N:Ee σ C=false)(J:h.Ns C D)(O:D x=some u):
  Vr (compEnvC sc I C env) (EH T sc j x) (m.set j (some (av u))) σ h:=by
 have E:(compEnvC sc I C env).kindOf x=some .local:=by
  rw[(e8 he B r).kindOf,cF,(dm B).var];rfl
 refine⟨N,⟨D,J⟩,λt ht v G=>?_⟩
 unfold EH at ht
 rcases SH.mp ht with rfl|ht
 ·rw[dQ G]
  exact .loc E D u J O rfl
 ·obtain⟨ht,H⟩:=SO.mp ht
  simp only[SF,decide_eq_true_eq]at H
  rw[eb H.1]at G
  exact sK he B r H.2 (M.var t ht v G)
theorem IA{R:Result->Shared->Prop}(h:EX prog w c d' j r C q):notedBy (model prog w) A B (λe q=>R (.error e) q) C q:=by
 obtain⟨_,_,_,_,h,_⟩:=h;exact h.elim
end
end
theorem BU(h:(ck x).l [] [] []=true):x=.nil:=by
 cases x with
 |nil=>rfl
 |_=>exact no_ft h
set_option tactic.hygienic true in
theorem Cq{cond:X}(hc:ST cond)(IX:GX ((ck cond).l [] [] []) ((ck cond).e L9 T') ifs=true)(he:D' w c A q d Ff L9)(vr:Vr Ff T' m' σ s.heap)(L:w' prog w c σ s)(OD:(ev d q cond d').t m' Q σ)(O2:∀K:Bool->AH->Prop,(ev d q .nil d').t m' K σ->K true σ)(k:∀b Fz Jc,w' prog w c Fz Jc->Kp c σ s Fz Jc->Q b Fz->G b Jc):
  wpAny (model prog w) A (forIn ifs true λc r=>if r=true then do let ok<-isTrue c Ff (eval c Ff);pure (ForInStep.yield ok)else pure (ForInStep.yield r)) G (EX prog w c d' σ s) s:=by
 cases ifs with
 |nil=>
  obtain rfl:=BU IX
  exact Sv (k true σ s L (.refl ..) (O2 Q OD))
 |cons e1 r=>cases r with
  |nil=>
   rw[Vo,if_pos rfl]
   refine So (So (hc.at IX he L (.refl ..) vr L OD λb Fz Jc Lg k₂ O1 h=>Sv ?_))
   exact Sv (k b Fz Jc Lg k₂ h)
  |cons e2 r=>exact no_ft IX
def GZ(P:Addr->Prop)(Z:Heap->Prop):Prop:=∀h h',(∀b o,P b->h.get? b=some o->h'.get? b=some o)->Z h->Z h'
theorem GZ.and{P:Addr->Prop}(x:GZ P Z)(y:GZ P Y):GZ P λh=>Z h/\Y h:=λh h' k z=>⟨x h h' k z.1,y h h' k z.2⟩
theorem dS{P:Addr->Prop}{q:(Str->Option Value)->Prop}(m:P C):GZ P λh=>∃j,h.Ns C j/\q j:=λh h' k z=>(by obtain⟨j,x,y⟩:=z;exact⟨j,df x λo e=>⟨o.slots,k C o m e⟩,y⟩)
theorem io{P:Addr->Prop}(j:P I):GZ P λh=>Ex σ h I a i:=λh h' k x=>x.at λo e=>k I o j e
theorem qD{P:Addr->Prop}(j:P cc):GZ P λh=>h.IsCell cc v:=λh h' k x=>(by obtain⟨o,e,d⟩:=x;exact⟨o,k cc o j e,d⟩)
structure At (prog:Program) (w:World) (c:Cx) (σ:AH) (s:Shared) (Z:Heap->Prop) (s':Shared):Prop where
 live:w' prog w c σ s'
 kp:Kp c σ s σ s'
 x:Z s'.heap
theorem At.to(S:At prog w c σ s Z j)(h:Z j.heap->Y j.heap):At prog w c σ s Y j:=⟨S.live,S.kp,h S.x⟩
theorem At.for{P:Addr->Prop}{B:Addr}(S:At prog w c σ s Z j)(L:w' prog w c σ s)(q:s.heap.get? B=none)(r:GZ P Z)(A:∀b,P b->b≠B)(m:∀b o,b≠B->j.heap.get? b=some o->h'.get? b=some o):At prog w c σ s Z {j with heap:=h',toks:=tk}:=
 have z:=dC (tk:=tk) L q S.live S.kp m
 ⟨z.1,z.2,r _ _ (λb o C e=>m b o (A b C) e) S.x⟩
theorem At.quiet{P:Addr->Prop}(S:At prog w c σ s Z r)(L:w' prog w c σ s)(A:GZ P Z)(B:∀b,P b->s.heap.get? b=none)(C:w' prog w c j m)(q:Kp c σ r j m)(D:Ext σ j):At prog w c σ s Z m:=
 have z:=mi L S.kp C q D
 ⟨z.1,z.2,A _ _ (λb o E e=>dj L q (B b E) e) S.x⟩
structure H6 (s:Shared) (I a D C:Addr):Prop where
 nI:s.heap.get? I=none
 nD:s.heap.get? D=none
 nC:s.heap.get? C=none
 ID:I≠D
 IC:I≠C
 DC:D≠C
 aI:a≠I
def Jt(s:Shared)(D b:Addr):Prop:=s.heap.get? b=none/\b≠D
set_option tactic.hygienic true in
def J7(M:Model)(A:Around)(O3:Expr)(ifs:List Expr)(Ff:Env)(D:Addr)(N:Value->Shared->Prop)(G:Shared->Prop)(s:Shared):Prop:=
 wpAny M A (forIn ifs true λc r=>if r=true then do let ok<-isTrue c Ff (eval c Ff);pure (ForInStep.yield ok)else pure (ForInStep.yield r)) (λok FW=>
  if ok=true then wpAny M A (eval O3 Ff) (λx F'=>wpAny M A (call (.builtin "list.append") [.ref D,x]) (λ_ Ma=>G Ma) N F') N FW else G FW) N s
set_option tactic.hygienic true in
def Mb(R:Result->Shared->Prop)(K:Value->Shared->Prop)(r:Option Value)(s:Shared):Prop:=match r with
 |none=>R (.ok .next) s
 |some v=>K v s
def Gp(M:Model)(A:Around)(code:Code)(R:Result->Shared->Prop)(I:Addr)(IB:Expr)(q:Env)(B:(Value->Shared->Prop)->(Shared->Prop)->Shared->Prop):Prop:=
 let N:=notedBy M A q λe C=>R (.error e) C
 ∀(J:Nat->Shared->Prop) n s,(∀n s,J n s->wpAny M A (pyNext (.ref I)) (Mb R λv r=>wpAny M A (assign IB q v) (λj w=>B N (λC=>∃m,m<n/\J m C) w) N r) N s)->J n s->codeAny M A code R s
set_option tactic.hygienic true in
theorem ui{elt cond:X}{P:Bool}{F:AV}{R:Result->Shared->Prop}{G:Shared->Prop}(O4:SE elt)(NX:ST cond)(he:D' w c A true d Ff L9)(QL:(ck elt).e L9 T' O3=true)(O5:GX ((ck cond).l [] [] []) ((ck cond).e L9 T') ifs=true)(L:w' prog w c σ s)(nD:s.heap.get? D=none)(hX:GZ (Jt s D) Z)(hv:∀s',At prog w c σ s Z s'->Vr Ff T' m' σ s'.heap)(h1:(ev d true cond d').t m' (λb Eb=>b=P/\Ext σ Eb) σ)(h2:P=true->(ev d true elt d').e m' (λy Eb=>y=F/\Ext σ Eb) σ)(S:At prog w c σ s Z s2)(hD:s2.heap.PlainList D vs)(hz:vs.size<=sizeLine)(k:∀s3 OE,At prog w c σ s Z s3->s3.heap.PlainList D OE->OE.toList.map av=vs.toList.map av++(if P then[F]else[])->G s3):
  J7 (model prog w) A O3 ifs Ff D (notedBy (model prog w) A Ff λe s'=>R (.error e) s') G s2:=by
 obtain⟨n,hD⟩:=hD
 refine Sz (Cq (G:=λb FW=>b=P/\At prog w c σ s Z FW/\FW.heap.get? D=some {cls:=.type "list",data:=.seq vs n}) NX O5 he (hv _ S) S.live h1 (λK h=>h)
  λb NY FW Mc J8 hb=>⟨hb.1,S.quiet L hX (λb h=>h.1) Mc J8 hb.2,dj L J8 nD hD⟩) (λok FW h3=>?_) λe' NZ y=>IA y
 obtain⟨rfl,S3,OF⟩:=h3
 cases ok with
 |false=>exact k FW vs S3 ⟨n,OF⟩ (Vp _).symm
 |true=>
  rw[if_pos rfl]
  refine Sz (O4.at (G:=λy F'=>av y=F/\At prog w c σ s Z F'/\F'.heap.get? D=some {cls:=.type "list",data:=.seq vs n}) QL he S3.live (.refl ..) (hv _ S3) S3.live (h2 rfl)
   λy N0 F' Md J9 O6 hb=>⟨hb.1,S3.quiet L hX (λb h=>h.1) Md J9 hb.2,dj L J9 nD OF⟩) (λy F' h4=>?_) λe' NZ y=>IA y
  obtain⟨hy,S4,O7⟩:=h4
  refine wpAny_list_append_plain (hsz:=hz) ⟨n,O7⟩ λh5 O8 O'=>?_
  exact k _ (vs.push y) (S4.for (tk:=F'.toks) L nD hX (λb h=>h.2) λb o hb e=>(O'.2 b hb).trans e) O8 (by rw[UH,SX,List.map_singleton,hy];rfl)
set_option tactic.hygienic true in
theorem mx{code:Code}{B:(Value->Shared->Prop)->(Shared->Prop)->Shared->Prop}{Acc:Nat->Heap->Prop}{Z:Heap->Prop}{Y:Value->Heap->Prop}{R:Result->Shared->Prop}(rule:Gp (model prog w) A code R I IB m B)(hh:A.handled=none)(L:w' prog w c σ s)(O:items σ (.ref a)=some xs)(U:a≠I)(nI:s.heap.get? I=none)(nB:s.heap.get? Bd=none)(aa:I≠Bd)(hX:GZ (·≠I) Z)(hA:∀i,GZ (λb=>b≠I/\b≠Bd) (Acc i))(C:∀v H (Q:Shared->Prop),At prog w c σ s Z H->(∀J tk,Y v J->(∀b o,b≠Bd->H.heap.get? b=some o->J.get? b=some o)->Q {H with heap:=J,toks:=tk})->wpAny (model prog w) A (assign IB m v) (λj=>Q) (notedBy (model prog w) A m λe q=>R (.error e) q) H)(body:∀i v s2 G,xs[i]? =some (av v)->At prog w c σ s (λh=>Ex σ h I a (i+1)/\Y v h) s2->Acc i s2.heap->(∀M,At prog w c σ s (λh=>Ex σ h I a (i+1)/\Z h) M->Acc (i+1) M.heap->G M)->B (notedBy (model prog w) A m λe q=>R (.error e) q) G s2)(h0:At prog w c σ s (λh=>Ex σ h I a 0/\Z h) q)(a0:Acc 0 q.heap)(hR:∀r,At prog w c σ s Z r->Acc xs.length r.heap->R (.ok .next) r):codeAny (model prog w) A code R q:=by
 refine rule (λk q=>∃i,k=xs.length+1-i/\i<=xs.length/\At prog w c σ s (λh=>Ex σ h I a i/\Z h) q/\Acc i q.heap) (xs.length+1) q ?_ ⟨0,rfl,SI _,h0,a0⟩
 rintro k q ⟨i,rfl,hi,S,D⟩
 refine gB hh S.live O S.x.1 U (λv h' tk hv ab E=>?_) (λh' tk af E=>?_)
 ·have ac:i<xs.length:=(Sr.mp hv).1
  have S1:=(S.to And.right).for (tk:=tk) L nI hX (λj h=>h) E
  refine C v _ _ S1 λJ ae hy hs=>body i v _ _ hv ?_ (hA i _ _ (λb o N e=>hs b o N.2 (E b o N.1 e)) D) λM S3 A3=>⟨xs.length+1-(i+1),by omega,i+1,rfl,ac,S3,A3⟩
  have z:=dC (tk:=ae) L nB S1.live S1.kp hs
  exact⟨z.1,z.2,ab.at λo e=>hs I o aa e,hy⟩
 ·obtain rfl:i=xs.length:=by omega
  exact hR _ ((S.to And.right).for (tk:=tk) L nI hX (λj h=>h) E) (hA _ _ _ (λb o N e=>E b o N.1 e) D)
theorem kU{xs:List AV}(h:xs[i]? =some v):((xs.take (i+1)).filter p).map F=((xs.take i).filter p).map F++(if p v then[F v]else[]):=by
 rw[take_succ_filter p xs i v h,SX]
 cases p v<;>rfl
def H7(D:Addr)(ys:List AV)(h:Heap):Prop:=∃vs,h.PlainList D vs/\vs.toList.map av=ys
theorem qw{P:Addr->Prop}(j:P D):GZ P (H7 D ys):=λh h' k z=>(by obtain⟨vs,⟨n,x⟩,y⟩:=z;exact⟨vs,⟨n,k D _ j x⟩,y⟩)
theorem yg{xs pre:List AV}{vs:Array Value}(e:vs.toList.map av=pre++((xs.take i).filter p).map F)(j:i<xs.length)(hz:pre.length+xs.length<=big):vs.size<=sizeLine:=by
 have e1:vs.size=(pre++((xs.take i).filter p).map F).length:=by rw[<-e];simp
 have m:(((xs.take i).filter p).map F).length<=xs.length:=by
  rw[Su]
  exact SJ (TG ..) (by rw[Tf];omega)
 rw[Sw]at e1
 exact cn (by omega)
set_option tactic.hygienic true in
theorem jy{code:Code}{E cond:X}{Z:Heap->Prop}{Y:Value->Heap->Prop}{R:Result->Shared->Prop}{mv:AV->D7}{p:AV->Bool}{F:AV->AV}(rule:Gp (model prog w) A code R I IB m (J7 (model prog w) A ab ac m D))(N:SE E)(H:ST cond)(he:D' w c A true d m O)(ae:(ck E).e O T' ab=true)(af:GX ((ck cond).l [] [] []) ((ck cond).e O T') ac=true)(L:w' prog w c σ s)(ag:items σ (.ref a)=some xs)(r:H6 s I a D Bd)(hz:pre.length+xs.length<=big)(hX:GZ (·≠I) Z)(hY:∀v,GZ (Jt s D) (Y v))(ah:∀v h,Y v h->Z h)(U:∀v s1 (Q:Shared->Prop),At prog w c σ s Z s1->(∀h2 tk,Y v h2->(∀b o,b≠Bd->s1.heap.get? b=some o->h2.get? b=some o)->Q {s1 with heap:=h2,toks:=tk})->wpAny (model prog w) A (assign IB m v) (λj=>Q) (notedBy (model prog w) A m λe B=>R (.error e) B) s1)(hv:∀v B,At prog w c σ s (Y v) B->Vr m T' (mv (av v)) σ B.heap)(h1:∀x∈xs,(ev d true cond d').t (mv x) (λb J=>b=p x/\Ext σ J) σ)(h2:∀x∈xs,p x=true->(ev d true E d').e (mv x) (λy J=>y=F x/\Ext σ J) σ)(h0:At prog w c σ s (λh=>Ex σ h I a 0/\Z h) B)(a0:H7 D pre B.heap)(hR:∀q,At prog w c σ s Z q->H7 D (pre++(xs.filter p).map F) q.heap->R (.ok .next) q):codeAny (model prog w) A code R B:=by
 refine mx (Acc:=λi=>H7 D (pre++((xs.take i).filter p).map F)) rule (he.calm rfl) L ag r.aI r.nI r.nC r.IC hX (λi=>qw ⟨r.ID.symm,r.DC⟩) U (λi v s2 G M S hA k=>?_) h0 (by simpa using a0) λq S hA=>hR q S (by rw[SW]at hA;exact hA)
 obtain⟨vs,hD,aa⟩:=hA
 have C:av v∈xs:=Sp M
 refine ui N H he ae af L r.nD (GZ.and (io ⟨r.nI,r.ID⟩) (hY v)) (λB S=>hv v B (S.to And.right)) (h1 _ C) (h2 _ C) S hD (yg aa (Sr.mp M).1 hz) λs3 ai S3 aj hy=>k s3 (S3.to λz=>⟨z.1,ah v _ z.2⟩) ⟨ai,aj,?_⟩
 rw[hy,aa,kU M,Va]
theorem gA{C:Addr}{q:(Str->Option Value)->Prop}{N:Value->Shared->Prop}(G:(compEnvC sc H C env).kindOf x=some .local)(I:sc.kind=.function)(J:∀m v,q m->q λz=>if z=x then some v else m z)(v:Value)(B:Shared)(Q:Shared->Prop)(S:At prog w c σ s (λh=>∃m,h.Ns C m/\q m) B)(k:∀r tk,(∃m,r.Ns C m/\q m/\m x=some v)->(∀b o,b≠C->B.heap.get? b=some o->r.get? b=some o)->Q {B with heap:=r,toks:=tk}):
  wpAny (model prog w) A (assign (.Name x Y) (compEnvC sc H C env) v) (λj=>Q) N B:=by
 obtain⟨m,M,O⟩:=S.x
 exact wpAny_assign_Name (wpAny_storeName_local G M (λr D E=>k r _ ⟨_,D,J m v O,if_pos rfl⟩ λb o U e=>(E.2 b U).trans e) (by show(sc.kind==.class||(sc.kind==.module&&_))=false;rw[I];rfl))
theorem iu{r:Shared}{D:Addr}{o:AO}(L:w' prog w c σ s)(A:s.heap.get? D=none)(j:w' prog w c σ r)(k:Kp c σ s σ r)(E:OH prog w r.heap D o)(G:o.own=true:=by rfl):
  σ D=none/\w' prog w c (upd σ D o) r/\Kp c σ s (upd σ D o) r:=by
 obtain⟨H,B,I,C⟩:=cM L A
 refine⟨C,⟨j.ok,j.stays,j.frames,j.ns,λa o' e=>?_,j.parts.upd (o:=o) (λq e=>by rw[C]at e;cases e) G,λa m=>?_,λa m=>?_,j.gens,j.os⟩,⟨k.keep,λa m=>?_,r8 A⟩⟩
 ·refine jC e ?_ λq e=>?_
  ·exact E
  ·exact j.own a o' e
 ·by_cases q:a=D
  ·subst q;exact⟨H,B⟩
  ·unfold Ee at m;rw[bP q]at m;exact j.apart a m
 ·by_cases q:a=D
  ·subst q;exact B
  ·rw[bP q]at m;exact j.off a m
 ·by_cases q:a=D
  ·subst q;exact .inr A
  ·unfold Ee at m;rw[bP q]at m;exact .inl m
theorem gW{j:Expr}(h:ES j=true)(v:Value):foldedSetIterable j env v=pure v:=by
 cases j<;>first|rfl|exact Et h rfl
theorem fN{e ie IB:Expr}{al:List Expr}{gs:List Comprehension}{E:Sem Value}{ob:Obj}{Z:Addr->Heap->Prop}{cl':List (Str×Addr)->Addr->List (Str×Addr)}{O:X}{use:Option (Value->Sem Unit)}{Qv:Value->Shared->Prop}{W:List AV->AH->Prop}(hg:clausesOf e=⟨IB,ie,al,0⟩::gs)(am:ob.isFreed=false)(an:∀{O U G R s},codeAny (model prog w) A (.compLoop e 0 O U G) R s->wpAny (model prog w) A (pyIter O) (λaq s'=>codeAny (model prog w) A (.compLoop e 0 aq U G) R s') (notedBy (model prog w) A G λx s'=>R (.error x) s') s->codeAny (model prog w) A (.compStart e 0 O U G) R s)(ae:∀{s Q},Q (.ref s.heap.objs.size) {s with heap:=s.heap.push ob}->wpAny (model prog w) A E Q (EX prog w c Xp σ B) s)(af:∀{cl s Q},(∀h₁,(∀b o,s.heap.get? b=some o->h₁.get? b=some o)->Z s.heap.objs.size h₁->Q (newEnv sc s.heap.objs.size env.globals (cl' cl s.heap.objs.size) env.qual none .none (some env) builtinsNs) {s with heap:=h₁})->wpAny (model prog w) A (newFunctionEnv sc env.globals cl [] env.qual none .none (some env)) Q (EX prog w c Xp σ B) s)(Y:∀y∈sc.names,y.2=.free->Ja (ks.lookup y.1)=true)(aa:sc.kind=.function)(ag:∀y∈sc.names,y.2=.local->sc.names.lookup y.1=some .local)(ar:SE O)(he:D' w c A true d env ks)(as:ES ie=true)(au:(ck O).e ks T ie=true)(vr:Vr env T m σ B.heap)(L:w' prog w c σ B)(aw:(ev d true O Xp).e m (λiv σ=>Ej (items σ iv) λxs=>W xs σ) σ)(ah:∀{cl r j xs I a D C M},(∀y a,(y,NameKind.free)∈sc.names->env.cells.lookup y=some a->cl.lookup y=some a)->w' prog w c r j->Kp c σ B r j->Vr env T m r j.heap->W xs r->items r (.ref a)=some xs->H6 j I a D C->
   (∀b,C<=b->j.heap.get? b=none)->I<C->D<C->At prog w c r j (λh=>Ex r h I a 0/\Z C h) M->M.heap.get? D=some ob->
   codeAny (model prog w) A (.compLoop e 0 (.ref I) (.ref D) (compEnvC sc (cl' cl C) C env)) (compPost (model prog w) A (EX prog w c Xp σ B) use Qv (.ref D) C) M):
  wpAny (model prog w) A (comprehension e sc env az E false (eval ie env) use) Qv (EX prog w c Xp σ B) B:=by
 obtain⟨cl,ab,ax⟩:=sP (env:=env) (sc:=sc) λy hy hf=>he.cells _ (Y y hy hf)
 refine wpAny_comprehension_free hg (λv=>gW as v) ab aa ag (ar.at au he L (.refl ..) vr L aw λv r j H ai aj h=>?_)
 obtain⟨xs,ac,hW⟩:=dk h
 refine iW H ac λa oI ay N=>?_
 subst ay
 refine ae (af λh₁ J hZ=>?_)
 have g1:∀b o,j.heap.get? b=some o->(j.heap.push oI).get? b=some o:=λb o e=>Sq _ e
 have z1:(j.heap.push oI).objs.size=j.heap.objs.size+1:=Uh ..
 generalize j.heap.push oI=H1 at N J hZ g1 z1⊢
 have g2:∀b o,H1.get? b=some o->(H1.push ob).get? b=some o:=λb o e=>Sq _ e
 have z2:(H1.push ob).objs.size=j.heap.objs.size+2:=by rw[Uh,z1]
 have hD:(H1.push ob).get? H1.objs.size=some ob:=SM _ am
 generalize H1.push ob=H2 at J hZ g2 z2 hD⊢
 have fresh:∀b,j.heap.objs.size<=b->j.heap.get? b=none:=λb hb=>Tx hb
 have ap:H6 j j.heap.objs.size a H1.objs.size H2.objs.size:=⟨fresh _ (SR _),fresh _ (by omega),fresh _ (by omega),Tu (by omega),Tu (by omega),Tu (by omega),λq=>iM ac (q▸bV H (bW _))⟩
 have z:=ci (tk:=j.toks) (h':=h₁) H λb o e=>J b o (g2 b o (g1 b o e))
 have lp:=ah ax H ai aj hW ac ap (λb hb=>fresh b (by omega)) (by omega) (by omega) ⟨z.1,z.2,N.at λo e=>J _ o (g2 _ o e),hZ⟩ (J _ _ hD)
 exact an lp (nQ (N.at λo e=>J _ o (g2 _ o e)) lp)
def Me(C:Addr)(h:Heap):Prop:=∃j,h.Ns C j/\True
theorem jG(C0:J6 ks sc x){s:Shared}{Q:Env->Shared->Prop}(k:∀h₁,(∀b o,s.heap.get? b=some o->h₁.get? b=some o)->Me s.heap.objs.size h₁->Q (newEnv sc s.heap.objs.size g r j none .none (some env) builtinsNs) {s with heap:=h₁}):
  wpAny (model prog w) A (newFunctionEnv sc g r [] j none .none (some env)) Q E s:=
 wpAny_newFunctionEnv C0.cell (λy B=>(by cases B)) (λh₁ m q=>k h₁ (λb o e=>q.extBut b o (Tu (TQ e)) (Sq _ e)) ⟨_,m,trivial⟩) C0.kind
set_option tactic.hygienic true in
theorem kQ{j:AH}{m q:Shared}{D C:Addr}{ys:List AV}{Q:EO}(B:Kp c σ s j m)(r:w' prog w c j m)(O:∀z,j z=none->Q (.ref z) (upd j z (.list ys)))(U:m.heap.get? D=none)(Y:m.heap.get? C=none)(H:D≠C)(Z:w' prog w c j q)(k':Kp c j m j q)(hl:H7 D ys q.heap)(hn:Me C q.heap)(E:ys.length<=big):
  compPost (model prog w) A (EX prog w c Xp σ s) none (Ec prog w c σ s Q) (.ref D) C (.ok .next) q:=by
 obtain⟨mc,I,_⟩:=hn
 refine⟨mc,I,λh' G=>?_⟩
 obtain⟨vs,⟨n,J⟩,M⟩:=hl
 obtain⟨L3,k3⟩:=dC (tk:=q.toks) r Y Z k' λb o hb e=>(G.2 b hb).trans e
 obtain⟨N,L4,k4⟩:=iu (o:=.list ys) r U L3 k3 ⟨vs,n,(G.2 D H).trans J,M,E⟩
 exact⟨_,L4,B.trans k4,O D N⟩
theorem qA{xs:List AV}{p:AV->Bool}{F:AV->AV}(hz:xs.length<=big):((xs.filter p).map F).length<=big:=by
 rw[Su];exact SJ (TG ..) hz
def N1(d:Nat)(r cond:X)(m:D7)(j:Nat)(Kf:AH->List AV->Prop)(xs:List AV)(σ:AH):Prop:=
 ∃(p:AV->Bool) (F:AV->AV),(∀x∈xs,(ev d true cond d').t (m.set j (some x)) (λb q=>b=p x/\Ext σ q) σ)/\
  (∀x∈xs,p x=true->(ev d true r d').e (m.set j (some x)) (λy q=>y=F x/\Ext σ q) σ)/\xs.length<=big/\Kf σ ((xs.filter p).map F)
set_option tactic.hygienic true in
theorem nO{N cond it:X}{use:Option (Value->Sem Unit)}{Qv:Value->Shared->Prop}{Kf:AH->List AV->Prop}(ac:SE it)(U:SE N)(O:ST cond)(he:D' w c A true d env ks)(Q:EL ks sc x=true)(ae:ES ie=true)(af:(ck it).e ks T ie=true)(ag:(ck N).e (Fe ks sc.names) (EH T sc j x) ah=true)(ai:GX ((ck cond).l [] [] []) ((ck cond).e (Fe ks sc.names) (EH T sc j x)) aj=true)(vr:Vr env T m σ s.heap)(L:w' prog w c σ s)(al:(ev d true it Xp).e m (λiv σ=>Ej (items σ iv) λxs=>N1 d N cond m j Kf xs σ) σ)(fin:∀r B D C E ys,w' prog w c r B->Kp c σ s r B->Vr env T m r B.heap->Kf r ys->B.heap.get? D=none->B.heap.get? C=none->D≠C->w' prog w c r E->Kp c r B r E->
   H7 D ys E.heap->Me C E.heap->ys.length<=big->compPost (model prog w) A (EX prog w c Xp σ s) use Qv (.ref D) C (.ok .next) E):
  wpAny (model prog w) A (comprehension (.ListComp ah [⟨.Name x px,ie,aj,0⟩] sc pos) sc env an (newList []) false (eval ie env) use) Qv (EX prog w c Xp σ s) s:=by
 have C0:=dm Q
 refine fN (ob:={cls:=.type "list",data:=.seq #[]}) (cl':=λcl q=>cl) rfl rfl codeAny_compStart_list (λh=>wpAny_newObj_type h) (λk=>jG C0 k) C0.free C0.kind C0.loc ac he ae af vr L al
  λ{cl r B xs I a D C aq} Z G aa H hW am M hN hI ar S hD=>?_
 obtain⟨p,F,h1,h2,hz,hK⟩:=hW
 have ab:=e8 (C:=C) he Q Z
 refine jy (pre:=[]) (Y:=λv h=>∃mc,h.Ns C mc/\True/\mc x=some v) (mv:=λy=>m.set j (some y)) (λJ n s t h=>codeAny_compLoop_tests J t n h) U O ab ag ai G am M (by simpa using hz) (dS M.IC.symm) (λv=>dS ⟨M.nC,M.DC.symm⟩) (λv h z=>(by obtain⟨mc,h1,h2,_⟩:=z;exact⟨mc,h1,h2⟩))
  (gA (by rw[ab.kindOf,cF,C0.var];rfl) C0.kind λq q h=>h) (λv s' S=>?_) h1 h2 S ⟨#[],⟨_,hD⟩,rfl⟩ λE S' hl=>fin r B D C E _ G aa H hK M.nD M.nC M.DC S'.live S'.kp hl S'.x (qA hz)
 obtain⟨mc,h1,_,h2⟩:=S.x
 exact jZ he Q Z (H.kept S.kp) (cj (bV G M.nC)) h1 h2
theorem Bn(G:X)(j:Nat)(Y cond:X)(H:SE G)(N:SE Y)(B:ST cond):SE (.comp G j Y cond):=by
 intro ks T e prog w c A q d env m σ s Xp Q r he vr L E
 refine mV r λel gs sc pos r=>?_
 refine cy r λg r=>?_
 refine gg r λx px ie ab r=>?_
 revert r;refine NU λh1 h2 h3 h4 h5=>?_
 obtain⟨rfl,E⟩:=E
 rw[eval_ListComp]
 exact nO (use:=none) (Qv:=Ec prog w c σ s Q) (Kf:=λσ ys=>∀z,σ z=none->Q (.ref z) (upd σ z (.list ys))) N H B he h1 h2 h3 h4 h5 vr L E
  λO Z D C ac ys I J aa hK hD hC U L' k' hl hn M=>kQ J I hK hD hC U L' k' hl hn M
theorem gK{h h':Heap}(x:h.DictOf (PySem.intKind prog w) D j)(k:∀o,h.get? D=some o->h'.get? D=some o):h'.DictOf (PySem.intKind prog w) D j:=by
 obtain⟨o,es,m,q,r⟩:=x;exact⟨o,es,m,k o q,r⟩
theorem uN{h:Heap}{K:Type}[DecidableEq K]{knd:KeyKind prog w K}(e:h.get? D=some {cls:=.type "dict",data:=.dict #[]}):h.DictOf knd D []:=
 ⟨_,#[],0,e,⟨rfl,rfl,rfl⟩,rfl,(λj he=>by simp at he),.nil,T5⟩
theorem xe{xs:List AV}{F:AV->Int}{G:AV->AV}(h:xs[i]? =some v):GS [] ((xs.take (i+1)).map λx=>(F x,G x))=put (GS [] ((xs.take i).map λx=>(F x,G x))) (F v) (G v):=by
 unfold GS
 rw[Ue,h]
 simp[List.foldl_append]
theorem sw(l:List (Int×V)):∀j:List (Int×V),(GS j l).length<=j.length+l.length:=by
 induction l with
 |nil=>intro j;simp[GS]
 |cons p r ih=>
  intro j
  have m:=ih (put j p.1 p.2)
  have q:=tP j p.1 p.2
  simp only[GS,List.foldl_cons,TK]at m⊢
  exact SJ m (SJ (Nat.add_le_add_right q _) (by rw[Nat.add_assoc,Nat.add_comm 1];exact SR _))
theorem rS{xs:List AV}{F:AV->Int}{G:AV->AV}(hz:xs.length<=big):(GS [] (xs.map λx=>(F x,G x))).length<=big:=by
 have h:=sw (xs.map λx=>(F x,G x)) []
 rw[Su,Vm,Vd]at h
 exact SJ h hz
def Mf(prog:Program)(w:World)(D:Addr)(ys:List (Int×AV))(h:Heap):Prop:=∃j,h.DictOf (PySem.intKind prog w) D j/\j.map Gy=ys
theorem xK{P:Addr->Prop}(j:P D):GZ P (Mf prog w D ys):=λh h' k z=>(by obtain⟨m,x,y⟩:=z;exact⟨m,gK x (λo e=>k D o j e),y⟩)
set_option tactic.hygienic true in
def LG(M:Model)(A:Around)(ke ve:Expr)(Ff:Env)(D:Addr)(N:Value->Shared->Prop)(G:Shared->Prop)(s:Shared):Prop:=
 wpAny M A (forIn ([]:List Expr) true λc r=>if r=true then do let ok<-isTrue c Ff (eval c Ff);pure (ForInStep.yield ok)else pure (ForInStep.yield r)) (λok FW=>
  if ok=true then wpAny M A (eval ke Ff) (λkv F'=>wpAny M A (eval ve Ff) (λvv Ma=>wpAny M A (dictSet D kv vv) (λ_ Pa=>G Pa) N Ma) N F') N FW else G FW) N s
set_option tactic.hygienic true in
theorem uC{kx vx:X}{F:Int}{V:AV}{R:Result->Shared->Prop}{G:Shared->Prop}(QM:SE kx)(QN:SE vx)(he:D' w c A true d Ff L9)(IX:(ck kx).e L9 T' ke=true)(QO:(ck vx).e L9 T' ve=true)(L:w' prog w c σ s)(nD:s.heap.get? D=none)(hX:GZ (Jt s D) Z)(hv:∀s',At prog w c σ s Z s'->Vr Ff T' m' σ s'.heap)(h1:(ev d true kx d').e m' (λy Eb=>y=.int F/\Ext σ Eb) σ)(h2:(ev d true vx d').e m' (λy Eb=>y=V/\Ext σ Eb) σ)(S:At prog w c σ s Z s2)(hD:s2.heap.DictOf (PySem.intKind prog w) D kv)(hz:kv.length<=sizeLine)(k:∀s3,At prog w c σ s Z s3->Mf prog w D (put (kv.map Gy) F V) s3.heap->G s3):
  LG (model prog w) A ke ve Ff D (notedBy (model prog w) A Ff λe s'=>R (.error e) s') G s2:=by
 refine Sv ?_
 rw[if_pos rfl]
 refine Sz (QM.at (G:=λy FW=>av y=.int F/\At prog w c σ s Z FW/\FW.heap.DictOf (PySem.intKind prog w) D kv) IX he S.live (.refl ..) (hv _ S) S.live h1
  λy NY FW Mc J8 QP hb=>⟨hb.1,S.quiet L hX (λb h=>h.1) Mc J8 hb.2,gK hD λo=>dj L J8 nD⟩) (λkey FW h3=>?_) λe' NZ y=>IA y
 obtain⟨QQ,S3,OF⟩:=h3
 refine Sz (QN.at (G:=λy F'=>av y=V/\At prog w c σ s Z F'/\F'.heap.DictOf (PySem.intKind prog w) D kv) QO he S3.live (.refl ..) (hv _ S3) S3.live h2
  λy N0 F' Md J9 O6 hb=>⟨hb.1,S3.quiet L hX (λb h=>h.1) Md J9 hb.2,gK OF λo=>dj L J9 nD⟩) (λy F' h4=>?_) λe' NZ y=>IA y
 obtain⟨QR,S4,O7⟩:=h4
 obtain⟨t,rfl⟩:=dh QQ
 exact wpAny_dictSet_pairs (hsz:=hz) (IV F t) O7 λh5 O8 O'=>k _ (S4.for (tk:=F'.toks+1) L nD hX (λb h=>h.2) λb o hb e=>(O'.2 b hb).trans e) ⟨_,O8,by rw[qn,QR]⟩
theorem Am(kx vx:X)(j:Nat)(it:X)(ai:SE kx)(aj:SE vx)(al:SE it):SE (.Gl kx vx j it):=by
 intro ks T e prog w c A q d env m σ s Xp Q E he vr L Z
 refine AU E λke ve gs sc pos E=>?_
 refine cy E λg E=>?_
 refine gg E λx px ie aC E=>?_
 replace E:=D9 E;obtain⟨h0,E⟩:=E
 cases d4 h0
 revert E;refine NU λaa am an aq ar=>?_
 obtain⟨rfl,Z⟩:=Z
 rw[arm_eval_DictComp]
 have C0:=dm aa
 refine fN (use:=none) (Qv:=Ec prog w c σ s Q) (ob:={cls:=.type "dict",data:=.dict #[]}) (cl':=λcl r=>cl) rfl rfl codeAny_compStart_dict (λh=>wpAny_newObj_type h) (λk=>jG C0 k) C0.free C0.kind C0.loc al he am an vr L Z
  λ{cl as aA xs I a D C aB} ac H ae af hW au M hN hI aD S hD=>?_
 obtain⟨F,G,h1,h2,hz,hK⟩:=hW
 have ag:=e8 (C:=C) he aa ac
 refine mx (B:=LG (model prog w) A ke ve (compEnvC sc cl C env) D) (Acc:=λi=>Mf prog w D (GS [] ((xs.take i).map λx=>(F x,G x)))) (Y:=λv h=>∃mc,h.Ns C mc/\True/\mc x=some v) (λJ n s t h=>codeAny_compLoop_testsD J t n h) (he.calm rfl) H au M.aI M.nI M.nC M.IC
  (dS M.IC.symm) (λi=>xK ⟨M.ID.symm,M.DC⟩) (gA (by rw[ag.kindOf,cF,C0.var];rfl) C0.kind λr r h=>h) (λi v s2 K hv S hA k=>?_) S ⟨[],uN hD,rfl⟩ λaw S hA=>?_
 ·obtain⟨kv,ab,N⟩:=hA
  have O:av v∈xs:=Sp hv
  refine uC ai aj ag aq ar H M.nD (GZ.and (io ⟨M.nI,M.ID⟩) (dS ⟨M.nC,M.DC.symm⟩)) (λs' S=>?_) (h1 _ O) (h2 _ O) S ab ?_ λs3 S3 hA=>k s3 (S3.to λz=>⟨z.1,by obtain⟨mc,h1,h2,_⟩:=z.2;exact⟨mc,h1,h2⟩⟩) (by rw[xe hv,<-N];exact hA)
  ·obtain⟨mc,h1,_,h2⟩:=S.x.2
   exact jZ he aa ac (af.kept S.kp) (cj (bV H M.nC)) h1 h2
  ·rw[<-Su (f:=Gy),N]
   exact SJ (rS (SJ (List.length_take_le' ..) hz)) (cn (SR _))
 ·obtain⟨mc,ax,_⟩:=S.x
  refine⟨mc,ax,λh' ah=>?_⟩
  obtain⟨kv,ab,N⟩:=hA
  rw[SW]at N
  obtain⟨L3,k3⟩:=dC (tk:=aw.toks) H M.nC S.live S.kp λb o hb e=>(ah.2 b hb).trans e
  have U:=gK ab λo e=>(ah.2 _ M.DC).trans e
  obtain⟨o',aE,aF,ay,aG⟩:=id U
  obtain⟨az,L4,k4⟩:=iu (o:=.D0 (GS [] (xs.map λx=>(F x,G x))) o') H M.nD L3 k3 ⟨ay,kv,U,N,rS hz⟩
  exact⟨_,L4,ae.trans k4,hK _ _ az⟩
set_option tactic.hygienic true in
theorem y4(h:(intKind prog w).is k v=true):∃t,v=.int k t:=by
 have h':Value.isInt k v=true:=h
 unfold Value.isInt at h'
 split at h'<;>first|(cases h';done)|skip
 rename_i n t
 exact⟨t,by rw[show n=k by simpa using h']⟩
theorem ww(B:s.TypeIs (.ref r) "dict")(h:Q false s):wpAny (model prog w) A (Builtin.List.listLengthHint (.ref r)) Q E s:=by
 unfold Builtin.List.listLengthHint
 refine So (wpAny_specialOf B PySem.F.slot_dict_len.lookup ?_)
 generalize q:("dict.__len__":String)=C
 wp_delta
 rw[show splitId C=some ("dict","__len__")from by subst q;decide+kernel]
 subst q
 refine So (wpAny_isInstance (T:="dict") (b:=true) B (by rw[isSubtype_type];kernel_rfl) ?_)
 refine wpAny_ite_split (λm=>absurd m (by decide)) (λj=>?_)
 refine wpAny_ite_split (λj=>?_) (λm=>absurd (by decide+kernel) m)
 refine So (wpAny_typeOf B ?_)
 exact Sv h
set_option tactic.hygienic true in
theorem pZ(hh:A.handled=none)(G:(a==sysModules)=false)(hm:s.heap.DictAt (intKind prog w) a B Y)(hn:B.length<=sizeLine)(hQ:∀h' tk H,(∀b o',s.heap.get? b=some o'->h'.get? b=some o')->ItemsOf (λi v=>∃k x,B[i]? =some (k,x)/\(intKind prog w).is k v=true) H B.length->Q H.toList {s with heap:=h',toks:=tk}):
  wpAny (model prog w) A (collect (.ref a)) Q E s:=by
 have q:a<s.heap.objs.size:=hm.lt_size
 unfold collect
 refine So (wpAny_runValue (codeAny_builtin F.entry_proto_collect ?_))
 rw[Around.under_plainId F.plain_proto_collect _]
 show wpAny _ A.in1 (newList []>>=λl=>again (.builtin "list.__iadd__" ⟨[l,.ref a],[]⟩)) _ _ s
 refine So (wpAny_newObj_type ?_)
 refine Sv ⟨plainId_quiet F.plain_list_iadd _,codeAny_builtin F.entry_list_iadd ?_⟩
 rw[Around.under_plainId F.plain_list_iadd _]
 show wpAny _ A.in1 (Builtin.List.listExtendWith (.ref s.heap.objs.size) (.ref a) (.ref s.heap.objs.size)) _ _ _
 have hS:(s.heap.push {cls:=.type "list",data:=.seq ([]:List Value).toArray}).get? s.heap.objs.size=some {cls:=.type "list",data:=.seq #[] 0}:=SM _ rfl
 have r:=hm.push {cls:=.type "list",data:=.seq ([]:List Value).toArray}
 unfold Builtin.List.listExtendWith
 refine So (wpAny_typeOf (T:="dict") r.dictOf.typeIs ?_)
 have h1:Builtin.List.listSameRef (.ref s.heap.objs.size) (.ref a)=false:=by simp[Builtin.List.listSameRef,Uk q]
 rw[if_neg (by rw[h1];decide)]
 refine So (wpAny_pyIter_dict G r ?_)
 refine So (SK (ww (r.push _).dictOf.typeIs ?_))
 refine wpAny_ite_split (λj=>?_) (λZ=>absurd (by decide) Z)
 have I:=Sq {cls:=.type "dict_keyiterator",data:=.fields #[.ref a,.int 0 0,.int B.length 0,.int Y 0]} hS
 refine So (wpAny_rule ?_)
 refine So ?_
 show wpAny _ _ (updateSeq s.heap.objs.size (·.push .none)>>=λj=>updateSeq s.heap.objs.size (·.pop)) _ _ _
 refine So (wpAny_updateSeq I rfl ?_)
 have J:=TC (Obj.mapSeq (·.push Value.none)) I rfl
 refine wpAny_updateSeq (hz:=by seq_fits) J rfl ?_
 have aa:=TC (Obj.mapSeq (·.pop)) J rfl
 have hI:(s.heap.push {cls:=.type "list",data:=.seq ([]:List Value).toArray}).objs.size=s.heap.objs.size+1:=Uh ..
 have M:s.heap.objs.size≠(s.heap.push {cls:=.type "list",data:=.seq ([]:List Value).toArray}).objs.size:=by rw[hI];exact Tu (Um _)
 have W:=Walks.dictKeys (prog:=prog) (w:=w) (A:=A.in1) (knd:=intKind prog w) hh (s.heap.push {cls:=.type "list",data:=.seq ([]:List Value).toArray}).objs.size a (by rw[hI];exact Tu (TV q)) B Y
 have ab:s.heap.objs.size∉[(s.heap.push {cls:=.type "list",data:=.seq ([]:List Value).toArray}).objs.size,a]:=by
  simp only[SH,Tw,or_false,not_or];exact⟨M,Uk q⟩
 have m:∀b o,b≠s.heap.objs.size->((s.heap.push {cls:=.type "list",data:=.seq ([]:List Value).toArray}).push {cls:=.type "dict_keyiterator",data:=.fields #[.ref a,.int 0 0,.int B.length 0,.int Y 0]}).get? b=some o->
   ((((s.heap.push {cls:=.type "list",data:=.seq ([]:List Value).toArray}).push {cls:=.type "dict_keyiterator",data:=.fields #[.ref a,.int 0 0,.int B.length 0,.int Y 0]}).update s.heap.objs.size (Obj.mapSeq (·.push Value.none))).update s.heap.objs.size (Obj.mapSeq (·.pop))).get? b=some o:=λb o D e=>
  (Uv _ _ (Ne.symm D)).trans ((Uv _ _ (Ne.symm D)).trans e)
 refine Sv ⟨plainId_quiet F.plain_extend_loop _,?_⟩
 refine codeAny_extend_loopS W.toS hn s.heap.objs.size ab _ B.length 0 _ #[] _ rfl (SI _) ?st aa (ItemsOf.nil _) λs' N c' O ac U=>?fin
 case st=>exact⟨⟨_,m _ _ M.symm (SM _ rfl),rfl,rfl⟩,(r.push _).at' λo e=>m a o (Tu q) e⟩
 case fin=>
  show wpAny _ A (load s.heap.objs.size>>=_) _ _ s'
  refine So (wpAny_load ac ?_)
  rw[Moved.eq_with O]
  refine Sv (hQ s'.heap s'.toks N (λb o e=>?_) U)
  have D:b<s.heap.objs.size:=TQ e
  refine O.heap b o (λC=>?_) (m b o (Tu D) (Sq _ (Sq _ e)))
  simp only[SH,Tw,or_false]at C
  rcases C with rfl|rfl
  ·exact T3 _ D
  ·rw[hI]at D;exact T3 _ (Nat.lt_of_succ_lt D)
theorem oB(M:A.handled=none)(L:w' prog w c σ s)(G:items σ (av v)=some xs)(k:∀vs h' tk,vs.map av=xs->(∀b o,s.heap.get? b=some o->h'.get? b=some o)->Q vs {s with heap:=h',toks:=tk}):wpAny (model prog w) A (collect v) Q E s:=by
 obtain⟨a,N⟩:=jO G
 cases cv N
 revert k
 refine iL G (λxs e=>?_) (λxs e=>?_) (λlo G e=>?_) λkvs o e=>?_
 ·intro k
  obtain⟨vs,n,e1,rfl,hsz⟩:=L.own _ _ e
  exact wpAny_collect_seq a (.inl rfl) e1 rfl rfl (λh' B=>k _ h' s.toks rfl B) (hsz:=by rw[Su,Tz]at hsz;exact cn hsz)
 ·intro k
  obtain⟨vs,n,e1,rfl,hsz⟩:=L.own _ _ e
  exact wpAny_collect_seq a (.inr rfl) e1 rfl rfl (λh' B=>k _ h' s.toks rfl B) (hsz:=by rw[Su,Tz]at hsz;exact cn hsz)
 ·intro k
  obtain⟨t,u,v,O,hs⟩:=L.own _ _ e
  refine i5 M O (gV hs) ?_ λh' tk m B j=>k _ h' tk ?_ B
  ·exact Int.toNat_le.mpr (Int.le_trans (Int.sub_le_sub hs.2.2.2 hs.1) (by decide))
  ·apply UM
   intro i
   by_cases r:i<(G-lo).toNat
   ·rw[pM _ _ _ r,SG]
    have q:m.toList[i]? =m[i]? :=by simp
    obtain⟨u,C⟩:∃u,m[i]? =some u:=⟨m[i]'(by rw[j.1];exact r),T8 _⟩
    obtain⟨t',H⟩:=j.2 _ _ C
    rw[q,C,H]
    simp[av]
   ·rw[Tq (by rw[Su,Tz,j.1];exact T4 r),Tq (by rw[qH];exact T4 r)]
 ·intro k
  obtain⟨I,U,B⟩:=jD (L.own _ _ e)
  have D:I.length<=big:=by
   obtain⟨h0,Y,Z,aa,hsz⟩:=L.own _ _ e
   have:kvs.length=I.length:=by rw[<-B];simp
   omega
  refine pZ M (L.Fm (Ep e)) U (cn D) λh' tk m J j=>k _ h' tk ?_ J
  subst B
  apply UM
  intro i
  simp only[SG]
  by_cases r:i<I.length
  ·have q:m.toList[i]? =m[i]? :=by simp
   obtain⟨u,C⟩:∃u,m[i]? =some u:=⟨m[i]'(by rw[j.1];exact r),T8 _⟩
   obtain⟨k0,x0,h1,h2⟩:=j.2 _ _ C
   rw[q,C,h1]
   obtain⟨t0,rfl⟩:=y4 h2
   rfl
  ·rw[Tq (by simp[j.1];omega),Tq (by omega)]
   rfl
def sortLast(D:Addr)(b:Bool)(q:Nat)(w:Value)(z:SortSt):Sem PySem.Fin:=do
 let r:=(arrOf z).map (·.2)
 Builtin.List.listUpdate w λj=>#[]
 letGo ((arrOf z).map (·.1)).toList (failedOf z).toList
 let m:=(<-seqEpoch D) !=q
 Builtin.List.listUpdate (.ref D) λj=>if b then r.reverse else r
 if let some e:=failedOf z then rule "list.sort.comparison-raised";throw e
 if m then rule "list.sort.modified";raiseError "ValueError" "list modified during sort"
 ret .none
def H8(D:Addr)(b:Bool)(q:Array Value)(j:Nat)(r:Value)(m:Array Value):Sem PySem.Fin:=do
 let pairs:=m.zip q
 if b then rule "list.sort.reverse"
 let kind<-if q.size<2 then pure general' else keyKind' m
 let((),z)<-(if q.size<2 then pure ()else sortRuns').run (SortSt.mk' kind (if b then pairs.reverse else pairs) #[] 7 none)
 sortLast D b j r z
def Hq(D:Addr)(f:Value)(b:Bool)(r:Array Value)(q:Nat)(m:Value):Sem PySem.Fin:=do
 rule "list.sort.key"
 for x in r do
  match<-(call f [x]).attempt with
  | .ok k=>Builtin.List.listUpdate m (·.push k)
  | .error e=>
   rule "list.sort.key-raised"
   let w<-Builtin.List.listItems m
   Builtin.List.listUpdate m λj=>#[]
   letGo w.toList.reverse [e]
   Builtin.List.listUpdate (.ref D) λj=>r;throw e
 let A<-Builtin.List.listItems m
 H8 D b r q m A
def Gq(D:Addr)(f:Value)(b:Bool):Sem PySem.Fin:=do
 let q<-Builtin.List.listItems (.ref D)
 Builtin.List.listUpdate (.ref D) λj=>#[]
 let m<-seqEpoch D
 let r<-newTuple q.toList
 let w<-newList []
 holding [r,w] (Hq D f b q m w)
theorem w8(D:Addr):Builtin.«list.sort» ⟨[.ref D],[(Str.ofString "key",.builtin "abs")]⟩=Gq D (.builtin "abs") false:=rfl
theorem xM(D q:Addr):Builtin.«list.sort» ⟨[.ref D],[(Str.ofString "key",.ref q),(Str.ofString "reverse",.bool true)]⟩=Gq D (.ref q) true:=rfl
theorem qh(a v:Value):argsOk "sorted" ⟨[a],[(Str.ofString "key",v)]⟩:=by unfold argsOk;kernel_rfl
theorem qr(a v u:Value):argsOk "sorted" ⟨[a],[(Str.ofString "key",v),(Str.ofString "reverse",u)]⟩:=by unfold argsOk;kernel_rfl
theorem ub(a v:Value):argsOk "list.sort" ⟨[a],[(Str.ofString "key",v)]⟩:=by unfold argsOk;kernel_rfl
theorem tI(a v u:Value):argsOk "list.sort" ⟨[a],[(Str.ofString "key",v),(Str.ofString "reverse",u)]⟩:=by unfold argsOk;kernel_rfl
theorem uV(h:IntsAre vs ns):IntsAre (vs++[.int n t]) (ns++[n]):=by
 induction h with
 |nil=>exact .cons n t .nil
 |cons j m h ih=>exact .cons j m ih
theorem sx(j:Array Value)(vs:List Value):(j.zip vs.toArray).toList=j.toList.zip vs:=by
 first
  |simp
  |(cases j;simp)
theorem qu(q:IntsAre j.toList r)(m:2<=j.size):keyKind' j=pure oneType':=by
 obtain⟨l⟩:=j
 cases l with
 |nil=>exact absurd m (by decide)
 |cons a l=>
  cases l with
  |nil=>exact absurd m (T3 1)
  |cons b l=>exact keyKind_ints q
def Out(b:Bool)(G:Value->Int)(vs j:List Value):Prop:=j.Perm vs/\j.Pairwise (λx y=>if b then G y<=G x else G x<=G y)
theorem rV:∀{vs:List Value},IntsAre ks (vs.map G)->∀p∈ks.zip vs,numOf p.1=G p.2:=by
 induction ks with
 |nil=>exact λj p m=>(by cases m)
 |cons k ks ih=>
  intro vs h p m
  cases vs with
  |nil=>cases m
  |cons v vs=>
   generalize e:(v::vs).map G=ns at h
   cases h with
   |cons _ t h'=>
    obtain⟨e1,r⟩:=List.cons.inj e
    refine(SH.mp m).elim (λq=>?_) λm=>ih (r▸h') p m
    subst q
    exact e1.symm
theorem BQ{m:Array Value}(r:IntsAre m.toList (vs.map G))(J:xs.Perm (m.zip vs.toArray))(hs:SortedTo xs xs.size):
  Out b G vs (if b then(xs.map (·.2)).reverse else xs.map (·.2)).toList:=by
 have w:xs.toList.Perm (m.toList.zip vs):=by rw[<-sx];exact Vq.mp J
 have C:m.toList.length=vs.length:=by have:=r.length;simpa using this
 have D:(xs.map (·.2)).toList.Perm vs:=by
  rw[Array.toList_map]
  have:=w.map Prod.snd
  rwa [List.map_snd_zip (by omega)]at this
 have E:(xs.map (·.2)).toList.Pairwise (λx y=>G x<=G y):=by
  rw[Array.toList_map,TB,Tr]
  intro i j H I A
  have B:i<xs.size:=by simpa using H
  have q:j<xs.size:=by simpa using I
  have z:=hs i j (TH A) q
  rw[K_eq B,K_eq q]at z
  have e1:=rV r _ (w.mem_iff.mp (Vg H))
  have M:=rV r _ (w.mem_iff.mp (Vg I))
  rw[<-e1,<-M]
  simpa using z
 cases b with
 |false=>exact⟨D,E⟩
 |true=>
  refine⟨?_,?_⟩
  ·show((xs.map (·.2)).reverse).toList.Perm _
   rw[UY];exact(List.reverse_perm _).trans D
  ·show List.Pairwise (λx y=>G y<=G x) ((xs.map (·.2)).reverse).toList
   rw[UY,List.pairwise_reverse];exact E
structure Ju (prog:Program) (w:World) (c:Cx) (σ:AH) (s:Shared) (K D:Addr) (ka:Array Value) (e1:Nat) (s':Shared):Prop where
 live:w' prog w c σ s'
 kp:Kp c σ s σ s'
 k:∃e,s'.heap.get? K=some (seqObj "list" ka e)
 l:s'.heap.get? D=some (seqObj "list" #[] e1)
def Done(prog:Program)(w:World)(c:Cx)(σ:AH)(s:Shared)(D:Addr)(b:Bool)(G:Value->Int)(vs:List Value)(m:Shared):Prop:=
 w' prog w c σ m/\Kp c σ s σ m/\∃j n,m.heap.get? D=some (seqObj "list" j n)/\Out b G vs j.toList
theorem nZ{K D:Addr}(L:w' prog w c σ s)(Y:s.heap.get? K=none)(Z:s.heap.get? D=none)(H:K≠D)(S:Ju prog w c σ s K D C e1 q)(Q:IntsAre C.toList (vs.map G))(aa:vs.length<64)(U:(arrOf z).Perm (C.zip vs.toArray))(hs:SortedTo (arrOf z) (arrOf z).size)(I:failedOf z=none)(h:∀r,Done prog w c σ s D b G vs r->P (.done (.ret .none)) r):wpAny (model prog w) A (sortLast D b e1 (.ref K) z) P E q:=by
 obtain⟨e,J⟩:=S.k
 have M:C.toList.length=vs.length:=by have:=Q.length;simpa using this
 have hsz:C.size=vs.length:=by simpa using M
 have m:(arrOf z).size=vs.length:=by rw[U.size_eq,Array.size_zip,hsz,Ut,Nat.min_self]
 have B:(if b then((arrOf z).map (·.2)).reverse else(arrOf z).map (·.2)).size=vs.length:=by
  cases b with
  |false=>simp only[Up,if_false,Array.size_map];exact m
  |true=>simp only[if_true,Array.size_reverse,Array.size_map];exact m
 have u1:=Heap.SameBut.update q.heap K (Obj.mapSeq λj=>(#[]:Array Value))
 have N:(q.heap.update K (Obj.mapSeq λj=>(#[]:Array Value))).get? D=some (seqObj "list" #[] e1):=(u1.2 D H.symm).trans S.l
 have u2:=Heap.SameBut.update (q.heap.update K (Obj.mapSeq λj=>(#[]:Array Value))) D (Obj.mapSeq λj=>if b then((arrOf z).map (·.2)).reverse else(arrOf z).map (·.2))
 unfold sortLast
 try dsimp only
 refine So (listUpdate_at J rfl ?_ (by rw[hsz,sizeLine_eq];omega) (SI _))
 refine So (wpAny_letGo ?_)
 refine So (seqEpoch_at N rfl ?_)
 refine So (listUpdate_at N rfl ?_ (SI _) (SJ (Nat.le_of_eq B) (by rw[sizeLine_eq];omega)))
 rw[I]
 simp only[bne_self_eq_false,Up,if_false]
 obtain⟨L1,k1⟩:=dC (tk:=q.toks) L Y S.live S.kp λb o O e=>(u1.2 b O).trans e
 obtain⟨L2,k2⟩:=dC (tk:=q.toks) L Z L1 k1 λb o O e=>(u2.2 b O).trans e
 exact Sv (h _ ⟨L2,k2,_,_,get?_update_seq N _,BQ Q U hs⟩)
theorem xS{K D:Addr}(L:w' prog w c σ s)(hK:s.heap.get? K=none)(hD:s.heap.get? D=none)(M:K≠D)(S:Ju prog w c σ s K D r e1 Y)(N:IntsAre r.toList (vs.map G))(C:vs.length<64)(h:∀H,Done prog w c σ s D b G vs H->P (.done (.ret .none)) H):wpAny (model prog w) A (H8 D b vs.toArray e1 (.ref K) r) P E Y:=by
 have Z:r.toList.length=vs.length:=by have:=N.length;simpa using this
 have hsz:r.size=vs.length:=by simpa using Z
 have I:(r.zip vs.toArray).size=vs.length:=by rw[Array.size_zip,hsz,Ut,Nat.min_self]
 have step:∀t:Sem PySem.Fin,wpAny (model prog w) A t P E Y->wpAny (model prog w) A (if b=true then(do let _<-rule "list.sort.reverse";t)else t) P E Y:=by
  intro t ht
  split
  ·exact So (wpAny_rule ht)
  ·exact ht
 have q:(if b=true then(r.zip vs.toArray).reverse else r.zip vs.toArray).Perm (r.zip vs.toArray):=by
  cases b with
  |false=>exact Array.Perm.refl _
  |true=>exact Vq.mpr (by rw[if_pos rfl,UY];exact List.reverse_perm _)
 have O:IntKeys (r.zip vs.toArray):=λp U=>by
  rw[sx]at U
  obtain⟨x,y⟩:=p
  exact N.all _ (List.of_mem_zip U).1
 unfold H8
 try dsimp only
 refine step _ ?_
 by_cases J:vs.toArray.size<2
 ·rw[if_pos J,if_pos J]
  refine So (Sv ?_)
  rw[StateT.run_pure]
  refine So (Sv ?_)
  try dsimp only
  refine nZ (z:=SortSt.mk' general' (if b=true then(r.zip vs.toArray).reverse else r.zip vs.toArray) #[] 7 none) L hK hD M S N C q ?_ rfl h
  intro i j ab hj
  have aa:j<(if b=true then(r.zip vs.toArray).reverse else r.zip vs.toArray).size:=hj
  rw[q.size_eq,I]at aa
  rw[Ut]at J
  have:i=j:=by omega
  subst this
  exact Int.le_refl _
 ·rw[if_neg J,if_neg J]
  rw[Ut]at J
  rw[qu N (by rw[hsz];omega)]
  refine So (Sv ?_)
  refine So (Sz (wpS_sortRuns (a₀:=r.zip vs.toArray) (st:=SortSt.mk' oneType' (if b=true then(r.zip vs.toArray).reverse else r.zip vs.toArray) #[] 7 none)
   (Q:=λm B=>(arrOf B).Perm (r.zip vs.toArray)/\failedOf B=none/\SortedTo (arrOf B) (r.zip vs.toArray).size)
   O ⟨q,rfl,rfl,rfl⟩ (by rw[I];omega) (by rw[I];exact C) λB a1 a2 a3=>⟨a1,a2,a3⟩) ?_ λm m e=>e)
  rintro⟨⟨⟩,B⟩ H ⟨rfl,hp,hf,hs⟩
  try dsimp only
  exact nZ L hK hD M S N C hp (by rw[hp.size_eq];exact hs) hf h
set_option tactic.hygienic true in
theorem t7(I:Nat->Shared->Prop)(all vs:List Value):∀(i:Nat) (s:Shared),i<=all.length->all.drop i=vs->I i s->
  (∀j x s',all[j]? =some x->I j s'->wpAny (model prog w) A (body x ⟨⟩) (λr NZ=>r=.yield ⟨⟩/\I (j+1) NZ) E s')->
  (∀s',I all.length s'->Q ⟨⟩ s')->wpAny (model prog w) A (forIn vs PUnit.unit body) Q E s:=by
 induction vs with
 |nil=>
  intro i s hi hd hI _ done
  exact Sv (done s (UX hi (List.drop_eq_nil_iff.mp hd)▸hI))
 |cons x vs ih=>
  intro i s hi hd hI step done
  rw[Vo]
  have hx:all[i]? =some x:=by rw[<-List.head?_drop,hd];rfl
  refine So (Sz (step i x s hx hI) (λr s' h'=>?_) λ_ _ e=>e)
  obtain⟨rfl,QS⟩:=h'
  refine ih (i+1) s' (Sr.mp hx).1 ?_ QS step done
  rw[<-List.drop_drop,hd];rfl
def Hf(prog:Program)(w:World)(c:Cx)(σ:AH)(s:Shared)(A:Around)(f:Value)(G:Value->Int)(v:Value):Prop:=
 ∀r,w' prog w c σ r->Kp c σ s σ r->wpAny (model prog w) A (call f [v]) (λy q=>∃t m,y=.int (G v) t/\w' prog w c m q/\Kp c σ r m q/\Ext σ m) (λj j=>False) r
set_option tactic.hygienic true in
theorem vz{K D:Addr}(L:w' prog w c σ s)(N:s.heap.get? K=none)(Y:s.heap.get? D=none)(H:K≠D)(S:Ju prog w c σ s K D #[] e1 M)(O:vs.length<64)(turn:∀v∈vs,Hf prog w c σ s A f G v)(h:∀I,Done prog w c σ s D b G vs I->P (.done (.ret .none)) I):wpAny (model prog w) A (Hq D f b vs.toArray e1 (.ref K)) P E M:=by
 unfold Hq
 refine So (wpAny_rule ?_)
 first
  |rw[List.forIn_toArray]
  |(rw[<-Array.forIn_toList];simp only[List.toList_toArray])
  |rw[<-Array.forIn_toList]
 refine So (t7 (λi M=>∃q,Ju prog w c σ s K D q e1 M/\IntsAre q.toList ((vs.take i).map G)) vs vs 0 M (SI _) rfl ⟨#[],S,by simpa using IntsAre.nil⟩ ?step ?done)
 case step=>
  rintro j x r Q ⟨q,S,J⟩
  have hj:j<vs.length:=(Sr.mp Q).1
  have hz:q.size<=vs.length:=by
   have h1:=J.length
   rw[Tz,Su,Tf]at h1
   omega
  refine So (wpAny_attempt (Sz (turn x (Sp Q) r S.live S.kp) (λv B he=>?_) λm m hF=>hF.elim))
  obtain⟨t,aa,rfl,L',U,hE⟩:=he
  try dsimp only
  obtain⟨L2,k2⟩:=mi L S.kp L' U hE
  obtain⟨e,C⟩:=S.k
  have Z:=dj L U N C
  have nl:=dj L U Y S.l
  have u1:=Heap.SameBut.update B.heap K (Obj.mapSeq (·.push (.int (G x) t)))
  have ek:(vs.take (j+1)).map G=(vs.take j).map G++[G x]:=by rw[Ue,Q];simp
  have ea:(q.push (Value.int (G x) t)).toList=q.toList++[Value.int (G x) t]:=by simp
  obtain⟨L3,k3⟩:=dC (tk:=B.toks) L N L2 k2 λb o hb e=>(u1.2 b hb).trans e
  refine So (listUpdate_at Z rfl ?_ (by rw[sizeLine_eq];omega) (SJ (Nat.le_of_eq (UA ..)) (by rw[sizeLine_eq];omega)))
  exact Sv ⟨rfl,q.push (.int (G x) t),⟨L3,k3,⟨_,get?_update_seq Z _⟩,(u1.2 D H.symm).trans nl⟩,by rw[ea,ek];exact uV J⟩
 case done=>
  rintro r ⟨q,S,J⟩
  rw[SW]at J
  obtain⟨e,C⟩:=S.k
  try dsimp only
  refine So (listItems_at C rfl ?_)
  exact xS L N Y H S J O h
theorem xH{D:Addr}(L:w' prog w c σ s)(O:s.heap.get? D=none)(Q:w' prog w c σ m)(U:Kp c σ s σ m)(B:∀b o,s.heap.get? b=some o->∃o',m.heap.get? b=some o')(J:m.heap.get? D=some (seqObj "list" vs.toArray n))(M:vs.length<64)(turn:∀v∈vs,Hf prog w c σ s A f G v)(h:∀C,Done prog w c σ s D b G vs C->P (.done (.ret .none)) C):wpAny (model prog w) A (Gq D f b) P E m:=by
 have Y:D<m.heap.objs.size:=TQ J
 have Z:=Heap.SameBut.update m.heap D (Obj.mapSeq λj=>(#[]:Array Value))
 obtain⟨e1,H⟩:∃e1,(m.heap.update D (Obj.mapSeq λj=>(#[]:Array Value))).get? D=some (seqObj "list" #[] e1):=⟨_,get?_update_seq J λj=>#[]⟩
 have I:((m.heap.update D (Obj.mapSeq λj=>(#[]:Array Value))).push (seqObj "tuple" vs.toArray 0)).objs.size=m.heap.objs.size+1:=by rw[Uh,Heap.size_update]
 unfold Gq
 refine So (listItems_at J rfl ?_)
 refine So (listUpdate_at J rfl ?_ (by rw[Ut,sizeLine_eq];omega) (SI _))
 refine So (seqEpoch_at H rfl ?_)
 refine So (wpAny_newTuple ?_ (by show vs.length<=_;rw[sizeLine_eq];omega))
 refine So (wpAny_newList ?_ (SI _))
 refine SK ?_
 have N:s.heap.get? ((m.heap.update D (Obj.mapSeq λj=>(#[]:Array Value))).push (seqObj "tuple" vs.toArray 0)).objs.size=none:=by
  cases q:s.heap.get? ((m.heap.update D (Obj.mapSeq λj=>(#[]:Array Value))).push (seqObj "tuple" vs.toArray 0)).objs.size with
  |none=>rfl
  |some o=>
   obtain⟨o',e'⟩:=B _ o q
   have:=TQ e'
   rw[I]at this
   exact absurd this (Nat.not_lt.mpr (Us _))
 obtain⟨L1,k1⟩:=dC (tk:=m.toks) L O Q U λb o hb e=>(Z.2 b hb).trans e
 have r:∀b o,(m.heap.update D (Obj.mapSeq λj=>(#[]:Array Value))).get? b=some o->(((m.heap.update D (Obj.mapSeq λj=>(#[]:Array Value))).push (seqObj "tuple" vs.toArray 0)).push (seqObj "list" #[] 0)).get? b=some o:=λb o e=>
  Sq _ (Sq _ e)
 obtain⟨L2,k2⟩:=ci (tk:=m.toks) L1 r
 refine vz (K:=((m.heap.update D (Obj.mapSeq λj=>(#[]:Array Value))).push (seqObj "tuple" vs.toArray 0)).objs.size) L N O ?_ ⟨L2,k1.trans k2,⟨_,SM _ rfl⟩,r _ _ H⟩ M turn h
 rw[I];exact Uk (TV Y)
theorem kE(hh:A.handled=none)(L:w' prog w c σ s)(hi:items σ (av v)=some xs)(H:xs.length<64)(M:argsOk "sorted" ⟨[v],kw⟩)(N:∀x,argsOk "list.sort" ⟨[x],kw⟩)(ht:∀x,Builtin.«list.sort» ⟨[.ref x],kw⟩=Gq x f b)(turn:∀r,w' prog w c σ r->Kp c σ s σ r->∀v:Value,av v∈xs->Hf prog w c σ r A.in1.in1 f G v)(h:∀D j vs B n,σ D=none->vs.map av=xs->w' prog w c σ j->Kp c σ s σ j->s.heap.get? D=none->j.heap.get? D=some (seqObj "list" B n)->Out b G vs B.toList->Q (.ref D) j):
  wpAny (model prog w) A (call (.builtin "sorted") [v] kw) Q E s:=by
 refine call_function_entry_kw kind_sorted plain_sorted entry_sorted M ?_
 unfold Builtin.«sorted»
 refine So (m:=checkCount "sorted" 1 1 _) (Sv ?_)
 refine So (oB hh L hi λvs h' tk O U=>?_)
 subst O
 rw[Su]at H
 obtain⟨L1,Y⟩:=ci (tk:=tk) L U
 refine So (wpAny_newList ?_ (by rw[sizeLine_eq];omega))
 have I:∀b o,h'.get? b=some o->(h'.push (seqObj "list" vs.toArray 0)).get? b=some o:=λb o e=>Sq _ e
 obtain⟨L2,k2⟩:=ci (tk:=tk) L1 I
 have Z:h'.get? h'.objs.size=none:=bW _
 have J:s.heap.get? h'.objs.size=none:=by
  cases q:s.heap.get? h'.objs.size with
  |none=>rfl
  |some o=>have:=U _ _ q;rw[Z]at this;cases this
 refine So (SK (wpAny_call_entry_kw slot_list_sort ⟨_,SM _ rfl,rfl⟩ entry_list_sort ?_ (N _)))
 show wpAny (model prog w) A.in1.in1 (Builtin.«list.sort» ⟨[.ref h'.objs.size],kw⟩) _ _ _
 rw[ht]
 refine xH (s:={s with heap:=h',toks:=tk}) L1 Z L2 k2 (λb o e=>⟨o,I b o e⟩) (SM _ rfl) H (λv hv=>turn _ L1 Y v (SY hv)) λj C=>⟨_,rfl,?_⟩
 obtain⟨L3,k3,B,n,ho,hO⟩:=C
 exact Sv ⟨_,rfl,h _ j vs B n (bV L J) rfl L3 (Y.trans k3) J ho hO⟩
def Mg:Value->Int| .int i _=>i.natAbs|_=>0
theorem qB(v:Value):Mg v=Hn (av v):=by cases v<;>rfl
theorem kA{vs j:List Value}(m:vs.map av=xs)(q:j.Perm vs):(j.map av).Perm xs:=m▸q.map av
theorem xy(q:A.handled=none)(r:isInt (av v))(L:w' prog w c σ s):Hf prog w c σ s A (.builtin "abs") Mg v:=by
 intro M B N
 obtain⟨i,t,rfl⟩:∃i t,v=.int i t:=by
  cases v<;>first|exact⟨_,_,rfl⟩|exact False.elim r
 refine Sz (yP (b:=.abs) (args:=[.int i]) (E:=λj j=>False) (Q:=λy m=>y=.int i.natAbs/\Ext σ m) q B rfl (pD ⟨rfl,λj j e=>e⟩)) (λy C h=>?_) λj j z=>z
 obtain⟨m,D,G,H,I⟩:=h
 obtain⟨J,rfl⟩:=dh H
 exact⟨J,m,rfl,D,G,I⟩
theorem zP(a:X)(ha:SE a):SE (.GU a):=by
 intro ks T e prog w c A q d env m σ s Xp Q r he vr L C
 refine jY r λx p1 args kw pos r=>?_
 revert r;refine NT λO h1 E r=>?_
 obtain rfl:=of_decide_eq_true O
 refine cy E λe1 E=>?_
 refine cy r λk r=>?_
 refine ng r λv p3 r=>?_
 refine gI r λy p2 r=>?_
 replace r:=D9 r;obtain⟨O,h2⟩:=r
 obtain rfl:=of_decide_eq_true O
 obtain⟨rfl,C⟩:=C
 have hh:=he.calm rfl
 refine wpAny_Call_Name_kw (f9 he L h1 (u:=.builtin "sorted") rfl Boot.«sorted» (by decide+kernel) ?_)
 refine callWith_of (P:=Kept prog w (.builtin "sorted")) ?_ (λh x=>x) ?_
 ·rw[notStar (env:=env) E];rfl
 refine evalArgs_kw2 (by rfl) ?_ (by rw[notStar (env:=env) E];rfl)
 have hL:SL (.cons a .nil):=qz a .nil ha sY
 have r:(ck (.cons a .nil)).l ks T [e1]=true:=SU.mpr ⟨E,rfl⟩
 refine hL.at (Q:=NV λv σ=>Ej (items σ v) λxs=>((∀x∈xs,isInt x)/\xs.length<64)/\∀ys:List AV,ys.Perm xs->ys.Pairwise (λx y=>Hn x<=Hn y)->∀z,σ z=none->Q (.ref z) (upd σ z (.list ys)))
  r he L (.refl ..) vr L C λvs U ab B H ac h=>?_
 obtain⟨u,rfl,h⟩:=lP h
 obtain⟨xs,Y,⟨I,J⟩,hK⟩:=dk h
 refine kwAll_cons (f9 he B h2 (u:=.builtin "abs") rfl Boot.«abs» (by decide+kernel) (kwAll_nil ⟨iP _ _,?_⟩))
 show wpAny (model prog w) A (call (.builtin "sorted") [u] [(Str.ofString "key",.builtin "abs")]) _ _ _
 refine kE (b:=false) (G:=Mg) hh B Y J (qh _ _) (λj=>ub _ _) (λx=>w8 x) (λae M af v hv=>xy (by exact hh) (I _ hv) M) ?_
 intro D ag ws N n hn Z L' k' hD ho hO
 have hp:=kA Z hO.1
 obtain⟨aa,L4,k4⟩:=iu (o:=.list (N.toList.map av)) B hD L' k' ⟨N,n,ho,rfl,by rw[hp.length_eq];exact SJ (TH J) (by decide)⟩
 refine⟨_,L4,H.trans k4,hK _ hp ?_ D aa⟩
 rw[TB]
 exact hO.2.imp λ{x y} h=>by rw[<-qB,<-qB];exact h
theorem qJ(L:w' prog w c σ s)(e:σ a=some (.inst 272 G fl))(h:Q (.ref s.heap.objs.size) {s with heap:=s.heap.push (methodObj (.ref 222) (.ref a)),toks:=s.toks+1}):wpAny (model prog w) A (getAttr (.ref a) (Str.ofString "height_of") D) Q E s:=by
 obtain⟨H,J⟩:=L.own _ _ e
 have M:(methTab 272)[10]? =some (Str.ofString "height_of",222):=rfl
 obtain⟨N,O,ht,q,_⟩:=lA w.params M
 obtain⟨U,Y,f3,f4,cd,Z,f6⟩:=ez w.params 272 N
 obtain⟨kv,hd,hv⟩:=lL J q
 obtain⟨m,r,hl⟩:=er hd (Str.ofString "height_of")
 have I:InstAt s.heap a ⟨.ref 272,some G,.plain,#[]⟩ 272 (some m):=⟨H,rfl,rfl,r⟩
 have B:findObj (K w.params) 272 (some m) (Str.ofString "height_of")=some (.bind (.builtin "function.__get__") (.ref 222)):=by
  have j:specialIn (K w.params) (.ref 222) "__get__"=some (some (.builtin "function.__get__")):=rfl
  have C:takesIn (K w.params) (.ref 222)=some false:=rfl
  unfold findObj
  rw[Z,O]
  dsimp only[U9]
  rw[j]
  dsimp only[U9]
  rw[C]
  show(W.ownOf cd (some m) (Str.ofString "height_of")).bind _=_
  unfold W.ownOf
  rw[if_pos f6]
  show(lookIn (Str.ofString "height_of") m).bind _=_
  rw[hl,hv]
  rfl
 refine get_bind L.says.1 I U B Y (wpAny_call (fn_get (s:={s with toks:=s.toks+1}) L.says.1 ht ?_))
 show wpAny _ _ (handedOut (.ref s.heap.objs.size)) _ _ _
 exact Sv h
theorem sJ{c:Const}(h:Iw (.bool i) c=true):c=.bool i:=by
 cases c with
 |bool j=>cases of_decide_eq_true h;rfl
 |none=>exact nomatch of_decide_eq_true (show decide (AV.bool i=.none)=true from h)
 |int b=>exact nomatch of_decide_eq_true (show decide (AV.bool i=.int b)=true from h)
 |str b=>exact nomatch of_decide_eq_true (show decide (AV.bool i=.str b)=true from h)
 |_=>exact Et h rfl
theorem AK(a o:X)(ha:SE a)(ho:SE o):SE (.Iv a o):=by
 intro ks T e prog w c A q d env m σ s Xp Q B he vr L I
 refine jY B λx p1 args kw pos B=>?_
 revert B;refine NT λJ h1 O B=>?_
 refine wl ?_
 intro W4 Q4 E4
 obtain rfl:=of_decide_eq_true J
 refine cy O λe1 O=>?_
 refine gi B λk1 k2 B=>?_
 replace B:=D9 B;obtain⟨U,J⟩:=B
 refine ng U λv p3 U=>?_
 refine gx U λvE n p2 U=>?_
 revert U;refine KW λh5 h2 h4=>?_
 obtain rfl:=of_decide_eq_true h5
 refine ng J λv2 p4 J=>?_
 refine iG J λc2 kx p5 J=>?_
 obtain rfl:=sJ J
 obtain⟨rfl,I⟩:=I
 refine(?_:_->_) (he.calm rfl)
 intro hh
 refine wpAny_Call_Name_kw (f9 he L h1 (u:=.builtin "sorted") rfl Boot.«sorted» (by decide+kernel) ?_)
 refine callWith_of (P:=Kept prog w (.builtin "sorted")) ?_ (λh x=>x) ?_
 ·rw[notStar (env:=env) O];rfl
 refine evalArgs_kw2 (by rfl) ?_ (by rw[notStar (env:=env) O];rfl)
 refine(?_:SL (.cons a .nil)->_) (qz a .nil ha sY)
 intro hL
 refine(?_:(ck (.cons a .nil)).l ks T [e1]=true->_) (SU.mpr ⟨O,rfl⟩)
 intro B
 refine hL.at (Q:=NV λv σ=>((ev d true o Xp).e m (λov σ=>GD ov 272 σ/\Ej (items σ v) λxs=>
   ∃H:AV->Int,(xs.length<64/\0<d/\∀x∈xs,D5 (d-1) (.ref 222) [ov,x] (λy M=>y=.int (H x)/\Ext σ M) d' σ)/\
     ∀ys:List AV,ys.Perm xs->ys.Pairwise (λx y=>H y<=H x)->∀z,σ z=none->Q (.ref z) (upd σ z (.list ys))) σ))
  B he L (.refl ..) vr L I λvs ah aw Y Z aa h=>?_
 refine wl ?_
 intro aC aD aE
 obtain⟨u,rfl,h⟩:=lP h
 refine kwAll_cons ?_
 refine So (iK h2 (ho.at h4 he L Z aa Y h λov ai C E ab ax h=>?_))
 refine gl ?_
 intro ay
 obtain⟨⟨a,dx,fl,ac,e⟩,h⟩:=h
 obtain⟨xs,aj,H,⟨ae,hd,hC⟩,hK⟩:=dk h
 refine(?_:_->_) (cv ac)
 intro al
 clear ac
 subst al
 refine So (wpAny_standAt (So (SK ?_)))
 refine qJ E e (So (wpAny_letTemporaryGo (Sv ?_)))
 obtain⟨L3,k3⟩:=ci (tk:=C.toks+1) (h':=C.heap.push (methodObj (.ref 222) (.ref a))) E λb o e=>Sq _ e
 refine kwAll_cons ?_
 refine wpAny_Constant_bool (kwAll_nil ⟨iP _ _,?_⟩)
 show wpAny (model prog w) A (call (.builtin "sorted") [u] [(Str.ofString "key",.ref C.heap.objs.size),(Str.ofString "reverse",.bool true)]) _ _ _
 have hR:=he.room
 have N:J2 c A.in1.in1 (d-1):=⟨hR.stack,hR.calm,by have:=hR.depth;show A.depth+(d-1)<_;omega,Qq hd hR.units⟩
 refine kE (b:=true) (G:=λv=>H (av v)) hh L3 aj ae (qr _ _ _) (λj=>tI _ _ _) (λx=>xM x _) (λaz aA af v hv s' L' k'=>?_) ?_
 ·refine wl ?_
  intro aF aG aH
  refine(?_:_->_) (dj E (af.trans k') (bW _) (SM (o:=methodObj (.ref 222) (.ref a)) _ rfl))
  intro am
  refine wpAny_call (method_call am (codeAny_mono ((hC _ hv).2 prog w c _ s' (.ref 222) [.ref a,v] N L' rfl rfl) λr an hr=>?_))
  refine gl ?_
  intro aB
  cases r with
  |error e=>
   refine gl ?_
   intro aJ
   obtain⟨_,_,_,_,hF,_⟩:=hr
   exact hF.elim
  |ok f=>
   cases f with
   |ret y=>
    obtain⟨M,aq,ar,hy,hE⟩:=hr
    obtain⟨t,rfl⟩:=dh hy
    exact⟨t,M,rfl,aq,ar,hE⟩
   |_=>exact hr.elim
 ·intro D an ws ag n hn as L' k' hD ho hO
  have hp:=kA as hO.1
  obtain⟨au,L4,k4⟩:=iu (o:=.list (ag.toList.map av)) L3 hD L' k' ⟨ag,n,ho,rfl,by rw[hp.length_eq];exact SJ (TH ae) (by decide)⟩
  refine⟨_,L4,(ab.trans k3).trans k4,hK _ hp ?_ D au⟩
  rw[TB]
  exact hO.2.imp λ{x y} h=>by simpa using h
set_option tactic.hygienic true in
theorem rh(q j iter:Expr)(g:Comprehension)(r:List Expr)(m:Scope)(pos:Pos)(A w:Value)(env:Env):
  compTurn (.ListComp q [g,⟨j,iter,r,0⟩] m pos) 1 A w env=(do
   standAt iter.pos
   match<-pyNext A with
   |none=>pure (.done .next)
   |some v=>
    letOwnedTupleGo j A v
    assign j env v
    let mut ok:=true
    for c in r do
     if ok then ok<-isTrue c env (eval c env)
    if ok then
     (do let _<-call (.builtin "list.append") [w,<-eval q env])
    again (.compLoop (.ListComp q [g,⟨j,iter,r,0⟩] m pos) 1 A w env)):=by rfl
theorem Lh{e1 iter:Expr}{A:Around}{R:Result->Shared->Prop}:Gp (model prog w) A (.compLoop (.ListComp e1 [g,⟨.Name y H,iter,B,0⟩] q pos) 1 (.ref I) (.ref D) env) R I (.Name y H) env (J7 (model prog w) A e1 B env D):=by
 intro J n s turn h
 refine codeAny_loop rfl J (λn s Y=>?_) n h
 show wpAny _ A ((compTurn (.ListComp e1 [g,⟨.Name y H,iter,B,0⟩] q pos) 1 (.ref I) (.ref D) env).onRaise (λx=>do noteFrame x env;theTreesLotGoes x)) _ _ s
 refine wpAny_noted ?_
 rw[rh]
 refine So (wpAny_standAt (So (Sz (turn n s Y) (λr M h₁=>?_) λj j h'=>h')))
 cases r with
 |none=>exact Sv h₁
 |some v=>
  refine So (wpAny_of_eq rfl ?_)
  refine So (Sz h₁ (λj N C=>So (Sz C (λok O m=>?_) λj j h'=>h')) λj j h'=>h')
  cases ok with
  |false=>exact Sv ⟨rfl,m⟩
  |true=>exact So (So (Sz m (λx Q E=>So (Sz E (λj U G=>Sv (Sv ⟨rfl,G⟩)) λj j h'=>h')) λj j h'=>h'))
theorem xQ(H:codeAny (model prog w) A (.compLoop (.ListComp r [g,⟨m,iter,B,0⟩] q pos) 1 G C env) R s)(h:wpAny (model prog w) A (pyIter G) (λD E=>codeAny (model prog w) A (.compLoop (.ListComp r [g,⟨m,iter,B,0⟩] q pos) 1 D C env) R E)
   (notedBy (model prog w) A env λx E=>R (.error x) E) s):
  codeAny (model prog w) A (.compStart (.ListComp r [g,⟨m,iter,B,0⟩] q pos) 1 G C env) R s:=by
 refine codeAny_of_tree ?_
 show wpAny _ _ ((compStart (.ListComp r [g,⟨m,iter,B,0⟩] q pos) 1 G C env).onRaise (λx=>do noteFrame x env;standAt theWindowsPlace)) _ _ s
 refine wpAny_notedAt ?_
 unfold compStart
 show wpAny _ _ (ask>>=_) _ _ s
 refine So (wpAny_askSetting (wpAny_ite ?_))
 split
 ·first
   |exact So (Sv (Sv (And.intro rfl H)))
   |exact Sv (And.intro rfl H)
 ·refine So (wpAny_rule ?_)
  show wpAny _ _ (standAt iter.pos>>=_) _ _ s
  exact So (wpAny_standAt (So (Sz h (λD E h'=>Sv (And.intro rfl h')) λj j x=>x)))
set_option tactic.hygienic true in
theorem qL(m A i1 C w:Expr)(q:List Expr)(j:Scope)(pos:Pos)(B r:Value)(env:Env):
  compTurn (.ListComp m [⟨A,i1,[],0⟩,⟨C,w,q,0⟩] j pos) 0 B r env=(do
   standAt i1.pos
   match<-pyNext B with
   |none=>pure (.done .next)
   |some v=>
    letOwnedTupleGo A B v
    assign A env v
    let x<-eval w env
    standAt w.pos
    let x<-foldedSetIterable w env x
    let _<-runOwn (.compStart (.ListComp m [⟨A,i1,[],0⟩,⟨C,w,q,0⟩] j pos) 1 (<-holding [x] (pyIter x)) r env) env
    again (.compLoop (.ListComp m [⟨A,i1,[],0⟩,⟨C,w,q,0⟩] j pos) 0 B r env)):=by rfl
def N2(G:Shared->Prop)(r:Result)(s:Shared):Prop:=match r with
 | .ok _=>G s
 | .error _=>False
def LH(M:Model)(A:Around)(e w:Expr)(j:Env)(D:Addr)(N:Value->Shared->Prop)(G:Shared->Prop)(s:Shared):Prop:=
 wpAny M A (eval w j) (λx m=>wpAny M A (pyIter x) (λr q=>codeAny M A (.compStart e 1 r (.ref D) j) (N2 G) q) N m) N s
theorem xl{e1 i1 q H:Expr}{R:Result->Shared->Prop}(hs:∀x,foldedSetIterable q env x=pure x):
  Gp (model prog w) A (.compLoop (.ListComp e1 [⟨.Name x M,i1,[],0⟩,⟨H,q,B,0⟩] m pos) 0 (.ref I) (.ref D) env) R I (.Name x M) env (LH (model prog w) A (.ListComp e1 [⟨.Name x M,i1,[],0⟩,⟨H,q,B,0⟩] m pos) q env D):=by
 intro J n s turn h
 refine codeAny_loop rfl J (λn s Z=>?_) n h
 show wpAny _ A ((compTurn (.ListComp e1 [⟨.Name x M,i1,[],0⟩,⟨H,q,B,0⟩] m pos) 0 (.ref I) (.ref D) env).onRaise (λx=>do noteFrame x env;theTreesLotGoes x)) _ _ s
 refine wpAny_noted ?_
 rw[qL]
 refine So (wpAny_standAt (So (Sz (turn n s Z) (λr N h₁=>?_) λj j h'=>h')))
 cases r with
 |none=>exact Sv h₁
 |some v=>
  refine So (wpAny_of_eq rfl ?_)
  refine So (Sz h₁ (λj O C=>So (Sz C (λx Q E=>?_) λj j h'=>h')) λj j h'=>h')
  refine So (wpAny_standAt (So (wpAny_of_eq (hs x) (So (SK (Sz E (λaa U G=>?_) λj j h'=>h'))))))
  refine So (wpAny_runOwn (codeAny_mono (A:=A.mark none) G λr s' Y=>?_))
  cases r with
  |error e=>exact Y.elim
  |ok f=>exact Sv ⟨rfl,Y⟩
theorem yC{x y:Str}(he:D' w c A q d env ks)(M:EL ks sc x=true)(r:EL ks sc y=true)(B:∀y a,(y,NameKind.free)∈sc.names->env.cells.lookup y=some a->H.lookup y=some a)(N:Vr env T m σ h)(I:Ee σ C=false)(E:h.Ns C D)(O:D x=some u)(Q:D y=some v):
  Vr (compEnvC sc H C env) (GH (EH T sc J x) U y) ((m.set J (some (av u))).set U (some (av v))) σ h:=by
 have Y:=jZ (j:=J) (u:=u) he M B N I E O
 have G:(compEnvC sc H C env).kindOf y=some .local:=by
  rw[(e8 he r B).kindOf,cF,(dm r).var];rfl
 refine⟨I,⟨D,E⟩,λt ht z hz=>?_⟩
 unfold GH at ht
 rcases SH.mp ht with rfl|ht
 ·rw[dQ hz]
  exact .loc G D v E Q rfl
 ·obtain⟨ht,Z⟩:=SO.mp ht
  rw[eb (by simpa using Z)]at hz
  exact Y.var t ht z hz
theorem m9{xs:List AV}{G:AV->List AV}(h:xs[i]? =some v):(xs.take (i+1)).flatMap G=(xs.take i).flatMap G++G v:=by
 rw[Ue,h];simp
theorem on{G H:AV->List AV}(j:∀x,(H x).length<=(G x).length)(xs:List AV):∀(i:Nat) (v:AV),xs[i]? =some v->((xs.take i).flatMap H).length+(G v).length<=(xs.flatMap G).length:=by
 induction xs with
 |nil=>exact λi v h=>(by cases h)
 |cons z xs ih=>
  intro i v h
  cases i with
  |zero=>cases h;rw[Uu,Sw,show((z::xs).take 0).flatMap H=[]from rfl,Vm,Vd];exact Uz ..
  |succ i=>
   rw[List.take_succ_cons,Uu,Uu,Sw,Sw,Nat.add_assoc]
   exact U0 (j z) (ih i v h)
theorem ru{xs:List AV}{G H:AV->List AV}(j:∀x,(H x).length<=(G x).length):(xs.flatMap H).length<=(xs.flatMap G).length:=by
 induction xs with
 |nil=>simp
 |cons z xs ih=>have:=j z;simp only[Uu,Sw];omega
theorem AP{k3:Kp c σ s σ j}(r:w' prog w c σ j)(m:j.heap.get? b=none):s.heap.get? b=none:=by
 rcases k3.gone _ m with h|h
 ·unfold Ee at h
  cases e:σ b with
  |none=>rw[e]at h;cases h
  |some o=>
   obtain⟨ob,q⟩:=(r.own _ _ e).JY
   rw[m]at q;cases q
 ·exact h
def Mh(d:Nat)(q r cond:X)(m:D7)(w A:Nat)(Kf:AH->List AV->Prop)(xs:List AV)(σ:AH):Prop:=
 ∃(G:AV->List AV) (p:AV->AV->Bool) (F:AV->AV->AV),(∀x∈xs,(ev d true r d').e (m.set w (some x)) (λB j=>items σ B=some (G x)/\Ext σ j) σ)/\
  (∀x∈xs,∀y∈G x,(ev d true cond d').t ((m.set w (some x)).set A (some y)) (λb j=>b=p x y/\Ext σ j) σ)/\
  (∀x∈xs,∀y∈G x,p x y=true->(ev d true q d').e ((m.set w (some x)).set A (some y)) (λv j=>v=F x y/\Ext σ j) σ)/\(xs.flatMap G).length<=big/\
  Kf σ (xs.flatMap λx=>((G x).filter (p x)).map (F x))
set_option tactic.hygienic true in
theorem lW{aj al am cond:X}{use:Option (Value->Sem Unit)}{Qv:Value->Shared->Prop}{Kf:AH->List AV->Prop}(ay:SE aj)(az:SE al)(aA:SE am)(an:ST cond)(he:D' w c A true d env ks)(ae:EL ks sc x=true)(ag:EL ks sc y=true)(aK:x≠y)(aL:ES ie=true)(aM:(ck al).e ks T ie=true)(aB:ES je=true)(aC:(ck am).e (Fe ks sc.names) (EH T sc j1 x) je=true)(aN:(ck aj).e (Fe ks sc.names) (GH (EH T sc j1 x) j2 y) aq=true)(aO:GX ((ck cond).l [] [] []) ((ck cond).e (Fe ks sc.names) (GH (EH T sc j1 x) j2 y)) ar=true)(vr:Vr env T m σ s.heap)(L:w' prog w c σ s)(aP:(ev d true al Xp).e m (λiv σ=>Ej (items σ iv) λxs=>Mh d aj am cond m j1 j2 Kf xs σ) σ)(fin:∀r H D C O ys,w' prog w c r H->Kp c σ s r H->Vr env T m r H.heap->Kf r ys->H.heap.get? D=none->H.heap.get? C=none->D≠C->w' prog w c r O->Kp c r H r O->
   H7 D ys O.heap->Me C O.heap->ys.length<=big->compPost (model prog w) A (EX prog w c Xp σ s) use Qv (.ref D) C (.ok .next) O):
  wpAny (model prog w) A (comprehension (.ListComp aq [⟨.Name x px,ie,[],0⟩,⟨.Name y py,je,ar,0⟩] sc pos) sc env aW (newList []) false (eval ie env) use) Qv (EX prog w c Xp σ s) s:=by
 have C0:=dm ae
 refine fN (ob:={cls:=.type "list",data:=.seq #[]}) (cl':=λcl j=>cl) rfl rfl codeAny_compStart_list (λh=>wpAny_newObj_type h) (λk=>jG C0 k) C0.free C0.kind C0.loc az he aL aM vr L aP
  λ{cl r H xs I a D C E} as M aD aa hW aQ N hN hI aY S hD=>?_
 obtain⟨G,p,F,h0,U,Z,hz,hK⟩:=hW
 refine gl ?_
 intro G0
 have af:=e8 (C:=C) he ae as
 have aE:=cj (bV M N.nC)
 have aF:∀x,((λx=>((G x).filter (p x)).map (F x)) x).length<=(G x).length:=λx=>by rw[Su];exact TG ..
 refine mx (B:=LH (model prog w) A (.ListComp aq [⟨.Name x px,ie,[],0⟩,⟨.Name y py,je,ar,0⟩] sc pos) je (compEnvC sc cl C env) D) (Acc:=λi=>H7 D ((xs.take i).flatMap λx=>((G x).filter (p x)).map (F x)))
  (Y:=λv h=>∃J,h.Ns C J/\True/\J x=some v) (xl (gW aB)) (he.calm rfl) M aQ N.aI N.nI N.nC N.IC (dS N.IC.symm) (λi=>qw ⟨N.ID.symm,N.DC⟩)
  (gA (by rw[af.kindOf,cF,C0.var];rfl) C0.kind λj j h=>h) (λi v s2 K hv S hA k=>?_) S ⟨#[],⟨_,hD⟩,rfl⟩
  λO S hA=>fin r H D C O _ M aD aa hK N.nD N.nC N.DC S.live S.kp (by rw[SW]at hA;exact hA) S.x (SJ (ru aF) hz)
 have ab:av v∈xs:=Sp hv
 have hX:GZ (Jt H D) λh=>Ex r h I a (i+1)/\∃J,h.Ns C J/\J x=some v:=GZ.and (io ⟨N.nI,N.ID⟩) (dS ⟨N.nC,N.DC.symm⟩)
 have S':At prog w c r H (λh=>Ex r h I a (i+1)/\∃J,h.Ns C J/\J x=some v) s2:=S.to λz=>⟨z.1,by obtain⟨J,U,_,Z⟩:=z.2;exact⟨J,U,Z⟩⟩
 obtain⟨vs,⟨n,aR⟩,aS⟩:=hA
 have v2:Vr (compEnvC sc cl C env) (EH T sc j1 x) (m.set j1 (some (av v))) r s2.heap:=by
  obtain⟨J,U,Z⟩:=S'.x.2
  exact jZ he ae as (aa.kept S.kp) aE U Z
 refine Sz (aA.at (G:=λy ac=>items r (av y)=some (G (av v))/\At prog w c r H (λh=>Ex r h I a (i+1)/\∃J,h.Ns C J/\J x=some v) ac/\ac.heap.get? D=some {cls:=.type "list",data:=.seq vs n}) aC af S.live (.refl ..) v2 S.live (h0 _ ab)
  λy aT ac aG ah aX hb=>⟨hb.1,S'.quiet M hX (λb h=>h.1) aG ah hb.2,dj M ah N.nD aR⟩) (λiv E h3=>?_) λe' O y=>IA y
 obtain⟨au,S3,aH⟩:=h3
 refine iW S3.live au λa2 oI aU ai=>?_
 subst aU
 have fr:E.heap.get? E.heap.objs.size=none:=bW _
 have aw:=AP (k3:=S3.kp) S3.live fr
 have ne:∀b o,E.heap.get? b=some o->E.heap.objs.size≠b:=λb o e q=>by rw[<-q,fr]at e;cases e
 have gr:∀b o,E.heap.get? b=some o->(E.heap.push oI).get? b=some o:=λb o e=>Sq _ e
 obtain⟨oC,ax⟩:∃o,E.heap.get? C=some o:=(by obtain⟨J,U,Z⟩:=S3.x.2;exact iF U)
 obtain⟨aZ,aJ⟩:=S3.x.1.there
 have aV:H6 H E.heap.objs.size a2 D C:=⟨aw,N.nD,N.nC,ne D _ aH,ne C _ ax,N.DC,λq=>iM au (q▸bV M aw)⟩
 have S4:=S3.for (h':=E.heap.push oI) (tk:=E.toks) M aw (GZ.and (io (P:=λb=>b≠E.heap.objs.size) (ne I _ aJ).symm) (dS (ne C _ ax).symm)) (λb h=>h) λb o j e=>gr b o e
 have C2:=dm ag
 have run:codeAny (model prog w) A (.compLoop (.ListComp aq [⟨.Name x px,ie,[],0⟩,⟨.Name y py,je,ar,0⟩] sc pos) 1 (.ref E.heap.objs.size) (.ref D) (compEnvC sc cl C env)) (N2 K) {E with heap:=E.heap.push oI}:=by
  refine jy (pre:=(xs.take i).flatMap λx=>((G x).filter (p x)).map (F x)) (Y:=λu h=>Ex r h I a (i+1)/\∃J,h.Ns C J/\J x=some v/\J y=some u) (mv:=λz=>(m.set j1 (some (av v))).set j2 (some z)) Lh ay an af aN aO M au aV
   (SJ (on aF xs i (av v) hv) hz) (GZ.and (io (ne I _ aJ).symm) (dS (ne C _ ax).symm)) (λu=>GZ.and (io ⟨N.nI,N.ID⟩) (dS ⟨N.nC,N.DC.symm⟩)) (λu h z=>⟨z.1,by obtain⟨J,U,Z,_⟩:=z.2;exact⟨J,U,Z⟩⟩)
   (λu s1 Q S k=>gA (q:=λJ=>J x=some v) (by rw[af.kindOf,cF,C2.var];rfl) C0.kind (λJ v h=>(if_neg aK).trans h) u s1 Q (S.to And.right) λZ tk hy hk=>k Z tk ⟨S.x.1.at λo e=>hk I o N.IC e,hy⟩ hk)
   (λu s' S=>?_) (U _ ab) (Z _ ab) ⟨S4.live,S4.kp,ai,S4.x⟩ ⟨vs,⟨n,gr _ _ aH⟩,aS⟩ λO S5 hA=>k O (S5.to λz=>⟨z.1,by obtain⟨J,U,Z⟩:=z.2;exact⟨J,U,trivial⟩⟩) (by rw[m9 hv];exact hA)
  obtain⟨J,U,Z,h3⟩:=S.x.2
  exact yC he ae ag as (aa.kept S.kp) aE U Z h3
 exact xQ run (nQ ai run)
theorem Bh(E:X)(j1:Nat)(G:X)(j2:Nat)(H cond:X)(I:SE E)(J:SE G)(M:SE H)(r:ST cond):SE (.GV E j1 G j2 H cond):=by
 intro ks T e prog w c A q d env m σ s Xp Q j he vr L B
 refine mV j λel gs sc pos j=>?_
 refine gi j λg1 g2 j=>?_
 refine gg j λx px ie ab j=>?_
 replace j:=D9 j;obtain⟨h0,j⟩:=j
 cases d4 h0
 refine gg j λy py je af j=>?_
 revert j;refine P0 λh1 h2 Y h4 h5 h6 h7 h8 h9=>?_
 replace Y:=of_decide_eq_true Y
 obtain⟨rfl,B⟩:=B
 rw[eval_ListComp]
 exact lW (use:=none) (Qv:=Ec prog w c σ s Q) (Kf:=λσ ys=>∀z,σ z=none->Q (.ref z) (upd σ z (.list ys))) I J M r he h1 h2 Y h4 h5 h6 h7 h8 h9 vr L B
  λZ ac D C ag ys N O ae hK hD hC aa L' k' hl hn U=>kQ O N hK hD hC aa L' k' hl hn U
theorem yD{x:X}(h:∀ks T e,(ck x).e ks T e=false):SE x:=λks T e j j j j j j j j j j j j m=>by rw[h]at m;cases m
theorem yK{x:X}(h:∀ks T e,(ck x).e ks T e=false):ST x:=λks T e j j j j j j j j j j j j m=>by rw[h]at m;cases m
theorem yW{x:X}(h:∀ks T e,(ck x).l ks T e=false):SL x:=λks T e j j j j j j j j j j j j j m=>by rw[h]at m;cases m
structure H9 (ks:Ks) (sc:Scope) (x:Str):Prop where
 kind:sc.kind=.function
 cell:sc.names.filter (λy=>y.2==.cell)=[(x,.cell)]
 loc:∀y∈sc.names,y.2=.local->sc.names.lookup y.1=some .local
 var:sc.names.lookup x=some .cell
 free:∀y∈sc.names,y.2=.free->Ja (ks.lookup y.1)=true
theorem tB{x:Str}(h:H5 ks sc x=true):H9 ks sc x:=by
 unfold H5 at h
 simp only[SF,Ti,decide_eq_true_eq,UB]at h
 obtain⟨⟨⟨⟨m,q⟩,r⟩,w⟩,A⟩:=h
 refine⟨m,q,λy j e=>?_,w,λy j e=>?_⟩
 ·rcases r y j with h|h
  ·exact absurd e h
  ·exact h
 ·rcases A y j with h|h
  ·exact absurd e h
  ·exact h.1
theorem tN(names:Ks):∀(n:Nat) (m:List (Str×Addr)) (h:Heap),names.filter (λy=>y.2==.cell)=[]->cellsFrom n names m=m/\pushCells h names=h:=by
 induction names with
 |nil=>exact λj j j j=>⟨rfl,rfl⟩
 |cons p r ih=>
  intro n m h
  rw[Uy]
  unfold cellsFrom pushCells
  cases p.2==.cell with
  |true=>exact λe=>(by cases e)
  |false=>exact ih n m h
theorem wG{x:Str}(names:Ks):∀(n:Nat) (m:List (Str×Addr)) (h:Heap),names.filter (λy=>y.2==.cell)=[(x,.cell)]->cellsFrom n names m=(x,n)::m/\pushCells h names=h.push {cls:=.type "cell",data:=.cell none}:=by
 induction names with
 |nil=>exact λj j j e=>(by cases e)
 |cons p r ih=>
  intro n m h
  rw[Uy]
  unfold cellsFrom pushCells
  cases p.2==.cell with
  |true=>
   intro e
   obtain⟨e1,q⟩:=List.cons.inj e
   subst e1
   exact tN r (n+1) _ _ q
  |false=>exact ih n m h
theorem qX{x:Str}(B:sc.names.filter (λy=>y.2==.cell)=[(x,.cell)])(C:Q (newEnv sc s.heap.objs.size globals ((x,s.heap.objs.size+1)::r) j none .none (some env) builtinsNs)
   {s with heap:=(s.heap.push {cls:=.type "dict",data:=.dict #[]}).push {cls:=.type "cell",data:=.cell none}}):
  wpAny (model prog w) A (newFunctionEnv sc globals r [] j none .none (some env)) Q E s:=by
 simp only[newFunctionEnv,Option.isSome_some,if_true]
 refine So (wpAny_alloc (So (wpAny_layCells _ (λname kind m=>by cases q:kind==NameKind.cell<;>simp[q]) _ _ _ _ ?_)))
 obtain⟨D,G⟩:=wG sc.names (s.heap.push {cls:=.type "dict",data:=.dict #[]}).objs.size r (s.heap.push {cls:=.type "dict",data:=.dict #[]}) B
 dsimp only
 rw[D,G,Uh,List.forIn_nil]
 exact So (Sv (Sv C))
set_option tactic.hygienic true in
theorem nG(he:D' w c A q d env ks)(h:H9 ks sc y)(m:∀y a,(y,NameKind.free)∈sc.names->env.cells.lookup y=some a->D.lookup y=some a):D' w c A q d (compEnvC sc ((y,cc)::D) C env) (Fe ks sc.names):=by
 refine⟨r9 he _,h.kind,he.glob,he.blt,he.frame,he.stack,he.calm,he.depth,he.units,λz hz=>?_⟩
 show ∃a,List.lookup z ((y,cc)::D)=some a
 rw[TJ]
 split
 ·exact⟨_,rfl⟩
 ·rename_i j
  rw[cF]at hz
  cases r:sc.names.lookup z with
  |none=>rw[r]at hz;cases hz
  |some k=>
   rw[r]at hz
   have B:=dH r
   have E:k=.free:=by
    cases k<;>first|rfl|exact no_ft hz|skip
    exfalso
    have:(z,NameKind.cell)∈sc.names.filter (λy=>y.2==.cell):=SO.mpr ⟨B,rfl⟩
    rw[h.cell]at this
    simp at this
    rw[this]at j;simp at j
   subst E
   obtain⟨a,G⟩:=he.cells z (h.free _ B rfl)
   exact⟨a,m z a B G⟩
theorem nY{x:Str}:List.lookup x ((x,a)::j)=some a:=by
 rw[TJ];simp
theorem vF{x y:Str}(h:y≠x):List.lookup y ((x,a)::j)=j.lookup y:=by
 have m:(y==x)=false:=by simpa using h
 rw[TJ,m]
theorem xj{sc:Scope}{x:Str}(he:D' w c A q d env ks)(H:H9 ks sc x)(E:∀y a,(y,NameKind.free)∈sc.names->env.cells.lookup y=some a->I.lookup y=some a)(vr:Vr env T m σ h)(hC:Ee σ C=false)(Z:h.Ns C mc)(J:h.IsCell cc (some u))(M:Ee σ cc=false):
  Vr (compEnvC sc ((x,cc)::I) C env) (EH T sc j x) (m.set j (some (av u))) σ h:=by
 have G:=nG (C:=C) (cc:=cc) he H E
 have N:(compEnvC sc ((x,cc)::I) C env).kindOf x=some .cell:=by
  rw[G.kindOf,cF,H.var];rfl
 refine⟨hC,⟨mc,Z⟩,λt ht v B=>?_⟩
 unfold EH at ht
 rcases SH.mp ht with rfl|ht
 ·rw[dQ B]
  exact .cell (.inl N) cc u nY J rfl M
 ·obtain⟨ht,D⟩:=SO.mp ht
  simp only[SF,decide_eq_true_eq]at D
  rw[eb D.1]at B
  have r:=H.free _ (dH D.2) rfl
  dsimp only at r
  have O:t.2.1≠x:=λq=>by have:=D.2;rw[q,H.var]at this;cases this
  have Q:(compEnvC sc ((x,cc)::I) C env).kindOf t.2.1=some (if ks.lookup t.2.1==some .cell then .cell else .free):=by
   rw[G.kindOf,cF,D.2];rfl
  cases vr.var t ht v B with
  |loc U mc u Z J B=>rw[he.kindOf]at U;rw[U]at r;cases r
  |cell U a u Y J B hm=>
   refine .cell ?_ a u (by show List.lookup t.2.1 ((x,cc)::I)=some a;rw[vF O];exact E t.2.1 a (dH D.2) Y) J B hm
   rw[Q]
   split
   ·exact .inl rfl
   ·exact .inr rfl
set_option tactic.hygienic true in
theorem Au(M:X)(j:Nat)(it cond:X)(N:SE M)(af:SE it)(G:ST cond):SE (.HO M j it cond):=by
 intro ks T e prog w c A q d env m σ s Xp Q r he vr L H
 refine mV r λel gs sc pos r=>?_
 refine cy r λg r=>?_
 refine gg r λx px ie aw r=>?_
 revert r;refine NU λc1 ag ah ai aj=>?_
 have C0:=tB c1
 obtain⟨rfl,H⟩:=H
 rw[eval_ListComp]
 refine fN (use:=none) (Qv:=Ec prog w c σ s Q) (ob:={cls:=.type "list",data:=.seq #[]}) (Z:=λC h=>Me C h/\∃v,h.IsCell (C+1) v) (cl':=λcl C=>(x,C+1)::cl) rfl rfl codeAny_compStart_list (λh=>wpAny_newObj_type h) (λk=>qX C0.cell (k _ (λb o e=>Sq _ (Sq _ e)) ?_)) C0.free C0.kind C0.loc af he ag ah vr L H
  λ{cl al as xs I a D C au} O B U aa hW am E hN hI ab S hD=>?_
 ·rename_i s' _
  refine⟨⟨_,df (Heap.Ns.new ..) λo e=>⟨o.slots,Sq _ e⟩,trivial⟩,none,_,(congrArg _ (Uh ..).symm).trans (SM _ rfl),rfl⟩
 ·obtain⟨p,F,h1,h2,hz,hK⟩:=hW
  have ac:=nG (C:=C) (cc:=C+1) he C0 O
  have nc:=hN (C+1) (Us C)
  have an:C≠C+1:=Tu (Um C)
  refine jy (pre:=[]) (Y:=λv h=>Me C h/\h.IsCell (C+1) (some v)) (mv:=λy=>m.set j (some y)) (λJ n s t h=>codeAny_compLoop_tests J t n h) N G ac ai aj B am ⟨E.nI,E.nD,nc,E.ID,Tu (TV hI),Tu (TV ab),E.aI⟩ (by simpa using hz)
   (GZ.and (dS E.IC.symm) λh h' k z=>(by obtain⟨v,z⟩:=z;exact⟨v,qD (P:=(·≠I)) (Uk (TV hI)) h h' k z⟩)) (λv=>GZ.and (dS ⟨E.nC,E.DC.symm⟩) (qD ⟨nc,Uk (TV ab)⟩)) (λv h z=>⟨z.1,_,z.2⟩)
   (λv s1 Q S k=>?_) (λv s' S=>?_) h1 h2 S ⟨#[],⟨_,hD⟩,rfl⟩ λax S' hl=>kQ U B hK E.nD E.nC E.DC S'.live S'.kp hl S'.x.1 (qA hz)
  ·obtain⟨hn,vc,aq⟩:=S.x
   exact wpAny_assign_Name (wpAny_storeName_cell C0.kind (by rw[ac.kindOf,cF,C0.var];rfl) nY aq λh2 ar ae=>k h2 s1.toks ⟨dS (P:=(·≠C+1)) an _ _ (λb o hb e=>(ae.2 b hb).trans e) hn,ar⟩ λb o hb e=>(ae.2 b hb).trans e)
  ·obtain⟨⟨mc,hn,_⟩,hx⟩:=S.x
   exact xj he C0 O (aa.kept S.kp) (cj (bV B E.nC)) hn hx (cj (bV B nc))
theorem yM(h:∀ks T e,(ck x).l ks T e=false):SP x:=λks T j j e j j j j j j j j j j j j j m=>by rw[h]at m;cases m
theorem DS(h:∀d q Xp m K σ,¬(ev d q x Xp).t m K σ):ST x:=λj j j j j j j j j j j j j j j j j j j r=>(h _ _ _ _ _ _ r).elim
theorem B6(h:∀d q Xp m K σ,¬(ev d q x Xp).e m K σ):SE x:=λj j j j j j j j j j j j j j j j j j j r=>(h _ _ _ _ _ _ r).elim
theorem j3(B:SE x)(ht:∀d q Xp m K σ,(ev d q x Xp).t m K σ->(ev d q x Xp).e m (truth K) σ)(hs:∀ks T e env,(ck x).e ks T e=true->isTrue e env (eval e env)=(do let v<-eval e env;standAt e.pos;holding [v] (truthy v))):ST x:=
 λks T e prog w c A q d env m σ s Xp K j he C L r=>JN (hs ks T e env j) (B ks T e prog w c A q d env m σ s Xp _ j he C L (ht d q Xp m K σ r))
structure Sd (x:X):Prop where
 e:SE x
 t:ST x
 l:SL x
 p:SP x
theorem dv(e:SE x)(h:∀d q Xp m K σ,¬(ev d q x Xp).t m K σ)(j:∀ks T e,(ck x).l ks T e=false):Sd x:=⟨e,DS h,yW j,yM j⟩
theorem fD(e:SE x)(t:ST x)(j:∀ks T e,(ck x).l ks T e=false):Sd x:=⟨e,t,yW j,yM j⟩
theorem Df(v:AV):ST (.D6 v):=j3 (yE v) (λj j j j j j h=>h) λks T e env h=>by
 obtain⟨_,_,_,rfl,_⟩:=iY h;rfl
theorem CV(i:Nat):ST (.var i):=j3 (yY i) (λj j j j j j h=>h) λks T e env h=>by
 obtain⟨_,_,rfl,_⟩:=d3 h;rfl
theorem BR(a:X)(C i:Nat)(m:SE a):ST (.attr a C i):=j3 (wB a C i m) (λj j j j j j h=>h) λks T e env h=>by
 obtain⟨_,_,_,rfl,_⟩:=gP h;rfl
theorem Ct(f as:X)(q:SE f)(m:SL as):ST (.call f as):=j3 (wo f as q m) (λj j j j j j h=>h) λks T e env h=>by
 obtain⟨_,_,_,_,_,rfl,_⟩:=nv h;rfl
theorem Cw(a:X)(C i:Nat)(as:X)(q:SE a)(m:SL as):ST (.D3 a C i as):=j3 (vu a C i as q m) (λj j j j j j h=>h) λks T e env h=>by
 obtain⟨_,_,_,_,_,rfl,_⟩:=jk h;rfl
theorem DQ(b:BM)(a as:X)(q:SE a)(m:SL as):ST (.bm b a as):=j3 (Cr b a as q m) (λj j j j j j h=>h) λks T e env h=>by
 obtain⟨_,_,_,_,_,rfl,_⟩:=jk h;rfl
theorem sound(x:X):Sd x:=by
 induction x with
 |nil=>exact⟨yD λm m m=>rfl,yK λm m m=>rfl,sY,Du⟩
 |cons a as q r=>exact⟨yD λm m m=>rfl,yK λm m m=>rfl,qz a as q.e r.l,CQ a as q.e r.p⟩
 |D6 v=>exact fD (yE v) (Df v) λm m m=>rfl
 |var i=>exact fD (yY i) (CV i) λm m m=>rfl
 |glob n=>exact dv (CP n) (λm m m m m m h=>h) λm m m=>rfl
 |neg a q=>exact dv (DA a q.e) (λm m m m m m h=>h) λm m m=>rfl
 |not a q=>exact fD (CS a q.e) (CU a q.t) λm m m=>rfl
 |bin op a b q w=>exact dv (Dt op a b q.e w.e) (λm m m m m m h=>h) λm m m=>rfl
 |cmp op a b q w=>exact fD (CX op a b q.e w.e) (Db op a b q.e w.e) λm m m=>rfl
 |JJ o1 o2 a b c q w I=>exact fD (B6 λm m m m m m h=>h) (B4 o1 o2 a b c q.e w.e I.e) λm m m=>rfl
 |MO a b c d q w I Z=>exact fD (B6 λm m m m m m h=>h) (C8 a b c d q.e w.e I.e Z.e) λm m m=>rfl
 |and a b q w=>exact fD (Dx a b q.e w.e) (Ds a b q.t w.t) λm m m=>rfl
 |or a b q w=>exact fD (DT a b q.e w.e) (DP a b q.t w.t) λm m m=>rfl
 |ite t a b ht q w=>exact dv (Dc t a b ht.t q.e w.e) (λm m m m m m h=>h) λm m m=>rfl
 |tup as r=>exact dv (Dg as r.l) (λm m m m m m h=>h) λm m m=>rfl
 |lst as r=>exact dv (Dr as r.l) (λm m m m m m h=>h) λm m m=>rfl
 |Fy=>exact dv y0 (λm m m m m m h=>h) λm m m=>rfl
 |Gj B as r=>exact dv (AC B as r.p) (λm m m m m m h=>h) λm m m=>rfl
 |Ir k v J M=>exact dv (zX k v J.e M.e) (λm m m m m m h=>h) λm m m=>rfl
 |sub a i q N=>exact dv (Dl a i q.e N.e) (λm m m m m m h=>h) λm m m=>rfl
 |key a B i q=>exact dv (Dd a B i q.e) (λm m m m m m h=>h) λm m m=>rfl
 |slice a lo N q hl hh=>exact dv (A8 a lo N q.e hl.e hh.e) (λm m m m m m h=>h) λm m m=>rfl
 |rev a q=>exact dv (DM a q.e) (λm m m m m m h=>h) λm m m=>rfl
 |attr a C i q=>exact fD (wB a C i q.e) (BR a C i q.e) λm m m=>rfl
 |bf b as r=>exact dv (DR b as r.l) (λm m m m m m h=>h) λm m m=>rfl
 |bm b a as q r=>exact fD (Cr b a as q.e r.l) (DQ b a as q.e r.l) λm m m=>rfl
 |call f as Y r=>exact fD (wo f as Y.e r.l) (Ct f as Y.e r.l) λm m m=>rfl
 |D3 a C i as q r=>exact fD (vu a C i as q.e r.l) (Cw a C i as q.e r.l) λm m m=>rfl
 |Iu a C i as q r=>exact dv (zx a C i as q.e r.l) (λm m m m m m h=>h) λm m m=>rfl
 |GU a q=>exact dv (zP a q.e) (λm m m m m m h=>h) λm m m=>rfl
 |Iv a o q ho=>exact dv (AK a o q.e ho.e) (λm m m m m m h=>h) λm m m=>rfl
 |comp A j D cond E G H=>exact dv (Bn A j D cond E.e G.e H.t) (λm m m m m m h=>h) λm m m=>rfl
 |HO A j D cond E G H=>exact dv (Au A j D cond E.e G.e H.t) (λm m m m m m h=>h) λm m m=>rfl
 |GV A j1 O j2 Q cond E G H h4=>exact dv (Bh A j1 O j2 Q cond E.e G.e H.e h4.t) (λm m m m m m h=>h) λm m m=>rfl
 |Gl k v j D J M U=>exact dv (Am k v j D J.e M.e U.e) (λm m m m m m h=>h) λm m m=>rfl
 |JK a t q=>exact dv (Cu a t q.e) (λm m m m m m h=>h) λm m m=>rfl
inductive MR (prog:Program) (w:World) (c:Cx) (X:AH->Prop) (σ:AH) (s:Shared) (e:Value) (s':Shared):Prop
 |mk (a Eb B a0) (h0:e=.ref a) (h1:X Eb) (h2:J1 prog w c σ s a Eb B s') (h3:Heap.HeldW B (c.D1::c.outer) a Hm a0 c.L s'.heap)
theorem MR.ex{X:AH->Prop}(h:MR prog w c X σ s e m):EX prog w c X σ s e m:=(by obtain⟨a,j,B,a0,q,r,A,_⟩:=h;exact⟨a,j,B,q,r,A⟩)
theorem J1.turn(x:J1 prog w c σ s a j B m)(C:m.heap.FunFrames B (c.D1::c.outer))(k:m.heap.UpToSlots h')(f:J0 c a B h'):J1 prog w c σ s a j B {m with heap:=h'}:=
 ⟨x.ok,x.base,x.own,x.parts,x.apart,x.off,x.keep,x.fresh,x.GR,λb ob r e=>by
  obtain⟨G,e1⟩:=x.frames b ob r e
  obtain⟨_,o2,A,D⟩:=C.mem (b:=b) r
  rw[e1]at A;cases A
  obtain⟨q,E⟩:=k b _ e1 D
  exact⟨q,E⟩,x.gens,x.os,f⟩
theorem pR(J:base.StaysIn s.heap)(N:base.get? e=none)(hl:s.heap.FunFrames base l)(ht:s.heap.TracedAtW base e cls a0 fl)(h:∀h',Heap.HeldW base l e cls a0 L h'->s.heap.UpToSlots h'->Q () {s with heap:=h'}):wpAny M A (setFlight (.ref e) (some L)) Q E s:=by
 obtain⟨oe,vs,T,oT,U,he,G,Y,Z,H,I,O,B,h3⟩:=ht
 have C:3<U.size:=(Vs.mp h3).1
 have m:∀b,b≠T->(s.heap.update T (Obj.mapFields (·.setIfInBounds 3 ((some L).elim Value.none λf=>rawInt f)))).get? b=s.heap.get? b:=
  λb r=>Uv _ _ (Ne.symm r)
 have j:∀b o,s.heap.get? b=some o->(∀vs,o.data≠.fields vs)->b≠T:=λb o r w q=>by
  rw[q,O]at r;injection r with r;subst r;exact w U B
 unfold setFlight
 refine So (wpAny_field he Y Z ?_)
 rw[if_pos (show(Value.ref T !=Value.none)=true from by simp)]
 refine wpAny_setField O B C (h _ ⟨λb o D=>(m b λq=>by rw[q,H]at D;cases D).trans (J b o D),N,
  hl.of_keeps λb o r w=>⟨o,(m b (j b o r w)).trans r,rfl⟩,?_⟩ λb o r w=>⟨o.slots,(m b (j b o r w)).trans r⟩)
 exact⟨oe,vs,T,_,_,(m e (Ne.symm I)).trans he,G,Y,Z,H,I,TC _ O (Obj.isFreed_of_fields (Obj.data_mapFields B _)),Obj.data_mapFields B _,by simp[C]⟩
theorem LI{X:AH->Prop}(H:A.frames=some (c.D1::c.outer))(h:EX prog w c X σ s e U)(k:∀q,MR prog w c X σ s e q->Q () q):wpAny M A (noteFrame e c.D1) Q E U:=by
 obtain⟨a,j,B,rfl,D,x⟩:=h
 have C:=x.ok.frame
 cases x.I8 with
 |made oe vs a0 he Y I Z J st N O=>
  unfold noteFrame
  simp only[C]
  refine So (wpAny_field he I J ?_)
  rw[if_neg (by decide)]
  refine wpAny_entryW (a0:=a0) H O C he st N I (Vs.mp J).1 Z λh' hN=>?_
  obtain⟨k1,k2,k3,G⟩:=hN
  have r:Heap.HeldW B (c.D1::c.outer) a Hm a0 c.L h':=⟨k1,N,k2,Y▸k3⟩
  exact k _ ⟨a,j,B,a0,rfl,D,x.turn O G (.held _ r),r⟩
 |NQ a0 m=>
  refine wpAny_looks_onW H C m λh' r G=>?_
  exact k _ ⟨a,j,B,a0,rfl,D,x.turn m.2.2.1 G (.held _ r),r⟩
 |held a0 m=>exact wpAny_noteFrame_againW C m.2.2.2 (k _ ⟨a,j,B,a0,rfl,D,x,m⟩)
theorem J'{X:AH->Prop}(m:A.frames=some (c.D1::c.outer))(h:EX prog w c X σ s e q)(he:env=c.D1)(k:∀j,MR prog w c X σ s e j->E e j):notedBy M A env E e q:=by
 subst he;exact LI m h λj x=>k j x
theorem IE{X:AH->Prop}(h:MR prog w c X σ s e H)(k:∀j,MR prog w c X σ s e j->E e j):cameBackBy M A c.D1 E e H:=by
 obtain⟨a,q,B,a0,rfl,I,x,m⟩:=h
 obtain⟨J,N,r,C⟩:=m
 obtain⟨Y,vs,T,Z,ts,he,D,O,Q,hr⟩:=id C
 show wpAny M A (field (.ref a) 1>>=_) _ _ _
 refine So (wpAny_field he O Q ?_)
 rw[if_neg (show ¬((Value.ref T==Value.none)=true)from by simp)]
 rw[x.ok.frame]
 refine pR (L:=c.L) J N r C λh' G U=>?_
 exact k _ ⟨a,q,B,a0,rfl,I,x.turn r U (.held _ G),G⟩
theorem Li{X:AH->Prop}(Z:A.frames=some (c.D1::c.outer))(h:EX prog w c X σ s e q)(k:∀a j B h' a0,e=.ref a->X j->J1 prog w c σ s a j B q->Heap.FlyingW B c.outer a Hm a0 h'->q.heap.FunFrames B (c.D1::c.outer)->(∀b∈D2 c,∀o,q.heap.get? b=some o->∃D,h'.get? b=some {o with slots:=D})->Q () {q with heap:=h'}):wpAny M A (leaving c.D1 e) Q E q:=by
 obtain⟨a,j,B,rfl,G,x⟩:=h
 have H:=x.ok.frame
 have I:∀{h':Heap},q.heap.FunFrames B (c.D1::c.outer)->q.heap.UpToSlots h'->∀b∈D2 c,∀o,q.heap.get? b=some o->∃D,h'.get? b=some {o with slots:=D}:=λr J b hb o e=>by
  obtain⟨_,o2,e2,C⟩:=r.mem (b:=b) hb
  rw[e]at e2;cases e2
  exact J b o e C
 cases x.I8 with
 |made oe vs a0 he hc hd h0 h1 st C r=>
  refine wpAny_leaving_firstW (a0:=a0) Z r H he st C hd h1 h0 λh' hL=>?_
  obtain⟨N,⟨_,_,O⟩,k3,U⟩:=hL
  exact k a j B h' a0 rfl G x ⟨N,C,O,hc▸k3⟩ r (I r U)
 |NQ a0 m=>exact wpAny_leaves_onW Z H m λh' x1 x2=>k a j B h' a0 rfl G x x1 m.2.2.1 (I m.2.2.1 x2)
 |held a0 m=>
  unfold leaving
  refine So (wpAny_noteFrame_againW H m.2.2.2 ?_)
  refine wpAny_landsW m λh' Y J=>?_
  obtain⟨N,O,⟨_,_,k3⟩,U⟩:=id Y
  exact k a j B h' a0 rfl G x ⟨N,O,k3,U⟩ m.2.2.1 (I m.2.2.1 J)
theorem oU{base B h:Heap}(k:∀b o,base.get? b=some o->B.get? b=some o):h.FunFrames B l->h.FunFrames base l:=by
 induction l with
 |nil=>exact λj=>trivial
 |cons env m ih=>
  intro g
  have x:=g.2.1
  obtain⟨L,o,r,w,A,C⟩:=x
  exact⟨g.1,⟨L,o,r,Option.eq_none_iff_forall_ne_some.mpr λo q=>no_ns (w.symm.trans (k L o q)),A,C⟩,ih g.2.2⟩
theorem Hr{a a0:_}(L:w' prog w c σ s)(x:J1 prog w c σ s a q B r)(m:Heap.FlyingW B (c.D1::c.outer) a Hm a0 r.heap):w' prog w c q r/\Kp c σ s q r:=by
 obtain⟨A,N,E,O⟩:=m
 refine⟨?_,?_⟩
 ·refine⟨x.ok,λb o e=>A b o (x.base b o e),oU x.base E,?_,λb o e=>(x.own b o e).kept A,x.parts,x.apart,x.off,x.gens,x.os⟩
  obtain⟨G,C⟩:=L.ns
  exact⟨G,df C λo e=>x.frames _ o L.Gz e⟩
 ·refine⟨λb ob H e=>?_,x.fresh,x.GR⟩
  by_cases D:b∈D2 c
  ·obtain⟨I,J⟩:=x.frames b ob D e
   exact⟨I,J,λM=>absurd D M⟩
  ·exact⟨ob.slots,A b ob (x.keep b ob H e D),λj=>rfl⟩
theorem Mi{X:AH->Prop}{Q:Shared->Prop}(L:w' prog w c σ s)(H:A.frames=some (c.D1::c.outer))(h:EX prog w c X σ s e I)(k:∀a q B a0 C,e=.ref a->X q->J1 prog w c σ s a q B C->Heap.FlyingW B (c.D1::c.outer) a Hm a0 C.heap->Q C):
  wpAny M A (noteFrame e c.D1) (λj r=>wpAny M A (setFlight e none) (λj D=>Q D) E r) E I:=by
 refine LI H h λr J=>?_
 obtain⟨a,q,B,a0,rfl,N,x,m⟩:=J
 refine wpAny_landsW m λh' G O=>?_
 exact k a q B a0 _ rfl N (x.turn m.2.2.1 O (.NQ _ G)) G
theorem IF(x:J1 prog w c σ s a r B C)(m:Heap.FlyingW B (c.D1::c.outer) a Hm a0 C.heap)(k:∀j,J1 prog w c σ s a r B j->Heap.FlyingW B (c.D1::c.outer) a Hm a0 j.heap->Q () j):wpAny M A (setFlight (.ref a) none) Q E C:=
 lands_againW m λh' q D=>k _ (x.turn m.2.2.1 D (.NQ _ q)) q
section
set_option backward.match.sparseCases false
set_option genCtorIdx false in
inductive Tg where
 |var (i:Nat)
 |attr (a:X) (C i:Nat)
 |item (a i:X)
 |key (a:X) (tab i:Nat)
set_option genCtorIdx false in
inductive S where
 |nil|cons (a r:S)
 |set (t:Tg) (x:X)
 |sets (ts:List Tg) (x:X)
 |HH (is:List Nat) (x:X)
 |JO (i:Nat) (elt:X) (j:Nat) (it cond:X)
 |HQ (i:Nat) (elt:X) (j1:Nat) (QG:X) (j2:Nat) (QH cond:X)
 |ex (x:X)
 |ite (t:X) (a b:S)
 |wh (t:X) (b:S)
 |fo (i:Nat) (it:X) (b:S)
 |LJ (i j:Nat) (it:X) (b:S)
 |ret (x:X)|Ka
 |Ft (x:X)
 |Kb (x:X) (h:S)
 |Kc (i:Nat) (x:X) (h:S)
structure FP where
 nx:D7->AH->Prop
 rt:AV->AH->Prop
def wt(d:Nat)(q:Bool)(Xp:AH->Prop)(t:Tg)(v:AV)(K:D7->AH->Prop)(m:D7)(σ:AH):Prop:=
 match t with
 | .var i=>K (m.set i (some v)) σ
 | .attr a C i=>(ev d q a Xp).e m (λo σ=>FG o C i v (K m) σ) σ
 | .item a i=>(ev d q a Xp).e m (λo σ=>(ev d q i Xp).e m (λk σ=>K5 o k v (K m) σ) σ) σ
 | .key a j i=>(ev d q a Xp).e m (λo σ=>HZ o j i v (K m) σ) σ
def LK(d:Nat)(q:Bool)(Xp:AH->Prop):List Tg->List AV->(D7->AH->Prop)->D7->AH->Prop
 |[],[],K,m,σ=>K m σ
 |t::j,v::vs,K,m,σ=>wt d q Xp t v (λm σ=>LK d q Xp j vs K m σ) m σ
 |_,_,_,_,_=>False
def itemsT(σ:AH)(v:AV):Option (List AV):=
 match v with
 | .ref a=>match σ a with
  |some (.tup xs)=>some xs
  |some (.list xs)=>some xs
  |_=>none
 |_=>none
def itemsL(σ:AH)(v:AV):Option (List AV):=
 match v with
 | .ref a=>match σ a with
  |some (.list xs)=>some xs
  |_=>none
 |_=>none
def notRef:AV->Prop
 | .ref _=>False
 |_=>True
def isStr:AV->Prop
 | .str _=>True
 |_=>False
def ws(d:Nat)(Xp:AH->Prop):S->Bool->FP->D7->AH->Prop
 | .nil,q,Q,m,σ=>Q.nx m σ
 | .cons a r,q,Q,m,σ=>ws d Xp a q ⟨λm σ=>ws d Xp r q Q m σ,Q.rt⟩ m σ
 | .set t x,q,Q,m,σ=>(ev d q x Xp).e m (λv σ=>wt d q Xp t v Q.nx m σ) σ
 | .sets E x,q,Q,m,σ=>q=true/\(ev d q x Xp).e m (λv σ=>Ej (itemsT σ v) λvs=>vs.length=E.length/\LK d q Xp E vs Q.nx m σ) σ
 | .HH G x,q,Q,m,σ=>q=true/\(ev d q x Xp).e m (λv σ=>Ej (itemsT σ v) λvs=>vs.length=G.length/\LK d q Xp (G.map .var) vs Q.nx m σ) σ
 | .JO i A j B cond,q,Q,m,σ=>q=true/\(ev d q (.comp A j B cond) Xp).e m (λv σ=>Q.nx (m.set i (some v)) σ) σ
 | .HQ i A H C J D cond,q,Q,m,σ=>q=true/\(ev d q (.GV A H C J D cond) Xp).e m (λv σ=>Q.nx (m.set i (some v)) σ) σ
 | .ex x,q,Q,m,σ=>(ev d q x Xp).e m (λv σ=>notRef v/\Q.nx m σ) σ
 | .ite t a b,q,Q,m,σ=>(ev d q t Xp).t m (λr σ=>if r then ws d Xp a q Q m σ else ws d Xp b q Q m σ) σ
 | .wh t b,q,Q,m,σ=>∃I:Nat->D7->AH->Prop,(∃n,I n m σ)/\∀n m σ,I n m σ->
   (ev d q t Xp).t m (λr σ=>if r then ws d Xp b q ⟨λm σ=>∃k,k<n/\I k m σ,Q.rt⟩ m σ else Q.nx m σ) σ
 | .fo i B b,q,Q,m,σ=>q=true/\(ev d q B Xp).e m (λv σ=>Ej (items σ v) λxs=>∃I:Nat->D7->AH->Prop,I 0 m σ/\
   (∀k m w,I k m w->same σ w v/\(k=xs.length->Q.nx m w)/\∀y,xs[k]? =some y->ws d Xp b q ⟨λm σ=>I (k+1) m σ,Q.rt⟩ (m.set i (some y)) w)) σ
 | .LJ i j B b,q,Q,m,σ=>q=true/\(ev d q B Xp).e m (λv σ=>Ej (itemsL σ v) λxs=>∃I:Nat->D7->AH->Prop,I 0 m σ/\
   (∀k m w,I k m w->same σ w v/\(k=xs.length->Q.nx m w)/\∀y,xs[k]? =some y->Ej (itemsT w y) λvs=>vs.length=2/\LK d q Xp [.var i,.var j] vs (λm σ=>ws d Xp b q ⟨λm σ=>I (k+1) m σ,Q.rt⟩ m σ) m w)) σ
 | .ret x,q,Q,m,σ=>(ev d q x Xp).e m Q.rt σ
 | .Ka,q,Q,m,σ=>Q.rt .none σ
 | .Ft x,q,Q,m,σ=>q=true/\1<=d/\(ev d q x Xp).e m (λv σ=>isStr v/\Xp σ) σ
 | .Kb x h,q,Q,m,σ=>q=true/\(ev d q x (λσ=>ws d Xp h false Q m σ)).e m Q.rt σ
 | .Kc i x h,q,Q,m,σ=>q=true/\(ev d q x (λσ=>ws d Xp h false Q m σ)).e m (λv σ=>Q.nx (m.set i (some v)) σ) σ
set_option genInjectivity false in
set_option genSizeOf false in
structure SD where
 t:Nat
 es:List Expr
 a:Expr
 b:Expr
 x:List Stmt
 y:List Stmt
 z:List Stmt
 l:Option Expr
 h:Option Expr
 hs:List ExceptHandler
 p:Pos
def g0:SD:=⟨0,[],e0,e0,[],[],[],none,none,[],p0⟩
def Er:Stmt->SD
 | .Assign es a p=>{g0 with t:=1,es:=es,a:=a,p:=p}
 | .Expr a p=>{g0 with t:=2,a:=a,p:=p}
 | .If a x y p=>{g0 with t:=3,a:=a,x:=x,y:=y,p:=p}
 | .While a x y p=>{g0 with t:=4,a:=a,x:=x,y:=y,p:=p}
 | .For a b x y p=>{g0 with t:=5,a:=a,b:=b,x:=x,y:=y,p:=p}
 | .Return l p=>{g0 with t:=6,l:=l,p:=p}
 | .Raise l h p=>{g0 with t:=7,l:=l,h:=h,p:=p}
 | .Try x hs y z p=>{g0 with t:=8,x:=x,hs:=hs,y:=y,z:=z,p:=p}
 |_=>g0
def Mj(d:SD)(n:Nat):Stmt:=([.Pass p0,.Assign d.es d.a d.p,.Expr d.a d.p,.If d.a d.x d.y d.p,.While d.a d.x d.y d.p,.For d.a d.b d.x d.y d.p,.Return d.l d.p,.Raise d.l d.h d.p,.Try d.x d.hs d.y d.z d.p]:List Stmt)[n]?.getD (.Pass p0)
theorem Kd(e:Stmt):(Er e).t=0\/e=Mj (Er e) (Er e).t:=by
 cases e<;>first|exact .inr rfl|exact .inl rfl
theorem DF(h:(Er e).t=n+1):e=Mj (Er e) (n+1):=
 (Kd e).elim (λq=>Nat.noConfusion (q.symm.trans h)) λq=>h▸q
def Lj(e:Stmt)(n:Nat)(b:Bool):Bool:=Nat.beq (Er e).t n&&b
theorem di(h:Lj e (n+1) b=true):e=Mj (Er e) (n+1)/\b=true:=
 ⟨DF (Nat.eq_of_beq_eq_true (SU.mp h).1),(SU.mp h).2⟩
@[irreducible] def EM(f:List Expr->Expr->Pos->Bool)(e:Stmt):Bool:=Lj e 1 (f (Er e).es (Er e).a (Er e).p)
theorem ri(h:EM f e=true):∃es a p,e=.Assign es a p/\f es a p=true:=by
 unfold EM at h;exact⟨_,_,_,(di h).1,(di h).2⟩
@[elab_as_elim] theorem dT{motive:Stmt->Prop}(j:EM f e=true)(m:∀es a p,f es a p=true->motive (.Assign es a p)):motive e:=by
 obtain⟨es,a,p,rfl,q⟩:=ri j;exact m es a p q
@[irreducible] def Hg(f:Expr->Pos->Bool)(e:Stmt):Bool:=Lj e 2 (f (Er e).a (Er e).p)
theorem sH(h:Hg f e=true):∃a p,e=.Expr a p/\f a p=true:=by
 unfold Hg at h;exact⟨_,_,(di h).1,(di h).2⟩
@[elab_as_elim] theorem tv{motive:Stmt->Prop}(j:Hg f e=true)(m:∀a p,f a p=true->motive (.Expr a p)):motive e:=by
 obtain⟨a,p,rfl,q⟩:=sH j;exact m a p q
@[irreducible] def isIf(f:Expr->List Stmt->List Stmt->Bool)(e:Stmt):Bool:=Lj e 3 (f (Er e).a (Er e).x (Er e).y)
theorem Bf(h:isIf f e=true):∃a x y p,e=.If a x y p/\f a x y=true:=by
 unfold isIf at h;exact⟨_,_,_,_,(di h).1,(di h).2⟩
@[elab_as_elim] theorem zF{motive:Stmt->Prop}(j:isIf f e=true)(m:∀a x y p,f a x y=true->motive (.If a x y p)):motive e:=by
 obtain⟨a,x,y,p,rfl,q⟩:=Bf j;exact m a x y p q
@[irreducible] def Hh(f:Expr->List Stmt->List Stmt->Bool)(e:Stmt):Bool:=Lj e 4 (f (Er e).a (Er e).x (Er e).y)
theorem sQ(h:Hh f e=true):∃a x y p,e=.While a x y p/\f a x y=true:=by
 unfold Hh at h;exact⟨_,_,_,_,(di h).1,(di h).2⟩
@[elab_as_elim] theorem sU{motive:Stmt->Prop}(j:Hh f e=true)(m:∀a x y p,f a x y=true->motive (.While a x y p)):motive e:=by
 obtain⟨a,x,y,p,rfl,q⟩:=sQ j;exact m a x y p q
@[irreducible] def IG(f:Expr->Expr->List Stmt->List Stmt->Bool)(e:Stmt):Bool:=Lj e 5 (f (Er e).a (Er e).b (Er e).x (Er e).y)
theorem yz(h:IG f e=true):∃a b x y p,e=.For a b x y p/\f a b x y=true:=by
 unfold IG at h;exact⟨_,_,_,_,_,(di h).1,(di h).2⟩
@[elab_as_elim] theorem qg{motive:Stmt->Prop}(j:IG f e=true)(m:∀a b x y p,f a b x y=true->motive (.For a b x y p)):motive e:=by
 obtain⟨a,b,x,y,p,rfl,q⟩:=yz j;exact m a b x y p q
@[irreducible] def Fg(f:Option Expr->Bool)(e:Stmt):Bool:=Lj e 6 (f (Er e).l)
theorem rM(h:Fg f e=true):∃l p,e=.Return l p/\f l=true:=by
 unfold Fg at h;exact⟨_,_,(di h).1,(di h).2⟩
@[elab_as_elim] theorem gT{motive:Stmt->Prop}(j:Fg f e=true)(m:∀l p,f l=true->motive (.Return l p)):motive e:=by
 obtain⟨l,p,rfl,q⟩:=rM j;exact m l p q
@[irreducible] def Hi(f:Option Expr->Option Expr->Bool)(e:Stmt):Bool:=Lj e 7 (f (Er e).l (Er e).h)
theorem t9(h:Hi f e=true):∃l h p,e=.Raise l h p/\f l h=true:=by
 unfold Hi at h;exact⟨_,_,_,(di h).1,(di h).2⟩
@[elab_as_elim] theorem sD{motive:Stmt->Prop}(j:Hi f e=true)(m:∀l h p,f l h=true->motive (.Raise l h p)):motive e:=by
 obtain⟨l,h,p,rfl,q⟩:=t9 j;exact m l h p q
@[irreducible] def IH(f:List Stmt->List ExceptHandler->List Stmt->List Stmt->Bool)(e:Stmt):Bool:=Lj e 8 (f (Er e).x (Er e).hs (Er e).y (Er e).z)
theorem xR(h:IH f e=true):∃x hs y z p,e=.Try x hs y z p/\f x hs y z=true:=by
 unfold IH at h;exact⟨_,_,_,_,_,(di h).1,(di h).2⟩
@[elab_as_elim] theorem qo{motive:Stmt->Prop}(j:IH f e=true)(m:∀x hs y z p,f x hs y z=true->motive (.Try x hs y z p)):motive e:=by
 obtain⟨x,hs,y,z,p,rfl,q⟩:=xR j;exact m x hs y z p q
@[irreducible] def isName(f:Str->Bool)(e:Expr):Bool:=EU e λx j=>f x
theorem uh(h:isName f e=true):∃x p,e=.Name x p/\f x=true:=by
 unfold isName at h;exact d3 h
@[elab_as_elim] theorem eC{motive:Expr->Prop}(j:isName f e=true)(m:∀x p,f x=true->motive (.Name x p)):motive e:=by
 obtain⟨x,p,rfl,q⟩:=uh j;exact m x p q
@[irreducible] def H'(f:Expr->Str->Bool)(e:Expr):Bool:=Fq e λa n j=>f a n
theorem uw(h:H' f e=true):∃a n p,e=.Attribute a n p/\f a n=true:=by
 unfold H' at h;exact gP h
@[elab_as_elim] theorem ju{motive:Expr->Prop}(j:H' f e=true)(m:∀a n p,f a n=true->motive (.Attribute a n p)):motive e:=by
 obtain⟨a,n,p,rfl,q⟩:=uw j;exact m a n p q
@[irreducible] def Hs(f:Expr->Expr->Bool)(e:Expr):Bool:=Gn e f
theorem vq(h:Hs f e=true):∃a i p,e=.Subscript a i p/\f a i=true:=by
 unfold Hs at h;exact pW h
@[elab_as_elim] theorem ew{motive:Expr->Prop}(j:Hs f e=true)(m:∀a i p,f a i=true->motive (.Subscript a i p)):motive e:=by
 obtain⟨a,i,p,rfl,q⟩:=vq j;exact m a i p q
@[irreducible] def FU(f:List Expr->Bool)(e:Expr):Bool:=GW e f
theorem tC(h:FU f e=true):∃es k p,e=.Tuple es k p/\f es=true:=by
 unfold FU at h;exact lb h
@[elab_as_elim] theorem i0{motive:Expr->Prop}(j:FU f e=true)(m:∀es k p,f es=true->motive (.Tuple es k p)):motive e:=by
 obtain⟨es,k,p,rfl,q⟩:=tC j;exact m es k p q
def isSlice(e:Expr):Bool:=Nat.beq (data e).t 11
def Jd(f:Str->Bool)(e:Expr):Bool:=onStr e f
theorem uR(h:Jd f e=true):∃x k p,e=.Constant (.str x) k p/\f x=true:=pU h
@[elab_as_elim] theorem vS{motive:Expr->Prop}(j:Jd f e=true)(m:∀x k p,f x=true->motive (.Constant (.str x) k p)):motive e:=by
 obtain⟨x,k,p,rfl,q⟩:=uR j;exact m x k p q
@[irreducible] def asName(f:Str->Pos->Bool)(e:Expr):Bool:=EU e f
theorem uE(h:asName f e=true):∃x p,e=.Name x p/\f x p=true:=by
 unfold asName at h;exact d3 h
@[elab_as_elim] theorem nN{motive:Expr->Prop}(j:asName f e=true)(m:∀x p,f x p=true->motive (.Name x p)):motive e:=by
 obtain⟨x,p,rfl,q⟩:=uE j;exact m x p q
def FV(e:Expr):Bool:= !(Nat.beq (data e).t 14)&&(!(Nat.beq (data e).t 15)&& !(Nat.beq (data e).t 21))
def G6(ks:Ks)(T:Tab)(i:Nat)(x:Str):Bool:=
 decide (T.lookup i=some (x,true))&&(decide (ks.lookup x=some .local)||decide (ks.lookup x=some .cell))
def Ml(t:Tg)(ks:Ks)(T:Tab)(e:Expr):Bool:=
 match t with
 | .var i=>isName (G6 ks T i) e
 | .attr a C i=>H' (λo n=>(ck a).e ks T o&&decide ((attrTab C)[i]? =some n)) e
 | .item a i=>Hs (λo k=>(ck a).e ks T o&&(ck i).e ks T k&& !(isSlice k)) e
 | .key a j i=>Hs (λo k=>(ck a).e ks T o&&Jd (λx=>decide ((EC j)[i]? =some x)) k) e
def HI(ks:Ks)(T:Tab):List Tg->List Expr->Bool
 |[],[]=>true
 |t::j,e::es=>Ml t ks T e&&HI ks T j es
 |_,_=>false
def MS(q:Str->Option NameKind)(m:List Expr):List Str:=
 m.filterMap λe=>swappedStores.match_8 (λj=>Option Str) e (λid pos=>if q id==some .local&&pos.line==(m.head?.map (·.pos.line)).getD 0 then some id else none) λj=>none
def ET(ks:Ks)(j:List Expr):List Str:=MS (λx=>ks.lookup x) j
def isStar(e:Expr):Bool:=swappedStores.match_5 (λj=>Bool) e (λj j=>true) λj=>false
def Ke(j:List Expr)(ks:Ks)(e:Expr):Bool:= !(Nat.beq (data e).t 7)||((!(j.length==2||j.length==3))||(ET ks j).length !=j.length)
@[irreducible] def II(j:List Expr)(names:List Str)(e:Expr):Bool:=GW e λvs=>
 (j.length==2||j.length==3)&&vs.length==j.length&& !(vs.any isStar)&&names.length==j.length&&names.eraseDups.length==names.length&& !(vs.all (foldedForSure 8))&& !(vs.all (constantsAlone 8))
theorem qC(h:II j names e=true):∃vs k p,e=.Tuple vs k p/\((j.length==2||j.length==3)&&vs.length==j.length&& !(vs.any isStar)&&names.length==j.length&&names.eraseDups.length==names.length&& !(vs.all (foldedForSure 8))&& !(vs.all (constantsAlone 8)))=true:=by
 unfold II at h;exact lb h
@[elab_as_elim] theorem yp{motive:Expr->Prop}(m:II j names e=true)(r:∀vs k p,((j.length==2||j.length==3)&&vs.length==j.length&& !(vs.any isStar)&&names.length==j.length&&names.eraseDups.length==names.length&& !(vs.all (foldedForSure 8))&& !(vs.all (constantsAlone 8)))=true->motive (.Tuple vs k p)):motive e:=by
 obtain⟨vs,k,p,rfl,q⟩:=qC m;exact r vs k p q
def Kg(ks:Ks)(T:Tab):List Nat->List Str->Bool
 |[],[]=>true
 |i::j,x::xs=>decide (T.lookup i=some (x,true))&&decide (ks.lookup x=some .local)&&Kg ks T j xs
 |_,_=>false
def Je(e:Expr):Bool:= !(Nat.beq (data e).t 3)
def Jf(x:Str)(j:Pos)(e:Expr):Bool:=Nat.beq (data e).t 14&&(j.line==(data e).p.line&& !((data e).sc.names.any λ(n,k)=>n==x&&(k==.local||k==.cell)))
def QT(ks:Ks)(f:List Stmt->Bool):ExceptHandler->Bool
 | .ExceptHandler m q b _=>Le false (λe=>EU e λx j=>decide (x="LimitFault")&&IW ks x) m&&(q.isNone&&(!b.isEmpty&&f b))
@[irreducible] def Lk(ks:Ks)(f:List Stmt->Bool)(l:List ExceptHandler):Bool:=one (QT ks f) l
@[irreducible] def IJ(ks:Ks)(f:Expr->Bool)(o:Option Expr):Bool:=Le false (λe=>Iy e λx j args kw=>kw.isEmpty&&(decide (x="LimitFault")&&(IW ks x&&one f args))) o
structure P1 where
 s:Ks->Tab->Stmt->Bool
 l:Ks->Tab->List Stmt->Bool
def Jg(f:Ks->Tab->Stmt->Bool):P1:=⟨f,λj j j=>false⟩
def F2:S->P1
 | .nil=>⟨λm m m=>false,λm m l=>l.isEmpty⟩
 | .cons a r=>⟨λm m m=>false,λks T l=>match l with|[]=>false|st::l=>(F2 a).s ks T st&&(F2 r).l ks T l⟩
 | .set t x=>Jg λks T=>EM λq v m=>one (λe=>Ml t ks T e&&(FV v||Je e||isName (λy=> !(ks.lookup y==some .local)) e)) q&&(ck x).e ks T v
 | .sets G x=>Jg λks T=>EM λq v m=>one (FU λes=>HI ks T G es&&Ke es ks v) q&&(ck x).e ks T v
 | .HH E x=>Jg λks T=>EM λq v m=>decide E.Nodup&&one (FU λes=>Kg ks T E (ET ks es)&&II es (ET ks es) v) q&&(ck x).e ks T v
 | .JO i w j A cond=>Jg λks T=>EM λq v pos=>one (asName λy B=>G6 ks T i y&&decide (ks.lookup y=some .local)&&Jf y B v) q&&(ck (.comp w j A cond)).e ks T v
 | .HQ i w H C I D cond=>Jg λks T=>EM λq v pos=>one (asName λy B=>G6 ks T i y&&decide (ks.lookup y=some .local)&&Jf y B v) q&&(ck (.GV w H C I D cond)).e ks T v
 | .ex x=>Jg λks T=>Hg λv m=>FV v&&(ck x).e ks T v
 | .ite t a b=>Jg λks T=>isIf λc x y=>(ck t).e ks T c&&(F2 a).l ks T x&&(F2 b).l ks T y
 | .wh t b=>Jg λks T=>Hh λc x y=>(ck t).e ks T c&&(F2 b).l ks T x&&y.isEmpty
 | .fo i A b=>Jg λks T=>IG λt e x y=>isName (G6 ks T i) t&&ES e&&(ck A).e ks T e&&(F2 b).l ks T x&&y.isEmpty
 | .LJ i j A b=>Jg λks T=>IG λt e x y=>FU (λes=>HI ks T [.var i,.var j] es) t&&ES e&&(ck A).e ks T e&&(F2 b).l ks T x&&y.isEmpty
 | .ret x=>Jg λks T=>Fg λv=>Le false ((ck x).e ks T) v
 | .Ka=>Jg λks T=>Fg λv=>v.isNone
 | .Ft x=>Jg λks T=>Hi λv cs=>IJ ks ((ck x).e ks T) v&&cs.isNone
 | .Kb x h=>Jg λks T=>IH λb hs o g=>one (Fg λv=>Le false ((ck x).e ks T) v) b&&Lk ks ((F2 h).l ks T) hs&&o.isEmpty&&g.isEmpty
 | .Kc i x h=>Jg λks T=>IH λb hs o g=>one (EM λq v m=>FV v&&one (Ml (.var i) ks T) q&&(ck x).e ks T v) b&&Lk ks ((F2 h).l ks T) hs&&o.isEmpty&&g.isEmpty
end
def Ey(c:Cx)(ks:Ks)(T:Tab)(b:Addr):Prop:=b=c.L\/∃t∈T,t.2.2=true/\ks.lookup t.2.1=some .cell/\c.D1.cells.lookup t.2.1=some b
structure Hj (c:Cx) (ks:Ks) (T:Tab):Prop where
 loc:c.D1.locals=c.L
 idx:T.Pairwise λs t=>s.1≠t.1/\s.2.1≠t.2.1
 cell:∀b,Ey c ks T b->b≠c.L->c.base.get? b=none/\b∉D2 c
 apart:∀t∈T,t.2.2=true->ks.lookup t.2.1=some .cell->∀b,c.D1.cells.lookup t.2.1=some b->∀y,c.D1.cells.lookup y=some b->y=t.2.1
structure VS (c:Cx) (ks:Ks) (T:Tab) (m:D7) (σ:AH) (h:Heap):Prop where
 vr:Vr c.D1 T m σ h
 free:∀b,Ey c ks T b->σ b=none
 cell:∀t∈T,t.2.2=true->ks.lookup t.2.1=some .cell->∀b,c.D1.cells.lookup t.2.1=some b->∃v,h.IsCell b v
structure Kq (c:Cx) (ks:Ks) (T:Tab) (σ:AH) (s:Shared) (Eb:AH) (s':Shared):Prop where
 keep:∀b ob,Ee σ b=false->s.heap.get? b=some ob->∃P2,s'.heap.get? b=some P2/\(¬Ey c ks T b->∃sl,P2={ob with slots:=sl}/\(b∉D2 c->sl=ob.slots))
 fresh:∀a,Ee Eb a=true->Ee σ a=true\/s.heap.get? a=none
 GR:∀a o,Eb a=some o->σ a≠none\/s.heap.get? a=none
theorem Kp.kq(k:Kp c σ s m q):Kq c ks T σ s m q:=⟨λb ob r e=>(by obtain⟨w,A,h⟩:=k.keep b ob r e;exact⟨_,A,λj=>⟨w,rfl,h⟩⟩),k.fresh,k.GR⟩
theorem Kq.gone(k:Kq c ks T σ s m j):∀a,j.heap.get? a=none->Ee σ a=true\/s.heap.get? a=none:=λa h=>by
 cases r:Ee σ a with
 |true=>exact .inl rfl
 |false=>
  right
  cases q:s.heap.get? a with
  |none=>rfl
  |some ob=>obtain⟨w,e,_⟩:=k.keep a ob r q;rw[h]at e;cases e
theorem Kq.trans(x:Kq c ks T σ s j m)(y:Kq c ks T j m r G):Kq c ks T σ s r G:=by
 refine⟨λb ob C e=>?_,λa h=>?_,λa o h=>?_⟩
 ·obtain⟨H,e1,I⟩:=x.keep b ob C e
  have w:Ee j b=false:=by
   cases q:Ee j b with
   |false=>rfl
   |true=>
    rcases x.fresh b q with h|h
    ·rw[C]at h;cases h
    ·rw[h]at e;cases e
  obtain⟨A,J,M⟩:=y.keep b _ w e1
  refine⟨A,J,λD=>?_⟩
  obtain⟨N,rfl,O⟩:=I D
  obtain⟨B,rfl,Q⟩:=M D
  exact⟨B,rfl,λE=>(Q E).trans (O E)⟩
 ·rcases y.fresh a h with h|h
  ·exact x.fresh a h
  ·exact x.gone a h
 ·rcases y.GR a o h with h|h
  ·cases q:j a with
   |none=>exact absurd q h
   |some o'=>exact x.GR a o' q
  ·rcases x.gone a h with h|h
   ·left;intro q;unfold Ee at h;rw[q]at h;cases h
   ·exact .inr h
theorem Kq.refl(c:Cx)(ks:Ks)(T:Tab)(σ:AH)(s:Shared):Kq c ks T σ s σ s:=(Kp.refl c σ s).kq
theorem d7(L:w' prog w c σ s)(B:Hj c ks T)(v:VS c ks T m σ s.heap)(h:Ey c ks T b):∃o,s.heap.get? b=some o:=by
 rcases h with rfl|⟨t,ht,j,q,r⟩
 ·obtain⟨C,A⟩:=L.ns;exact iF A
 ·obtain⟨u,o,e,_⟩:=v.cell t ht j q b r;exact⟨o,e⟩
theorem VS.kept(v:VS c ks T m σ s.heap)(L:w' prog w c σ s)(D:Hj c ks T)(k:Kp c σ s j E):VS c ks T m j E.heap:=by
 refine⟨v.vr.kept k,λb r=>?_,λt ht A B b C=>?_⟩
 ·cases q:j b with
  |none=>rfl
  |some o=>
   obtain⟨ob,e⟩:=d7 L D v r
   rcases k.GR b o q with h|h
   ·exact absurd (v.free b r) h
   ·rw[h]at e;cases e
 ·obtain⟨u,G⟩:=v.cell t ht A B b C
  exact⟨u,nV k (cj (v.free b (.inr ⟨t,ht,A,B,C⟩))) G⟩
inductive Kh (prog:Program) (w:World) (c:Cx) (ks:Ks) (T:Tab) (σ:AH) (s:Shared) (K:D7->AH->Prop) (_:Unit) (s':Shared):Prop
 |mk (Eb:AH) (m':D7) (h0:w' prog w c Eb s') (h1:Kq c ks T σ s Eb s') (h2:VS c ks T m' Eb s'.heap) (h3:K m' Eb)
inductive N3 (prog:Program) (w:World) (c:Cx) (ks:Ks) (T:Tab) (σ:AH) (s:Shared) (R:EO) (v:Value) (s':Shared):Prop
 |mk (Eb:AH) (h0:w' prog w c Eb s') (h1:Kq c ks T σ s Eb s') (h2:R (av v) Eb)
set_option tactic.hygienic true in
def EI(prog:Program)(w:World)(c:Cx)(ks:Ks)(T:Tab)(σ:AH)(s:Shared)(Q:FP):Flow->Shared->Prop
 | .next,j=>Kh prog w c ks T σ s Q.nx () j
 | .ret v,j=>N3 prog w c ks T σ s Q.rt v j
 |_,_=>False
inductive FC (prog:Program) (w:World) (c:Cx) (ks:Ks) (T:Tab) (X:AH->Prop) (σ:AH) (s:Shared) (e:Value) (s':Shared):Prop
 |mk (Ki:AH) (IK:Shared) (h0:w' prog w c Ki IK) (h1:Kq c ks T σ s Ki IK) (h2:EX prog w c X Ki IK e s')
theorem FC.trans(k:Kq c ks T σ s j q)(h:FC prog w c ks T Xp j q e A):FC prog w c ks T Xp σ s e A:=(by obtain⟨m,r,L,B,x⟩:=h;exact⟨m,r,L,k.trans B,x⟩)
set_option tactic.hygienic true in
theorem EI.trans(k:Kq c ks T σ s j q)(h:EI prog w c ks T j q Q f r):EI prog w c ks T σ s Q f r:=by
 cases f with
 |next=>obtain⟨m,A,L,K,V,h⟩:=h;exact⟨m,A,L,k.trans K,V,h⟩
 |ret v=>obtain⟨m,L,K,h⟩:=h;exact⟨m,L,k.trans K,h⟩
 |_=>exact h
theorem KX(E:(ck x).e ks T e=true)(he:D' w c A q d c.D1 ks)(N:Hj c ks T)(J:Kq c ks T σ s B D)(M:VS c ks T m B D.heap)(L1:w' prog w c B D)(H:(ev d q x Xp).e m Q B)(k:∀v r C,w' prog w c r C->Kp c B D r C->Kq c ks T σ s r C->VS c ks T m r C.heap->Q (av v) r->G v C):
  wpAny (model prog w) A (eval e c.D1) G (FC prog w c ks T Xp σ s) D:=
 Sz ((sound x).e.at E he L1 (.refl ..) M.vr L1 H λv r C O I j h=>k v r C O I (J.trans I.kq) (M.kept L1 N I) h) (λj j y=>y) λU Y y=>⟨B,D,L1,J,y⟩
theorem P4(E:(ck x).e ks T e=true)(he:D' w c A q d c.D1 ks)(N:Hj c ks T)(I:Kq c ks T σ s C D)(J:VS c ks T m C D.heap)(L1:w' prog w c C D)(H:(ev d q x Xp).t m Q C)(k:∀v r B,w' prog w c r B->Kq c ks T σ s r B->VS c ks T m r B.heap->Q v r->G v B):
  wpAny (model prog w) A (isTrue e c.D1 (eval e c.D1)) G (FC prog w c ks T Xp σ s) D:=
 Sz ((sound x).t.at E he L1 (.refl ..) J.vr L1 H λv r B O M j h=>k v r B O (I.trans M.kq) (J.kept L1 N M) h) (λj j y=>y) λU Y y=>⟨C,D,L1,I,y⟩
theorem vG{h:Heap}(x:h.Ns a q)(y:h.Ns a r)(n:Str):q n=r n:=by
 obtain⟨o,es,E,e1,w,_,A⟩:=x
 obtain⟨o',B,C,j,m,_,D⟩:=y
 rw[e1]at j;cases j;rw[w]at m;cases m
 exact(A n).symm.trans (D n)
theorem og(L:w' prog w c σ s)(Z:Hj c ks T)(v:VS c ks T m σ s.heap)(H:Ey c ks T b)(hs:Heap.SameBut b s.heap h')(Q:∃o,h'.get? b=some o/\∀vs,o.data≠.fields vs)(I:∃mc,h'.Ns c.L mc):
  w' prog w c σ {s with heap:=h',toks:=tk}/\Kq c ks T σ s σ {s with heap:=h',toks:=tk}:=by
 have J:=v.free b H
 have nf:∀r o,σ r=some o->b∉foot r o:=λr o e A=>by
  have h1:b=r\/∃C E,o=.inst C b E:=by
   cases o with
   |inst C dx E=>
    simp[foot]at A
    rcases A with h|h
    ·exact .inl h
    ·exact .inr ⟨C,E,by rw[h]⟩
   |_=>simp[foot]at A;exact .inl A
  rcases h1 with rfl|⟨C,E,rfl⟩
  ·rw[J]at e;cases e
  ·rw[L.parts _ _ _ _ e]at J;cases J
 have bn:c.base.get? b=none:=by
  by_cases q:b=c.L
  ·subst q;exact(L.frames.mem L.Gz).1
  ·exact(Z.cell b H q).1
 refine⟨⟨L.ok,λr o e=>?_,?_,I,λa o e=>(L.own a o e).congr λr M=>hs.2 r (λq=>nf a o e (q▸M)),L.parts,L.apart,L.off,L.gens,L.os⟩,⟨λr ob A e=>?_,λa h=> .inl h,λa o h=> .inl (by rw[h];simp)⟩⟩
 ·exact(hs.2 r (λq=>by rw[q,bn]at e;cases e)).trans (L.stays r o e)
 ·have go:∀l:List Env,s.heap.FunFrames c.base l->h'.FunFrames c.base l:=by
   intro l
   induction l with
   |nil=>exact λj=>trivial
   |cons env U ih=>
    rintro⟨hk,⟨G,o,Y,B,ho,N⟩,hr⟩
    refine⟨hk,?_,ih hr⟩
    by_cases q:G=b
    ·subst q;obtain⟨o',O,D⟩:=Q;exact⟨G,o',Y,B,O,D⟩
    ·exact⟨G,o,Y,B,(hs.2 G q).trans ho,N⟩
  exact go _ L.frames
 ·by_cases q:r=b
  ·subst q;obtain⟨o',O,_⟩:=Q;exact⟨o',O,λI=>absurd H I⟩
  ·exact⟨ob,(hs.2 r q).trans e,λj=>⟨ob.slots,rfl,λj=>rfl⟩⟩
theorem pJ:∀{l:List α},l.Pairwise R->∀{x y:α},x∈l->y∈l->x=y\/R x y\/R y x:=by
 intro l
 induction l with
 |nil=>intro _ x y j;cases j
 |cons z l ih=>
  intro h x y j m
  obtain⟨q,w⟩:=Uc.mp h
  rcases SH.mp j with e|j<;>rcases SH.mp m with r|m
  ·exact .inl (e.trans r.symm)
  ·exact .inr (.inl (e▸q _ m))
  ·exact .inr (.inr (r▸q _ j))
  ·exact ih w j m
theorem mr(j:Hj c ks T){s t:Nat×Str×Bool}(hs:s∈T)(ht:t∈T)(h:s.1=t.1\/s.2.1=t.2.1):s=t:=by
 rcases pJ j.idx hs ht with e|e|e
 ·exact e
 ·rcases h with h|h
  ·exact absurd h e.1
  ·exact absurd h e.2
 ·rcases h with h|h
  ·exact absurd h.symm e.1
  ·exact absurd h.symm e.2
theorem GK{i:Nat}(aa:G6 ks T i x=true)(he:D' w c A q d c.D1 ks)(C:Hj c ks T)(vs:VS c ks T m σ s.heap)(L:w' prog w c σ s)(k:∀s',w' prog w c σ s'->Kq c ks T σ s σ s'->VS c ks T (m.set i (some (av v))) σ s'.heap->Q () s'):wpAny (model prog w) A (storeName c.D1 x v) Q E s:=by
 unfold G6 at aa
 simp only[SF,UB,decide_eq_true_eq]at aa
 obtain⟨hT,U⟩:=aa
 have j:(i,x,true)∈T:=lB hT
 rcases U with U|U
 ·have M:c.D1.kindOf x=some .local:=(he.kindOf x).trans U
  obtain⟨mc,B⟩:=L.ns
  have ag:s.heap.Ns c.D1.locals mc:=C.loc▸B
  refine wpAny_storeName_local M ag (λh' I r=>?_) (by show(c.D1.scope.kind==.class||(c.D1.scope.kind==.module&&_))=false;rw[he.kind];rfl)
  rw[C.loc]at I r
  have N:Ey c ks T c.L:=.inl rfl
  obtain⟨L',k'⟩:=og (tk:=s.toks+1) L C vs N r (by obtain⟨o,es,ep,ho,hd,_⟩:=I;exact⟨o,ho,λws q=>by rw[hd]at q;cases q⟩) ⟨_,I⟩
  refine k _ L' k' ⟨⟨by rw[C.loc];exact cj (vs.free _ N),⟨_,C.loc▸I⟩,λt ht u J=>?_⟩,vs.free,λt ht h1 h2 b h3=>?_⟩
  ·by_cases qi:t.1=i
   ·have:=mr C ht j (.inl qi)
    subst this
    rw[dQ J]
    exact .loc M _ v (C.loc▸I) (by simp) rfl
   ·rw[eb qi]at J
    have ab:t.2.1≠x:=λq=>qi (by rw[mr C ht j (.inr q)])
    cases vs.vr.var t ht u J with
    |loc G ai u2 O D H=>
     rw[C.loc]at O
     have:=vG O B t.2.1
     exact .loc G _ u2 (C.loc▸I) (by simp only[if_neg ab];rw[<-this];exact D) H
    |cell G a u2 Y D H ac=>
     refine .cell G a u2 Y (D.sameBut r λq=>?_) H ac
     subst q
     obtain⟨o,e1,e2⟩:=D
     obtain⟨o',es,ep,Z,e4,_⟩:=B
     rw[e1]at Z;cases Z;rw[e2]at e4;cases e4
  ·obtain⟨u,J⟩:=vs.cell t ht h1 h2 b h3
   refine⟨u,J.sameBut r λq=>?_⟩
   subst q
   obtain⟨o,e1,e2⟩:=J
   obtain⟨o',es,ep,Z,e4,_⟩:=B
   rw[e1]at Z;cases Z;rw[e2]at e4;cases e4
 ·have M:c.D1.kindOf x=some .cell:=(he.kindOf x).trans U
  obtain⟨a,ha⟩:=he.cells x (by rw[U];rfl)
  obtain⟨u0,ah⟩:=vs.cell _ j rfl U a ha
  have N:Ey c ks T a:=.inr ⟨_,j,rfl,U,ha⟩
  refine wpAny_storeName_cell he.kind M ha ah λh' ae r=>?_
  have af:c.L≠a:=λq=>by
   obtain⟨mc,B⟩:=L.ns
   subst q
   obtain⟨o,e1,e2⟩:=ah
   obtain⟨o',es,ep,Z,e4,_⟩:=B
   rw[e1]at Z;cases Z;rw[e2]at e4;cases e4
  obtain⟨L',k'⟩:=og (tk:=s.toks) L C vs N r (by obtain⟨o,e1,e2⟩:=ae;exact⟨o,e1,λws q=>by rw[e2]at q;cases q⟩) (by obtain⟨mc,B⟩:=L.ns;exact⟨mc,B.sameBut r af⟩)
  refine k _ L' k' ⟨⟨vs.vr.loc,(by obtain⟨mc,B⟩:=L.ns;rw[C.loc];exact⟨mc,B.sameBut r af⟩),λt ht u J=>?_⟩,vs.free,λt ht h1 h2 b h3=>?_⟩
  ·by_cases qi:t.1=i
   ·have:=mr C ht j (.inl qi)
    subst this
    rw[dQ J]
    exact .cell (.inl M) a v ha ae rfl (cj (vs.free a N))
   ·rw[eb qi]at J
    have ab:t.2.1≠x:=λq=>qi (by rw[mr C ht j (.inr q)])
    cases vs.vr.var t ht u J with
    |loc G ai u2 O D H=>
     rw[C.loc]at O
     exact .loc G _ u2 (C.loc▸O.sameBut r af) D H
    |cell G a2 u2 Y D H ac=>
     exact .cell G a2 u2 Y (D.sameBut r λq=>ab (C.apart _ j rfl U a ha _ (q▸Y))) H ac
  ·by_cases qa:b=a
   ·subst qa;exact⟨_,ae⟩
   ·obtain⟨u,J⟩:=vs.cell t ht h1 h2 b h3
    exact⟨u,J.sameBut r qa⟩
section
section
variable {c:Cx}
theorem IB{K:D7->AH->Prop}(H:Ml t ks T e=true)(he:D' w c A q d c.D1 ks)(I:Hj c ks T)(k0:Kq c ks T σ s r D)(vs:VS c ks T m r D.heap)(L:w' prog w c r D)(h:wt d q Xp t (av v) K m r):wpAny (model prog w) A (assign e c.D1 v) (Kh prog w c ks T σ s K) (FC prog w c ks T Xp σ s) D:=by
 cases t with
 |var i=>
  refine eC H λx p B=>?_
  exact wpAny_assign_Name (GK B he I vs L λs' L' k' v'=>⟨r,_,L',k0.trans k',v',h⟩)
 |attr a C i=>
  refine ju H λo n p B=>?_
  simp only[SF,decide_eq_true_eq]at B
  rw[arm_assign_Attribute]
  refine So (SK (KX B.1 he I k0 vs L h λov E G J k2 Q U Y=>So (wpAny_standAt ?_)))
  refine So (SK (Sz (tM J rfl rfl B.2 Y) (λj s3 Z=>?_) λj j y=>y))
  obtain⟨aa,M,k3,Z⟩:=Z
  exact wpAny_release ⟨aa,_,M,Q.trans k3.kq,U.kept J I k3,Z⟩
 |item a i=>
  refine ew H λo ie p B=>?_
  simp only[SF]at B
  rw[arm_assign_Subscript]
  refine So (SK (KX B.1.1 he I k0 vs L h λov E G J k2 Q U Y=>?_))
  refine So (SK (KX B.1.2 he I Q U J Y λiv aa s3 M k3 ab v3 Z=>So (wpAny_standAt ?_)))
  refine So (SK (Sz (BZ M rfl rfl rfl Z) (λj s4 N=>?_) λj j y=>y))
  obtain⟨O,L4,k4,N⟩:=N
  exact wpAny_release ⟨O,_,L4,ab.trans k4.kq,v3.kept M I k4,N⟩
 |key a ac i=>
  refine ew H λo ie p B=>?_
  simp only[SF]at B
  refine vS B.2 λx kk pk hk=>?_
  rw[arm_assign_Subscript]
  refine So (SK (KX B.1 he I k0 vs L h λov E G J k2 Q U Y=>?_))
  refine So (SK (wpAny_Constant_str (So (wpAny_standAt ?_))))
  obtain⟨M,k3⟩:=cu (tk:=G.toks+1) J
  refine So (SK (Sz (wJ M rfl rfl (of_decide_eq_true hk) Y) (λj s4 N=>?_) λj j y=>y))
  obtain⟨O,L4,k4,N⟩:=N
  exact wpAny_release ⟨O,_,L4,(Q.trans k3.kq).trans k4.kq,(U.kept J I k3).kept M I k4,N⟩
theorem jj(h:HI ks T (t::m) es=true):∃e j,es=e::j/\Ml t ks T e=true/\HI ks T m j=true:=by
 cases es with
 |nil=>exact absurd (show false=true from h) To
 |cons e es=>exact⟨e,es,rfl,SU.mp h⟩
theorem pw(h:Ml t ks T e=true)(es:List Expr):assignEach (e::es) c.D1=(false,assign e c.D1)::assignEach es c.D1:=by
 cases t with
 |var i=>refine eC h λx p j=>?_;rfl
 |attr a C i=>refine ju h λo n p j=>?_;rfl
 |item a i=>refine ew h λo n p j=>?_;rfl
 |key a m i=>refine ew h λo n p j=>?_;rfl
theorem rx(h:Ml t ks T e=true):assignEach [e] c.D1=[(false,assign e c.D1)]:=pw h []
theorem iT(j:List Tg)(es:List Expr)(h:HI ks T j es=true):assignEach es c.D1=es.map λe=>(false,assign e c.D1):=by
 induction j generalizing es with
 |nil=>cases es with
  |nil=>rfl
  |cons e es=>exact absurd (show false=true from h) To
 |cons t j ih=>
  obtain⟨e,es,rfl,m,q⟩:=jj h
  rw[pw m,ih es q];rfl
theorem Mm(D:List Tg):∀(es:List Expr) (vs:List Value) {K:D7->AH->Prop} {r:AH} {B:Shared} {m:D7} (C:HI ks T D es=true) (he:D' w c A q d c.D1 ks) (E:Hj c ks T) (G:Kq c ks T σ s r B) (H:VS c ks T m r B.heap) (L:w' prog w c r B)
  (h:LK d q Xp D (vs.map av) K m r),wpAny (model prog w) A (assignInOrder (es.map λe=>assign e c.D1) vs) (Kh prog w c ks T σ s K) (FC prog w c ks T Xp σ s) B:=by
 induction D with
 |nil=>
  intro es vs K r B m C he E G H L h
  cases es with
  |nil=>cases vs with
   |nil=>exact Sv ⟨r,m,L,G,H,h⟩
   |cons v vs=>exact h.elim
  |cons e es=>exact absurd (show false=true from C) To
 |cons t D ih=>
  intro es vs K r B m C he E G H L h
  obtain⟨e,es,rfl,J,M⟩:=jj C
  cases vs with
  |nil=>exact h.elim
  |cons v vs=>
   exact So (SK (Sz (IB J he E G H L h) (λ_ U ⟨σ2,Y,N,O,Q,I⟩=>ih es vs M he E O Q N I) λj j y=>y))
theorem zi(Y:A.handled=none)(L:w' prog w c σ s)(C:items σ (.ref a)=some xs)(Z:s.heap.get? I=none)(D:a≠I)(n:Nat):
  ∀(i:Nat) (r:Shared) (q:List Value) (Q:List Value->Shared->Prop),w' prog w c σ r->Kp c σ s σ r->Ex σ r.heap I a i->i+n<=xs.length->q.map av=xs.take i->
   (∀vs m,(q++vs).map av=xs.take (i+n)->vs.length=n->w' prog w c σ m->Kp c σ s σ m->Ex σ m.heap I a (i+n)->Q vs m)->wpAny (model prog w) A (draw (.ref I) n) Q E r:=by
 induction n with
 |zero=>exact λi r q Q B G H j J M=>Sv (M [] r (by rw[Vp];exact J) rfl B G H)
 |succ n ih=>
  intro i r q Q B G H aa J M
  show wpAny _ _ (pyNext (.ref I)>>=_) Q E r
  refine So (gB Y B C H D (λv h' tk hv N O=>?_) λh' tk U O=>by omega)
  obtain⟨L1,k1⟩:=dC (tk:=tk) L Z B G O
  refine So (SK (ih (i+1) _ (q++[v]) _ L1 k1 N (by omega) ?_ λvs m h1 h2 h3 h4 h5=>Sv ?_))
  ·rw[SX,J,Ue,hv];simp
  ·refine M (v::vs) m ?_ (by simp[h2]) h3 h4 (by rw[show i+(n+1)=i+1+n by omega];exact h5)
   rw[show i+(n+1)=i+1+n by omega,<-h1];simp
set_option tactic.hygienic true in
theorem wL(h:itemsT σ v=some xs):items σ v=some xs/\∃a,v=.ref a/\(σ a=some (.tup xs)\/σ a=some (.list xs)):=by
 unfold itemsT at h
 split at h<;>try (cases h;done)
 rename_i a
 split at h<;>cases h
 ·rename_i e;exact⟨wW e,a,rfl,.inl e⟩
 ·rename_i e;exact⟨mY e,a,rfl,.inr e⟩
theorem Ht(J:A.handled=none)(L:w' prog w c σ s)(D:itemsT σ (av v)=some xs)(Y:n=xs.length)(k:∀vs m,vs.map av=xs->w' prog w c σ m->Kp c σ s σ m->Q vs m):wpAny (model prog w) A (unpackItems v n none) Q E s:=by
 subst Y
 obtain⟨G,a,H,M⟩:=wL D
 have:=cv H;subst this
 unfold unpackItems
 refine So ?_
 have Z:wpAny (model prog w) A (notIterableAtAll (.ref a)) (λb m=>b=false/\m=s) E s:=by
  unfold notIterableAtAll
  rcases M with e|e
  ·obtain⟨vs,n,e1,_⟩:=L.own _ _ e
   exact So (wpAny_specialOf (T:="tuple") ⟨_,e1,rfl⟩ F.slot_tuple_iter.lookup (Sv ⟨rfl,rfl⟩))
  ·obtain⟨vs,n,e1,_⟩:=L.own _ _ e
   exact So (wpAny_specialOf (T:="list") ⟨_,e1,rfl⟩ F.slot_list_iter.lookup (Sv ⟨rfl,rfl⟩))
 refine Sz Z (λb m ⟨hb,hs⟩=>?_) λj j y=>y
 subst hb
 rw[hs]
 simp only[Up,if_false]
 refine So (SK (iW L G λa' N I r=>?_))
 cases I
 have gr:∀b o,s.heap.get? b=some o->(s.heap.push N).get? b=some o:=λb o e=>Sq _ e
 obtain⟨L1,k1⟩:=ci (tk:=s.toks) (h':=s.heap.push N) L gr
 have B:a≠s.heap.objs.size:=by
  intro q
  rcases M with e|e<;>(rw[q,bV L (bW _)]at e;cases e)
 refine So (SK (zi J L G (bW _) B xs.length 0 _ [] _ L1 k1 r (by omega) (by simp) λvs s2 O h2 U k2 C=>?_))
 rw[if_neg (by omega)]
 simp only[Vd,SW,List.nil_append]at O C
 refine So (SK (gB J U G C B (λv h' tk hv j j=>by simp at hv) λh' tk j hk=>?_))
 obtain⟨L3,k3⟩:=dC (tk:=tk) L (bW _) U k2 hk
 simp only[Option.isSome_none,Up,if_false]
 exact Sv (k vs _ O L3 k3)
end
end
def SS(x:S):Prop:=∀(ks:Ks) (T:Tab) (st:Stmt) (prog:Program) (w:World) (c:Cx) (A:Around) (q:Bool) (d:Nat) (m:D7) (σ:AH) (s:Shared) (Xp:AH->Prop) (Q:FP),
 (F2 x).s ks T st=true->D' w c A q d c.D1 ks->Hj c ks T->VS c ks T m σ s.heap->w' prog w c σ s->ws d Xp x q Q m σ->wpAny (model prog w) A (exec st c.D1) (EI prog w c ks T σ s Q) (FC prog w c ks T Xp σ s) s
def SB(x:S):Prop:=∀(ks:Ks) (T:Tab) (st:List Stmt) (prog:Program) (w:World) (c:Cx) (A:Around) (q:Bool) (d:Nat) (m:D7) (σ:AH) (s:Shared) (Xp:AH->Prop) (Q:FP),
 (F2 x).l ks T st=true->D' w c A q d c.D1 ks->Hj c ks T->VS c ks T m σ s.heap->w' prog w c σ s->ws d Xp x q Q m σ->wpAny (model prog w) A (execs st c.D1) (EI prog w c ks T σ s Q) (FC prog w c ks T Xp σ s) s
theorem lm(h:(FV v||Je e)=true):swapsWith v (some e) l env=pure false:=by
 cases v<;>first|rfl|(cases e<;>first|rfl|cases h)
theorem pI(es:List Expr)(k:Nat)(p:Pos)(v:Expr):swapsWithSole [.Tuple es k p] v l env=pure false:=lm (e:=.Tuple es k p) (l:=l) (env:=env) (TZ.mpr (.inr rfl))
theorem tw(h:FV v=true):swapsWith v none l env=pure false:=by
 cases v<;>first|rfl|cases h
theorem isFn(he:D' w c A q d c.D1 ks):c.D1.blockKind=.function:=by unfold Env.blockKind;rw[he.kind];rfl
theorem tq(he:D' w c A q d c.D1 ks)(h:(FV v||Je e||isName (λy=> !(ks.lookup y==some .local)) e)=true):swapsWith v (some e) l c.D1=pure false:=by
 rw[UB]at h
 rcases h with h|h
 ·exact lm h
 ·refine eC h λy p m=>?_
  have j:(ks.lookup y==some .local)=false:=by simpa using m
  have r:∀a b:Bool,(pure (c.D1.blockKind==.function&&c.D1.kindOf y==some .local&&a&&b):Sem Bool)=pure false:=λa b=>by
   rw[isFn he,he.kindOf,j];rfl
  cases v<;>first|rfl|exact r _ _
theorem lI(j:List Expr)(k:Nat)(p:Pos)(vs:List Expr)(m:Nat)(p2:Pos):swappedStores [.Tuple j k p] (.Tuple vs m p2) env=
  (if(!(j.length==2||j.length==3)||vs.length !=j.length||env.blockKind !=.function)=true then pure none
   else if vs.any isStar=true then pure none
   else if((MS env.kindOf j).length !=j.length||(MS env.kindOf j).eraseDups.length !=(MS env.kindOf j).length)=true then pure none
   else if vs.all (foldedForSure 8)=true then pure none
   else if vs.all (constantsAlone 8)=true then unsupported "assign.tuple-of-constant-expressions:order-of-the-stores"
   else pure (some (MS env.kindOf j))):=by
 unfold swappedStores
 dsimp only
 rfl
theorem vy(he:D' w c A q d c.D1 ks)(j:List Expr):MS c.D1.kindOf j=ET ks j:=by
 have:c.D1.kindOf=λx=>ks.lookup x:=funext he.kindOf
 rw[this];rfl
set_option tactic.hygienic true in
theorem AA(he:D' w c A q d c.D1 ks)(h:Ke j ks v=true):swappedStores [.Tuple j k p] v c.D1=pure none:=by
 cases v<;>first|rfl|skip
 rename_i vs B p2
 replace h:=TZ.mp (show((!(j.length==2||j.length==3))||(ET ks j).length !=j.length)=true from h)
 rw[lI,vy he]
 by_cases m:(!(j.length==2||j.length==3))=true
 ·rw[m];rfl
 ·have r:((ET ks j).length !=j.length)=true:=h.resolve_left m
  rw[r]
  simp only[Bool.true_or,if_true]
  split
  ·rfl
  ·split<;>rfl
theorem Aj(he:D' w c A q d c.D1 ks)(h:II j (ET ks j) v=true):swappedStores [.Tuple j k p] v c.D1=pure (some (ET ks j)):=by
 refine yp h λvs Y p2 g=>?_
 obtain⟨m,r⟩:=D9 g
 obtain⟨B,C⟩:=D9 m
 obtain⟨D,E⟩:=D9 B
 obtain⟨G,H⟩:=D9 D
 obtain⟨I,J⟩:=D9 G
 obtain⟨M,N⟩:=D9 I
 have O:(_ !=_)=false:=(congrArg (!·) N:_)
 have Q:(_ !=_)=false:=(congrArg (!·) H:_)
 have U:(_ !=_)=false:=(congrArg (!·) E:_)
 rw[lI,vy he,isFn he,M,O,Q,U]
 rw[if_neg (by decide),if_neg (by simpa using J),if_neg (by decide),if_neg (by simpa using C),if_neg (by simpa using r)]
theorem BE(t:Tg)(x:X):SS (.set t x):=by
 intro ks T st prog w c A q d m σ s Xp Q B he G vs L I
 refine dT B λY v pos h=>?_
 simp only[SF]at h
 refine cy h.1 λe r=>?_
 simp only[SF]at r
 have D:=rx (c:=c) r.1
 refine wpAny_Assign_stores (KX h.2 he G (.refl ..) vs L I λZ E H J k2 M N O=>?_) (tq he r.2) (by
  cases t with
  |var i=>refine eC r.1 λx p j=>?_;rfl
  |attr a C i=>refine ju r.1 λo n p j=>?_;rfl
  |item a i=>refine ew r.1 λo n p j=>?_;rfl
  |key a U i=>refine ew r.1 λo n p j=>?_;rfl)
 rw[D]
 exact IB r.1 he G M N J O
theorem li(j:List Tg)(es:List Expr)(h:HI ks T j es=true):es.length=j.length:=by
 induction j generalizing es with
 |nil=>cases es with
  |nil=>rfl
  |cons e es=>exact absurd (show false=true from h) To
 |cons t j ih=>
  obtain⟨e,es,rfl,q,m⟩:=jj h
  exact congrArg Nat.succ (ih es m)
theorem zn(B:List Tg)(x:X):SS (.sets B x):=by
 intro ks T st prog w c A q d m σ s Xp Q E he G vs L H
 refine dT E λts v pos h=>?_
 simp only[SF]at h
 refine cy h.1 λe Z=>?_
 refine i0 Z λes k p C=>?_
 simp only[SF]at C
 obtain⟨rfl,H⟩:=H
 have I:=iT (c:=c) B es C.1
 refine Assign_Tuple (KX h.2 he G (.refl ..) vs L H λv' J U Y k2 kq v2 D=>?_) (pI es k p v) (AA he C.2)
 obtain⟨xs,M,D⟩:=dk D
 rw[arm_assign_Tuple]
 refine So (wpAny_standAt ?_)
 unfold unpack
 rw[I]
 have N:(es.map λe=>(false,assign e c.D1)).findIdx? (·.1)=none:=by
  rw[UJ];intro x hx;refine Ef hx λe j=>?_;rfl
 rw[N]
 have O:es.length=B.length:=li B es C.1
 refine So (SK (Ht (he.calm rfl) Y M (by rw[Su,O,D.1]) λr s3 hv L3 k3=>?_))
 rw[Td]
 show wpAny _ _ (assignInOrder (es.map λe=>assign e c.D1) r) _ _ _
 exact Mm B es r C.1 he G (kq.trans k3.kq) (v2.kept Y G k3) L3 (hv▸D.2)
theorem vo(j:List Nat):∀(xs:List Str),Kg ks T j xs=true->j.length=xs.length/\∀p∈j.zip xs,G6 ks T p.1 p.2=true:=by
 induction j with
 |nil=>intro xs h;cases xs with
  |nil=>exact⟨rfl,λp m=>by cases m⟩
  |cons x xs=>exact absurd (show false=true from h) To
 |cons i j ih=>intro xs h;cases xs with
  |nil=>exact absurd (show false=true from h) To
  |cons x xs=>
   obtain⟨q,r⟩:=D9 (a:=decide (T.lookup i=some (x,true))&&decide (ks.lookup x=some .local)) h
   obtain⟨w,A⟩:=ih xs r
   refine⟨congrArg Nat.succ w,λp m=>?_⟩
   refine dz m ?_ λm=>?_
   ·exact SU.mpr ⟨(D9 q).1,TZ.mpr (.inl (D9 q).2)⟩
   ·exact A p m
theorem stores(l:List (Nat×Str×Value)):∀{j:AH} {r:Shared} {m:D7} {Q:Unit->Shared->Prop},(∀p∈l,G6 ks T p.1 p.2.1=true)->D' w c A q d c.D1 ks->Hj c ks T->VS c ks T m j r.heap->w' prog w c j r->
  (∀C,w' prog w c j C->Kq c ks T j r j C->VS c ks T (l.foldl (λm p=>m.set p.1 (some (av p.2.2))) m) j C.heap->Q () C)->
  wpAny (model prog w) A (assignInOrder (l.map λp=>bindName c.D1 p.2.1) (l.map (·.2.2))) Q E r:=by
 induction l with
 |nil=>intro j r m Q _ he D G L k;exact Sv (k r L (.refl ..) G)
 |cons p l ih=>
  intro j r m Q B he D G L k
  refine So (SK (wpAny_bindName (GK (B p (Sy ..)) he D G L λY H I J=>?_)))
  exact ih (λp M=>B p (Ss _ M)) he D J H λN O k3 U=>k N O (I.trans k3) U
set_option tactic.hygienic true in
theorem AE(is:List Nat)(x:X):SS (.HH is x):=by
 intro ks T st prog w c A q d m σ s Xp Q IX he fo vs L hw
 refine dT IX λts v pos h=>?_
 simp only[SF,decide_eq_true_eq]at h
 refine wl ?_
 intro W4 Q4 E4
 clear IX
 refine cy h.1.2 λe h0=>?_
 refine i0 h0 λes k p h1=>?_
 simp only[SF]at h1
 obtain⟨rfl,hw⟩:=hw
 obtain⟨hl,MT⟩:=vo is _ h1.1
 have N4:=h.1.1
 have QU:is.length=2\/is.length=3:=by
  refine gl ?_
  intro QV
  obtain⟨_,_,_,_,h⟩:=qC h1.2
  refine(?_:_->_) ((D9 (D9 (D9 (D9 (D9 (D9 h).1).1).1).1).1).1)
  intro h3
  refine(?_:_->_) ((D9 (D9 (D9 (D9 h).1).1).1).2)
  intro h4
  have:=eq_of_beq h4
  rcases TZ.mp h3 with h|h
  ·exact .inl (hl.trans (this.trans (eq_of_beq h)))
  ·exact .inr (hl.trans (this.trans (eq_of_beq h)))
 refine Assign_Tuple_swapped (names:=ET ks es) (KX h.2 he fo (.refl ..) vs L hw λv' Fz Jc L2 k2 kq v2 h2=>?_) (pI es k p v) (Aj he h1.2)
 obtain⟨xs,QW,h2⟩:=dk h2
 generalize ET ks es=names at hl MT⊢
 refine Ht (he.calm rfl) L2 QW (by omega) λvals s3 hv L3 k3=>?_
 refine gl ?_
 intro QX
 have P5:vals.length=is.length:=by rw[<-h2.1,<-hv,Su]
 have P6:=h2.2
 have fin:∀(l:List (Nat×Str×Value)) (m':D7),l.map (·.2.1)=names.reverse->l.map (·.2.2)=vals.reverse->(∀p∈l,G6 ks T p.1 p.2.1=true)->l.foldl (λm p=>m.set p.1 (some (av p.2.2))) m=m'->Q.nx m' Fz->
   wpAny (model prog w) A (assignInOrder (names.reverse.map λn=>bindName c.D1 n) vals.reverse) (λ_=>EI prog w c ks T σ s Q .next) (FC prog w c ks T Xp σ s) s3:=by
  intro l m' e1 e2 e3 e4 e5
  rw[<-e1,<-e2,Td]
  exact stores l e3 he fo (v2.kept L2 fo k3) L3 λs4 L4 k4 v4=>⟨Fz,m',L4,(kq.trans k3.kq).trans k4,e4▸v4,e5⟩
 rcases QU with hs|hs
 ·obtain⟨i,j,rfl⟩:=JG hs
  obtain⟨x,y,rfl⟩:=JG (hl.symm.trans hs)
  obtain⟨a,b,rfl⟩:=JG (P5.trans hs)
  subst hv
  refine fin [(j,y,b),(i,x,a)] _ rfl rfl ?_ rfl ?_
  ·intro p hp
   refine gl ?_
   intro QY
   rcases SH.mp hp with rfl|hp
   ·exact MT (j,y) (by simp)
   ·rcases SH.mp hp with rfl|hp
    ·exact MT (i,x) (by simp)
    ·cases hp
  ·have QZ:i≠j:=by simpa using N4
   show Q.nx ((m.set j _).set i _) Fz
   rw[U2 _ _ QZ.symm]
   exact P6
 ·obtain⟨i,j,l,rfl⟩:=JH hs
  obtain⟨x,y,z,rfl⟩:=JH (hl.symm.trans hs)
  obtain⟨a,b,g,rfl⟩:=JH (P5.trans hs)
  subst hv
  refine fin [(l,z,g),(j,y,b),(i,x,a)] _ rfl rfl ?_ rfl ?_
  ·intro p hp
   refine dz hp ?_ λhp=>?_
   ·exact MT (l,z) (by simp)
   ·refine dz hp ?_ λhp=>?_
    ·exact MT (j,y) (by simp)
    ·refine dz hp ?_ λhp=>?_
     ·exact MT (i,x) (by simp)
     ·cases hp
  ·simp only[Tb,SH,Tw,not_or,or_false]at N4
   show Q.nx (((m.set l _).set j _).set i _) Fz
   rw[U2 _ _ (Ne.symm N4.2.1),U2 _ _ (Ne.symm N4.1.2),U2 (l:=m) _ _ (Ne.symm N4.1.1)]
   exact P6
theorem IL(r:A.frames=some (c.D1::c.outer))(h:FC prog w c ks T Xp σ s e q):notedBy (model prog w) A c.D1 (λe q=>cameBackBy (model prog w) A c.D1 (FC prog w c ks T Xp σ s) e q) e q:=by
 obtain⟨j,m,L,k,x⟩:=h
 exact J' r x rfl λD B=>IE B λE C=>⟨j,m,L,k,C.ex⟩
theorem CO:SB .nil:=by
 intro ks T st prog w c A q d m σ s Xp Q j he B vs L r
 cases st with
 |nil=>exact wpAny_execs_nil ⟨σ,m,L,.refl ..,vs,r⟩
 |cons=>cases j
set_option tactic.hygienic true in
theorem zS(a r:S)(I:SS a)(J:SB r):SB (.cons a r):=by
 intro ks T st prog w c A q d m σ s Xp Q B he G vs L M
 cases st with
 |nil=>cases B
 |cons st l=>
  have h:((F2 a).s ks T st&&(F2 r).l ks T l)=true:=B
  simp only[SF]at h
  refine wpAny_execs_cons (Sz (I ks T st prog w c A q d m σ s Xp _ h.1 he G vs L M) (λf N C=>?_) λj j y=>y)
  cases f with
  |next=>
   obtain⟨D,O,U,H,Y,h'⟩:=C
   exact Sz (J ks T l prog w c A q d O D N Xp Q h.2 he G Y U h') (λf Z E=>E.trans H) λe Z E=>E.trans H
  |ret v=>exact C
  |_=>exact C.elim
theorem CT(x:X):SS (.ex x):=by
 intro ks T st prog w c A q d m σ s Xp Q r he E vs L G
 refine tv r λv p h=>?_
 simp only[SF]at h
 refine wpAny_Expr (KX h.2 he E (.refl ..) vs L G λB j C H M I J D=>?_) (by unfold interactive;rw[he.kind];rfl) (tw h.1)
 have:∀a,B≠.ref a:=λa q=>by subst q;exact D.1.elim
 cases B<;>first|exact⟨j,m,H,I,J,D.2⟩|exact(this _ rfl).elim
theorem CL(t:X)(a b:S)(M:SB a)(N:SB b):SS (.ite t a b):=by
 intro ks T st prog w c A q d m σ s Xp Q D he E vs L O
 refine zF D λe x y p h=>?_
 simp only[SF]at h
 refine wpAny_If (P4 h.1.1 he E (.refl ..) vs L O λr j B H C I J=>?_)
 cases r with
 |true=>exact Sz (M ks T x prog w c A q d m j B Xp Q h.1.2 he E I H J) (λf G h'=>h'.trans C) λe G h'=>h'.trans C
 |false=>exact Sz (N ks T y prog w c A q d m j B Xp Q h.2 he E I H J) (λf G h'=>h'.trans C) λe G h'=>h'.trans C
theorem dB(h:l.isEmpty=true):l=[]:=by simpa using h
set_option tactic.hygienic true in
theorem DE(t:X)(b:S)(hb:SB b):SS (.wh t b):=by
 intro ks T st prog w c A q d m σ s Xp Q M he fo vs L hw
 refine sU M λe x y p h=>?_
 simp only[SF]at h
 have hy:=dB h.2
 subst hy
 obtain⟨I,⟨n,hI⟩,N⟩:=hw
 refine wpAny_While (codeAny_whileLoop (λn E=>∃G C,w' prog w c C E/\Kq c ks T σ s C E/\VS c ks T G C E.heap/\I n G C) ?_ n ⟨m,σ,L,.refl ..,vs,hI⟩)
 rintro n E ⟨G,C,L',k',v',O⟩
 refine Sz (P4 h.1.1 he fo k' v' L' (N n G C O) λr D H L2 J v2 h2=>?_) (λB B z=>z) λe E h'=>IL he.stack h'
 cases r with
 |true=>
  refine Sz (hb ks T x prog w c A q d G D H Xp _ h.1.2 he fo v2 L2 h2) (λf s3 U=>?_) λe E h'=>IL he.stack (h'.trans J)
  cases f with
  |next=>obtain⟨Y,m3,L3,k3,v3,j,hj,Z⟩:=U;exact⟨j,hj,m3,Y,L3,J.trans k3,v3,Z⟩
  |ret v=>exact EI.trans (f:=.ret v) J U
  |_=>exact U.elim
 |false=>exact wpAny_execs_nil ⟨D,G,L2,J,v2,h2⟩
theorem Cv(x:X):SS (.ret x):=by
 intro ks T st prog w c A q d m σ s Xp Q r he C vs L D
 refine gT r λv p h=>?_
 cases v with
 |none=>cases h
 |some v=>exact wpAny_Return_some (KX h he C (.refl ..) vs L D λI j B E J G M H=>⟨j,E,G,H⟩)
theorem AM:SS .Ka:=by
 intro ks T st prog w c A q d m σ s Xp Q j he B vs L r
 refine gT j λv p h=>?_
 cases v with
 |none=>exact wpAny_Return_none ⟨σ,L,.refl ..,r⟩
 |some v=>cases h
theorem Ex.Jv(x:Ex σ h I a i):∀u,¬h.IsCell I u:=by
 rintro u ⟨o,e,r⟩
 have m:∀o',h.get? I=some o'->o'.data=.cell u:=λo' q=>Option.some.inj (e.symm.trans q)▸r
 refine KV.el (P:=λj=>False) x (λj x=>?_) (λj x=>?_) (λj j x=>nomatch m _ x) λj j x=>?_
 all_goals
  obtain⟨o',q,_,w⟩:=x
  exact nomatch w.symm.trans (m _ q)
theorem Kq.iter(L:w' prog w c σ s)(Q:Hj c ks T)(U:VS c ks T m σ s.heap)(Y:s.heap.get? I=none)(M:j I=none)(L':w' prog w c j E)(k:Kq c ks T σ s j E)(vs:VS c ks T m' j E.heap)(G:∀b o,b≠I->E.heap.get? b=some o->h'.get? b=some o)(Z:∀u,¬E.heap.IsCell I u):
  w' prog w c j {E with heap:=h',toks:=tk}/\Kq c ks T σ s j {E with heap:=h',toks:=tk}/\VS c ks T m' j h':=by
 obtain⟨f1,f2,_,_⟩:=cM L Y
 have nf:∀b' o,j b'=some o->I∉foot b' o:=λb' o e r=>by
  cases o with
  |inst C dx fl=>
   simp[foot]at r
   rcases r with rfl|rfl
   ·rw[M]at e;cases e
   ·rw[L'.parts _ _ _ _ e]at M;cases M
  |_=>simp[foot]at r;subst r;rw[M]at e;cases e
 have nm:¬Ey c ks T I:=λr=>by
  obtain⟨o,e⟩:=d7 L Q U r
  rw[Y]at e;cases e
 refine⟨gD L' f1 f2 nf G,⟨λb ob r e=>?_,k.fresh,k.GR⟩,⟨⟨vs.vr.loc,?_,λt ht v hv=>?_⟩,vs.free,λt ht h1 h2 b h3=>?_⟩⟩
 ·obtain⟨J,e',h'⟩:=k.keep b ob r e
  exact⟨J,G b J (λq=>by rw[q,Y]at e;cases e) e',h'⟩
 ·obtain⟨mc,hn⟩:=vs.vr.ns
  exact⟨mc,df hn λo e=>⟨o.slots,G _ o (λq=>nm (q▸Q.loc▸.inl rfl)) e⟩⟩
 ·cases vs.vr.var t ht v hv with
  |loc A aa u2 ab B D=>exact .loc A aa u2 (df ab λo e=>⟨o.slots,G _ o (λq=>nm (q▸Q.loc▸.inl rfl)) e⟩) B D
  |cell A a2 u2 ac B D ae=>
   obtain⟨H,N,O⟩:=B
   by_cases qa:a2=I
   ·subst qa;exact(Z _ ⟨H,N,O⟩).elim
   ·exact .cell A a2 u2 ac ⟨H,G a2 H qa N,O⟩ D ae
 ·obtain⟨u,H,N,O⟩:=vs.cell t ht h1 h2 b h3
  exact⟨u,H,G b H (λq=>nm (q▸.inr ⟨t,ht,h1,h2,h3⟩)) N,O⟩
theorem oO(h:items σ v=some xs)(hs:same σ j v):∃a,v=.ref a/\j a=σ a/\items j v=some xs:=by
 obtain⟨a,rfl⟩:=jO h
 have hs:j a=σ a:=hs
 exact⟨a,rfl,hs,(congrArg FH hs).trans h⟩
theorem Ex.same(x:Ex σ h I a i)(e:j a=σ a):Ex j h I a i:=.of e x
theorem vk(k:Kq c ks T σ s j A)(r:σ I=none)(m:I∉D2 c)(B:¬Ey c ks T I)(x:Ex σ s.heap I a i)(e:j a=σ a):Ex j A.heap I a i/\j I=none:=by
 refine⟨(Ex.at x λo C=>?_).same e,?_⟩
 ·obtain⟨D,w,h'⟩:=k.keep I o (cj r) C
  obtain⟨H,rfl,E⟩:=h' B
  rw[E m]at w;exact w
 ·obtain⟨J,G⟩:=x.there
  cases q:j I with
  |none=>rfl
  |some o=>
   rcases k.GR I o q with h|h
   ·exact absurd r h
   ·rw[G]at h;cases h
set_option tactic.hygienic true in
theorem qQ{IB it:Expr}(ar:(ck x).e ks T it=true)(as:ES it=true)(he:D' w c A true d c.D1 ks)(fo:Hj c ks T)(vs:VS c ks T m σ s.heap)(L:w' prog w c σ s)(au:(ev d true x Xp).e m W σ)(af:∀v B,W v B->∃xs,items B v=some xs/\∃I:Nat->D7->AH->Prop,I 0 m B/\(∀k m G,I k m G->same B G v/\(k=xs.length->Q.nx m G))/\
   ∀(k:Nat) (J:D7) (C:AH) (D:Shared) (u:Value) (It:Addr),I k J C->xs[k]? =some (av u)->w' prog w c C D->VS c ks T J C D.heap->(∃a,v=.ref a/\Ex C D.heap It a (k+1))->
    wpAny (model prog w) A (letOwnedTupleGo IB (.ref It) u) (λj r=>wpAny (model prog w) A (assign IB c.D1 u) (λj ag=>wpAny (model prog w) A (execs body c.D1) (EI prog w c ks T C D ⟨λm σ=>I (k+1) m σ,Q.rt⟩) (FC prog w c ks T Xp C D) ag) (FC prog w c ks T Xp C D) r) (FC prog w c ks T Xp C D) D):
  wpAny (model prog w) A (exec (.For IB it body [] p) c.D1) (EI prog w c ks T σ s Q) (FC prog w c ks T Xp σ s) s:=by
 refine wpAny_For (KX ar he fo (.refl ..) vs L au λv E r Y k2 kq v2 h2=>?_) (gW as)
 refine gl ?_
 intro ah
 obtain⟨xs,ai,I,h0,hI,Z⟩:=af _ E h2
 refine iW Y ai λa oI aw aj=>?_
 refine gl ?_
 intro aE
 clear ah h2 af
 subst aw
 have gr:∀b o,r.heap.get? b=some o->(r.heap.push oI).get? b=some o:=λb o e=>Sq _ e
 have fr:r.heap.get? r.heap.objs.size=none:=bW _
 obtain⟨L3,k3⟩:=ci (tk:=r.toks) (h':=r.heap.push oI) Y gr
 obtain⟨f1,f2,_,f4⟩:=cM Y fr
 have nm:¬Ey c ks T r.heap.objs.size:=λhm=>by
  obtain⟨o,e⟩:=d7 Y fo v2 hm
  rw[fr]at e;cases e
 refine codeAny_forLoop_any (λn N=>∃k J B,n=xs.length+1-k/\k<=xs.length/\w' prog w c B N/\Kq c ks T E r B N/\VS c ks T J B N.heap/\I k J B/\Ex B N.heap r.heap.objs.size a k/\B r.heap.objs.size=none) ?_ (xs.length+1)
  ⟨0,m,E,rfl,SI _,L3,k3.kq,v2.kept Y fo k3,h0,aj,f4⟩
 rintro n N ⟨k,J,B,rfl,hk,L',k',v',al,aa,H⟩
 refine gl ?_
 intro aF
 obtain⟨ab,am⟩:=hI k J B al
 obtain⟨a',ax,ay,O⟩:=oO ai ab
 cases ax
 have az:a≠r.heap.objs.size:=λq=>by
  rw[<-q]at H
  exact iM O H
 refine gB (he.calm rfl) L' O aa az (λu h' tk hu U ac=>?_) λh' tk aA ac=>?_
 ·obtain⟨L4,k4,v4⟩:=Kq.iter (tk:=tk) Y fo v2 fr H L' k' v' ac aa.Jv
  refine(?_:k<xs.length->_) ((Sr.mp hu).1)
  intro aB
  have ex:∀e ae,FC prog w c ks T Xp B {N with heap:=h',toks:=tk} e ae->notedBy (model prog w) A c.D1 (λe N=>cameBackBy (model prog w) A c.D1 (FC prog w c ks T Xp σ s) e N) e ae:=
   λe ae hx=>IL he.stack (hx.trans (kq.trans k4))
  refine Sz (Z k J B _ u r.heap.objs.size al hu L4 v4 ⟨a,rfl,U⟩) (λj s3 h3=>?_) ex
  refine Sz h3 (λj s4 h4=>?_) ex
  refine Sz h4 (λf s5 h5=>?_) ex
  cases f with
  |next=>
   refine gl ?_
   intro aG
   obtain⟨M,m5,L5,k5,v5,an⟩:=h5
   obtain⟨aC,_⟩:=hI (k+1) m5 M an
   have e5:M a=B a:=by have:M a=E a:=aC;rw[this,ay]
   obtain⟨aq,aD⟩:=vk k5 H f2 nm U e5
   exact⟨xs.length+1-(k+1),by omega,k+1,m5,M,rfl,aB,L5,k4.trans k5,v5,an,aq,aD⟩
  |ret v=>exact EI.trans (f:=.ret v) (kq.trans k4) h5
  |_=>exact h5.elim
 ·refine wl ?_
  intro aH aJ aK
  obtain⟨L4,k4,v4⟩:=Kq.iter (tk:=tk) Y fo v2 fr H L' k' v' ac aa.Jv
  exact wpAny_execs_nil ⟨B,J,L4,kq.trans k4,v4,am (by omega)⟩
theorem DI(i:Nat)(x:X)(b:S)(U:SB b):SS (.fo i x b):=by
 intro ks T st prog w c A q d m σ s Xp Q D he E vs L G
 refine qg D λt e y z p h=>?_
 simp only[SF]at h
 obtain⟨rfl,G⟩:=G
 have Y:=dB h.2
 subst Y
 refine eC h.1.1.1.1 λnm np H=>?_
 refine qQ h.1.1.2 h.1.1.1.2 he E vs L G λv Z hW=>?_
 obtain⟨xs,J,I,h0,M⟩:=dk hW
 refine⟨xs,J,I,h0,λk m B C=>⟨(M k m B C).1,(M k m B C).2.1⟩,λk m' r N u It C hu L1 v1 j=>Sv ?_⟩
 refine wpAny_assign_Name (GK H he E v1 L1 λs2 L2 O v2=>?_)
 exact Sz (U ks T y prog w c A true d _ r s2 Xp _ h.1.2 he E v2 L2 ((M k m' r C).2.2 _ hu)) (λf s' h'=>h'.trans O) λe s' h'=>h'.trans O
set_option tactic.hygienic true in
theorem uz(h:itemsL σ v=some xs):items σ v=some xs/\∃a,v=.ref a/\σ a=some (.list xs):=by
 unfold itemsL at h
 split at h<;>try (cases h;done)
 rename_i a
 split at h<;>cases h
 rename_i e;exact⟨mY e,a,rfl,e⟩
theorem sT{IB:Expr}(e:σ a=some (.list xs))(x:Ex σ s.heap m a i)(h:Q () s):wpAny (model prog w) A (letOwnedTupleGo IB (.ref m) u) Q E s:=by
 obtain⟨o,q,r,B⟩:=x.get e
 have main:∀j,wpAny (model prog w) A (letOwnedTupleGo (.Tuple [] 0 p0) (.ref m) (.ref j)) Q E s:=λj=>by
  show wpAny _ _ (load m>>=_) _ _ _
  refine So (wpAny_load q ?_)
  rw[r,B]
  dsimp only
  rw[if_neg (by simp)]
  exact Sv h
 cases IB with
 |Tuple es k p=>cases u with
  |ref j=>exact main j
  |_=>exact Sv h
 |List es p=>cases u with
  |ref j=>exact main j
  |_=>exact Sv h
 |_=>exact Sv h
theorem By(i j:Nat)(x:X)(b:S)(hb:SB b):SS (.LJ i j x b):=by
 intro ks T st prog w c A q d m σ s Xp Q N he J vs L O
 refine qg N λt e y z p h=>?_
 simp only[SF]at h
 obtain⟨rfl,O⟩:=O
 have hy:=dB h.2
 subst hy
 refine i0 h.1.1.1.1 λes kk np D=>?_
 refine qQ h.1.1.2 h.1.1.1.2 he J vs L O λv U hW=>?_
 obtain⟨xs,Y,I,h0,Z⟩:=dk hW
 obtain⟨aa,a,rfl,ha⟩:=uz Y
 refine⟨xs,aa,I,h0,λk m C M=>⟨(Z k m C M).1,(Z k m C M).2.1⟩,λk m' B al u It M hu L1 v1 E=>?_⟩
 obtain⟨hs,_,ht⟩:=Z k m' B M
 obtain⟨a',ab,E⟩:=E
 cases ab
 have ac:B a=U a:=hs
 refine sT (ac.trans ha) E ?_
 obtain⟨am,ae,G,af⟩:=dk (ht _ hu)
 rw[arm_assign_Tuple]
 refine So (wpAny_standAt ?_)
 unfold unpack
 have ag:=iT (c:=c) _ _ D
 rw[ag]
 have ah:(es.map λe=>(false,assign e c.D1)).findIdx? (·.1)=none:=by
  rw[UJ];intro x Y;refine Ef Y λe r=>?_;rfl
 rw[ah]
 have ai:es.length=2:=li _ es D
 refine So (SK (Ht (he.calm rfl) L1 ae (by rw[Su,ai,G]) λH s3 hv L3 k3=>?_))
 rw[Td]
 refine Sz (Mm _ es H D he J k3.kq (v1.kept L1 J k3) L3 (hv▸af)) (λr s4 h4=>?_) λr r z=>z
 obtain⟨aj,m4,L4,k4,v4,h4⟩:=h4
 exact Sz (hb ks T y prog w c A true d _ aj s4 Xp _ h.1.2 he J v4 L4 h4) (λf s' h'=>h'.trans k4) λe s' h'=>h'.trans k4
set_option tactic.hygienic true in
theorem lK(he:D' w c A q d c.D1 ks)(B:ks.lookup x=some .local)(h:Jf x m v=true)(l:Nat):swapsWith v (some (.Name x m)) l c.D1=pure true/\∃r j sc p,v=.ListComp r j sc p:=by
 cases v<;>first|cases h|skip
 rename_i r j sc p
 refine⟨?_,r,j,sc,p,rfl⟩
 replace h:(m.line==p.line)=true/\(!(sc.names.any λ(n,k)=>n==x&&(k==.local||k==.cell)))=true:=D9 (D9 h).2
 have C:(pure (c.D1.blockKind==.function&&c.D1.kindOf x==some .local&&m.line==p.line&& !(sc.names.any λ(n,k)=>n==x&&(k==.local||k==.cell))):Sem Bool)=pure true:=by
  rw[isFn he,he.kindOf,B,h.1,h.2];rfl
 exact C
set_option tactic.hygienic true in
theorem sj(O:G6 ks T i y=true)(he:D' w c A true d c.D1 ks)(H:Hj c ks T)(vs:VS c ks T m σ s.heap)(L:w' prog w c σ s)(q:AH)(r:Shared)(D C:Addr)(E:Shared)(ys:List AV)(B:w' prog w c q r)(G:Kp c σ s q r)(hK:∀z,q z=none->Q.nx (m.set i (some (.ref z))) (upd q z (.list ys)))(hD:r.heap.get? D=none)(U:r.heap.get? C=none)(Y:D≠C)(L':w' prog w c q E)(k':Kp c q r q E)(hl:H7 D ys E.heap)(hn:Me C E.heap)(I:ys.length<=big):
  compPost (model prog w) A (EX prog w c Xp σ s) (some (assign (.Name y py) c.D1)) (λj s'=>EI prog w c ks T σ s Q .next s') (.ref D) C (.ok .next) E:=by
 obtain⟨Z,⟨n,aa⟩,ab⟩:=hl
 obtain⟨ac,L4,k4⟩:=iu (o:=.list ys) B hD L' k' ⟨Z,n,aa,ab,I⟩
 have v2:=vs.kept L H G
 have v4:=v2.kept B H k4
 obtain⟨_,f2,_,f4⟩:=cM B U
 have nm:¬Ey c ks T C:=λhm=>by
  obtain⟨o,e⟩:=d7 B H v2 hm
  rw[U]at e;cases e
 have hf:upd q D (.list ys) C=none:=by rw[bP Y.symm];exact f4
 show wpAny _ A (assign (.Name y py) c.D1 (.ref D)) _ _ _
 refine wpAny_assign_Name (GK O he H v4 L4 λs3 L5 k5 v5=>?_)
 obtain⟨mc,ae,_⟩:=hn
 have J:s3.heap.Ns C mc:=by
  refine df ae λo e=>?_
  obtain⟨ag,N,h'⟩:=k5.keep C o (cj hf) e
  obtain⟨sl,rfl,h2⟩:=h' nm
  exact⟨sl,N⟩
 refine⟨mc,J,λh' af=>?_⟩
 obtain⟨L6,k6,v6⟩:=Kq.iter (tk:=s3.toks) B H v2 U hf L5 (k4.kq.trans k5) v5 (λb o hb e=>(af.2 b hb).trans e) (by
  rintro u ⟨o,e,hd⟩
  obtain⟨o',es,ep,N,M,_⟩:=J
  rw[e]at N;cases N;rw[hd]at M;cases M)
 exact⟨_,_,L6,G.kq.trans k6,v6,hK D ac⟩
set_option tactic.hygienic true in
theorem Ak(i:Nat)(G:X)(j:Nat)(it cond:X):SS (.JO i G j it cond):=by
 intro ks T st prog w c A q d m σ s Xp Q B he fo vs L O
 refine dT B λts v pos h=>?_
 simp only[SF]at h
 refine cy h.1 λe h0=>?_
 refine nN h0 λy py N=>?_
 simp only[SF,decide_eq_true_eq]at N
 obtain⟨rfl,O⟩:=O
 obtain⟨U,el,ac,sc,p,rfl⟩:=lK he N.1.2 N.2 pos.line
 replace B:=mK h.2;obtain⟨ae,gs,af,p',Y,B⟩:=B
 cases Y;clear h h0
 replace B:=uu B;obtain⟨g,rfl,B⟩:=B
 replace B:=iz B;obtain⟨x,px,ie,ag,rfl,B⟩:=B
 revert B;refine NU λc1 c2 c3 c4 c5=>?_
 rw[exec_Assign_Name_used _ _ _ _ U]
 refine So (wpAny_standAt (So ?_))
 show wpAny _ A (do let _<-comprehension _ sc c.D1 _ (newList []) false (eval _ c.D1) (some (assign (.Name y py) c.D1))) _ _ s
 refine So (Sz (nO (use:=some (assign (.Name y py) c.D1)) (Qv:=λr Z=>EI prog w c ks T σ s Q .next Z) (Kf:=λσ ys=>∀z,σ z=none->Q.nx (m.set i (some (.ref z))) (upd σ z (.list ys)))
  (sound it).e (sound G).e (sound cond).t he c1 c2 c3 c4 c5 vs.vr L O.2 ?_) (λr Z hq=>Sv (Sv hq)) λe' Z y=>⟨σ,s,L,.refl ..,y⟩)
 exact λE H D C aa ys I J r hK hD hC ab L' k' hl hn M=>sj N.1.1 he fo vs L E H D C aa ys I J hK hD hC ab L' k' hl hn M
set_option tactic.hygienic true in
theorem xG(i:Nat)(E:X)(j1:Nat)(G:X)(j2:Nat)(H cond:X):SS (.HQ i E j1 G j2 H cond):=by
 intro ks T st prog w c A q d m σ s Xp Q r he fo vs L Y
 refine dT r λts v pos h=>?_
 simp only[SF]at h
 refine cy h.1 λe O=>?_
 refine nN O λy py U=>?_
 simp only[SF,decide_eq_true_eq]at U
 obtain⟨rfl,Y⟩:=Y
 obtain⟨Z,el,ae,sc,p,rfl⟩:=lK he U.1.2 U.2 pos.line
 replace r:=mK h.2;obtain⟨ag,gs,ah,p',aa,r⟩:=r
 cases aa;clear h O
 replace r:=um r;obtain⟨g1,g2,rfl,r⟩:=r
 replace r:=iz r;obtain⟨x,px,ie,af,rfl,r⟩:=r
 replace r:=D9 r;obtain⟨O,r⟩:=r
 cases d4 O
 replace r:=iz r;obtain⟨z,pz,je,ai,rfl,r⟩:=r
 revert r;refine P0 λc1 c2 c3 c4 c5 c6 c7 c8 c9=>?_
 replace c3:=of_decide_eq_true c3
 rw[exec_Assign_Name_used _ _ _ _ Z]
 refine So (wpAny_standAt (So ?_))
 show wpAny _ A (do let _<-comprehension _ sc c.D1 _ (newList []) false (eval _ c.D1) (some (assign (.Name y py) c.D1))) _ _ s
 refine So (Sz (lW (use:=some (assign (.Name y py) c.D1)) (Qv:=λj s'=>EI prog w c ks T σ s Q .next s') (Kf:=λσ ys=>∀z,σ z=none->Q.nx (m.set i (some (.ref z))) (upd σ z (.list ys)))
  (sound E).e (sound G).e (sound H).e (sound cond).t he c1 c2 c3 c4 c5 c6 c7 c8 c9 vs.vr L Y.2 ?_) (λj s' hq=>Sv (Sv hq)) λe' s' y=>⟨σ,s,L,.refl ..,y⟩)
 exact λB I D C ab ys J M j hK hD hC ac L' k' hl hn N=>sj U.1.1 he fo vs L B I D C ab ys J M hK hD hC ac L' k' hl hn N
theorem Az(P:Params):LV P=excClassObj (Str.ofString "LimitFault") (Str.ofString "LimitFault") 60 59 [.ref 47] [.ref 47,.type "Exception",.type "BaseException",.type "object"] true [] [] false none none (some (.ref 51)) none
  (some (.str (Str.ofString "LimitFault") 234)) (some (.str (Str.ofString "LimitFault") 242)) (some (.bool true)) "Exception.__new__":=rfl
theorem rQ(h:Lk ks f hs=true):∃m b j p,hs=[.ExceptHandler (some (.Name "LimitFault" m)) none (b::j) p]/\IW ks "LimitFault"=true/\f (b::j)=true:=by
 unfold Lk at h
 refine cy h λy h=>?_
 obtain⟨A,B,b,p⟩:=y
 obtain⟨w,q⟩:=D9 (b:=B.isNone&&(!b.isEmpty&&f b)) h
 obtain⟨q,r⟩:=D9 q
 obtain rfl:=TN.mp q
 obtain⟨r,C⟩:=D9 r
 cases A with
 |none=>exact Et w rfl
 |some e=>
 obtain⟨x,m,rfl,D⟩:=d3 (e:=e) w
 obtain⟨g0,E⟩:=D9 D
 obtain rfl:=of_decide_eq_true g0
 cases b with
 |nil=>exact Et r rfl
 |cons b j=>exact⟨m,b,j,p,rfl,E,C⟩
theorem D'.marked(he:D' w c A q d c.D1 ks):D' w c (A.mark (some e)) false d c.D1 ks:=⟨he.names,he.kind,he.glob,he.blt,he.frame,he.stack,(λh=>Bool.noConfusion h),he.depth,he.units,he.cells⟩
theorem uc(hh:SB h)(J:IW ks "LimitFault"=true)(M:(F2 h).l ks T (b::bs)=true)(he:D' w c A true d c.D1 ks)(fo:Hj c ks T)(vs:VS c ks T m σ s.heap)(L:w' prog w c σ s)(x:J1 prog w c σ s a D B j)(N:Heap.FlyingW B (c.D1::c.outer) a Hm a0 j.heap)(hw:ws d Xp h false Q m D):
  wpAny (model prog w) A (handleBy (.ref a) c.D1 [.ExceptHandler (some (.Name "LimitFault" np)) none (b::bs) p]) (EI prog w c ks T σ s Q) (FC prog w c ks T Xp σ s) j:=by
 have r:=he.marked (e:=.ref a)
 obtain⟨L',k'⟩:=Hr L x N
 obtain⟨u,hu,O⟩:=iB w.params 0 _ _ rfl
 cases cv O
 refine wpAny_handleBy_cons (codeAny_handlers_test (jM r L' J hu ?_)) (by intro q;cases q)
 have hC:=L'.says.1 60 (LV w.params) rfl
 obtain⟨oe,U,E⟩:=N.there
 refine wpAny_excMatches_sub_self (h:=j.heap) (g:=j.gens) (d:=j.drawn) (t:=j.toks) (os:=j.os) (hC.trans (congrArg some (Az _))) U E (by decide+kernel) ?_
 rw[if_pos rfl]
 refine codeAny_handlers_suite ?_
 have G:∀e H,FC prog w c ks T Xp σ s e H->notedBy (model prog w) (A.mark (some (.ref a))) c.D1 (cameBackBy (model prog w) A c.D1 (FC prog w c ks T Xp σ s)) e H:=by
  rintro e H ⟨C,I,L1,k1,x1⟩
  exact J' r.stack x1 rfl λY xh=>IE xh λs4 x4=>⟨C,I,L1,k1,x4.ex⟩
 refine IF x N λH x2 Z=>?_
 obtain⟨L2,k2⟩:=Hr L x2 Z
 exact Sz (hh ks T (b::bs) prog w c (A.mark (some (.ref a))) false d m D H Xp Q M r fo (vs.kept L fo k2) L2 hw) (λf Y h3=>h3.trans k2.kq) λe Y h3=>G e Y (h3.trans k2.kq)
set_option tactic.hygienic true in
theorem qk{st:Stmt}(Z:SB h)(G:IW ks "LimitFault"=true)(H:(F2 h).l ks T (b::bs)=true)(I:(ck x).e ks T e=true)(he:D' w c A true d c.D1 ks)(N:Hj c ks T)(vs:VS c ks T m σ s.heap)(L:w' prog w c σ s)(hw:(ev d true x (λσ=>ws d Xp h false Q m σ)).e m Qe σ)(J:∀{E:Value->Shared->Prop} {P:Flow->Shared->Prop},wpAny (model prog w) A (eval e c.D1) (λv C=>∃q,w' prog w c q C/\Kq c ks T σ s q C/\VS c ks T m q C.heap/\Qe (av v) q) E s->
   (∀f O,EI prog w c ks T σ s Q f O->P f O)->wpAny (model prog w) A (exec st c.D1) P E s):
  wpAny (model prog w) A (exec (.Try [st] [.ExceptHandler (some (.Name "LimitFault" np)) none (b::bs) D] [] [] p) c.D1) (EI prog w c ks T σ s Q) (FC prog w c ks T Xp σ s) s:=by
 refine wpAny_Try_except (wpAny_execs_cons (J (Sz ((sound x).e.at I he L (.refl ..) vs.vr L hw λv r U L2 Y j h2=>⟨r,L2,Y.kq,vs.kept L N Y,h2⟩) (λj j z=>z) λe' C hx=>?_) λf C D=>?_))
 ·refine Mi L he.stack hx λa aa B a0 s2 M hX x2 fl=>?_
  subst M
  exact uc Z G H he N vs L x2 fl hX
 ·cases f with
  |next=>exact wpAny_execs_nil (wpAny_execs_nil D)
  |ret v=>exact D
  |_=>exact D
theorem zL(x:X)(h:S)(H:SB h):SS (.Kb x h):=by
 intro ks T st prog w c A q d m σ s Xp Q C he I vs L D
 refine qo C λb hs o g p h=>?_
 simp only[SF]at h
 refine cy h.1.1.1 λst J=>?_
 refine gT J λv rp B=>?_
 cases v with
 |none=>cases B
 |some v=>
 obtain⟨np,b,bs,hp,rfl,E,r⟩:=rQ h.1.1.2
 have M:=dB h.1.2
 have N:=dB h.2
 subst M N
 obtain⟨rfl,D⟩:=D
 refine qk H E r B he I vs L D λO U=>wpAny_Return_some (Sz O (λv s1 Y=>U _ _ ?_) λj j z=>z)
 obtain⟨G,L1,Z,v1,B⟩:=Y
 exact⟨G,L1,Z,B⟩
set_option tactic.hygienic true in
theorem zu(i:Nat)(x:X)(h:S)(I:SB h):SS (.Kc i x h):=by
 intro ks T st prog w c A q d m σ s Xp Q C he H vs L D
 refine qo C λb hs o g p h=>?_
 simp only[SF]at h
 refine cy h.1.1.1 λst J=>?_
 refine dT J λts v M r=>?_
 simp only[SF]at r
 refine cy r.1.2 λt N=>?_
 refine eC N λy O U=>?_
 obtain⟨np,b,bs,hp,rfl,E,B⟩:=rQ h.1.1.2
 have Y:=dB h.1.2
 have Z:=dB h.2
 subst Y Z
 obtain⟨rfl,D⟩:=D
 refine qk I E B r.2 he H vs L D λhx hP=>wpAny_Assign_stores (Sz hx (λv s1 hv=>?_) λj j z=>z) (lm (e:=.Name y O) (l:=M.line) (by rw[r.1.1];rfl)) rfl
 obtain⟨G,L1,k1,v1,r⟩:=hv
 exact wpAny_assign_Name (GK U he H v1 L1 λs2 L2 k2 v2=>hP .next s2 ⟨G,_,L2,k1.trans k2,v2,r⟩)
theorem yO(h:∀ks T e,(F2 x).s ks T e=false):SS x:=λks T e j j j j j j j j j j j m=>by rw[h]at m;cases m
theorem dL(h:∀ks T e,(F2 x).l ks T e=false):SB x:=λks T e j j j j j j j j j j j m=>by rw[h]at m;cases m
theorem Kj(B:∀x,SS (.Ft x))(x:S):SS x/\SB x:=by
 induction x with
 |nil=>exact⟨yO λm m m=>rfl,CO⟩
 |cons a r C B=>exact⟨yO λm m m=>rfl,zS a r C.1 B.2⟩
 |set t x=>exact⟨BE t x,dL λm m m=>rfl⟩
 |sets H x=>exact⟨zn H x,dL λm m m=>rfl⟩
 |HH I x=>exact⟨AE I x,dL λm m m=>rfl⟩
 |JO i q j A cond=>exact⟨Ak i q j A cond,dL λm m m=>rfl⟩
 |HQ i q J D M E cond=>exact⟨xG i q J D M E cond,dL λm m m=>rfl⟩
 |ex x=>exact⟨CT x,dL λm m m=>rfl⟩
 |ite t a b C w=>exact⟨CL t a b C.2 w.2,dL λm m m=>rfl⟩
 |wh t b w=>exact⟨DE t b w.2,dL λm m m=>rfl⟩
 |fo i A b w=>exact⟨DI i A b w.2,dL λm m m=>rfl⟩
 |LJ i j A b w=>exact⟨By i j A b w.2,dL λm m m=>rfl⟩
 |ret x=>exact⟨Cv x,dL λm m m=>rfl⟩
 |Ka=>exact⟨AM,dL λm m m=>rfl⟩
 |Ft x=>exact⟨B x,dL λm m m=>rfl⟩
 |Kb x h G=>exact⟨zL x h G.2,dL λm m m=>rfl⟩
 |Kc i x h G=>exact⟨zu i x h G.2,dL λm m m=>rfl⟩
def FX(c:Cx)(env:Env)(L:Addr):Cx:=⟨L,env,c.D1::c.outer,c.base,c.os⟩
structure Entry (c:Cx) (σ:AH) (s:Shared) (env:Env) (ks:Ks) (T:Tab) (m0:D7) (h₁:Heap):Prop where
 names:env.scope.names=ks
 kind:env.scope.kind=.function
 glob:env.globals=mainGlobals
 blt:env.builtins=builtinsNs
 loc:env.locals=s.heap.objs.size
 frame:env.frame=some s.heap.objs.size
 keep:∀b o,s.heap.get? b=some o->h₁.get? b=some o
 ns:∃mL,h₁.Ns s.heap.objs.size mL
 cell:∀x b,ks.lookup x=some .cell->env.cells.lookup x=some b->(∃u,h₁.IsCell b u)/\s.heap.get? b=none/\b≠s.heap.objs.size
 ex:∀x,Ja (ks.lookup x)=true->∃a,env.cells.lookup x=some a
 apart:∀x b,ks.lookup x=some .cell->env.cells.lookup x=some b->∀y,env.cells.lookup y=some b->y=x
 var:∀t∈T,∀v,Em m0 t.1=some v->Bound env t.2.1 v σ h₁
 idx:T.Pairwise λs t=>s.1≠t.1/\s.2.1≠t.2.1
theorem dF(s:Shared):s.heap.get? s.heap.objs.size=none:=bW _
theorem Entry.live(e:Entry c σ s env ks T G h₁)(L:w' prog w c σ s):w' prog w (FX c env s.heap.objs.size) σ {s with heap:=h₁,toks:=tk}:=by
 obtain⟨mL,r⟩:=e.ns
 refine⟨⟨L.ok.says,L.ok.gt,e.frame,e.kind⟩,λb o h=>e.keep b o (L.stays b o h),⟨by show env.scope.kind≠_;rw[e.kind];decide,⟨s.heap.objs.size,?_⟩,L.frames.of_keeps λb o h j=>⟨o,e.keep b o h,rfl⟩⟩,⟨mL,r⟩,λa o h=>(L.own a o h).kept e.keep,L.parts,λa h=>?_,λa h A=>?_,L.gens,L.os⟩
 ·obtain⟨o,es,H,B,C,_⟩:=r
  refine⟨o,e.frame,?_,B,λvs q=>by rw[C]at q;cases q⟩
  show c.base.get? s.heap.objs.size=none
  cases q:c.base.get? s.heap.objs.size with
  |none=>rfl
  |some o'=>have:=L.stays _ _ q;rw[dF]at this;cases this
 ·obtain⟨D,E⟩:=L.apart a h
  refine⟨D,λA=>?_⟩
  have m:a∈(env::c.D1::c.outer).filterMap (·.frame):=A
  rw[Tc,e.frame]at m
  rcases SH.mp m with rfl|m
  ·rw[cj (bV L (dF s))]at h;cases h
  ·exact E m
 ·have m:a∈(env::c.D1::c.outer).filterMap (·.frame):=A
  rw[Tc,e.frame]at m
  rcases SH.mp m with rfl|m
  ·exact h (bV L (dF s))
  ·exact L.off a h m
theorem Entry.G7(e:Entry c σ s env ks T q h₁)(h:Ey (FX c env s.heap.objs.size) ks T b):s.heap.get? b=none:=by
 rcases h with rfl|⟨t,ht,r,j,m⟩
 ·exact dF s
 ·exact(e.cell _ b j m).2.1
theorem Entry.MU(e:Entry c σ s env ks T I h₁)(L:w' prog w c σ s):Hj (FX c env s.heap.objs.size) ks T:=by
 refine⟨e.loc,e.idx,λb r m=>?_,λt ht J A b B y C=>e.apart _ b A B y C⟩
 have D:=e.G7 r
 obtain⟨E,G,_,_⟩:=cM L D
 refine⟨E,λH=>?_⟩
 have j:b∈(env::c.D1::c.outer).filterMap (·.frame):=H
 rw[Tc,e.frame]at j
 refine dp j (λq=>?_) λj=>?_
 ·exact m q
 ·exact G j
theorem Entry.vs(e:Entry c σ s env ks T j h₁)(L:w' prog w c σ s):VS (FX c env s.heap.objs.size) ks T j σ h₁:=by
 refine⟨⟨?_,?_,λt ht v m=>e.var t ht v m⟩,λb q=>bV L (e.G7 q),λt ht C r b A=>(e.cell _ b r A).1⟩
 ·show Ee σ env.locals=false
  rw[e.loc];exact cj (bV L (dF s))
 ·show ∃B,h₁.Ns env.locals B
  rw[e.loc];exact e.ns
theorem Entry.back(e:Entry c σ s env ks T Z h₁)(L:w' prog w c σ s)(r:w' prog w (FX c env s.heap.objs.size) j C)(k:Kq (FX c env s.heap.objs.size) ks T σ {s with heap:=h₁,toks:=tk} j C):
  w' prog w c j C/\Kp c σ s j C:=by
 have E:∀b,b∉D2 c->s.heap.get? b≠none->b∉D2 (FX c env s.heap.objs.size):=λb h hs A=>by
  have m:b∈(env::c.D1::c.outer).filterMap (·.frame):=A
  rw[Tc,e.frame]at m
  rcases SH.mp m with rfl|m
  ·exact hs (dF s)
  ·exact h m
 have B:∀b,h₁.get? b=none->s.heap.get? b=none:=λb h=>by
  cases q:s.heap.get? b with
  |none=>rfl
  |some o=>rw[e.keep b o q]at h;cases h
 have M:Kp c σ s j C:=by
  refine⟨λb ob A D=>?_,λa h=>?_,λa o h=>?_⟩
  ·obtain⟨N,G,h'⟩:=k.keep b ob A (e.keep b ob D)
   obtain⟨H,rfl,I⟩:=h' (λO=>by rw[e.G7 O]at D;cases D)
   exact⟨H,G,λJ=>I (E b J (by rw[D];simp))⟩
  ·rcases k.fresh a h with h|h
   ·exact .inl h
   ·exact .inr (B a h)
  ·rcases k.GR a o h with h|h
   ·exact .inl h
   ·exact .inr (B a h)
 refine⟨⟨L.ok,r.stays,r.frames.2.2,?_,r.own,r.parts,λa h=>?_,λa h A=>r.off a h ?_,r.gens,r.os⟩,M⟩
 ·obtain⟨Q,J⟩:=L.ns
  exact⟨Q,df J λo U=>(by obtain⟨H,G,_⟩:=M.keep c.L o (L.Gh L.Gz) U;exact⟨H,G⟩)⟩
 ·obtain⟨Y,I⟩:=r.apart a h
  refine⟨Y,λA=>I ?_⟩
  show a∈(env::c.D1::c.outer).filterMap (·.frame)
  rw[Tc,e.frame]
  exact Ss _ A
 ·show a∈(env::c.D1::c.outer).filterMap (·.frame)
  rw[Tc,e.frame]
  exact Ss _ A
theorem Entry.left{ev:Value}{X:AH->Prop}{R:Result->Shared->Prop}(e:Entry c σ s env ks T m0 h₁)(L:w' prog w c σ s)(hA:A.frames=some (env::c.D1::c.outer))(h:FC prog w (FX c env s.heap.objs.size) ks T X σ {s with heap:=h₁,toks:=tk} ev s')(hR:∀m,EX prog w c X σ s ev m->R (.error ev) m):
  wpAny (model prog w) A (leaving env ev) (λj m=>R (.error ev) m) (λe' m=>R (.error e') m) s':=by
 obtain⟨C,I,J,M,hx⟩:=h
 obtain⟨Lb,D⟩:=e.back L J M
 refine Li (c:=FX c env s.heap.objs.size) hA hx λa Q B h' a0 U hX x fl fr hs=>hR _ ?_
 have N:∀b,I.heap.get? b=none->Ee σ b=true\/s.heap.get? b=none:=D.gone
 refine⟨a,Q,B,U,hX,⟨L.ok,x.base,x.own,x.parts,λb E=>?_,λb E G=>x.off b E ?_,λb ob G H hn=>?_,λb h=>?_,λb o h=>?_,λb ob E H=>?_,x.gens,x.os,.NQ a0 fl⟩⟩
 ·obtain⟨Y,h2⟩:=x.apart b E
  refine⟨Y,λG=>h2 ?_⟩
  show b∈(env::c.D1::c.outer).filterMap (·.frame)
  rw[Tc,e.frame]
  exact Ss _ G
 ·show b∈(env::c.D1::c.outer).filterMap (·.frame)
  rw[Tc,e.frame]
  exact Ss _ G
 ·obtain⟨sl,e1,Y⟩:=D.keep b ob G H
  rw[Y hn]at e1
  refine x.keep b ob (kS D G H) e1 λr=>?_
  have r:b∈(env::c.D1::c.outer).filterMap (·.frame):=r
  rw[Tc,e.frame]at r
  rcases SH.mp r with rfl|r
  ·rw[dF]at H;cases H
  ·exact hn r
 ·rcases x.fresh b h with h|h
  ·exact D.fresh b h
  ·exact N b h
 ·rcases x.GR b o h with h|h
  ·cases q:C b with
   |none=>exact absurd q h
   |some o'=>exact D.GR b o' q
  ·rcases N b h with h|h
   ·left;intro q;unfold Ee at h;rw[q]at h;cases h
   ·exact .inr h
 ·obtain⟨aa,e0,_⟩:=D.keep b ob (L.Gh E) H
  have O:b∈D2 (FX c env s.heap.objs.size):=by
   show b∈(env::c.D1::c.outer).filterMap (·.frame)
   rw[Tc,e.frame]
   exact Ss _ E
  obtain⟨sl,e1⟩:=x.frames b _ O e0
  obtain⟨Z,e2⟩:=hs b O _ e1
  exact⟨Z,e2⟩
set_option tactic.hygienic true in
theorem Entry.run(N:SB body)(C:(F2 body).l ks T m=true)(e:Entry c σ s env ks T J h₁)(L:w' prog w c σ s)(R:J2 c A (d+1))(O:ws d Xp body true ⟨λj σ=>Q .none σ,Q⟩ J σ):
  wpAny (model prog w) (A.deeper env) (execs m env) (λf B=>Jp prog w c σ s Q Xp (.ok (.ret (match f with| .ret v=>v|_=> .none))) B)
   (λev B=>wpAny (model prog w) (A.deeper env) (leaving env ev) (λj q=>Jp prog w c σ s Q Xp (.error ev) q) (λU q=>Jp prog w c σ s Q Xp (.error U) q) B) {s with heap:=h₁,toks:=tk}:=by
 have M:(A.deeper env).frames=some (env::c.D1::c.outer):=by
  show A.frames.map (env:: ·)=_
  rw[R.stack];rfl
 have he:D' w (FX c env s.heap.objs.size) (A.deeper env) true d env ks:=
  ⟨e.names,e.kind,e.glob,e.blt,e.frame,M,λj=>R.calm,by have:=R.depth;show A.depth+1+d<_;omega,PT R.units,e.ex⟩
 refine Sz (N ks T m prog w (FX c env s.heap.objs.size) (A.deeper env) true d J σ {s with heap:=h₁,toks:=tk} Xp _ C he (e.MU L) (e.vs L) (e.live L) O) (λf B D=>?_) λev B Y=>e.left L M Y λq h=>h
 cases f with
 |next=>
  obtain⟨r,Z,E,G,_,h'⟩:=D
  obtain⟨H,I⟩:=e.back L E G
  exact⟨r,H,I,h'⟩
 |ret v=>
  obtain⟨r,E,G,h'⟩:=D
  obtain⟨H,I⟩:=e.back L E G
  exact⟨r,H,I,h'⟩
 |_=>exact D.elim
theorem uo(l:List (Str×Value)):∀(m:Str->Option Value) (x:Str),x∉l.map (·.1)->bindL q l m x=m x:=by
 induction l with
 |nil=>exact λj j j=>rfl
 |cons p r ih=>
  intro m x h
  refine(ih _ x λg=>h (.tail _ g)).trans ?_
  by_cases k:q p.1=some .local
  ·exact(congrFun (if_pos k) x).trans (if_neg λ(e:x=p.1)=>h (SH.mpr (.inl e)))
  ·exact congrFun (if_neg k) x
theorem nX(A:B x=some .local)(l:List (Str×Value)):∀(m:Str->Option Value),(l.map (·.1)).Nodup->(x,v)∈l->bindL B l m x=some v:=by
 induction l with
 |nil=>exact λj j h=>(by cases h)
 |cons p r ih=>
  intro m q w
  have q:=Tb.mp q
  refine(SH.mp w).elim (λe=>?_) λw=>ih _ q.2 w
  subst e
  refine(uo r _ x q.1).trans ?_
  exact(congrFun (if_pos A) x).trans (if_pos rfl)
theorem wj(l:List (Str×Value)):∀(m:Str->Option Value) (x:Str),x∉l.map (·.1)->bindC q l m x=m x:=by
 induction l with
 |nil=>exact λj j j=>rfl
 |cons p r ih=>
  intro m x h
  refine(ih _ x λg=>h (.tail _ g)).trans ?_
  by_cases k:q p.1=some .local
  ·exact congrFun (if_pos k) x
  ·exact(congrFun (if_neg k) x).trans (if_neg λ(e:x=p.1)=>h (SH.mpr (.inl e)))
theorem ur(A:B x≠some .local)(l:List (Str×Value)):∀(m:Str->Option Value),(l.map (·.1)).Nodup->(x,v)∈l->bindC B l m x=some v:=by
 induction l with
 |nil=>exact λj j h=>(by cases h)
 |cons p r ih=>
  intro m q w
  have q:=Tb.mp q
  refine(SH.mp w).elim (λe=>?_) λw=>ih _ q.2 w
  subst e
  refine(wj r _ x q.1).trans ?_
  exact(congrFun (if_neg A) x).trans (if_pos rfl)
theorem rm{j:List (Str×Addr)}(h:∃a,j.lookup x=some a):∃a,((y,n)::j).lookup x=some a:=by
 rw[TJ]
 cases x==y with
 |true=>exact⟨_,rfl⟩
 |false=>exact h
theorem oQ(names:Ks):∀(n:Nat) (m:List (Str×Addr)),(∃a,m.lookup x=some a)->∃a,(cellsFrom n names m).lookup x=some a:=by
 induction names with
 |nil=>exact λj j h=>h
 |cons p r ih=>
  intro n m h
  unfold cellsFrom
  cases p.2==.cell with
  |true=>exact ih _ _ (rm h)
  |false=>exact ih _ _ h
theorem fZ(names:Ks):∀(n:Nat) (m:List (Str×Addr)),(x,NameKind.cell)∈names->∃a,(cellsFrom n names m).lookup x=some a:=by
 induction names with
 |nil=>exact λj j h=>(by cases h)
 |cons p r ih=>
  intro n m h
  refine(SH.mp h).elim (λe=>?_) λh=>?_
  ·subst e;exact oQ r _ _ ⟨n,List.lookup_cons_self⟩
  ·unfold cellsFrom
   cases p.2==.cell with
   |true=>exact ih _ _ h
   |false=>exact ih _ _ h
def Hu(args:List AV)(n:Nat):D7:=args.map some++List.replicate n none
theorem N5(h:Em (Hu args n) i=some v):args[i]? =some v:=by
 unfold Em Hu at h
 by_cases j:i<args.length
 ·rw[SV (by simpa using j),SG]at h
  cases q:args[i]? with
  |none=>rw[q]at h;cases h
  |some u=>rw[q]at h;simpa using h
 ·rw[SZ (by simpa using j),List.getElem?_replicate]at h
  split at h<;>cases h
structure Fn where
 f:Addr
 st:Stmt
 qual:Str
 pm:Value
 cd:Addr
 ps:List Str
 T:Tab
 body:S
def Ll(F:Fn)(j:List (Str×Addr))(m:Value):FuncData:=fnX (He F.st) F.qual (E7 F.st) (Eh F.st) (z' F.st) j .none .none .none F.pm none (.ref F.cd) m
def Fn.look(F:Fn):Bool:=
 decide ((F.cd,F.qual)∈codes)&&decide (F.ps.Nodup)&&(z' F.st).names.all (λy=>decide (y.2≠.free))&&F.ps.all (λx=>decide ((z' F.st).names.lookup x=some .local)||decide ((z' F.st).names.lookup x=some .cell))&&
  F.T.all (λt=>decide (F.ps.length<=t.1)||decide (F.ps[t.1]? =some t.2.1))&&decide (F.T.Pairwise λs t=>s.1≠t.1/\s.2.1≠t.2.1)&&
  decide ((z' F.st).isCoroutine=false)&&decide ((z' F.st).isGenerator=false)&&decide ((z' F.st).kind=.function)&&(F2 F.body).l (z' F.st).names F.T (Eh F.st)
structure Fn.Ok (F:Fn):Prop where
 at_:∀P,(K P).lookup F.f=some (Jl F.st F.qual [] F.pm (.ref F.cd) .none)
 keep:∀P,keepIn (K P) (.ref F.f)=true
 bind:∀vs:List Value,vs.length=F.ps.length->bindArgs (Ll F [] .none) ⟨vs,[]⟩=pure (F.ps.zip vs)
 look:F.look=true
theorem cG{α:Type}{a:α}{l:List (Str×α)}(h:l.lookup x=some a):(x,a)∈l:=mem_of_lookup h
theorem Ae{j:List Str}{i:Nat}(m:j[i]? =some x)(q:vs[i]? =some v):(x,v)∈j.zip vs:=by
 have:(j.zip vs)[i]? =some (x,v):=by rw[List.getElem?_zip_eq_some];exact⟨m,q⟩
 exact Sp this
theorem zV{j:List Str}{vs:List Value}(h:vs.length=j.length):(j.zip vs).map (·.1)=j:=by
 rw[List.map_fst_zip];omega
theorem mR(hr:∀x,SS (.Ft x)){F:Fn}(o:F.Ok){n:Nat}{args:List AV}{Q:EO}(ha:args.length=F.ps.length)(hw:ws d Xp F.body true ⟨λj σ=>Q .none σ,Q⟩ (Hu args n) σ):D5 (d+1) (.ref F.f) args Q Xp σ:=by
 have m:=o.look
 unfold Fn.look at m
 simp only[SF,decide_eq_true_eq,Ti,UB]at m
 obtain⟨⟨⟨⟨⟨⟨⟨⟨⟨l1,l2⟩,l3⟩,l4⟩,l5⟩,l6⟩,l7⟩,l8⟩,l9⟩,Z⟩:=m
 refine⟨λprog w c s fv L hf=>?_,λprog w c A s fv vs R L hf O=>?_⟩
 ·cases cv hf;exact j7 L (o.keep _)
 ·cases cv hf
  have D:vs.length=F.ps.length:=by rw[<-ha,<-O,Su]
  have aa:=L.says.1 F.f _ (o.at_ w.params)
  have ab:s.heap.CodeRec (.ref F.cd) F.qual:=(L.says.2.1 (F.cd,F.qual) l1).rec
  have J:A.depth<recursionLimit:=by have:=R.depth;omega
  have r:=zV D
  have B:∀x∈F.ps.zip vs,(z' F.st).names.lookup x.1=some .local\/((z' F.st).names.lookup x.1=some .cell/\((cellsFrom (s.heap.objs.size+1) (z' F.st).names []).lookup x.1).isSome=true):=λx E=>by
   have ac:x.1∈F.ps:=by rw[<-r];exact SY E
   rcases l4 _ ac with h|h
   ·exact .inl h
   ·obtain⟨a,e⟩:=fZ (z' F.st).names (s.heap.objs.size+1) [] (cG h)
    exact .inr ⟨h,by rw[e];rfl⟩
  refine codeAny_call_cells (fd:=Ll F [] .none) (body:=Eh F.st) J aa rfl L.gt.nolimit ab rfl (o.bind vs D) rfl B (λaf x=>?_) l7 l8 l9
  obtain⟨⟨⟨h₁,tk,rfl⟩,ns,U,fresh⟩,G,M,C⟩:=x
  have ae:Entry c σ s (callEnvC (Ll F [] .none) s.heap.objs.size F.f) (z' F.st).names F.T (Hu args n) h₁:=by
   refine⟨rfl,l9,rfl,rfl,rfl,rfl,U,⟨_,ns⟩,λx b E H=>?_,λx E=>?_,λx b E H y hy=>name_of_addr M (mem_of_lookup hy) (mem_of_lookup H),λt ht v I=>?_,l6⟩
   ·have N:=C x b (mem_of_lookup H)
    exact⟨⟨_,G x b H⟩,Tx (TH N),Uk N⟩
   ·cases hk:(z' F.st).names.lookup x with
    |none=>rw[hk]at E;cases E
    |some k=>
     rw[hk]at E
     have hm:=cG hk
     cases k<;>first|exact fZ _ _ _ hm|exact absurd rfl (l3 _ hm)|cases E
   ·have I:=N5 I
    have N:t.1<F.ps.length:=by rw[<-ha];exact(Sr.mp I).1
    have hp:=(l5 t ht).resolve_left (by omega)
    obtain⟨u,hu,Y⟩:∃u,vs[t.1]? =some u/\av u=v:=by
     rw[<-O,SG]at I
     cases q:vs[t.1]? with
     |none=>rw[q]at I;cases I
     |some u=>rw[q]at I;exact⟨u,rfl,by simpa using I⟩
    have hz:=Ae hp hu
    rcases B _ hz with h|h
    ·exact .loc h _ u ns (nX h _ _ (by rw[r];exact l2) hz) Y
    ·obtain⟨b,H⟩:=UI.mp h.2
     refine .cell (.inl h.1) b u H ?_ Y (cj (bV L (Tx (TH (C _ b (mem_of_lookup H))))))
     have:=G _ b H
     rw[ur (by show(z' F.st).names.lookup _≠_;rw[h.1];exact λe=>(by cases e)) _ _ (by rw[r];exact l2) hz]at this
     exact this
  exact ae.run (Kj hr F.body).2 Z L R hw
theorem DV(m:∀x,SS (.Ft x)){F:Fn}(o:F.Ok)(q:args.length=F.ps.length)(r:let R:FP:=⟨λj σ=>Q .none σ,Q⟩;ws d Xp F.body true R (Hu args n) σ):D5 (d+1) (.ref F.f) args Q Xp σ:=mR m o q r
section
abbrev F3:List Value:=[.ref 47,.type "Exception",.type "BaseException",.type "object"]
abbrev Pb:Obj:=excClassObj "LimitFault" "LimitFault" 60 59 [.ref 47] F3 true [] [] false none none (some (.ref 51)) none (some (.str "LimitFault" 234)) (some (.str "LimitFault" 242)) (some (.bool true)) "Exception.__new__"
section
variable {os:OsState}
theorem dP(X:(K P).In h):h.get? 60=some Pb:=X 60 _ rfl
theorem vY(C:A.handled=none)(D:wpAny M A x (λv m=>∃e r w,v=.ref e/\(K P).In m.heap/\m.heap.get? e=some {cls:=.ref 60,dict:=r,data:=.fields #[w,.none,.none,.none,.bool false,.none]}/\E (.ref e) m) E s):
  wpAny M A (raiseStmt env (some x) none) Q E s:=by
 have q:(Value.ref 60::F3).contains (.type "BaseException")=true:=rfl
 unfold raiseStmt
 refine So (Sz D (λv m h₁=>?_) λj j x=>x)
 obtain⟨e,r,w,rfl,X,he,G⟩:=h₁
 obtain⟨H,g,d,tk,os⟩:=m
 have B:=dP X
 repeat (first|with_reducible refine wpAny_loadPart_at he ?_|with_reducible refine wpAny_loadPart_at B ?_|(with_reducible refine wpAny_isSubtype_exc B ?_;rw[q])|wp_step)
 exact wpAny_raiseNew_none C G
theorem oR(X:(K P).In h)(w:Q () ⟨h,g,d,t,os⟩):wpAny M A (checkBuiltinCall "Exception.__new__" ⟨.ref 60::r,[]⟩) Q E ⟨h,g,d,t,os⟩:=by
 have m:=dP X
 have j:(Value.ref 60::F3).contains (.type "Exception")=true:=rfl
 have F:=PySem.F.excBase_Exception
 have q:=F.noStar
 delta checkBuiltinCall
 rw[F.newKind,F.newSplit,F.newRow]
 dsimp only
 repeat (first|with_reducible refine wpAny_loadPart_at m ?_|(with_reducible refine wpAny_isSubtype_exc m ?_;rw[j])|with_reducible refine wpAny_staticBase_exc m ?_|with_reducible refine wpAny_madeBy_exc m ?_|with_reducible refine wpAny_ite_false (decide_eq_false (by rw[bne_self_eq_false];exact To)) ?_|wp_step)
 exact w
end
section
variable {os:OsState}
theorem Ab(X:(K P).In h)(D:R (.ok (.ret (.ref (h.objs.size+1)))) ⟨(h.push {cls:=.type "tuple",data:=.seq #[v]}).push {cls:=.ref 60,data:=.fields #[.ref h.objs.size,.none,.none,.none,.bool false,.none]},g,d,t,os⟩):
  codeAny (model prog w) A (.builtin "Exception.__new__" ⟨[.ref 60,v],[]⟩) R ⟨h,g,d,t,os⟩:=by
 have F:=PySem.F.excBase_Exception
 have j:=F.ends
 have m:=dP X
 have q:(Value.ref 60::F3).contains (.type "Exception")=true:=rfl
 have r:(Value.ref 60::F3).contains (.type "AttributeError")=false:=rfl
 have B:(Value.ref 60::F3).contains (.type "NameError")=false:=rfl
 refine codeAny_builtinAt F.entry ?_
 unfold Builtin.«BaseException.__new__»
 refine _root_.PySem.wpAt_bind ?_
 show _root_.PySem.wpAt _ _ _ (stack>>=_) _ _ _
 refine _root_.PySem.wpAt_bind (_root_.PySem.wpAt_stack λp C=>_root_.PySem.wpAt_of_wpAny ?_)
 wp_walk
 refine _root_.PySem.wpAt_of_wpAny ?_
 rw[F.owner]
 repeat (first|with_reducible refine wpAny_madeHere_exc F.canon m ?_|with_reducible refine wpAny_loadPart_at m ?_|(with_reducible refine wpAny_isSubtype_exc m ?_;first|rw[q]|rw[r]|rw[B])|wp_step)
 show R _ _
 rw[Uh]
 exact D
end
end
section
section
variable {os:OsState}
structure Pc (P:Params) (h h':Heap) (e:Addr) (od:Option Addr):Prop where
 K':(K P).In h'
 stays:h.StaysIn h'
 new:h.get? e=none
 at_:∃ta,h'.get? e=some {cls:=.ref 60,dict:=od,data:=.fields #[.ref ta,.none,.none,.none,.bool false,.none]}
theorem om(X:(K P).In h)(I:∀h' e,Pc P h h' e none->wpAny (model prog w) A (call (.ref 37) [.ref e,v]) (λr D=>r=.none/\Q (.done (.ret (.ref e))) D) E ⟨h',g,d,t,os⟩):
  wpAny (model prog w) A (Builtin.«type.__call__» ⟨[.ref 60,v],[]⟩) Q E ⟨h,g,d,t,os⟩:=by
 have F:=PySem.F.excBase_Exception
 have G:=dP X
 repeat (first|with_reducible refine wpAny_loadPart_at G ?_|with_reducible refine wpAny_madeBy_exc G ?_|wp_step)
 refine codeAny_call_builtin_code (Code.quiet_builtin _ F.quiet) (oR X ?_)
 refine Ab X ?_
 show wpAny _ _ _ _ _ _
 have H:h.StaysIn ((h.push {cls:=.type "tuple",data:=.seq #[v]}).push {cls:=.ref 60,data:=.fields #[.ref h.objs.size,.none,.none,.none,.bool false,.none]}):=λb o e=>Sq _ (Sq _ e)
 have m:=X.keeps H
 have q:=dP m
 have B:((h.push {cls:=.type "tuple",data:=.seq #[v]}).push {cls:=.ref 60,data:=.fields #[.ref h.objs.size,.none,.none,.none,.bool false,.none]}).get? (h.objs.size+1)=some
   {cls:=.ref 60,data:=.fields #[.ref h.objs.size,.none,.none,.none,.bool false,.none]}:=by heap_get
 have L:Pc P h ((h.push {cls:=.type "tuple",data:=.seq #[v]}).push {cls:=.ref 60,data:=.fields #[.ref h.objs.size,.none,.none,.none,.bool false,.none]}) (h.objs.size+1) none:=
  ⟨m,H,Tx (Us _),_,B⟩
 generalize (h.push {cls:=.type "tuple",data:=.seq #[v]}).push {cls:=.ref 60,data:=.fields #[.ref h.objs.size,.none,.none,.none,.bool false,.none]}=h₁ at m q B L⊢
 have C:(Value.ref 60::F3).contains (.ref 60)=true:=rfl
 unfold isInstance
 repeat (first|with_reducible refine wpAny_loadPart_at B ?_|(with_reducible refine wpAny_isSubtype_exc q ?_;rw[C])|wp_step)
 show wpAny _ _ (typeLookup (.ref 60) _) _ _ _
 refine Looks.at (looks_findIn m (r:=some (.ref 37)) rfl) ?_
 refine SK (So ?_)
 unfold bindSpecial
 refine So (wpAny_typeOf (T:="function") ⟨_,m 37 _ rfl,rfl⟩ ?_)
 rw[if_pos (by decide)]
 refine Sv (So (Sz (I _ _ L) (λr D J=>?_) λj j x=>x))
 obtain⟨rfl,M⟩:=J
 wp_walk
 exact M
theorem xC(X:(K P).In h)(m:∀h' e,Pc P h h' e none->wpAny (model prog w) (A.under (.builtin "type.__call__" ⟨[.ref 60,v],[]⟩)) (call (.ref 37) [.ref e,v]) (λr q=>r=.none/\Q (.ref e) q) E ⟨h',g,d,t,os⟩):
  wpAny (model prog w) A (call (.ref 60) [v]) Q E ⟨h,g,d,t,os⟩:=by
 have C:=tc_lookup
 have D:=tc_bind (.ref 60)
 have j:=dP X
 have G:(⟨h,g,d,t,os⟩:Shared).TypeIs (.ref 60) "type":=⟨_,j,rfl⟩
 refine wpAny_call (codeAny_of_tree ?_)
 show wpAny _ _ (callAny (.ref 60) _) _ _ _
 repeat (any_goals (first|assumption|with_reducible refine wpAny_loadPart_at j ?_|wp_step))
 refine⟨rfl,?_⟩
 refine codeAny_call_builtin_at (Code.quiet_builtin _ (by decide+kernel)) entry_typeCall (wpAny_check_type_call_sub j (om X λh' e B=>?_))
 exact m h' e B
end
end
section
theorem ko:Slot "wrapper_descriptor" "__get__" "wrapper_descriptor.__get__":=.of (owner:="wrapper_descriptor") (n:="__get__") (by rw[typeLookup_type,builtinLookup_eq_fast];kernel_rfl) (by decide+kernel) (by decide+kernel) (by decide+kernel)
 (by first|exact .inl (by decide+kernel)|exact .inr (by decide+kernel)) (by rw[isSubtype_type];kernel_rfl)
theorem po:entryFor table "wrapper_descriptor.__get__"=some Builtin.«wrapper_descriptor.__get__»:=entryFor_of_tree (by kernel_rfl)
theorem qU(a b c:Value):argsOk "wrapper_descriptor.__get__" ⟨[a,b,c],[]⟩:=by unfold argsOk;kernel_rfl
section
variable {os:OsState}
theorem rz(X:(K P).In h):alongIn (K P) "__init__" [.type "Exception",.type "BaseException",.type "object"]=some (some (.builtin "Exception.__init__")):=by kernel_rfl
abbrev EN(e:Addr):Obj:={cls:=.type "method-wrapper",data:=.fields #[.builtin "Exception.__init__",.ref e]}
theorem tW(X:(K P).In h)(he:h.get? e=some {cls:=.ref 60,dict:=w,data:=.fields #[B,.none,.none,.none,.bool false,.none]})(m:Q (.done (.ret (.ref h.objs.size))) ⟨h.push (EN e),g,d,t,os⟩):wpAny M A (Builtin.«wrapper_descriptor.__get__» ⟨[.builtin "Exception.__init__",.ref e,.ref 60],[]⟩) Q E ⟨h,g,d,t,os⟩:=by
 have q:=dP X
 have j:(Value.ref 60::F3).contains (.type "Exception")=true:=rfl
 have r:".".intercalate ("Exception.__init__".cutAt '.').dropLast="Exception":=by decide+kernel
 unfold Builtin.«wrapper_descriptor.__get__»
 repeat (first|rewrite[r]|(with_reducible refine wpAny_loadPart_at he ?_)|(with_reducible refine wpAny_isSubtype_exc q ?_;rewrite[j])|wp_step)
 exact m
theorem qN(B:(name==("__class__":Str))=false)(G:alongIn (K P) name [.type "Exception",.type "BaseException",.type "object"]=some (some (.builtin "Exception.__init__")))(X:(K P).In h)(H:∀C,Looks (model prog w) h (opaqueClassAbove (.ref C)) none)(m:h.get? I=some (ks_superObj 47 e 60))(he:h.get? e=some {cls:=.ref 60,dict:=od,data:=.fields #[t0,.none,.none,.none,.bool false,.none]})(J:e≠60)(M:Q (.done (.ret (.ref h.objs.size))) ⟨h.push (EN e),g,d,t,os⟩):
  wpAny (model prog w) A (Builtin.«super.__getattribute__» ⟨[.ref I,.str name tk],[]⟩) Q E ⟨h,g,d,t,os⟩:=by
 have N:=dP X
 have O:=ko.lookup
 have q:(Value.ref e==Value.ref 60)=false:=by simp[J]
 have D:(⟨h,g,d,t,os⟩:Shared).TypeIs (.builtin "Exception.__init__") "wrapper_descriptor":=by unfold Shared.TypeIs;kernel_rfl
 have U:((Value.ref 60::F3).dropWhile (· !=.ref 47)).drop 1=[.type "Exception",.type "BaseException",.type "object"]:=rfl
 have r:(ks_superObj 47 e 60).data=.fields #[.ref 47,.ref e,.ref 60]:=rfl
 have Y:(#[.ref 47,.ref e,.ref 60]:Array Value)[0]? =some (.ref 47):=rfl
 have Z:(#[.ref 47,.ref e,.ref 60]:Array Value)[1]? =some (.ref e):=rfl
 have f2:(#[.ref 47,.ref e,.ref 60]:Array Value)[2]? =some (.ref 60):=rfl
 unfold Builtin.«super.__getattribute__»
 repeat (first
  |(with_reducible refine wpAny_field m r Y ?_)|(with_reducible refine wpAny_field m r Z ?_)|(with_reducible refine wpAny_field m r f2 ?_)
  |(with_reducible refine ks_wpAny_notOpaque (H _) ?_)
  |(with_reducible refine wpAny_mroOf_exc N ?_;rw[U])
  |(refine ks_forIn_along X (λj j=>rfl) rfl ?_ G)
  |(with_reducible refine wpAny_typeOf D ?_)
  |(with_reducible refine wpAny_call_entry ko D po (tW X he ?_) (qU _ _ _))
  |(with_reducible refine⟨_,rfl,?_⟩)
  |rewrite[show(if(Value.ref e==Value.ref 60)=true then Value.none else Value.ref e)=Value.ref e from if_neg (by rw[q];exact To)]
  |with_reducible refine wpAny_ite_false (decide_eq_false (by rw[B];exact To)) ?_
  |with_reducible refine wpAny_ite_false (decide_eq_false (by rw[q];exact To)) ?_
  |with_reducible refine wpAny_ite_false (decide_eq_false (by rw[B,q];exact To)) ?_
  |wp_step
  |dsimp only)
 exact M
end
end
section
section
variable {os:OsState}
abbrev FY(j:Addr)(m:Option Addr):Obj:={cls:=.ref 60,dict:=m,data:=.fields #[.ref j,.none,.none,.none,.bool false,.none]}
theorem oq(D:(name==("__class__":Str))=false)(G:alongIn (K P) name [.type "Exception",.type "BaseException",.type "object"]=some (some (.builtin "Exception.__init__")))(X:(K P).In h)(H:∀C,Looks (model prog w) h (opaqueClassAbove (.ref C)) none)(m:h.get? B=some (ks_superObj 47 e 60))(he:h.get? e=some (FY Y Z))(M:e≠60)(N:Q (.ref h.objs.size,[]) ⟨h.push (EN e),g,d,t+1,os⟩):wpAny (model prog w) A (getMethod (.ref B) name pl) Q E ⟨h,g,d,t,os⟩:=by
 have q:=F.ks_slot_super_ga.lookup
 have r:=F.ks_canon_super_ga
 have I:∀O,(⟨h,g,d,O,os⟩:Shared).TypeIs (.ref B) "super":=λj=>⟨_,m,rfl⟩
 delta getMethod
 refine So (wpAny_specialOf (I _) q ?_)
 show wpAny _ _ (if(Manifest.canonical "super.__getattribute__" !="object.__getattribute__")=true then _ else _) _ _ _
 rw[if_pos r]
 delta getAttr getAttrBy
 refine So (So (wpAny_mkText (SK (So (wpAny_typeOf (I _) (So (wpAny_of_eq q ?_)))))))
 show wpAny _ _ (getAttrByItsOwn (.ref B) (.str name t) (.type "super") (.builtin "super.__getattribute__") true false) _ _ _
 delta getAttrByItsOwn hookBefore callGetattribute boundAndCalled
 refine So (wpAny_of_eq (show(if onTheHeap (.type "super")then typeLookup (.type "super") "__getattr__" else pure none)=pure none from rfl) ?_)
 refine So (wpAny_attempt (SK ?_))
 show wpAny _ _ (bindSpecial (.builtin "super.__getattribute__") (.ref B)>>=_) _ _ _
 refine So (wpAny_of_eq (F.ks_slot_super_ga.bind _) ?_)
 refine Sz (Q:=λv J=>v=.ref h.objs.size/\J=⟨h.push (EN e),g,d,t+1,os⟩) (E:=λj j=>False)
  (wpAny_call_entry F.ks_slot_super_ga (I _) F.ks_entry_super_ga (qN D G X H m he M ⟨_,rfl,rfl,rfl⟩) (F.ks_gaArgs_super _ _)) (λv J U=>?_) λj j z=>z.elim
 obtain⟨rfl,rfl⟩:=U
 exact Sv (Sv N)
theorem xT(j:h.get? b=some (EN e)):∃k,(k=Keeper.frame\/k=Keeper.machine\/k=Keeper.boundFrame)/\Looks M h (keeperOf (.ref b)) k:=by
 refine⟨.machine,.inr (.inl rfl),(Looks.ld (part:=none) j).andThen ?_⟩
 exact .now
theorem mz(X:(K P).In h)(he:h.get? e=some (FY q r))(j:Q () ⟨h,g,d,t,os⟩):wpAny M A (checkBoundCall "Exception.__init__" ⟨[.ref e,v],[]⟩) Q E ⟨h,g,d,t,os⟩:=by
 have m:=dP X
 have FB:=PySem.F.excBase_Exception
 delta checkBoundCall
 rw[FB.initRow,FB.initKind]
 dsimp only
 rw[if_pos (by decide)]
 repeat (first|with_reducible refine wpAny_loadPart_at he ?_|with_reducible refine wpAny_loadPart_at m ?_|wp_step)
 exact j
theorem oK(X:(K P).In h)(j:h.get? b=some (EN e))(he:h.get? e=some (FY D m))(q:∀h',(∀c o,c≠e->h.get? c=some o->h'.get? c=some o)->(∃r,h'.get? e=some (FY r m))->Q .none ⟨h',g,d,t,os⟩):wpAny (model prog w) A (call (.ref b) [v]) Q E ⟨h,g,d,t,os⟩:=by
 have FB:=PySem.F.excBase_Exception
 refine wpAny_call (codeAny_of_tree ?_)
 show wpAny _ A.in1 (callAny (.ref b) ⟨[v],[]⟩) _ _ _
 delta callAny
 refine So (wpAny_load j ?_)
 show wpAny _ _ (do checkBoundCall "Exception.__init__" ⟨[.ref e,v],[]⟩;again (.builtin "Exception.__init__" ⟨[.ref e,v],[]⟩)) _ _ _
 refine So (mz X he (Sv ⟨Code.quiet_builtin _ (by decide+kernel),codeAny_builtin FB.initEntry ?_⟩))
 delta Builtin.«BaseException.__init__»
 wp_walk
 refine q _ (λc o B C=>?_) ⟨h.objs.size,?_⟩
 ·rw[Uv _ _ (Ne.symm B)]
  exact Sq _ C
 ·rw[TC _ (Sq _ he) rfl]
  rfl
theorem AL(X:(K P).In h)(Z:findIn (K P) (.ref 60) name=some none)(he:h.get? e=some (FY B none))(hq:∀h' C,(∀c o,c≠e->h.get? c=some o->h'.get? c=some o)->(∃dx,h'.get? e=some (FY B (some dx)))->Q (.done (.ret .none)) ⟨h',g,d,C,os⟩):
  wpAny (model prog w) A (Builtin.«object.__setattr__» ⟨[.ref e,.str name tk,v],[]⟩) Q E ⟨h,g,d,t,os⟩:=by
 have hC:=dP X
 have q:=F.store_Exception.passes (.ref e)
 obtain⟨o,D,hc,G,hd⟩:∃o:Obj,h.get? e=some o/\o.cls=.ref 60/\o.dict=none/\o=FY B none:=⟨_,he,rfl,rfl,rfl⟩
 delta Builtin.«object.__setattr__»
 repeat (first|rw[refuse_eq]|(rw[refuseLoop_ref,refuseLoop_ref,q])|(with_reducible refine wpAny_loadPart_at D ?_;rw[hc])|with_reducible refine wpAny_mroOf_exc hC ?_|(with_reducible refine Looks.at (looks_findIn X Z) ?_)|wp_step)
 rw[G,if_neg (by simp[typeHasDict])]
 subst hd
 have m:(h.push {cls:=.type "dict",data:=.dict #[]}).get? e=some (FY B none):=Sq _ D
 have r:e≠h.objs.size:=Tu (TQ D)
 refine So (wpAny_alloc' ?_)
 refine So (wpAny_update' m ?_)
 refine Sv ?_
 have H:((h.push {cls:=.type "dict",data:=.dict #[]}).update e λo=>{cls:=o.cls,dict:=some h.objs.size,data:=o.data,slots:=o.slots}).get? h.objs.size=some {cls:=.type "dict",data:=.dict #[]}:=
  (Heap.get?_update_ne _ _ _ _ r.symm).trans (U7 rfl rfl)
 have I:((h.push {cls:=.type "dict",data:=.dict #[]}).update e λo=>{cls:=o.cls,dict:=some h.objs.size,data:=o.data,slots:=o.slots}).Ns h.objs.size (λj=>none):=
  ⟨_,#[],_,H,rfl,λe he=>absurd he (by simp),λj=>rfl⟩
 show wpAny _ _ (Builtin.ObjectAttr.storeInDict h.objs.size (.str name tk) name v) _ _ _
 delta Builtin.ObjectAttr.storeInDict Builtin.ObjectAttr.newKeyGuard
 refine So (Sv (So (wpAny_nsSet1 (Heap.Ns1.of_empty I) λh' J hs=>?_)))
 obtain⟨oD,aa,ab,M,N,O⟩:=J.count (Within.cons name v Within.nil)
 refine So (wpAny_lookBehind M (by rw[N];exact pastItsLine_dict (SJ O (by rw[TK,Vm,sizeLine_eq];omega))) ?_)
 wp_walk
 refine hq h' _ (λc ob U Y=>?_) ⟨h.objs.size,?_⟩
 ·exact(hs.2 c (Tu (TQ Y))).trans ((Heap.get?_update_ne _ _ _ _ U).trans (Sq _ Y))
 ·exact(hs.2 e r).trans (TC _ m rfl)
end
end
section
section
variable {os:OsState}
theorem qx(X:(K P).In h)(he:h.get? e=some (FY B C))(r:Q () ⟨h,g,d,t,os⟩):wpAny M A (checkBuiltinCall "object.__setattr__" ⟨[.ref e,j,v],[]⟩) Q E ⟨h,g,d,t,os⟩:=by
 have w:=dP X
 have m:=F.store_Exception
 have q:(Value.ref 60::F3).contains (.type "object")=true:=rfl
 have D:=m.args (.ref e) j v
 simp only[checkBuiltinCall,m.kind,m.split]
 refine So ?_
 delta isInstance
 repeat (first|(with_reducible refine wpAny_loadPart_at he ?_)|(with_reducible refine wpAny_isSubtype_exc w ?_;rw[q])|wp_step)
 exact r
theorem rI(X:(K P).In h)(B:findIn (K P) (.ref 60) name=some none)(he:h.get? e=some (FY r none))(C:∀h' j,(∀c o,c≠e->h.get? c=some o->h'.get? c=some o)->(∃D,h'.get? e=some (FY r (some D)))->Q () ⟨h',g,d,j,os⟩):
  wpAny (model prog w) A (setAttr (.ref e) name v) Q E ⟨h,g,d,t,os⟩:=by
 have m:=F.store_Exception
 obtain⟨o,G,H,M⟩:∃o:Obj,h.get? e=some o/\o.cls=.ref 60/\o=FY r none:=⟨_,he,rfl,rfl⟩
 have N:=m.slot.bind (.ref e)
 have q:findIn (K P) (.ref 60) "__setattr__"=some (some (.builtin "object.__setattr__")):=by kernel_rfl
 delta setAttr callSpecial? specialOf
 repeat (any_goals (first|assumption|(with_reducible refine wpAny_loadPart_at G ?_;rw[H])|(with_reducible refine Looks.at (looks_findIn X q) ?_)|wp_step))
 refine codeAny_call_builtin m.slot.plain m.entry (qx X he (AL X B he λh' j I J=>?_))
 repeat (any_goals (first|assumption|wp_step))
 exact C h' j I J
end
end
theorem lG{p0 p1:Pos}(B:fd.scope.names.lookup ("super":Str)=some .globalImplicit)(H:fd.scope.names.lookup ("__class__":Str)=some .free)(N:fd.scope.names.lookup ar.arg=some .local)(O:fd.scope.kind=.function)(U:fd.closure.lookup ("__class__":Str)=some cc)(Y:fd.globals=mainGlobals)(Z:fd.builtins=builtinsNs)(j:fd.code=.ref aa)(hf:s.heap.get? f=some of)(ab:of.data=.func fd)(hp:(fd.params.posonlyargs++fd.params.args).head? =some ar)(CA:F8 s.heap aa q)(hg:Pg prog)(G:GT s.heap)(X:(K P).In s.heap)(ac:nsIn (K P) mainGlobals ("super":Str)=some none)(ae:(I==("__class__":Str))=false)(r:s.heap.IsCell cc (some (.ref D)))(hD:s.heap.get? D=some oD)(J:oD.data=.cls aj)(af:s.heap.Ns L m)(hv:m ar.arg=some (.ref x))(hx:s.heap.get? x=some ox)(ag:ox.cls=.ref C)(ah:∀c,ox.data≠.cls c)(M:mroIn (K P) C (.ref D)=some true)(hq:∀h',h'.get? s.heap.objs.size=some (ks_superObj D x C)->s.heap.StaysIn h'->Q (.ref s.heap.objs.size) {s with heap:=h'}):
  _root_.PySem.wpAt (model prog w) A (.func body (callEnv fd L f)) (attributeBase (.Call (.Name "super" p0) [] [] p1) I (callEnv fd L f) ai) Q E s:=by
 obtain⟨o,vs,t1,c1,c2,c3,tf,c4⟩:=CA
 obtain⟨⟨mg,mb,g1,g2,g3⟩,g4⟩:=G
 obtain⟨hh,g,d,t,os⟩:=s
 refine ks_wpAt_super_base (env:=callEnv fd L f) B H ae rfl hf ab hp j c1 c2 c4 (by rw[hg.1];simp) hg.2 ?_
 refine ks_loadName_global O B (loadGlobal_builtin (env:=callEnv fd L f) (by show hh.Ns fd.globals mg;rw[Y];exact g1) (mg_none_of X g1 ac) (by show hh.Ns fd.builtins mb;rw[Z];exact g2) ((g3 _ (by decide)).trans (show bootBuiltins "super"=some (.type "super") by kernel_rfl)) ⟨rfl,?_⟩)
 refine wpAny_loadName_free O H U r ?_
 refine wpAny_loadName_local O N af hv ?_
 refine ks_wpAny_isType_cls hD J ⟨rfl,?_⟩
 exact ks_wpAny_call_super hD J hx ag ah (looks_mroIn X M) (λh' e k=>hq h' e k)
section
set_option tactic.hygienic true in
theorem lx{p2 p4:Pos}(Q0:(p2.endLine==p4.line)=true)(hf:methodCallForm (args.length+0) (backTo p4 (starEach args env)) []=true):eval (.Call (.Attribute o name p2) args [] p4) env=(do
   let ov<-attributeBase o name env (eval o env)
   standAt p2.atName
   let(f,first)<-holding [ov] (getMethod ov name (do return (<-importBound o env).getD true))
   callWith p4 f first (backTo p4 (starEach args env)) []):=by
 show(attributeBase o name env (eval o env)>>=λov=>standAt p2.atName>>=λ_=>methodCall o name p2 p4 env ov (args.length+0) (backTo p4 (starEach args env)) [])=_
 refine congrArg (Bind.bind (attributeBase o name env (eval o env))) (funext λov=>congrArg (Bind.bind (standAt p2.atName)) (funext λ_=>?_))
 unfold methodCall
 rw[hf]
 refine congrArg (Bind.bind (holding [ov] (getMethod ov name (do return (<-importBound o env).getD true)))) (funext λx=>?_)
 show(methodCallPos true o env p2 p4>>=λcp=>callWith cp x.1 x.2 (backTo p4 (starEach args env)) [])=_
 rw[show methodCallPos true o env p2 p4=pure p4 from if_pos Q0,pure_bind]
theorem yu:∃p0 p1 p2 p3 p4 p5 p6 p7 p8 p9,Eh (D3 2 0)=[.Expr (.Call (.Attribute (.Call (.Name "super" p0) [] [] p1) "__init__" p2) [.Name "what" p3] [] p4) p5,.Assign [.Attribute (.Name "self" p6) "what" p7] (.Name "what" p8) p9]/\(p2.endLine==p4.line)=true:=⟨_,_,_,_,_,_,_,_,_,_,rfl,rfl⟩
abbrev IM:FuncData:=fnX (He (D3 2 0)) (Str.ofString "FinderError.__init__") (E7 (D3 2 0)) (Eh (D3 2 0)) (z' (D3 2 0)) [((Str.ofString "__class__"),25)] .none .none .none (.str (Str.ofString "relfinder.errors") 194) none (.ref 36) (.ref 30)
theorem uZ:(z' (D3 2 0)).names.lookup ("super":Str)=some .globalImplicit/\(z' (D3 2 0)).names.lookup ("__class__":Str)=some .free/\(z' (D3 2 0)).names.lookup ("self":Str)=some .local/\(z' (D3 2 0)).names.lookup ("what":Str)=some .local/\(z' (D3 2 0)).kind=.function/\
  (z' (D3 2 0)).isCoroutine=false/\(z' (D3 2 0)).isGenerator=false/\∀x∈(z' (D3 2 0)).names,x.2≠.cell:=by decide+kernel
theorem xY:∃ar,(IM.params.posonlyargs++IM.params.args).head? =some ar/\ar.arg=("self":Str):=⟨_,rfl,rfl⟩
theorem w5(a b:Value):bindArgs IM ⟨[a,b],[]⟩=pure [(("self":Str),a),(("what":Str),b)]:=rfl
theorem B5(P:Params):(K P).lookup 37=some ⟨.type "function",none,.func IM,#[]⟩:=rfl
section
variable {os:OsState}
theorem pE(S:G5 w h)(C:Addr):Looks M h (opaqueClassAbove (.ref C)) none:=by
 obtain⟨B,j,m⟩:=S.2.2.2
 have r:Looks M h (nsGet cStatics "thirdparty.any") none:=λA Q E s k q=>wpAny_nsGet (j.keeps k) (by rw[m];exact q)
 exact Looks.andThen (a:=false) (r.andThen .now) (by show Looks M h (if(!false)=true then pure none else _) none;rw[if_pos (show(!false)=true from rfl)];exact .now)
theorem vp(Z:A.depth<recursionLimit)(S:G5 w h)(G:GT h)(hg:Pg prog)(he:h.get? e=some (FY ta none))(ah:(K w.params).lookup e=none)(hq:∀h' ai,(∀c o,c≠e->h.get? c=some o->h'.get? c=some o)->(∃t1 dx,h'.get? e=some (FY t1 (some dx)))->R (.ok (.ret .none)) ⟨h',g,d,ai,os⟩):
  codeAny (model prog w) A (.call (.ref 37) ⟨[.ref e,v],[]⟩) R ⟨h,g,d,t,os⟩:=by
 obtain⟨n1,n2,n3,n4,n5,n6,n7,n8⟩:=uZ
 obtain⟨ar,a1,a2⟩:=xY
 have hf:=S.1 37 _ (B5 w.params)
 have CA:=S.2.1 (36,Str.ofString "FinderError.__init__") (by decide+kernel)
 refine ks_codeAny_call_defAt (fd:=IM) (body:=Eh (D3 2 0)) Z hf rfl G.nolimit CA.rec rfl (.of_eq (w5 _ _)) n8 (λx hx=>?_) (λh₁ ae E=>?_) n6 n7 n5
 ·refine dz hx ?_ λhx=>?_
  ·exact n3
  ·rw[Sx]at hx;subst hx;exact n4
 obtain⟨p0,p1,p2,p3,p4,p5,p6,p7,p8,p9,hb,aj⟩:=yu
 rw[hb]
 have H:=S.keeps E
 have J:=E _ _ he
 have al:e≠60:=λq=>by rw[q,dP S.1]at he;cases he
 have am:e≠h.objs.size:=λq=>by have:=TQ he;rw[q]at this;exact T3 _ this
 refine ks_wpAt_execs_cons (ks_wpAt_Expr_any (ks_wpAt_MethodCall (he:=lx aj rfl) (lG (ar:=ar) (P:=w.params) (x:=e) (C:=60) (D:=47) n1 n2 (by rw[a2];exact n3) n5 rfl rfl rfl rfl (E _ _ hf) rfl a1 (H.2.1 (36,Str.ofString "FinderError.__init__") (by decide+kernel)) hg (G.keeps E) H.1 (by kernel_rfl) (by decide) ⟨_,H.1 25 _ rfl,rfl⟩ (H.1 47 _ rfl) rfl ae (by rw[a2];rfl) J rfl (λc q=>(by cases q)) (by kernel_rfl) λm an B=>?_)))
 have I:=H.keeps B
 have M:=B _ _ J
 refine oq (by decide) (rz I.1) I.1 (pE I) an M al ?_
 have j:∀b o,m.get? b=some o->(m.push (EN e)).get? b=some o:=λb o q=>Sq _ q
 have aa:(m.push (EN e)).get? m.objs.size=some (EN e):=U7 rfl rfl
 have N:=I.keeps j
 have O:=j _ _ M
 have Q:=(ae.keeps B).keeps j
 generalize m.push (EN e)=aq at j aa N O Q⊢
 refine callWith_of (P:=λh=>h.get? m.objs.size=some (EN e)) rfl (λh x=>xT x) (evalArgs_plain (spliced_cons (ldc n5 n4 Q rfl (spliced_nil ⟨aa,oK N.1 aa O λU k4 x4=>?_⟩))))
 obtain⟨t1,ab⟩:=x4
 have af:(K w.params).In U:=λb o q=>k4 b o (λr=>by rw[r,ah]at q;cases q) (N.1 b o q)
 have Y:U.Ns h.objs.size (λx=>List.lookup x [(Str.ofString "self",Value.ref e),(Str.ofString "what",v)].reverse):=by
  obtain⟨o,es,ep,q1,r⟩:=Q
  exact⟨o,es,ep,k4 _ _ (Ne.symm am) q1,r⟩
 refine ks_wpAt_execs_cons (ks_wpAt_Assign_Attr (_root_.PySem.wpAt_of_wpAny (ldc n5 n4 Y rfl (ldc n5 n3 Y rfl (rI af (by kernel_rfl) ab λag tk k5 x5=>?_)))))
 obtain⟨dx,ac⟩:=x5
 refine _root_.PySem.wpAt_of_wpAny (wpAny_execs_nil (hq ag _ (λc o hc ho=>k5 c o hc (k4 c o hc (j _ _ (B _ _ (E _ _ ho))))) ⟨_,_,ac⟩))
end
end
theorem xU(L:w' prog w c σ s)(m:σ b=some o):OH prog w (hideAll s.heap (D2 c)) b o:=by
 have get:∀j,σ j≠none->(∃ob,s.heap.get? j=some ob)->(hideAll s.heap (D2 c)).get? j=s.heap.get? j:=λj A B=>(by obtain⟨ob,r⟩:=B;rw[r];exact hideAll_get _ r (L.off j A))
 refine(L.own b o m).congr λj q=>get j ?_ ((L.own b o m).there j q)
 cases o with
 |inst C D E=>
  simp[foot]at q
  rcases q with rfl|rfl
  ·rw[m];simp
  ·rw[L.parts _ _ _ _ m];simp
 |_=>simp[foot]at q;subst q;rw[m];simp
theorem y8(L:w' prog w c σ s)(k:∀b o,s.heap.get? b=some o->h'.get? b=some o)(B:s.heap.get? e=none)(he:h'.get? e=some (FY A C))(D:Xp σ):EX prog w c Xp σ s (.ref e) ⟨h',s.gens,H,tk,s.os⟩:=by
 have E:∀b,b∈D2 c->(hideAll s.heap (D2 c)).get? b=none:=λb m=>hideAll_none _ m
 refine⟨e,σ,hideAll s.heap (D2 c),rfl,D,⟨L.ok,λb o h=>hideAll_get _ (L.stays b o h) (λm=>by rw[(L.frames.mem m).1]at h;cases h),λb o h=>xU L h,L.parts,L.apart,L.off,λb ob j h m=>hideAll_get _ h m,λb h=> .inl h,λb o h=> .inl (by rw[h];simp),λb ob m h=>⟨ob.slots,k b ob h⟩,L.gens,L.os,?_⟩⟩
 refine .made (FY A C) _ (.ref A) he rfl rfl rfl rfl (λb o h=>k b o (of_hideAll _ h)) ?_ ?_
 ·cases q:(hideAll s.heap (D2 c)).get? e with
  |none=>rfl
  |some o=>have:=of_hideAll _ q;rw[B]at this;cases this
 ·exact(funFrames_hide L.frames λenv r a G=>List.mem_filterMap.mpr ⟨env,r,G⟩).of_keeps λb o h j=>⟨o,k b o h,rfl⟩
theorem jH(x:X):SS (.Ft x):=by
 intro ks T st prog w c A q d m σ s Xp Q M he fo vs L N
 refine sD M λv cs p h=>?_
 simp only[SF]at h
 obtain⟨C,O⟩:=h
 unfold IJ at C
 cases v with
 |none=>exact Et C rfl
 |some v=>
 replace C:=nv (e:=v) C;obtain⟨y,np,args,kw,ae,rfl,C⟩:=C
 obtain⟨g0,g1⟩:=D9 C
 cases d4 g0
 obtain⟨g2,g3⟩:=D9 g1
 obtain rfl:=of_decide_eq_true g2
 obtain⟨U,g4⟩:=D9 g3
 refine cy g4 λe Y=>?_
 cases cs with
 |some _=>cases O
 |none=>
 obtain⟨rfl,hd,N⟩:=N
 rw[arm_exec_Raise]
 obtain⟨u,hu,Z⟩:=iB w.params 0 _ _ rfl
 cases cv Z
 have H:(ck (.cons x .nil)).l ks T [e]=true:=by
  show((ck x).e ks T e&&true)=true
  rw[Y];rfl
 refine So (wpAny_standAt (vY (P:=w.params) (he.calm rfl) ?_))
 refine So (wpAny_Call_Name_kw (jM he L U hu (d6 H (Sz ((sound (.cons x .nil)).l.at (Q:=NV λv σ=>isStr v/\Xp σ) (G:=λus B=>Kept prog w (.ref 60) B.heap/\wpAny (model prog w) A (call (.ref 60) ([]++us)) (λa s'=>wpAny (model prog w) A (do standAt p;pure a) (λv B=>∃e od t0,v=.ref e/\(K w.params).In B.heap/\B.heap.get? e=some {cls:=.ref 60,dict:=od,data:=.fields #[t0,.none,.none,.none,.bool false,.none]}/\FC prog w c ks T Xp σ s (.ref e) B) (FC prog w c ks T Xp σ s) s') (FC prog w c ks T Xp σ s) B) H he L (.refl ..) vs.vr L N λus aa B r I af hq=>⟨j7 r (by kernel_rfl),?_⟩) (λj j x=>x) λev s' hx=>⟨σ,s,L,.refl ..,hx⟩))))
 obtain⟨u,rfl,_,hX⟩:=lP hq
 have ag:=r.gens
 obtain⟨hp,gs,dr,tk,os⟩:=B
 refine xC (v:=u) r.says.1 λh' e D=>wpAny_call ?_
 obtain⟨ta,ab⟩:=D.at_
 have ac:(K w.params).lookup e=none:=by
  cases q:(K w.params).lookup e with
  |none=>rfl
  |some o=>have:=r.says.1 e o q;rw[D.new]at this;cases this
 have E:A.depth+1<recursionLimit:=by have:=he.depth;omega
 refine vp E (r.says.keeps D.stays) (r.gt.keeps D.stays) r.os.2 ab ac λO ah k2 ⟨t1,dx,J⟩=>?_
 have kk:∀b o,hp.get? b=some o->O.get? b=some o:=λb o hb=>k2 b o (λq=>by rw[q,D.new]at hb;cases hb) (D.stays b o hb)
 refine⟨rfl,So (wpAny_standAt (Sv ⟨e,_,_,rfl,r.says.1.keeps kk,J,_,_,r,I.kq,?_⟩))⟩
 exact y8 r kk D.new J hX
theorem cw{F:Fn}(o:F.Ok)(m:k+1<=d)(q:args.length=F.ps.length)(r:∀e,k<=e->let R:FP:=⟨λj σ=>Q .none σ,Q⟩;ws e Xp F.body true R (Hu args n) σ):D5 d (.ref F.f) args Q Xp σ:=by
 cases d with
 |zero=>exact absurd m (Nat.not_succ_le_zero k)
 |succ e=>exact mR jH o q (r e (Nat.le_of_succ_le_succ m))
theorem et{F:Fn}(o:F.Ok)(m:args.length=F.ps.length)(q:let R:FP:=⟨λj σ=>Q .none σ,Q⟩;ws d Xp F.body true R (Hu args n) σ):D5 (d+1) (.ref F.f) args Q Xp σ:=mR jH o m q
theorem EZ(x:S):SS x/\SB x:=Kj jH x
def P7(i:Nat):List Str->Tab
 |[]=>[]
 |x::r=>(i,x,true)::P7 (i+1) r
def EP(f:Addr)(st:Stmt)(q:Str)(j:Value)(k:Nat)(ns:List Str)(b:S):Fn:=⟨f,st,q,j,f-1,ns.take k,P7 0 ns,b⟩
theorem LL{F:Fn}(e:F.ps.length=1)(k:∀a,bindArgs (Ll F [] .none) ⟨[a],[]⟩=pure (F.ps.zip [a]))(vs:List Value)(h:vs.length=F.ps.length):bindArgs (Ll F [] .none) ⟨vs,[]⟩=pure (F.ps.zip vs):=by
 obtain⟨a,rfl⟩:=I0 (h.trans e);exact k a
theorem Il{F:Fn}(e:F.ps.length=2)(k:∀a b,bindArgs (Ll F [] .none) ⟨[a,b],[]⟩=pure (F.ps.zip [a,b]))(vs:List Value)(h:vs.length=F.ps.length):bindArgs (Ll F [] .none) ⟨vs,[]⟩=pure (F.ps.zip vs):=by
 obtain⟨a,b,rfl⟩:=JG (h.trans e);exact k a b
theorem P8{F:Fn}(e:F.ps.length=3)(k:∀a b c,bindArgs (Ll F [] .none) ⟨[a,b,c],[]⟩=pure (F.ps.zip [a,b,c]))(vs:List Value)(h:vs.length=F.ps.length):bindArgs (Ll F [] .none) ⟨vs,[]⟩=pure (F.ps.zip vs):=by
 obtain⟨a,b,c,rfl⟩:=JH (h.trans e);exact k a b c
def fC:S:=.cons (.ret (.ite (.var 2) (.bf .tuple (.cons (.comp (.var 4) 4 (.var 1) (.cmp .In (.var 4) (.var 3))) .nil)) (.D6 .none))) .nil
def ue:S:=.cons (.sets [.var 2,.var 3] (.Iu (.var 0) 103 0 (.cons (.bf .tuple (.cons (.var 1) .nil)) .nil))) fC
def t6:Fn:=EP 81 (D3 5 1) "CoreFinder.failed_of" kC 2 ["self","some","cannot","failed"] ue
theorem re:t6.Ok:=⟨λj=>rfl,λj=>rfl,Il rfl λj j=>rfl,by decide+kernel⟩
def uU:S:=.cons (.ret (.ite (.cmp .Is (.var 1) (.D6 .none)) (.D6 .none) (.D3 (.var 0) 103 2 (.cons (.var 1) .nil)))) .nil
def HR:S:=.cons (.set (.var 1) (.D3 (.var 0) 103 0 (.cons (.bf .range (.cons (.attr (.var 0) 103 1) .nil)) .nil))) uU
def B2:S:=.cons (.set (.attr (.var 0) 103 2) (.D6 (.bool true))) HR
def Bx:Fn:=EP 88 (D3 5 2) "CoreFinder.core" kC 1 ["self","found"] B2
theorem Bc:Bx.Ok:=⟨λj=>rfl,λj=>rfl,LL rfl λj=>rfl,by decide+kernel⟩
def hJ:S:=.cons (.ex (.bm .Ed (.var 3) (.cons (.sub (.var 4) (.D6 (.int 0))) .nil))) .nil
def ni:S:=.cons (.set (.var 2) (.var 5)) .nil
def fc:S:=.cons (.set (.var 4) (.comp (.var 7) 7 (.var 2) (.cmp .NotIn (.var 7) (.var 3)))) .nil
def mW:S:=.cons (.ite (.cmp .Is (.var 5) (.D6 .none)) hJ ni) fc
def kD:S:=.cons (.set (.var 5) (.D3 (.var 0) 103 3 (.cons (.comp (.var 6) 6 (.var 2) (.cmp .NotEq (.var 6) (.sub (.var 4) (.D6 (.int 0))))) .nil))) mW
def rA:S:=.cons (.ret (.var 2)) .nil
def G1:S:=.cons (.wh (.cmp .Gt (.bf .len (.cons (.var 4) .nil)) (.D6 (.int 0))) kD) rA
def kj:S:=.cons (.set (.var 4) (.bf .list (.cons (.var 2) .nil))) G1
def yi:S:=.cons (.sets [.var 2,.var 3] (.tup (.cons (.bf .tuple (.cons (.var 1) .nil)) (.cons (.lst .nil) .nil)))) kj
def wN:Fn:=EP 93 (D3 5 3) "CoreFinder.shrunk" kC 2 ["self","some","left","needed","waiting","fewer"] yi
theorem wE:wN.Ok:=⟨λj=>rfl,λj=>rfl,Il rfl λj j=>rfl,by decide+kernel⟩
def G8:S:=.cons (.ret (.D6 .none)) .nil
def pH:S:=.cons (.set (.attr (.var 0) 103 2) (.D6 (.bool false))) G8
def wM:S:=.cons (.Kb (.D3 (.var 0) 103 0 (.cons (.var 1) .nil)) pH) .nil
def uq:Fn:=EP 100 (D3 5 4) "CoreFinder.fewer_of" kC 2 ["self","some"] wM
theorem tH:uq.Ok:=⟨λj=>rfl,λj=>rfl,Il rfl λj j=>rfl,by decide+kernel⟩
def mn:S:=.cons (.ret (.D6 .none)) .nil
def gL:S:=.cons (.set (.item (.var 1) (.var 2)) (.D6 (.bool true))) .nil
def o0:S:=.cons (.ite (.cmp .In (.neg (.var 2)) (.var 1)) mn .nil) gL
def jl:S:=.cons (.ret (.bf .tuple (.cons (.GU (.var 1)) .nil))) .nil
def Gr:S:=.cons (.fo 2 (.var 0) o0) jl
def uF:S:=.cons (.set (.var 1) .Fy) Gr
def vX:Fn:=EP 114 (top 9) "ordered" cS 1 ["literals","found","one"] uF
theorem tD:vX.Ok:=⟨λj=>rfl,λj=>rfl,LL rfl λj=>rfl,by decide+kernel⟩
def uQ:S:=.cons (.ret (.ite (.cmp .Is (.var 2) (.D6 .none)) (.D6 .none) (.cmp .Eq (.var 2) (.cmp .Gt (.var 1) (.D6 (.int 0)))))) .nil
def BN:S:=.cons (.set (.var 2) (.bm .HF (.attr (.var 0) 272 0) (.cons (.bf .abs (.cons (.var 1) .nil)) .nil))) uQ
def Ce:Fn:=EP 135 (D3 10 1) "Values.says" cS 2 ["self","literal","truth"] BN
theorem zw:Ce.Ok:=⟨λj=>rfl,λj=>rfl,Il rfl λj j=>rfl,by decide+kernel⟩
def Kk:S:=.cons (.ex (.bm .Ed (.attr (.var 0) 272 3) (.cons (.var 1) .nil))) .nil
def xz:S:=.cons (.set (.item (.attr (.var 0) 272 2) (.var 3)) (.var 2)) Kk
def x8:S:=.cons (.set (.item (.attr (.var 0) 272 1) (.var 3)) (.bf .len (.cons (.attr (.var 0) 272 4) .nil))) xz
def Kl:S:=.cons (.set (.item (.attr (.var 0) 272 0) (.var 3)) (.cmp .Gt (.var 1) (.D6 (.int 0)))) x8
def DG:S:=.cons (.set (.var 3) (.bf .abs (.cons (.var 1) .nil))) Kl
def CZ:Fn:=EP 142 (D3 10 2) "Values.let" cS 3 ["self","literal","cause","v"] DG
theorem CB:CZ.Ok:=⟨λj=>rfl,λj=>rfl,P8 rfl λj j j=>rfl,by decide+kernel⟩
def kf:S:=.cons (.set (.item (.attr (.var 0) 272 6) (.var 2)) (.bm .H0 (.attr (.var 0) 272 0) (.cons (.var 2) .nil))) .nil
def mS:S:=.cons (.set (.var 2) (.bf .abs (.cons (.bm .I6 (.attr (.var 0) 272 3) .nil) .nil))) kf
def nA:S:=.cons (.set (.attr (.var 0) 272 5) (.bf .len (.cons (.attr (.var 0) 272 3) .nil))) .nil
def my:S:=.cons (.set (.attr (.var 0) 272 4) (.slice (.attr (.var 0) 272 4) (.D6 .none) (.var 1))) nA
def rH:S:=.cons (.wh (.cmp .Gt (.bf .len (.cons (.attr (.var 0) 272 3) .nil)) (.sub (.attr (.var 0) 272 4) (.var 1))) mS) my
def wY:S:=.cons (.ite (.cmp .Lt (.var 1) (.bf .len (.cons (.attr (.var 0) 272 4) .nil))) rH .nil) .nil
def w3:Fn:=EP 149 (D3 10 3) "Values.back_to" cS 2 ["self","height","v"] wY
theorem vJ:w3.Ok:=⟨λj=>rfl,λj=>rfl,Il rfl λj j=>rfl,by decide+kernel⟩
def mJ:S:=.cons (.ex (.bm .Ek (.attr (.var 0) 272 9) (.cons (.bf .abs (.cons (.var 3) .nil)) (.cons (.D6 (.int 0)) .nil)))) .nil
def mQ:S:=.cons (.ret (.not (.attr (.var 0) 272 12))) .nil
def mB:S:=.cons (.ex (.D3 (.var 0) 272 4 .nil)) .nil
def kb:S:=.cons (.ex (.D3 (.var 0) 272 1 (.cons (.sub (.var 4) (.D6 (.int 0))) (.cons (.D6 .none) .nil)))) .nil
def fJ:S:=.cons (.ex (.D3 (.var 0) 272 5 (.cons (.var 4) .nil))) .nil
def hU:S:=.cons (.ite (.cmp .Eq (.bf .len (.cons (.var 4) .nil)) (.D6 (.int 1))) kb fJ) .nil
def mU:S:=.cons (.ret (.not (.attr (.var 0) 272 12))) .nil
def nq:S:=.cons (.ite (.cmp .Eq (.bf .len (.cons (.var 4) .nil)) (.D6 (.int 0))) mB hU) mU
def mH:S:=.cons (.JO 4 (.var 6) 6 (.var 2) (.cmp .Is (.D3 (.var 0) 272 0 (.cons (.var 6) .nil)) (.D6 .none))) nq
def hB:S:=.cons (.ite (.or (.cmp .Is (.var 2) (.D6 .none)) (.or (.attr (.var 0) 272 12) (.cmp .In (.D6 (.bool true)) (.comp (.D3 (.var 0) 272 0 (.cons (.var 5) .nil)) 5 (.var 2) .nil)))) mQ .nil) mH
def nu:S:=.cons (.fo 3 (.var 1) mJ) hB
def ic:S:=.cons (.set (.var 2) (.call (.glob 4) (.cons (.var 1) .nil))) nu
def rE:S:=.cons (.ex (.D3 (.var 0) 272 2 (.cons (.D6 (.int 0)) .nil))) ic
def rJ:Fn:=EP 175 (D3 11 1) "Search.add_clause" cS 2 ["self","literals","clause","one","left"] rE
theorem qd:rJ.Ok:=⟨λj=>rfl,λj=>rfl,Il rfl λj j=>rfl,by decide+kernel⟩
def uI:S:=.cons (.ex (.bm .Ed (.bm .Ek (.attr (.var 0) 272 8) (.cons (.var 2) (.cons (.lst .nil) .nil))) (.cons (.bin .Sub (.bf .len (.cons (.attr (.var 0) 272 7) .nil)) (.D6 (.int 1))) .nil))) .nil
def vV:S:=.cons (.ret (.bin .Sub (.bf .len (.cons (.attr (.var 0) 272 7) .nil)) (.D6 (.int 1)))) .nil
def uY:S:=.cons (.fo 2 (.slice (.var 1) (.D6 .none) (.D6 (.int 2))) uI) vV
def CE:S:=.cons (.ex (.bm .Ed (.attr (.var 0) 272 7) (.cons (.bf .list (.cons (.var 1) .nil)) .nil))) uY
def BP:Fn:=EP 189 (D3 11 3) "Search.keep" cS 2 ["self","literals","one"] CE
theorem AS:BP.Ok:=⟨λj=>rfl,λj=>rfl,Il rfl λj j=>rfl,by decide+kernel⟩
def gu:S:=.cons (.ret (.sub (.var 2) (.var 4))) .nil
def eH:S:=.cons (.ex (.bm .Fo (.var 3) (.cons (.slice (.var 2) (.bin .Add (.var 4) (.D6 (.int 1))) (.D6 .none)) .nil))) gu
def iC:S:=.cons (.ex (.D3 (.var 0) 272 1 (.cons (.var 5) (.cons (.sub (.var 2) (.var 4)) .nil)))) .nil
def iQ:S:=.cons (.ite (.cmp .Is (.D3 (.var 0) 272 0 (.cons (.var 5) .nil)) (.D6 .none)) iC .nil) .nil
def iZ:S:=.cons (.ite (.cmp .Eq (.D3 (.var 0) 272 0 (.cons (.var 5) .nil)) (.D6 (.bool false))) eH .nil) iQ
def iJ:S:=.cons (.set (.var 5) (.sub (.sub (.attr (.var 0) 272 7) (.sub (.var 2) (.var 4))) (.D6 (.int 0)))) iZ
def fH:S:=.cons (.ex (.bm .Ed (.var 3) (.cons (.sub (.var 2) (.var 4)) .nil))) iJ
def g8:S:=.cons (.ite (.not (.D3 (.var 0) 272 7 (.cons (.sub (.var 2) (.var 4)) (.cons (.var 1) .nil)))) fH .nil) .nil
def g6:S:=.cons (.fo 4 (.bf .range (.cons (.bf .len (.cons (.var 2) .nil)) .nil)) g8) .nil
def fe:S:=.cons (.set (.item (.attr (.var 0) 272 8) (.var 1)) (.var 3)) g6
def hV:S:=.cons (.HH [2,3] (.tup (.cons (.bm .H0 (.attr (.var 0) 272 8) (.cons (.var 1) (.cons (.lst .nil) .nil))) (.cons (.lst .nil) .nil)))) fe
def mO:S:=.cons (.set (.attr (.var 0) 272 5) (.bin .Add (.attr (.var 0) 272 5) (.D6 (.int 1)))) hV
def rq:S:=.cons (.set (.var 1) (.neg (.sub (.attr (.var 0) 272 3) (.attr (.var 0) 272 5)))) mO
def rf:S:=.cons (.ret (.neg (.D6 (.int 1)))) .nil
def wV:S:=.cons (.wh (.cmp .Lt (.attr (.var 0) 272 5) (.bf .len (.cons (.attr (.var 0) 272 3) .nil))) rq) rf
def yy:Fn:=EP 196 (D3 11 4) "Search.spread" cS 1 ["self","lost","numbers","stay","k","first"] wV
theorem wC:yy.Ok:=⟨λj=>rfl,λj=>rfl,LL rfl λj=>rfl,by decide+kernel⟩
def oN:S:=.cons (.sets [.item (.var 3) (.D6 (.int 0)),.item (.var 3) (.D6 (.int 1))] (.tup (.cons (.sub (.var 3) (.D6 (.int 1))) (.cons (.var 2) .nil)))) .nil
def ot:S:=.cons (.ret (.D6 (.bool false))) .nil
def jf:S:=.cons (.ret (.D6 (.bool true))) .nil
def i9:S:=.cons (.ex (.bm .Ed (.bm .Ek (.attr (.var 0) 272 8) (.cons (.sub (.var 3) (.D6 (.int 1))) (.cons (.lst .nil) .nil))) (.cons (.var 1) .nil))) jf
def kT:S:=.cons (.sets [.item (.var 3) (.D6 (.int 1)),.item (.var 3) (.var 4)] (.tup (.cons (.sub (.var 3) (.var 4)) (.cons (.var 2) .nil)))) i9
def oy:S:=.cons (.ite (.cmp .NotEq (.D3 (.var 0) 272 0 (.cons (.sub (.var 3) (.var 4)) .nil)) (.D6 (.bool false))) kT .nil) .nil
def ou:S:=.cons (.ret (.D6 (.bool false))) .nil
def ow:S:=.cons (.fo 4 (.bf .range (.cons (.D6 (.int 2)) (.cons (.bf .len (.cons (.var 3) .nil)) .nil))) oy) ou
def i7:S:=.cons (.ite (.cmp .Eq (.D3 (.var 0) 272 0 (.cons (.sub (.var 3) (.D6 (.int 0))) .nil)) (.D6 (.bool true))) ot .nil) ow
def oA:S:=.cons (.ite (.cmp .Eq (.sub (.var 3) (.D6 (.int 0))) (.var 2)) oN .nil) i7
def ug:S:=.cons (.set (.var 3) (.sub (.attr (.var 0) 272 7) (.var 1))) oA
def sE:Fn:=EP 203 (D3 11 5) "Search.has_moved" cS 3 ["self","number","lost","some","k"] ug
theorem rk:sE.Ok:=⟨λj=>rfl,λj=>rfl,P8 rfl λj j j=>rfl,by decide+kernel⟩
def qO:S:=.cons (.set (.attr (.var 0) 272 10) (.D6 (.int 1))) .nil
def nU:S:=.cons (.set (.attr (.var 0) 272 9) (.Gl (.var 2) (.bin .FloorDiv (.sub (.attr (.var 0) 272 9) (.var 2)) (.glob 3)) 2 (.attr (.var 0) 272 9))) qO
def wa:S:=.cons (.ite (.cmp .Gt (.sub (.attr (.var 0) 272 9) (.var 1)) (.glob 3)) nU .nil) .nil
def B3:S:=.cons (.set (.item (.attr (.var 0) 272 9) (.var 1)) (.bin .Add (.sub (.attr (.var 0) 272 9) (.var 1)) (.attr (.var 0) 272 10))) wa
def CC:Fn:=EP 208 (D3 11 6) "Search.warm" cS 2 ["self","v"] B3
theorem zR:CC.Ok:=⟨λj=>rfl,λj=>rfl,Il rfl λj j=>rfl,by decide+kernel⟩
def eO:S:=.cons (.set (.var 4) (.bin .Add (.var 4) (.D6 (.int 1)))) .nil
def eN:S:=.cons (.ex (.bm .Ed (.var 3) (.cons (.var 7) .nil))) .nil
def eR:S:=.cons (.ite (.cmp .Eq (.sub (.attr (.var 0) 272 1) (.var 8)) (.bf .len (.cons (.attr (.var 0) 272 4) .nil))) eO eN) .nil
def eK:S:=.cons (.ex (.D3 (.var 0) 272 8 (.cons (.var 8) .nil))) eR
def fI:S:=.cons (.set (.item (.var 2) (.var 8)) (.D6 (.bool true))) eK
def Gs:S:=.cons (.ite (.and (.cmp .NotEq (.var 7) (.var 6)) (.and (.cmp .NotIn (.var 8) (.var 2)) (.cmp .Gt (.sub (.attr (.var 0) 272 1) (.var 8)) (.D6 (.int 0))))) fI .nil) .nil
def gZ:S:=.cons (.set (.var 8) (.bf .abs (.cons (.var 7) .nil))) Gs
def mC:S:=.cons (.set (.var 5) (.bin .Sub (.var 5) (.D6 (.int 1)))) .nil
def hG:S:=.cons (.ret (.bin .Add (.lst (.cons (.neg (.var 6)) .nil)) (.var 3))) .nil
def iq:S:=.cons (.set (.var 1) (.sub (.attr (.var 0) 272 2) (.bf .abs (.cons (.var 6) .nil)))) .nil
def mw:S:=.cons (.ite (.cmp .Eq (.var 4) (.D6 (.int 0))) hG .nil) iq
def mN:S:=.cons (.HH [6,4] (.tup (.cons (.sub (.attr (.var 0) 272 3) (.var 5)) (.cons (.bin .Sub (.var 4) (.D6 (.int 1))) .nil)))) mw
def hH:S:=.cons (.wh (.cmp .NotIn (.bf .abs (.cons (.sub (.attr (.var 0) 272 3) (.var 5)) .nil)) (.var 2)) mC) mN
def ik:S:=.cons (.set (.var 5) (.bin .Sub (.var 5) (.D6 (.int 1)))) hH
def kH:S:=.cons (.fo 7 (.sub (.attr (.var 0) 272 7) (.var 1)) gZ) ik
def ku:S:=.cons (.wh (.D6 (.bool true)) kH) .nil
def xc:S:=.cons (.sets [.var 2,.var 3,.var 4,.var 5,.var 6] (.tup (.cons .Fy (.cons (.lst .nil) (.cons (.D6 (.int 0)) (.cons (.bf .len (.cons (.attr (.var 0) 272 3) .nil)) (.cons (.D6 (.int 0)) .nil))))))) ku
def xO:Fn:=EP 215 (D3 11 7) "Search.lesson" cS 2 ["self","number","marked","behind","open_ones","spot","pivot","one","v"] xc
theorem vm:xO.Ok:=⟨λj=>rfl,λj=>rfl,Il rfl λj j=>rfl,by decide+kernel⟩
def tz:S:=.cons (.ret (.sub (.attr (.var 0) 272 1) (.bf .abs (.cons (.var 1) .nil)))) .nil
def tu:Fn:=EP 222 (D3 11 8) "Search.height_of" cS 2 ["self","literal"] tz
theorem rF:tu.Ok:=⟨λj=>rfl,λj=>rfl,Il rfl λj j=>rfl,by decide+kernel⟩
def oS:S:=.cons .Ka .nil
def sA:S:=.cons (.ex (.D3 (.var 0) 272 4 .nil)) oS
def mh:S:=.cons (.set (.attr (.var 0) 272 10) (.bin .Add (.bin .Add (.attr (.var 0) 272 10) (.bin .FloorDiv (.attr (.var 0) 272 10) (.D6 (.int 8)))) (.D6 (.int 1)))) .nil
def iU:S:=.cons (.ex (.D3 (.var 0) 272 1 (.cons (.sub (.var 2) (.D6 (.int 0))) (.cons (.ite (.cmp .Gt (.bf .len (.cons (.var 2) .nil)) (.D6 (.int 1))) (.D3 (.var 0) 272 5 (.cons (.var 2) .nil)) (.D6 .none)) .nil)))) mh
def iO:S:=.cons (.ex (.D3 (.var 0) 272 2 (.cons (.ite (.cmp .Gt (.bf .len (.cons (.var 2) .nil)) (.D6 (.int 1))) (.D3 (.var 0) 272 10 (.cons (.sub (.var 2) (.D6 (.int 1))) .nil)) (.D6 (.int 0))) .nil))) iU
def lv:S:=.cons (.set (.var 2) (.bin .Add (.slice (.var 2) (.D6 .none) (.D6 (.int 1))) (.Iv (.slice (.var 2) (.D6 (.int 1)) (.D6 .none)) (.var 0)))) iO
def tm:S:=.cons (.ex (.bm .Ed (.attr (.var 0) 272 11) (.cons (.call (.glob 4) (.cons (.var 2) .nil)) .nil))) lv
def tc:S:=.cons (.set (.var 2) (.D3 (.var 0) 272 9 (.cons (.var 1) .nil))) tm
def sO:S:=.cons (.ite (.cmp .Eq (.bf .len (.cons (.attr (.var 0) 272 4) .nil)) (.D6 (.int 0))) sA .nil) tc
def zh:S:=.cons (.set (.attr (.var 0) 272 14) (.bin .Add (.attr (.var 0) 272 14) (.D6 (.int 1)))) sO
def Aq:Fn:=EP 229 (D3 11 9) "Search.learn" cS 2 ["self","number","taught"] zh
theorem yb:Aq.Ok:=⟨λj=>rfl,λj=>rfl,Il rfl λj j=>rfl,by decide+kernel⟩
def gb:S:=.cons (.ex (.bm .Ed (.var 2) (.cons (.var 4) .nil))) .nil
def ge:S:=.cons (.ex (.bm .Gi (.var 3) (.cons (.Gl (.bf .abs (.cons (.var 7) .nil)) (.D6 (.bool true)) 7 (.sub (.attr (.var 0) 272 7) (.sub (.attr (.var 0) 272 2) (.var 5)))) .nil))) .nil
def i4:S:=.cons (.ite (.cmp .Is (.sub (.attr (.var 0) 272 2) (.var 5)) (.D6 .none)) gb ge) .nil
def F4:S:=.cons (.ite (.and (.cmp .In (.var 5) (.var 3)) (.cmp .Gt (.sub (.attr (.var 0) 272 1) (.var 5)) (.D6 (.int 0)))) i4 .nil) .nil
def mo:S:=.cons (.set (.var 5) (.bf .abs (.cons (.var 4) .nil))) F4
def me:S:=.cons (.ex (.bm .Ed (.attr (.var 0) 272 11) (.cons (.var 6) .nil))) .nil
def lT:S:=.cons (.ite (.cmp .IsNot (.var 6) (.D6 .none)) me .nil) .nil
def lJ:S:=.cons (.set (.var 6) (.call (.glob 4) (.cons (.comp (.neg (.var 8)) 8 (.var 2) .nil) .nil))) lT
def mj:S:=.cons (.set (.attr (.var 0) 272 13) (.bf .tuple (.cons (.var 2) .nil))) lJ
def lX:S:=.cons (.fo 4 (.rev (.attr (.var 0) 272 3)) mo) mj
def A7:S:=.cons (.HH [2,3] (.tup (.cons (.lst (.cons (.var 1) .nil)) (.cons (.Ir (.bf .abs (.cons (.var 1) .nil)) (.D6 (.bool true))) .nil)))) lX
def An:Fn:=EP 234 (D3 11 10) "Search.blame" cS 2 ["self","literal","found","marked","one","v","clause"] A7
theorem wU:An.Ok:=⟨λj=>rfl,λj=>rfl,Il rfl λj j=>rfl,by decide+kernel⟩
def jJ:S:=.cons (.set (.var 1) (.var 2)) .nil
def gQ:S:=.cons (.ite (.or (.cmp .Eq (.var 1) (.D6 (.int 0))) (.MO (.sub (.attr (.var 0) 272 9) (.var 2)) (.neg (.var 2)) (.sub (.attr (.var 0) 272 9) (.var 1)) (.neg (.var 1)))) jJ .nil) .nil
def pA:S:=.cons (.ite (.cmp .NotIn (.var 2) (.attr (.var 0) 272 0)) gQ .nil) .nil
def qe:S:=.cons (.ret (.var 1)) .nil
def Gu:S:=.cons (.fo 2 (.attr (.var 0) 272 9) pA) qe
def vj:S:=.cons (.set (.var 1) (.D6 (.int 0))) Gu
def uy:Fn:=EP 241 (D3 11 11) "Search.hottest" cS 1 ["self","best","v"] vj
theorem t8:uy.Ok:=⟨λj=>rfl,λj=>rfl,LL rfl λj=>rfl,by decide+kernel⟩
def j9:S:=.cons (.ret (.D6 (.bool false))) .nil
def ig:S:=.cons (.ex (.D3 (.var 0) 272 12 (.cons (.var 2) .nil))) j9
def il:S:=.cons (.ite (.cmp .Eq (.D3 (.var 0) 272 0 (.cons (.var 2) .nil)) (.D6 (.bool false))) ig .nil) .nil
def kI:S:=.cons (.set (.var 2) (.sub (.var 1) (.bf .len (.cons (.attr (.var 0) 272 4) .nil)))) il
def mZ:S:=.cons (.ret (.D6 (.bool true))) .nil
def im:S:=.cons (.set (.var 2) (.ite (.bm .HF (.attr (.var 0) 272 6) (.cons (.var 3) (.cons (.D6 (.bool false)) .nil))) (.var 3) (.neg (.var 3)))) .nil
def FJ:S:=.cons (.ite (.cmp .Eq (.var 3) (.D6 (.int 0))) mZ .nil) im
def kB:S:=.cons (.set (.var 3) (.D3 (.var 0) 272 13 .nil)) FJ
def ky:S:=.cons (.ex (.D3 (.var 0) 272 1 (.cons (.var 2) (.cons (.D6 .none) .nil)))) .nil
def rC:S:=.cons (.ret (.D6 .none)) .nil
def kt:S:=.cons (.ite (.cmp .Is (.D3 (.var 0) 272 0 (.cons (.var 2) .nil)) (.D6 .none)) ky .nil) rC
def kF:S:=.cons (.ex (.bm .Ed (.attr (.var 0) 272 4) (.cons (.bf .len (.cons (.attr (.var 0) 272 3) .nil)) .nil))) kt
def xw:S:=.cons (.ite (.cmp .Lt (.bf .len (.cons (.attr (.var 0) 272 4) .nil)) (.bf .len (.cons (.var 1) .nil))) kI kB) kF
def xq:Fn:=EP 248 (D3 11 12) "Search.decide" cS 2 ["self","assumptions","literal","v"] xw
theorem uX:xq.Ok:=⟨λj=>rfl,λj=>rfl,Il rfl λj j=>rfl,by decide+kernel⟩
def sC:S:=.cons (.ex (.bm .Ek (.attr (.var 0) 272 9) (.cons (.bf .abs (.cons (.var 2) .nil)) (.cons (.D6 (.int 0)) .nil)))) .nil
def oE:S:=.cons (.ex (.D3 (.var 0) 272 11 (.cons (.var 7) .nil))) .nil
def kX:S:=.cons (.Ft (.JK (.attr (.var 0) 272 15) " conflicts")) .nil
def gU:S:=.cons (.ex (.D3 (.var 0) 272 2 (.cons (.D6 (.int 0)) .nil))) .nil
def jg:S:=.cons (.HH [4,5] (.tup (.cons (.attr (.var 0) 272 14) (.cons (.bin .Add (.var 5) (.bin .FloorDiv (.var 5) (.D6 (.int 2)))) .nil)))) gU
def jd:S:=.cons (.set (.var 6) (.D3 (.var 0) 272 14 (.cons (.var 1) .nil))) .nil
def kZ:S:=.cons (.ite (.cmp .GtE (.bin .Sub (.attr (.var 0) 272 14) (.var 4)) (.var 5)) jg jd) .nil
def oJ:S:=.cons (.ite (.JJ .Lt .LtE (.D6 (.int 0)) (.attr (.var 0) 272 15) (.bin .Sub (.attr (.var 0) 272 14) (.var 3))) kX kZ) .nil
def HJ:S:=.cons (.ite (.cmp .GtE (.var 7) (.D6 (.int 0))) oE oJ) .nil
def lC:S:=.cons (.set (.var 7) (.D3 (.var 0) 272 6 .nil)) HJ
def tJ:S:=.cons (.ret (.cmp .Eq (.var 6) (.D6 (.bool true)))) .nil
def tO:S:=.cons (.wh (.and (.cmp .Is (.var 6) (.D6 .none)) (.not (.attr (.var 0) 272 12))) lC) tJ
def lw:S:=.cons (.sets [.var 3,.var 4,.var 5,.var 6] (.tup (.cons (.attr (.var 0) 272 14) (.cons (.attr (.var 0) 272 14) (.cons (.glob 2) (.cons (.D6 .none) .nil)))))) tO
def Hv:S:=.cons (.fo 2 (.var 1) sC) lw
def lN:S:=.cons (.set (.attr (.var 0) 272 13) (.tup .nil)) Hv
def zC:S:=.cons (.ex (.D3 (.var 0) 272 2 (.cons (.D6 (.int 0)) .nil))) lN
def zv:Fn:=EP 255 (D3 11 13) "Search.solve" cS 2 ["self","assumptions","one","begun","rested","span","told","number"] zC
theorem yc:zv.Ok:=⟨λj=>rfl,λj=>rfl,Il rfl λj j=>rfl,by decide+kernel⟩
def xu:S:=.cons (.ret (.attr (.var 0) 272 13)) .nil
def xE:Fn:=EP 269 (D3 11 15) "Search.failed" cS 1 ["self"] xu
theorem uL:xE.Ok:=⟨λj=>rfl,λj=>rfl,LL rfl λj=>rfl,by decide+kernel⟩
def pK:S:=.cons (.ret (.bin .Mod (.sub (.key (.var 0) 0 0) (.var 2)) (.var 1))) .nil
def pi:S:=.cons (.ret (.bin .Mod (.bin .Mod (.bin .Add (.bin .Add (.bin .Mult (.bin .Mult (.D6 (.int 5)) (.var 2)) (.var 2)) (.bin .Mult (.D6 (.int 3)) (.var 2))) (.bin .Mult (.D6 (.int 7)) (.bf .len (.cons (.key (.var 0) 0 0) .nil)))) (.D6 (.int 83))) (.var 1))) .nil
def jR:S:=.cons (.ite (.cmp .Lt (.var 2) (.bf .len (.cons (.key (.var 0) 0 0) .nil))) pK .nil) pi
def Ia:S:=.cons (.set (.key (.var 0) 0 1) (.bin .Add (.var 2) (.D6 (.int 1)))) jR
def vL:S:=.cons (.set (.var 2) (.key (.var 0) 0 1)) Ia
def vi:Fn:=EP 281 (top 13) "_law_draw" gp 2 ["tape","wide","spot"] vL
theorem tT:vi.Ok:=⟨λj=>rfl,λj=>rfl,Il rfl λj j=>rfl,by decide+kernel⟩
def gH:S:=.cons (.ret (.ite (.cmp .Eq (.bin .Mod (.var 1) (.D6 (.int 2))) (.D6 (.int 0))) (.bin .Add (.D6 (.int 1)) (.bin .FloorDiv (.var 1) (.D6 (.int 2)))) (.bin .Sub (.bin .Sub (.D6 (.int 0)) (.D6 (.int 1))) (.bin .FloorDiv (.var 1) (.D6 (.int 2)))))) .nil
def pP:S:=.cons (.set (.var 1) (.call (.glob 6) (.cons (.var 0) (.cons (.D6 (.int 6)) .nil)))) gH
def pV:Fn:=EP 288 (top 14) "_law_literal" gp 1 ["tape","k"] pP
theorem oV:pV.Ok:=⟨λj=>rfl,λj=>rfl,LL rfl λj=>rfl,by decide+kernel⟩
def iw:S:=.cons (.ex (.bm .Ed (.var 3) (.cons (.var 5) .nil))) .nil
def eq:S:=.cons (.ite (.and (.cmp .NotIn (.var 5) (.var 3)) (.cmp .NotIn (.neg (.var 5)) (.var 3))) iw .nil) .nil
def fB:S:=.cons (.set (.var 5) (.call (.glob 7) (.cons (.var 0) .nil))) eq
def fq:S:=.cons (.ex (.bm .Ed (.var 1) (.cons (.var 3) .nil))) .nil
def Ga:S:=.cons (.fo 4 (.bf .range (.cons (.bin .Add (.D6 (.int 1)) (.call (.glob 6) (.cons (.var 0) (.cons (.D6 (.int 2)) .nil)))) .nil)) fB) fq
def gF:S:=.cons (.set (.var 3) (.lst .nil)) Ga
def lY:S:=.cons (.ret (.var 1)) .nil
def G9:S:=.cons (.fo 2 (.bf .range (.cons (.bin .Add (.D6 (.int 1)) (.call (.glob 6) (.cons (.var 0) (.cons (.D6 (.int 2)) .nil)))) .nil)) gF) lY
def pY:S:=.cons (.set (.var 1) (.lst .nil)) G9
def pF:Fn:=EP 295 (top 15) "_law_formula" gp 1 ["tape","found","lap","some","turn","one"] pY
theorem oH:pF.Ok:=⟨λj=>rfl,λj=>rfl,LL rfl λj=>rfl,by decide+kernel⟩
def nh:S:=.cons (.ret (.D6 (.bool true))) .nil
def mT:S:=.cons (.ite (.cmp .Eq (.var 3) (.lst .nil)) nh .nil) .nil
def ki:S:=.cons (.HQ 3 (.var 4) 4 (.var 1) 5 (.sub (.key (.var 0) 1 1) (.var 4)) (.cmp .Eq (.comp (.var 6) 6 (.var 5) (.cmp .Eq (.cmp .Eq (.bin .Mod (.bin .FloorDiv (.var 2) (.bin .Pow (.D6 (.int 2)) (.bin .Sub (.bf .abs (.cons (.var 6) .nil)) (.D6 (.int 1))))) (.D6 (.int 2))) (.D6 (.int 1))) (.cmp .Gt (.var 6) (.D6 (.int 0))))) (.lst .nil))) mT
def rB:S:=.cons (.ret (.D6 (.bool false))) .nil
def xr:S:=.cons (.fo 2 (.bf .range (.cons (.D6 (.int 8)) .nil)) ki) rB
set_option tactic.hygienic true in
def xf:Fn:=EP 300 (top 16) "_law_can" gp 2 ["case","some","world","lacks"] xr
theorem wi:xf.Ok:=⟨λj=>rfl,λj=>rfl,Il rfl λj j=>rfl,by decide+kernel⟩
def pQ:S:=.cons (.Ft (.D6 (.str "refused"))) .nil
def jT:S:=.cons (.ret (.ite (.var 4) (.tup (.cons (.D6 (.bool false)) (.cons (.tup .nil) .nil))) (.tup (.cons (.D6 (.bool true)) (.cons (.rev (.sub (.sub (.key (.var 0) 1 2) (.neg (.D6 (.int 1)))) (.D6 (.int 1)))) .nil))))) .nil
def jz:S:=.cons (.set (.item (.sub (.key (.var 0) 1 2) (.neg (.D6 (.int 1)))) (.D6 (.int 1))) (.ite (.var 4) (.D6 (.str "can")) (.bf .tuple (.cons (.comp (.var 6) 6 (.var 1) (.cmp .In (.bin .Add (.D6 (.int 4)) (.var 6)) (.D3 (.var 3) 272 16 .nil))) .nil)))) jT
def jq:S:=.cons (.set (.var 4) (.D3 (.var 3) 272 15 (.cons (.comp (.bin .Add (.D6 (.int 4)) (.var 5)) 5 (.var 1) .nil) .nil))) jz
def qt:S:=.cons (.set (.attr (.var 3) 272 15) (.bf .int (.cons (.cmp .Eq (.var 2) (.D6 (.int 4))) .nil))) jq
def pp:S:=.cons (.ite (.cmp .Eq (.var 2) (.D6 (.int 5))) pQ .nil) qt
def jn:S:=.cons (.ex (.bm .Ed (.key (.var 0) 1 2) (.cons (.lst (.cons (.var 1) (.cons (.D6 (.str "limit")) .nil))) .nil))) pp
def uP:S:=.cons (.sets [.var 2,.var 3] (.tup (.cons (.call (.glob 6) (.cons (.key (.var 0) 1 0) (.cons (.D6 (.int 6)) .nil))) (.cons (.key (.var 0) 1 3) .nil)))) jn
set_option tactic.hygienic true in
def ut:Fn:=EP 305 (top 17) "_law_told" gp 2 ["case","some","way","search","can"] uP
theorem sV:ut.Ok:=⟨λj=>rfl,λj=>rfl,Il rfl λj j=>rfl,by decide+kernel⟩
def lR:S:=.cons (.ret (.tup (.cons (.D6 .none) (.cons (.var 2) (.cons (.var 3) .nil))))) .nil
def mq:S:=.cons (.ex (.bm .Ed (.var 3) (.cons (.sub (.var 6) (.D6 (.int 0))) .nil))) .nil
def mf:S:=.cons (.ex (.bm .Ed (.var 2) (.cons (.sub (.var 6) (.D6 (.int 0))) .nil))) .nil
def lV:S:=.cons (.set (.var 1) (.var 5)) .nil
def d1:S:=.cons (.ite (.or (.cmp .Eq (.var 5) (.D6 (.str "limit"))) (.cmp .Eq (.var 5) (.D6 (.str "can")))) mf lV) .nil
def gN:S:=.cons (.ite (.cmp .Eq (.var 5) (.D6 (.str "limit"))) mq .nil) d1
def gC:S:=.cons (.ite (.or (.cmp .NotEq (.bf .len (.cons (.var 6) .nil)) (.D6 (.int 1))) (.or (.cmp .In (.sub (.var 6) (.D6 (.int 0))) (.var 2)) (.cmp .NotEq (.var 4) (.bf .tuple (.cons (.comp (.var 8) 8 (.var 1) (.cmp .NotEq (.var 8) (.sub (.var 6) (.D6 (.int 0))))) .nil))))) lR .nil) gN
def gd:S:=.cons (.set (.var 6) (.comp (.var 7) 7 (.var 1) (.cmp .NotIn (.var 7) (.var 4)))) gC
def jI:S:=.cons (.ret (.tup (.cons (.var 1) (.cons (.var 2) (.cons (.var 3) .nil))))) .nil
def pT:S:=.cons (.LJ 4 5 (.slice (.var 0) (.D6 (.int 1)) (.D6 .none)) gd) jI
def wy:S:=.cons (.HH [1,2,3] (.tup (.cons (.sub (.sub (.var 0) (.D6 (.int 0))) (.D6 (.int 1))) (.cons (.lst .nil) (.cons (.lst .nil) .nil))))) pT
def vP:Fn:=EP 310 (top 18) "_law_left" gp 1 ["asked","left","kept","limited","some","state","gone"] wy
theorem sX:vP.Ok:=⟨λj=>rfl,λj=>rfl,LL rfl λj=>rfl,by decide+kernel⟩
def eS:S:=.cons (.ret (.cmp .Eq (.key (.var 0) 1 2) (.lst (.cons (.lst (.cons (.var 2) (.cons (.D6 (.str "limit")) .nil))) .nil)))) .nil
def jb:S:=.cons (.ret (.D6 (.bool false))) .nil
def eX:S:=.cons (.ret (.and (.cmp .Is (.var 3) (.D6 .none)) (.and (.cmp .Eq (.bf .len (.cons (.var 4) .nil)) (.D6 (.int 1))) (.and (.cmp .Eq (.sub (.sub (.var 4) (.D6 (.int 0))) (.D6 (.int 1))) (.D6 (.str "can"))) (.and (.call (.glob 9) (.cons (.var 0) (.cons (.var 2) .nil))) (.cmp .Eq (.attr (.var 1) 103 2) (.D6 (.bool true)))))))) .nil
def jh:S:=.cons (.ret (.D6 (.bool false))) .nil
def jc:S:=.cons (.ret (.D6 (.bool false))) .nil
def eW:S:=.cons (.ret (.cmp .Eq (.HO (.var 9) 9 (.var 3) (.and (.cmp .NotIn (.var 9) (.var 7)) (.not (.call (.glob 9) (.cons (.var 0) (.cons (.comp (.var 10) 10 (.var 3) (.cmp .NotEq (.var 10) (.var 9))) .nil)))))) (.lst .nil))) .nil
def ja:S:=.cons (.ite (.or (.cmp .NotEq (.bf .repr (.cons (.attr (.var 1) 103 2) .nil)) (.bf .repr (.cons (.cmp .Eq (.var 7) (.lst .nil)) .nil))) (.call (.glob 9) (.cons (.var 0) (.cons (.var 3) .nil)))) jc .nil) eW
def eV:S:=.cons (.ite (.or (.cmp .Is (.var 5) (.D6 .none)) (.or (.cmp .NotEq (.var 3) (.var 5)) (.cmp .NotEq (.comp (.var 8) 8 (.var 5) (.cmp .NotIn (.var 8) (.var 6))) (.lst .nil)))) jh .nil) ja
def dY:S:=.cons (.sets [.var 5,.var 6,.var 7] (.call (.glob 11) (.cons (.var 4) .nil))) eV
def eY:S:=.cons (.ite (.or (.cmp .Eq (.sub (.sub (.var 4) (.D6 (.int 0))) (.D6 (.int 1))) (.D6 (.str "can"))) (.call (.glob 9) (.cons (.var 0) (.cons (.var 2) .nil)))) eX .nil) dY
def EW:S:=.cons (.ite (.or (.cmp .Eq (.var 4) (.lst .nil)) (.or (.cmp .NotEq (.sub (.sub (.var 4) (.D6 (.int 0))) (.D6 (.int 0))) (.var 2)) (.cmp .Eq (.sub (.sub (.var 4) (.D6 (.int 0))) (.D6 (.int 1))) (.D6 (.str "limit"))))) jb .nil) eY
def dZ:S:=.cons (.set (.var 4) (.key (.var 0) 1 2)) EW
def eU:S:=.cons (.Kc 3 (.D3 (.var 1) 103 1 .nil) eS) dZ
def kM:S:=.cons (.sets [.key (.var 0) 1 2,.var 2] (.tup (.cons (.lst .nil) (.cons (.bf .tuple (.cons (.bf .range (.cons (.bf .len (.cons (.key (.var 0) 1 1) .nil)) .nil)) .nil)) .nil)))) eU
set_option tactic.hygienic true in
def lh:Fn:=EP 315 (top 19) "_law_is_core_right" gp 2 ["case","finder","every","told","asked","left","kept","limited"] kM
theorem kg:lh.Ok:=⟨λj=>rfl,λj=>rfl,Il rfl λj j=>rfl,by decide+kernel⟩
def E1(d:Nat)(σ:AH)(m:D7)(x:X)(v:AV):Prop:=∀(Xp:AH->Prop) (Q:EO),Q v σ->(ev d true x Xp).e m Q σ
def T1(d:Nat)(σ:AH)(m:D7)(x:X)(b:Bool):Prop:=∀(Xp:AH->Prop) (K:Bool->AH->Prop),K b σ->(ev d true x Xp).t m K σ
def L1(d:Nat)(σ:AH)(m:D7)(x:X)(vs:List AV):Prop:=∀(Xp:AH->Prop) (Q:List AV->AH->Prop),Q vs σ->(ev d true x Xp).l m Q σ
def C1(σ:AH)(op:CmpOp)(v u:AV)(r:Bool):Prop:=∀K:Bool->Prop,K r->E5 op v u K σ
def MV(d:Nat)(Xp:AH->Prop)(r:S)(P:FP):FP:=⟨λm σ=>ws d Xp r true P m σ,P.rt⟩
def brk(d:Nat)(Xp:AH->Prop)(y z r:S)(P:FP)(m:D7)(σ:AH)(b:Bool):Prop:=if b then ws d Xp y true (MV d Xp r P) m σ else ws d Xp z true (MV d Xp r P) m σ
theorem brk_yes(e:b=true)(k:ws d Xp y true (MV d Xp r P) m σ):brk d Xp y z r P m σ b:=by subst e;exact k
theorem brk_no(e:¬b=true)(k:ws d Xp z true (MV d Xp r P) m σ):brk d Xp y z r P m σ b:=by cases b with|true=>exact absurd rfl e|false=>exact k
def LM:AV->Bool
 | .OB _=>false
 |_=>true
theorem bU{o:Option α}(h:o=some w)(p:P w):Ej o P:=by rw[h];exact p
theorem ad{i:Nat}(h:Em m i=some v):E1 d σ m (.var i) v:=λj j p=>bU h p
theorem u':E1 d σ m (.D6 v) v:=λj j p=>p
theorem cO{s:Str}(h:I9[n]? =some (s,v)):E1 d σ m (.glob n) v:=λj Q p=>show Ej I9[n]? (λp=>Q p.2 σ)from bU (w:=(s,v)) h p
theorem eP(h:E1 d σ m a (.int k)):E1 d σ m (.neg a) (.int (-k)):=λXp Q p=>h Xp _ p
theorem dE(h:E1 d σ m a (.int k))(g:E1 d σ m b (.int l)):E1 d σ m (.bin .Add a b) (.int (k+l)):=λXp Q p=>h Xp _ (g Xp _ (su p))
theorem ee(h:E1 d σ m a (.int k))(g:E1 d σ m b (.int l)):E1 d σ m (.bin .Sub a b) (.int (k-l)):=λXp Q p=>h Xp _ (g Xp _ (AB p))
theorem oZ(h:E1 d σ m a (.int k))(g:E1 d σ m b (.int l))(z: -(2^64)<k/\k<2^64):E1 d σ m (.bin .Mult a b) (.int (k*l)):=λXp Q p=>h Xp _ (g Xp _ (zk z p))
theorem j0(h:E1 d σ m a (.int k))(g:E1 d σ m b (.int l))(z:0<l/\l<2^64):E1 d σ m (.bin .FloorDiv a b) (.int (k/l)):=λXp Q p=>h Xp _ (g Xp _ (AZ z p))
theorem j4(h:E1 d σ m a (.int k))(g:E1 d σ m b (.int l))(z:0<l):E1 d σ m (.bin .Mod a b) (.int (k%l)):=λXp Q p=>h Xp _ (g Xp _ (zW z p))
theorem CR(h:E1 d σ m a (.int k))(g:E1 d σ m b (.int l))(z:0<=l/\l<=1000/\k.natAbs<2^64):E1 d σ m (.bin .Pow a b) (.int (k^l.toNat)):=λXp Q p=>h Xp _ (g Xp _ (y5 z p))
theorem cm:L1 d σ m .nil []:=λj j p=>p
theorem fT(h:E1 d σ m a v)(g:L1 d σ m as vs):L1 d σ m (.cons a as) (v::vs):=λXp Q p=>h Xp _ (g Xp _ p)
theorem cJ(h:E1 d σ m a v):L1 d σ m (.cons a .nil) [v]:=fT h cm
theorem dc(h:E1 d σ m a v)(g:E1 d σ m b u):L1 d σ m (.cons a (.cons b .nil)) [v,u]:=fT h (cJ g)
theorem ph(h:σ o=some (.inst C r m))(q:m[n]? =some v)(j:LM v=true)(p:Q v σ):Iq (.ref o) C n Q σ:=zK h q (λu e=>by rw[e]at j;cases j) p
theorem bS(g:E1 d σ m a (.ref o))(h:σ o=some (.inst C w j))(q:j[n]? =some v)(r:LM v=true:=by rfl):E1 d σ m (.attr a C n) v:=λXp Q p=>g Xp _ (ph h q r p)
theorem d2(g:E1 d σ m a (.ref o))(h:σ o=some (.D4 j q))(r:q[n]? =some v):E1 d σ m (.key a j n) v:=λXp Q p=>g Xp _ (wD h r p)
theorem cA(g:E1 d σ m a (.ref o))(q:E1 d σ m i (.int k))(h:σ o=some (.list xs)\/σ o=some (.tup xs))(j:ix xs k=some v):E1 d σ m (.sub a i) v:=λXp Q p=>g Xp _ (q Xp _ (h.elim (λh=>DH h j p) λh=>De h j p))
theorem fF(g:E1 d σ m a (.ref o))(j:E1 d σ m i (.int k))(h:σ o=some (.D0 kvs ob))(q:lk kvs k=some v):E1 d σ m (.sub a i) v:=λXp Q p=>g Xp _ (j Xp _ (Dz h q p))
theorem C9(g:E1 d σ m a (.ref o))(j:E1 d σ m i (.int k))(h:σ o=some (.D0 kvs ob)):E1 d σ m (.bm .HF a (.cons i .nil)) ((lk kvs k).getD .none):=λXp Q p=>g Xp _ ⟨ft h,j Xp _ (BW h p)⟩
theorem BC(g:E1 d σ m a (.ref o))(j:E1 d σ m i (.int k))(q:E1 d σ m x u)(h:σ o=some (.D0 kvs ob)):E1 d σ m (.bm .HF a (.cons i (.cons x .nil))) ((lk kvs k).getD u):=λXp Q p=>g Xp _ ⟨ft h,j Xp _ (q Xp _ (zM h p))⟩
theorem ef(h:E1 d σ m a (.int k)):E1 d σ m (.bf .abs (.cons a .nil)) (.int k.natAbs):=λXp Q p=>⟨rfl,h Xp _ (pD p)⟩
theorem BI(h:E1 d σ m a (.bool k)):E1 d σ m (.bf .repr (.cons a .nil)) (.str (if k then "True" else "False")):=λXp Q p=>⟨rfl,h Xp _ (sv p)⟩
theorem DL(h:E1 d σ m a (.bool k)):E1 d σ m (.bf .int (.cons a .nil)) (.int (if k then 1 else 0)):=λXp Q p=>⟨rfl,h Xp _ (B9 p)⟩
theorem cH(g:E1 d σ m a (.ref o))(h:σ o=some (.list xs)\/σ o=some (.tup xs))(j:(xs.length:Int)=k):E1 d σ m (.bf .len (.cons a .nil)) (.int k):=λXp Q p=>⟨rfl,g Xp _ (vQ (h.imp id .inl) (j▸p))⟩
theorem eM(h:E1 d σ m a v)(g:E1 d σ m b u)(c:C1 σ op v u r):E1 d σ m (.cmp op a b) (.bool r):=λXp Q p=>h Xp _ (g Xp _ (c (λr=>Q (.bool r) σ) p))
theorem bR(h:E1 d σ m a v)(g:E1 d σ m b u)(c:C1 σ op v u r):T1 d σ m (.cmp op a b) r:=λXp K p=>h Xp _ (g Xp _ (c (λr=>K r σ) p))
theorem gY(h:E1 d σ m (.var n) (.bool r)):T1 d σ m (.var n) r:=λXp K p=>h Xp (truth K) p
theorem BJ:T1 d σ m (.D6 (.bool r)) r:=λXp K p=>p
theorem nt(h:E1 d σ m (.attr a C n) (.bool r)):T1 d σ m (.attr a C n) r:=λXp K p=>h Xp (truth K) p
theorem vR(h:T1 d σ m a r):T1 d σ m (.not a) (!r):=λXp K p=>h Xp _ p
theorem BG(h:E1 d σ m a (.bool r)):E1 d σ m (.not a) (.bool (!r)):=λXp K p=>h Xp _ p
theorem fY(h:T1 d σ m a r)(g:r=true->T1 d σ m b s):T1 d σ m (.and a b) (r&&s):=λXp K p=>h Xp _ (by
 cases r with|true=>exact g rfl Xp _ p|false=>exact p)
theorem jX(h:T1 d σ m a r)(g:r=false->T1 d σ m b s):T1 d σ m (.or a b) (r||s):=λXp K p=>h Xp _ (by
 cases r with|true=>exact p|false=>exact g rfl Xp _ p)
theorem fk(h:T1 d σ m c r)(g:if r then E1 d σ m a v else E1 d σ m b v):E1 d σ m (.ite c a b) v:=λXp Q p=>h Xp _ (by
 cases r with
 |true=>exact g Xp _ p
 |false=>exact g Xp _ p)
theorem pG:C1 σ .Lt (.int k) (.int l) (decide (k<l)):=λj p=>wf p
theorem fE:C1 σ .Gt (.int k) (.int l) (decide (k>l)):=λj p=>Ca p
theorem yq:C1 σ .GtE (.int k) (.int l) (decide (k>=l)):=λj p=>BY p
theorem d8:C1 σ .Is v .none (decide (v=.none)):=λj p=>Bq p
theorem dD:C1 σ .Eq (.int k) (.int l) (k==l):=λj p=>fy tQ p
theorem lE:C1 σ .Eq (.bool k) (.bool l) (k==l):=λj p=>fy BH p
theorem Dy:C1 σ .Eq .none (.bool l) false:=λj p=>fy tS p
theorem jV:C1 σ .NotEq (.int k) (.int l) (!(k==l)):=λj p=>gq tQ p
theorem yJ(h:σ o=some (.D0 kvs ob)):C1 σ .In (.int k) (.ref o) (lk kvs k).isSome:=λj p=>Af h p
theorem ln(h:σ o=some (.D0 kvs ob)):C1 σ .NotIn (.int k) (.ref o) (!(lk kvs k).isSome):=λj p=>AN h p
theorem D5.mono{X C:AH->Prop}(h:D5 d f args Q X σ)(D:∀v σ,Q v σ->E v σ)(G:∀σ,X σ->C σ):D5 d f args E C σ:=
 ⟨h.1,λprog w c A s H vs R L I J=>codeAny_mono (h.2 prog w c A s H vs R L I J) λr Z m=>by
  cases r with
  |ok f=>
   cases f with
   |ret v=>obtain⟨j,M,N,q⟩:=m;exact⟨j,M,N,D _ _ q⟩
   |_=>exact m
  |error e=>obtain⟨a,j,B,O,U,Y⟩:=m;exact⟨a,j,B,O,G _ U,Y⟩⟩
theorem D5.le{X:AH->Prop}(h:D5 d f args Q X σ)(j:d<=m):D5 m f args Q X σ:=
 ⟨h.1,λprog w c A s q vs R=>h.2 prog w c A s q vs ⟨R.stack,R.calm,by have:=R.depth;omega,Qr R.units j⟩⟩
theorem gR(h:σ o=some (.inst C j m)):GD (.ref o) C σ:=⟨_,_,_,rfl,h⟩
theorem cD{n:Nat}(g:E1 d σ m a (.ref o))(h:σ o=some (.inst C q r))(gs:L1 d σ m as vs)(j:(methTab C)[n]? =some (s,f))(p:D5 d (.ref f) (.ref o::vs) Q Xp σ):
  (ev d true (.D3 a C n as) Xp).e m Q σ:=⟨rfl,g Xp _ ⟨gR h,gs Xp _ (bU (P:=λp=>D5 d (.ref p.2) (.ref o::vs) Q Xp σ) j p)⟩⟩
theorem dq(g:E1 d σ m f j)(gs:L1 d σ m as vs)(p:D5 d j vs Q Xp σ):(ev d true (.call f as) Xp).e m Q σ:=⟨rfl,g Xp _ (gs Xp _ p)⟩
theorem pq{as:X}(g:E1 d σ m a (.ref o))(h:σ o=some (.inst C A B))(gs:L1 d σ m as vs)(q:(methTab C)[n]? =some (s,f))(p:D5 d (.ref f) (.ref o::vs) (λr j=>r=v/\j=σ) d' σ)(w:Q v σ):(ev d true (.D3 a C n as) Xp).e m Q σ:=
 cD g h gs q (p.mono (λr j e=>by rw[e.1,e.2];exact w) λσ h=>h.elim)
theorem dd(h:E1 d σ m x v)(k:ws d Xp r true P (m.set n (some v)) σ):ws d Xp (.cons (.set (.var n) x) r) true P m σ:=h Xp _ k
theorem fw(h:E1 d σ m x v)(g:E1 d σ m a (.ref o))(e:σ o=some (.inst C q j))(w:n<=j.length)(k:ws d Xp r true P m (upd σ o (.inst C q (GC j n v)))):
  ws d Xp (.cons (.set (.attr a C n) x) r) true P m σ:=h Xp _ (g Xp _ (iD e w k))
theorem gh(h:E1 d σ m x v)(g:E1 d σ m a (.ref o))(j:E1 d σ m i (.int l))(e:σ o=some (.D0 kvs ob))(hz:(put kvs l v).length<=big)(k:∀o',ws d Xp r true P m (upd σ o (.D0 (put kvs l v) o'))):
  ws d Xp (.cons (.set (.item a i) x) r) true P m σ:=h Xp _ (g Xp _ (j Xp _ (yL e hz k)))
theorem Bt(h:E1 d σ m x v)(g:E1 d σ m a (.ref o))(j:E1 d σ m i (.int l))(e:σ o=some (.list xs))(hz:0<=l/\l<xs.length)(k:ws d Xp r true P m (upd σ o (.list (xs.set l.toNat v)))):
  ws d Xp (.cons (.set (.item a i) x) r) true P m σ:=h Xp _ (g Xp _ (j Xp _ (yV e hz k)))
theorem Di(h:E1 d σ m x v)(g:E1 d σ m a (.ref o))(e:σ o=some (.D4 j q))(w:n<=q.length)(k:ws d Xp r true P m (upd σ o (.D4 j (GC q n v)))):
  ws d Xp (.cons (.set (.key a j n) x) r) true P m σ:=h Xp _ (g Xp _ (nJ e w k))
theorem dt(g:E1 d σ m a (.ref o))(h:E1 d σ m x v)(e:σ o=some (.list xs))(j:xs++[v]=ys)(hz:xs.length<big)(k:ws d Xp r true P m (upd σ o (.list ys))):
  ws d Xp (.cons (.ex (.bm .Ed a (.cons x .nil))) r) true P m σ:=g Xp _ ⟨ec e,h Xp _ (oi e hz (by subst j;exact⟨trivial,k⟩))⟩
theorem co{b:Bool}(h:T1 d σ m x b)(k:brk d Xp y z r P m σ b):ws d Xp (.cons (.ite x y z) r) true P m σ:=h Xp _ k
theorem cW(h:E1 d σ m x v)(k:P.rt v σ):ws d Xp (.cons (.ret x) r) true P m σ:=h Xp _ k
theorem wm(h:let R:=P;let M:=m;let O:=σ;ws d Xp r q R M O):ws d Xp r q P m σ:=h
theorem we{K:EO}(h:let k:=K;let M:=m;let O:=σ;(ev d q x Xp).e M k O):(ev d q x Xp).e m K σ:=h
theorem DY(h:let M:=m;ws d Xp r q P M σ):ws d Xp r q P m σ:=h
theorem DZ(h:let O:=σ;ws d Xp r q P m O):ws d Xp r q P m σ:=h
theorem cL(h:let R:=P;let Y:=Xp;ws d Y r q R m σ):ws d Xp r q P m σ:=h
end
section
structure Ent where
 lit:Int
 ht:Nat
 cs:Option Nat
abbrev lits(tr:List Ent):List Int:=tr.map Ent.lit
abbrev FZ(j:List Int):Prop:=j.Pairwise λx y=>x.natAbs≠y.natAbs
def HA(bg:List Nat)(i:Nat):Nat:=bg.countP λb=>decide (b<=i)
theorem wA(bg:List Nat)(i:Nat):HA bg i<=bg.length:=List.countP_le_length
theorem dy(hs:bg.Pairwise (·<= ·))(m:bg[j]? =some b):HA bg i<=j↔i<b:=by
 induction bg generalizing j with
 |nil=>simp at m
 |cons q r ih=>
  obtain⟨w,A⟩:=Uc.mp hs
  unfold HA at ih⊢
  rw[List.countP_cons]
  by_cases h:q<=i
  ·simp only[h,decide_true,if_true]
   cases j with
   |zero=>simp at m;subst m;omega
   |succ j=>simp at m;have:=ih A m;omega
  ·simp only[h,decide_false,Up,if_false]
   have D:r.countP (λb=>decide (b<=i))=0:=by
    rw[List.countP_eq_zero];intro x B;have:=w x B;simp;omega
   have C:q<=b:=by
    cases j with
    |zero=>simp at m;omega
    |succ j=>simp at m;exact w b (Sp m)
   omega
theorem jW(h:∀b∈bg,b<=i):HA bg i=bg.length:=by
 unfold HA;rw[List.countP_eq_length];intro b j;simpa using h b j
theorem xt(bg:List Nat)(h:i<=j):HA bg i<=HA bg j:=by
 unfold HA;exact List.countP_mono_left λb m q=>by simp at q⊢;omega
theorem xW(bg:List Nat)(b i:Nat):HA (bg++[b]) i=HA bg i+if b<=i then 1 else 0:=by
 unfold HA;rw[List.countP_append,List.countP_singleton];simp
theorem wZ(hs:bg.Pairwise (·<= ·))(q:bg[h]? =some b)(A:i<b):HA (bg.take h) i=HA bg i:=by
 have e:HA bg i=HA (bg.take h) i+HA (bg.drop h) i:=by
  unfold HA;rw[<-List.countP_append,List.take_append_drop]
 have z:HA (bg.drop h) i=0:=by
  unfold HA;rw[List.countP_eq_zero]
  intro x j
  have m:=(Sr.mp q).1
  have r:bg.drop h=b::bg.drop (h+1):=by
   rw[Vx m];rw[(Sr.mp q).2]
  rw[r]at j
  have w:(bg.drop h).Pairwise (·<= ·):=hs.sublist (List.drop_sublist ..)
  rw[r]at w
  have:=(Uc.mp w).1
  refine dz j ?_ λj=>?_
  ·simp;omega
  ·have:=this x j;simp;omega
 omega
structure EV (tr:List Ent) (bg:List Nat) (seen:Nat) (rows:List (List Int)):Prop where
 sorted:bg.Pairwise (·<= ·)
 Im:∀b∈bg,b<=seen
 seen:seen<=tr.length
 ht:∀(i:Nat) (e:Ent),tr[i]? =some e->e.ht=HA bg i
 cs:∀(i:Nat) (e:Ent) (n:Nat),tr[i]? =some e->e.cs=some n->∃r,rows[n]? =some r/\e.lit∈r/\∀l∈r,l≠e.lit-> -l∈lits (tr.take i)
 dec:∀(i:Nat) (e:Ent),tr[i]? =some e->e.cs=none->0<e.ht->bg[e.ht-1]? =some i
def PR(rows j:List (List Int)):Prop:=j.length=rows.length/\∀(n:Nat) (r:List Int),rows[n]? =some r->∃m,j[n]? =some m/\m.Perm r
theorem PR.refl(rows:List (List Int)):PR rows rows:=⟨rfl,λn r h=>⟨r,h,.refl _⟩⟩
theorem PR.trans(x:PR a b)(y:PR b c):PR a c:=⟨y.1.trans x.1,λn r h=>(by obtain⟨j,m,p1⟩:=x.2 n r h;exact(by obtain⟨q,w,p2⟩:=y.2 n j m;exact⟨q,w,p2.trans p1⟩))⟩
theorem PR.set(h:rows[n]? =some r)(p:j.Perm r):PR rows (rows.set n j):=by
 refine⟨by simp,λk s hs=>?_⟩
 have m:=(Sr.mp h).1
 by_cases e:k=n
 ·subst e
  rw[h]at hs;cases hs
  exact⟨j,by rw[Ts m],p⟩
 ·exact⟨s,by rw[Ui (Ne.symm e)];exact hs,.refl _⟩
theorem PR.back(x:PR rows j){n:Nat}(h:j[n]? =some w):∃r,rows[n]? =some r/\w.Perm r:=by
 have m:=(Sr.mp h).1
 rw[x.1]at m
 obtain⟨A,q,p⟩:=x.2 n _ (SA m)
 rw[h]at q;cases q
 exact⟨_,SA m,p⟩
theorem PR.mem(x:PR rows j){m:List Int}(h:m∈j):∃r∈rows,m.Perm r:=by
 obtain⟨n,q⟩:=SQ.mp h
 obtain⟨r,w,p⟩:=x.back q
 exact⟨r,Sp w,p⟩
theorem PR.Pd(x:PR rows j)(h:r∈rows):∃m∈j,m.Perm r:=by
 obtain⟨n,q⟩:=SQ.mp h
 obtain⟨m,w,p⟩:=x.2 n r q
 exact⟨m,Sp w,p⟩
section
variable {seen:Nat}
theorem EV.perm(t:EV tr bg seen rows)(p:PR rows j):EV tr bg seen j:=
 ⟨t.sorted,t.Im,t.seen,t.ht,λi e n q w=>(by obtain⟨r,A,B,C⟩:=t.cs i e n q w;exact(by obtain⟨D,E,m⟩:=p.2 n r A;exact⟨D,E,m.mem_iff.mpr B,λl G=>C l (m.mem_iff.mp G)⟩)),t.dec⟩
theorem bY(h:(l++[a])[i]? =some x):l[i]? =some x\/(i=l.length/\x=a):=by
 rcases UN i l.length with j|j|j
 ·rw[SV j]at h;exact .inl h
 ·subst j;rw[SZ (SR _)]at h;simp at h;exact .inr ⟨rfl,h.symm⟩
 ·rw[SZ (by omega)]at h
  have:i-l.length≠0:=Nat.sub_ne_zero_of_lt j
  rw[Tq (by simp;omega)]at h;cases h
theorem bQ{l:List α}(h:l[i]? =some x):i<l.length:=(Sr.mp h).1
theorem dA(h:i<=tr.length):(tr++[a]).take i=tr.take i:=TR h
theorem EV.prop(t:EV tr bg seen rows){n:Nat}(w:rows[n]? =some r)(A:l∈r)(B:∀x∈r,x≠l-> -x∈lits tr):EV (tr++[⟨l,bg.length,some n⟩]) bg seen rows:=by
 have j:∀b∈bg,b<=tr.length:=λb C=>SJ (t.Im b C) t.seen
 refine⟨t.sorted,t.Im,by have:=t.seen;simp;omega,λi e h=>?_,λi e k q m=>?_,λi e q m D=>?_⟩
 ·rcases bY h with h|⟨rfl,rfl⟩
  ·exact t.ht i e h
  ·exact(jW j).symm
 ·rcases bY q with h|⟨rfl,rfl⟩
  ·obtain⟨E,G,H,I⟩:=t.cs i e k h m
   exact⟨E,G,H,by rw[dA (TH (bQ h))];exact I⟩
  ·cases m
   exact⟨r,w,A,by rw[dA (SR _),SW];exact B⟩
 ·rcases bY q with h|⟨rfl,rfl⟩
  ·exact t.dec i e h m D
  ·cases m
theorem EV.fact(t:EV tr [] seen rows)(l:Int):EV (tr++[⟨l,0,none⟩]) [] seen rows:=by
 refine⟨t.sorted,t.Im,by have:=t.seen;simp;omega,λi e h=>?_,λi e k m j=>?_,λi e m j q=>?_⟩
 ·rcases bY h with h|⟨rfl,rfl⟩
  ·exact t.ht i e h
  ·rfl
 ·rcases bY m with h|⟨rfl,rfl⟩
  ·obtain⟨r,w,A,B⟩:=t.cs i e k h j
   exact⟨r,w,A,by rw[dA (TH (bQ h))];exact B⟩
  ·cases j
 ·rcases bY m with h|⟨rfl,rfl⟩
  ·exact t.dec i e h j q
  ·exact absurd q (T3 _)
theorem db{l:List α}{i:Nat}(h:l[i]? =some x):(l++[a])[i]? =some x:=by
 rw[SV (bQ h)];exact h
theorem EV.level(t:EV tr bg tr.length rows):EV tr (bg++[tr.length]) tr.length rows:=by
 refine⟨?_,λb j=>?_,SR _,λi e h=>?_,t.cs,λi e m q r=>db (t.dec i e m q r)⟩
 ·rw[T9];exact⟨t.sorted,Uq ..,λa w b j=>by simp at j;subst j;exact t.Im a w⟩
 ·refine cx j (λj=>?_) λj=>?_
  ·exact t.Im b j
  ·simp at j;omega
 ·rw[xW,if_neg (by have:=bQ h;omega)];exact t.ht i e h
theorem EV.choose(t:EV tr bg tr.length rows)(l:Int):EV (tr++[⟨l,bg.length+1,none⟩]) (bg++[tr.length]) tr.length rows:=by
 have j:=t.level
 refine⟨j.sorted,j.Im,by simp,λi e h=>?_,λi e k q m=>?_,λi e q m r=>?_⟩
 ·rcases bY h with h|⟨rfl,rfl⟩
  ·exact j.ht i e h
  ·rw[jW λb w=>j.Im b w];simp
 ·rcases bY q with h|⟨rfl,rfl⟩
  ·obtain⟨A,B,C,D⟩:=j.cs i e k h m
   exact⟨A,B,C,by rw[dA (TH (bQ h))];exact D⟩
  ·cases m
 ·rcases bY q with h|⟨rfl,rfl⟩
  ·exact j.dec i e h m r
  ·show(bg++[tr.length])[bg.length+1-1]? =some tr.length
   simp
theorem dg{l:List α}(h:(l.take b)[i]? =some x):l[i]? =some x/\i<b:=by
 rw[T6]at h
 split at h
 ·exact⟨h,by assumption⟩
 ·cases h
theorem EV.back(t:EV tr bg seen rows)(q:bg[h]? =some b):EV (tr.take b) (bg.take h) (tr.take b).length rows:=by
 have J:b<=tr.length:=SJ (t.Im b (Sp q)) t.seen
 have w:(tr.take b).length=b:=by rw[Tf];omega
 refine⟨t.sorted.sublist (U' ..),λx M=>?_,SR _,λi e he=>?_,λi e n m C=>?_,λi e m C N=>?_⟩
 ·rw[w]
  obtain⟨j,B⟩:=SQ.mp M
  obtain⟨B,D⟩:=dg B
  rw[Sr]at B q
  obtain⟨E,G⟩:=B
  obtain⟨H,I⟩:=q
  rw[<-G,<-I]
  exact Tr.mp t.sorted j h E H D
 ·obtain⟨he,A⟩:=dg he
  rw[wZ t.sorted q A];exact t.ht i e he
 ·obtain⟨m,A⟩:=dg m
  obtain⟨r,O,Q,U⟩:=t.cs i e n m C
  exact⟨r,O,Q,by rw[UZ,UW (TH A)];exact U⟩
 ·obtain⟨m,A⟩:=dg m
  have g:=t.dec i e m C N
  have Y:e.ht<=h:=by rw[t.ht i e m];exact(dy t.sorted q).mpr A
  rw[T6,if_pos (by omega)];exact g
end
end
section
def tl(j:Int->Bool)(l:Int):Prop:=j (l.natAbs:Int)=decide (0<l)
def sat(j:Int->Bool)(r:List Int):Prop:=∃l∈r,tl j l
theorem d5(h:l≠0):tl j (-l)↔¬tl j l:=by
 unfold tl
 rw[S9]
 by_cases m:0<l
 ·rw[decide_eq_true m,decide_eq_false (show ¬0< -l by omega)];cases j (l.natAbs:Int)<;>simp
 ·rw[decide_eq_false m,decide_eq_true (show 0< -l by omega)];cases j (l.natAbs:Int)<;>simp
def l0(tr:List Ent)(bg:List Nat):Nat:=bg.head?.getD tr.length
structure EB (N:Nat) (r:List Int):Prop where
 two:2<=r.length
 nd:r.Nodup
 lit:∀l∈r,1<=l.natAbs/\l.natAbs<=N
 neg:∀l∈r,-l∉r
theorem EB.perm(h:EB N r)(p:m.Perm r):EB N m:=
 ⟨by rw[p.length_eq];exact h.two,p.nodup_iff.mpr h.nd,λl j=>h.lit l (p.mem_iff.mp j),λl j q=>h.neg l (p.mem_iff.mp j) (p.mem_iff.mp q)⟩
structure Core (N:Nat) (Mod:(Int->Bool)->Prop) (tr:List Ent) (bg:List Nat) (seen:Nat) (rows:List (List Int)):Prop where
 t:EV tr bg seen rows
 nd:FZ (lits tr)
 lit:∀l∈lits tr,1<=l.natAbs/\l.natAbs<=N
 G3:∀r∈rows,EB N r
 ent:∀β,Mod β↔(∀r∈rows,sat β r)/\∀l∈lits (tr.take (l0 tr bg)),tl β l
 pb:∀(j b:Nat),bg[j]? =some b->∀r∈rows,(∃l∈r,l∈lits (tr.take b))\/∃l∈r,∃l'∈r,l≠l'/\ -l∉lits (tr.take b)/\ -l'∉lits (tr.take b)
def F5(r:List Int)(x y:Int):Prop:=(r[0]? =some x/\r[1]? =some y)\/(r[0]? =some y/\r[1]? =some x)
structure HB (rows:List (List Int)) (wv:Int->List Nat) (Hw:Int) (pend:List Nat):Prop where
 a:∀(n:Nat) (r:List Int) (l:Int),rows[n]? =some r->(r[0]? =some l\/r[1]? =some l)->n∈wv l\/(l=Hw/\n∈pend)
 b:∀(l:Int) (n:Nat),n∈wv l\/(l=Hw/\n∈pend)->∃r,rows[n]? =some r/\(r[0]? =some l\/r[1]? =some l)
 n:∀l,(wv l).Nodup
 np:pend.Nodup
 ap:∀n∈pend,n∉wv Hw
def WT(tr:List Ent)(rows:List (List Int))(sn:Nat)(j:Int)(m:List Nat):Prop:=
 ∀(n:Nat) (r:List Int) (x y:Int),rows[n]? =some r->F5 r x y->∀(p:Nat) (e:Ent),tr[p]? =some e->p<sn->e.lit= -x->
  (x=j/\n∈m)\/∃(w:Nat) (q:Ent),tr[w]? =some q/\q.lit=y/\q.ht<=e.ht
theorem F5.mem(h:F5 r x y):x∈r/\y∈r:=by
 rcases h with⟨j,m⟩|⟨j,m⟩
 ·exact⟨Sp j,Sp m⟩
 ·exact⟨Sp m,Sp j⟩
theorem F5.symm(h:F5 r x y):F5 r y x:=h.elim .inr .inl
theorem F5.ne(h:F5 r x y)(w:r.Nodup):x≠y:=by
 have j:∀a b:Int,r[0]? =some a->r[1]? =some b->a≠b:=λa b m q e=>by
  obtain⟨A,B⟩:=Sr.mp m
  obtain⟨C,D⟩:=Sr.mp q
  have:=Tr.mp (Tp.mp w) 0 1 A C (by omega)
  rw[B,D]at this;exact this e
 rcases h with⟨m,q⟩|⟨m,q⟩
 ·exact j x y m q
 ·exact(j y x m q).symm
theorem Cs(h:EB N r):∃x y,F5 r x y:=by
 have:=h.two
 cases r with
 |nil=>exact absurd this (by decide)
 |cons x r=>cases r with
  |nil=>exact absurd this (T3 1)
  |cons y r=>exact⟨x,y,.inl ⟨rfl,rfl⟩⟩
section
variable {Mod:(Int->Bool)->Prop} {tr:List Ent}
theorem y7(h:FZ B)(C:x∈B)(D:y∈B)(e:x.natAbs=y.natAbs):x=y:=by
 obtain⟨i,E⟩:=SQ.mp C
 obtain⟨j,G⟩:=SQ.mp D
 obtain⟨w,m⟩:=Sr.mp E
 obtain⟨A,r⟩:=Sr.mp G
 rcases UN i j with q|q|q
 ·have:=Tr.mp h i j w A q;rw[m,r]at this;exact absurd e this
 ·subst q;rw[<-m,<-r]
 ·have:=Tr.mp h j i A w q;rw[m,r]at this;exact absurd e.symm this
theorem ei(h:FZ j)(m:l∈j)(r:l≠0): -l∉j:=λq=>by
 have:=y7 h m q PQ
 omega
theorem eB(h:FZ (lits tr)){i j:Nat}(B:tr[i]? =some e)(C:tr[j]? =some f)(q:e.lit.natAbs=f.lit.natAbs):i=j:=by
 obtain⟨m,r⟩:=Sr.mp B
 obtain⟨w,A⟩:=Sr.mp C
 have h':=TB.mp h
 rcases UN i j with z|z|z
 ·have:=Tr.mp h' i j m w z;rw[r,A]at this;exact absurd q this
 ·exact z
 ·have:=Tr.mp h' j i w m z;rw[r,A]at this;exact absurd q.symm this
theorem cI:l∈lits tr↔∃(i:Nat) (e:Ent),tr[i]? =some e/\e.lit=l:=by
 constructor
 ·intro h
  refine Ef h λe he=>?_
  obtain⟨i,j⟩:=SQ.mp he
  exact⟨i,e,j,rfl⟩
 ·rintro⟨i,e,h,rfl⟩
  exact SY (Sp h)
theorem cE:l∈lits (tr.take b)↔∃(i:Nat) (e:Ent),tr[i]? =some e/\i<b/\e.lit=l:=by
 rw[cI]
 constructor
 ·rintro⟨i,e,h,rfl⟩;obtain⟨h,j⟩:=dg h;exact⟨i,e,h,j,rfl⟩
 ·rintro⟨i,e,h,j,rfl⟩;exact⟨i,e,by rw[T6,if_pos j];exact h,rfl⟩
theorem cY(h:l∈lits (tr.take b)):l∈lits tr:=by
 obtain⟨i,e,h,_,q⟩:=cE.mp h;exact cI.mpr ⟨i,e,h,q⟩
theorem ll(p:j.Perm r):sat m j↔sat m r:=⟨λ⟨l,h,t⟩=>⟨l,p.mem_iff.mp h,t⟩,λ⟨l,h,t⟩=>⟨l,p.mem_iff.mpr h,t⟩⟩
theorem Core.perm(c:Core N Mod tr bg seen rows)(p:PR rows m):Core N Mod tr bg seen m:=by
 refine⟨c.t.perm p,c.nd,c.lit,λr w=>?_,λE=>(c.ent E).trans (and_congr ⟨λh r w=>?_,λh r w=>?_⟩ Iff.rfl),λj b G r w=>?_⟩
 ·obtain⟨A,B,q⟩:=p.mem w;exact(c.G3 A B).perm q
 ·obtain⟨A,B,q⟩:=p.mem w;exact(ll q).mpr (h A B)
 ·obtain⟨A,B,q⟩:=p.Pd w;exact(ll q).mp (h A B)
 ·obtain⟨A,B,q⟩:=p.mem w
  rcases c.pb j b G A B with⟨l,C,D⟩|⟨l,C,H,D,I⟩
  ·exact .inl ⟨l,q.mem_iff.mpr C,D⟩
  ·exact .inr ⟨l,q.mem_iff.mpr C,H,q.mem_iff.mpr D,I⟩
theorem Core.Gb(c:Core N Mod tr bg seen rows){j b:Nat}(h:bg[j]? =some b):b<=tr.length:=SJ (c.t.Im b (Sp h)) c.t.seen
theorem Core.Pe(c:Core N Mod tr bg seen rows):l0 tr bg<=tr.length:=by
 unfold l0
 cases bg with
 |nil=>exact SR _
 |cons b r=>exact c.Gb (j:=0) rfl
theorem gO(h:FZ j)(w:l∉j)(A: -l∉j):FZ (j++[l]):=by
 unfold FZ
 rw[T9]
 refine⟨h,Uq ..,λx m y r e=>?_⟩
 simp at r;subst r
 rcases Int.natAbs_eq_natAbs_iff.mp e with q|q
 ·exact w (q▸m)
 ·exact A (q▸m)
theorem cX(tr:List Ent)(e:Ent):lits (tr++[e])=lits tr++[e.lit]:=by simp[lits]
theorem Core.prop(c:Core N Mod tr bg seen rows){l:Int}(w:rows[n]? =some r)(A:l∈r)(B:∀x∈r,x≠l-> -x∈lits tr)(H:l∉lits tr)(I: -l∉lits tr):
  Core N Mod (tr++[⟨l,bg.length,some n⟩]) bg seen rows:=by
 have q:=Sp w
 refine⟨c.t.prop w A B,?_,λx m=>?_,c.G3,λJ=>?_,λj b C r w=>?_⟩
 ·rw[cX];exact gO c.nd H I
 ·rw[cX]at m
  refine cx m (λm=>?_) λm=>?_
  ·exact c.lit x m
  ·simp at m;subst m;exact(c.G3 r q).lit x A
 ·rw[c.ent J]
  cases bg with
  |cons M D=>exact Iff.of_eq (by unfold l0;simp only[Vn,Vj,U8];rw[dA (c.Gb (j:=0) rfl)])
  |nil=>
   unfold l0
   simp only[List.head?_nil,Option.getD_none,SW]
   rw[cX]
   refine and_congr_right λhs=>⟨λh x m=>?_,λh x m=>h x (SN _ m)⟩
   refine cx m (λm=>?_) λm=>?_
   ·exact h x m
   ·simp at m;subst m
    obtain⟨y,E,G⟩:=hs r q
    by_cases e:y=x
    ·subst e;exact G
    ·have:=h _ (B y E e)
     exact absurd G ((d5 (by have:=(c.G3 r q).lit y E;omega)).mp this)
 ·rw[dA (c.Gb C)];exact c.pb j b C r w
theorem Core.calm(c:Core N Mod tr bg seen rows)(w:WT tr rows tr.length 0 [])(B:r∈rows):(∃l∈r,l∈lits tr)\/∃l∈r,∃C∈r,l≠C/\ -l∉lits tr/\ -C∉lits tr:=by
 obtain⟨n,E⟩:=SQ.mp B
 obtain⟨x,y,j⟩:=Cs (c.G3 r B)
 have m:∀x y,F5 r x y-> -x∈lits tr->∃l∈r,l∈lits tr:=λx y j G=>by
  obtain⟨p,e,D,he⟩:=cI.mp G
  rcases w n r x y E j p e D (bQ D) he with⟨_,h⟩|⟨H,I,q,A,_⟩
  ·cases h
  ·exact⟨y,j.mem.2,cI.mpr ⟨H,I,q,A⟩⟩
 by_cases q: -x∈lits tr
 ·exact .inl (m x y j q)
 ·by_cases A: -y∈lits tr
  ·exact .inl (m y x j.symm A)
  ·exact .inr ⟨x,j.mem.1,y,j.mem.2,j.ne (c.G3 r B).nd,q,A⟩
theorem Core.Jw(c:Core N Mod tr bg tr.length rows)(w:WT tr rows tr.length 0 []):∀(j b:Nat),(bg++[tr.length])[j]? =some b->∀r∈rows,(∃l∈r,l∈lits (tr.take b))\/∃l∈r,∃q∈r,l≠q/\ -l∉lits (tr.take b)/\ -q∉lits (tr.take b):=by
 intro j b m r A
 rcases bY m with m|⟨_,rfl⟩
 ·exact c.pb j b m r A
 ·rw[SW];exact c.calm w A
theorem Core.level(c:Core N Mod tr bg tr.length rows)(w:WT tr rows tr.length 0 []):Core N Mod tr (bg++[tr.length]) tr.length rows:=by
 refine⟨c.t.level,c.nd,c.lit,c.G3,λj=>?_,c.Jw w⟩
 rw[show l0 tr (bg++[tr.length])=l0 tr bg by unfold l0;cases bg<;>rfl];exact c.ent j
theorem Core.choose(c:Core N Mod tr bg tr.length rows)(w:WT tr rows tr.length 0 []){l:Int}(C:1<=l.natAbs/\l.natAbs<=N)(D:l∉lits tr)(E: -l∉lits tr):Core N Mod (tr++[⟨l,bg.length+1,none⟩]) (bg++[tr.length]) tr.length rows:=by
 refine⟨c.t.choose l,?_,λx m=>?_,c.G3,λG=>?_,λj b q r H=>?_⟩
 ·rw[cX];exact gO c.nd D E
 ·rw[cX]at m
  refine cx m (λm=>?_) λm=>?_
  ·exact c.lit x m
  ·simp at m;subst m;exact C
 ·rw[c.ent G]
  cases bg with
  |cons I B=>exact Iff.of_eq (by unfold l0;simp only[Vn,Vj,U8];rw[dA (c.Gb (j:=0) rfl)])
  |nil=>exact Iff.of_eq (by unfold l0;simp only[List.head?_nil,List.nil_append,Vn,U8,Option.getD_none];rw[dA (SR _)])
 ·have A:b<=tr.length:=by
   rcases bY q with q|⟨_,rfl⟩
   ·exact c.Gb q
   ·exact SR _
  rw[dA A];exact c.Jw w j b q r H
theorem Core.back(c:Core N Mod tr bg seen rows){h b:Nat}(w:bg[h]? =some b):Core N Mod (tr.take b) (bg.take h) (tr.take b).length rows:=by
 have G:=c.Gb w
 have B:∀{j C:Nat},bg[j]? =some C->j<=h->C<=b:=λ{j C} A m=>by
  obtain⟨H,Q⟩:=Sr.mp A
  obtain⟨I,U⟩:=Sr.mp w
  rcases Nat.lt_or_eq_of_le m with q|q
  ·have:=Tr.mp c.t.sorted j h H I q
   omega
  ·subst q;omega
 refine⟨c.t.back w,?_,λl J=>c.lit l (cY J),c.G3,λM=>?_,λj C A r O=>?_⟩
 ·exact c.nd.sublist (List.Sublist.map _ (U' ..))
 ·rw[c.ent M]
  have e:(tr.take b).take (l0 (tr.take b) (bg.take h))=tr.take (l0 tr bg):=by
   cases bg with
   |nil=>simp at w
   |cons D E=>
    cases h with
    |zero=>
     simp at w;subst w
     show(tr.take D).take (tr.take D).length=tr.take D
     rw[SW]
    |succ h=>
     show(tr.take b).take D=tr.take D
     rw[UZ,UW (B (j:=0) rfl (SI _))]
  rw[e]
 ·obtain⟨A,m⟩:=dg A
  rw[UZ,UW (B A (TH m))];exact c.pb j C A r O
end
end
section
section
variable {n:Nat}
def more(j:Int->List Nat)(l:Int)(ns:List Nat):Int->List Nat:=λx=>if x=l then j l++ns else j x
theorem cK(j:Int->List Nat)(l:Int)(ns:List Nat):more j l ns l=j l++ns:=by simp[more]
theorem de(h:x≠l):more j l ns x=j x:=by simp[more,h]
theorem cB(h:F5 r x y)(l:Int):(r[0]? =some l\/r[1]? =some l)↔l=x\/l=y:=by
 rcases h with⟨j,m⟩|⟨j,m⟩<;>rw[j,m]<;>simp[eq_comm]
 exact Or.comm
theorem eE{α:Type}{l:List α}{a x:α}(h:(l.set n a)[k]? =some x):(k=n/\x=a)\/(k≠n/\l[k]? =some x):=by
 by_cases e:k=n
 ·subst e
  have:=bQ h
  rw[TT]at this
  rw[Ts this]at h
  exact .inl ⟨rfl,(Option.some.inj h).symm⟩
 ·rw[Ui (Ne.symm e)]at h;exact .inr ⟨e,h⟩
theorem HB.moved(w:HB rows I m (n::C))(H:rows[n]? =some r)(J:F5 r M m)(E:F5 Q M A)(U:A≠m)(Y:A≠M)(h3:M≠m):HB (rows.set n Q) (more I A [n]) m C:=by
 have hn:=bQ H
 have G:n∉I A:=λhm=>by
  obtain⟨r2,B,D⟩:=w.b A n (.inl hm)
  rw[H]at B;cases B
  rcases(cB J A).mp D with q|q
  ·exact Y q
  ·exact U q
 have N:=(Tb.mp w.np).1
 refine⟨λk s l j Z=>?_,λl k j=>?_,λl=>?_,(Tb.mp w.np).2,λk j=>?_⟩
 ·rcases eE j with⟨rfl,rfl⟩|⟨e,j⟩
  ·rcases(cB E l).mp Z with q|q
   ·subst q
    rw[de (Ne.symm Y)]
    rcases w.a k r l H ((cB J l).mpr (.inl rfl))with g|g
    ·exact .inl g
    ·exact absurd g.1 h3
   ·subst q;left;rw[cK];simp
  ·rcases w.a k s l j Z with g|⟨B,D⟩
   ·left
    by_cases q:l=A
    ·subst q;rw[cK];exact SN _ g
    ·rw[de q];exact g
   ·right
    refine dp D (λq=>?_) λq=>?_
    ·exact absurd q e
    ·exact⟨B,q⟩
 ·by_cases e:k=n
  ·subst e
   refine⟨Q,by rw[Ts hn],(cB E l).mpr ?_⟩
   rcases j with j|⟨q,j⟩
   ·by_cases q:l=A
    ·exact .inr q
    ·rw[de q]at j
     obtain⟨r2,B,D⟩:=w.b l k (.inl j)
     rw[H]at B;cases B
     rcases(cB J l).mp D with z|z
     ·exact .inl z
     ·subst z;exact absurd j (w.ap k Sy)
   ·exact absurd j N
  ·have O:k∈I l\/(l=m/\k∈n::C):=by
    rcases j with j|⟨q,j⟩
    ·by_cases q:l=A
     ·subst q
      rw[cK]at j
      refine cx j (λg=>?_) λg=>?_
      ·exact .inl g
      ·simp at g;exact absurd g e
     ·rw[de q]at j;exact .inl j
    ·exact .inr ⟨q,Ss _ j⟩
   obtain⟨s,B,D⟩:=w.b l k O
   exact⟨s,by rw[Ui (Ne.symm e)];exact B,D⟩
 ·by_cases q:l=A
  ·subst q
   rw[cK,Tn]
   exact⟨w.n l,by simp,λa ha b hb e=>by simp at hb;subst hb;subst e;exact G ha⟩
  ·rw[de q];exact w.n l
 ·rw[de (Ne.symm U)];exact w.ap k (Ss _ j)
theorem HB.G'(w:HB rows J j (n::A))(G:rows[n]? =some r)(M:F5 r N j)(C:F5 O N j)(Q:N≠j):HB (rows.set n O) (more J j [n]) j A:=by
 have Z:=bQ G
 have D:=(Tb.mp w.np).1
 have H:=w.ap n Sy
 refine⟨λk s l m U=>?_,λl k m=>?_,λl=>?_,(Tb.mp w.np).2,λk m=>?_⟩
 ·rcases eE m with⟨rfl,rfl⟩|⟨e,m⟩
  ·rcases(cB C l).mp U with q|q
   ·subst q
    rw[de Q]
    rcases w.a k r l G ((cB M l).mpr (.inl rfl))with g|g
    ·exact .inl g
    ·exact absurd g.1 Q
   ·subst q;left;rw[cK];simp
  ·rcases w.a k s l m U with g|⟨B,E⟩
   ·left
    by_cases q:l=j
    ·subst q;rw[cK];exact SN _ g
    ·rw[de q];exact g
   ·right
    refine dp E (λq=>?_) λq=>?_
    ·exact absurd q e
    ·exact⟨B,q⟩
 ·by_cases e:k=n
  ·subst e
   refine⟨O,by rw[Ts Z],(cB C l).mpr ?_⟩
   rcases m with m|⟨q,m⟩
   ·by_cases q:l=j
    ·exact .inr q
    ·rw[de q]at m
     obtain⟨r2,B,E⟩:=w.b l k (.inl m)
     rw[G]at B;cases B
     exact(cB M l).mp E
   ·exact absurd m D
  ·have I:k∈J l\/(l=j/\k∈n::A):=by
    rcases m with m|⟨q,m⟩
    ·by_cases q:l=j
     ·subst q
      rw[cK]at m
      refine cx m (λg=>?_) λg=>?_
      ·exact .inl g
      ·simp at g;exact absurd g e
     ·rw[de q]at m;exact .inl m
    ·exact .inr ⟨q,Ss _ m⟩
   obtain⟨s,B,E⟩:=w.b l k I
   exact⟨s,by rw[Ui (Ne.symm e)];exact B,E⟩
 ·by_cases q:l=j
  ·subst q
   rw[cK,Tn]
   exact⟨w.n l,by simp,λa ha b Y e=>by simp at Y;subst Y;subst e;exact H ha⟩
  ·rw[de q];exact w.n l
 ·rw[cK]
  intro hm
  refine cx hm (λg=>?_) λg=>?_
  ·exact w.ap k (Ss _ m) g
  ·simp at g;subst g;exact D m
theorem HB.rest(w:HB rows A j r):HB rows (more A j r) 0 []:=by
 refine⟨λk s l m B=>?_,λl k m=>?_,λl=>?_,T5,λk m=>by cases m⟩
 ·left
  rcases w.a k s l m B with g|⟨rfl,g⟩
  ·by_cases q:l=j
   ·subst q;rw[cK];exact SN _ g
   ·rw[de q];exact g
  ·rw[cK];exact T7 _ g
 ·rcases m with m|⟨_,m⟩
  ·by_cases q:l=j
   ·subst q
    rw[cK]at m
    refine cx m (λg=>?_) λg=>?_
    ·exact w.b l k (.inl g)
    ·exact w.b l k (.inr ⟨rfl,g⟩)
   ·rw[de q]at m;exact w.b l k (.inl m)
  ·cases m
 ·by_cases q:l=j
  ·subst q
   rw[cK,Tn]
   exact⟨w.n l,w.np,λa C b D e=>by subst e;exact w.ap a D C⟩
  ·rw[de q];exact w.n l
def cleared(j:Int->List Nat)(l:Int):Int->List Nat:=λx=>if x=l then[]else j x
theorem HB.start(w:HB rows r 0 [])(j:Int):HB rows (cleared r j) j (r j):=by
 refine⟨λk s l m A=>?_,λl k m=>?_,λl=>?_,w.n j,λk m=>by simp[cleared]⟩
 ·rcases w.a k s l m A with g|⟨_,g⟩
  ·by_cases q:l=j
   ·subst q;exact .inr ⟨rfl,g⟩
   ·left;simp[cleared,q];exact g
  ·cases g
 ·rcases m with m|⟨rfl,m⟩
  ·by_cases q:l=j
   ·subst q;simp[cleared]at m
   ·simp[cleared,q]at m;exact w.b l k (.inl m)
  ·exact w.b l k (.inl m)
 ·by_cases q:l=j
  ·subst q;simp[cleared]
  ·simp[cleared,q];exact w.n l
theorem HB.fin(w:HB rows q m []):HB rows q 0 []:=
 ⟨λk s l j r=>(w.a k s l j r).elim .inl (λg=>nomatch g.2),λl k j=>w.b l k (j.elim .inl (λg=>nomatch g.2)),w.n,T5,λk j=>((Tw j).elim)⟩
theorem WT.snoc(w:WT tr rows sn j m)(h:sn<=tr.length)(e:Ent):WT (tr++[e]) rows sn j m:=λk r x y B C p f A q D=>by
 rw[SV (by omega)]at A
 rcases w k r x y B C p f A q D with g|⟨E,G,H,I⟩
 ·exact .inl g
 ·exact .inr ⟨E,G,db H,I⟩
theorem WT.fin(w:WT tr rows sn m []):WT tr rows sn 0 []:=λk r x y q A p f B j C=>(w k r x y q A p f B j C).elim (λg=>nomatch g.2) .inr
theorem WT.start(w:WT tr rows sn 0 [])(E:tr[sn]? =some A)(G:∀(k:Nat) (s:List Int),rows[k]? =some s->(s[0]? =some (-A.lit)\/s[1]? =some (-A.lit))->k∈m):WT tr rows (sn+1) (-A.lit) m:=λk r x y B C p f j H I=>by
 by_cases q:p=sn
 ·subst q
  rw[E]at j;cases j
  left
  have D:x= -A.lit:=by omega
  exact⟨D,G k r B ((cB C _).mpr (.inl D.symm))⟩
 ·rcases w k r x y B C p f j (by omega) I with g|g
  ·cases g.2
  ·exact .inr g
theorem WT.cut(w:WT tr rows (sn+1) j q)(D:FZ (lits tr))(E:tr[sn]? =some G)(H:G.lit= -j)(A:b<=sn):WT tr rows b 0 []:=λk r x y I J p f B m C=>by
 rcases w k r x y I J p f B (TV (TP m A)) C with⟨rfl,_⟩|g
 ·have:=eB D B E (by rw[C,H])
  exact absurd (TP m A) (by rw[this];exact T3 _)
 ·exact .inr g
theorem WT.back(w:WT tr rows sn 0 [])(t:EV tr bg seen rows){h b:Nat}(A:bg[h]? =some b)(hs:b<=sn):WT (tr.take b) rows b 0 []:=λk r x y D E p f j m G=>by
 obtain⟨j,_⟩:=dg j
 rcases w k r x y D E p f j (by omega) G with g|⟨q,B,C,H,I⟩
 ·cases g.2
 ·refine .inr ⟨q,B,?_,H,I⟩
  have M:f.ht<=h:=by rw[t.ht p f j];exact(dy t.sorted A).mpr m
  have J:q<b:=(dy t.sorted A).mp (by rw[<-t.ht q B C];omega)
  rw[T6,if_pos J];exact C
theorem WT.moved(w:WT tr rows sn j (n::A))(M:FZ (lits tr))(N:rows[n]? =some r)(O:F5 r D j)(E:F5 Q D G)(U: -G∉lits tr)(Y: -j∈lits tr)(Z:j≠0)(h3:D≠j)(h4:G≠D):
  WT tr (rows.set n Q) sn j A:=λk s x y H B p f I C J=>by
 have m:f.lit∈lits tr:=cI.mpr ⟨p,f,I,rfl⟩
 rcases eE H with⟨rfl,rfl⟩|⟨e,H⟩
 ·have hx:x=D\/x=G:=(cB E x).mp ((cB B x).mpr (.inl rfl))
  rcases hx with rfl|rfl
  ·rcases w k r x j N O p f I C J with⟨q,_⟩|⟨p',e',g1,g2,_⟩
   ·exact absurd q h3
   ·exfalso
    have:j∈lits tr:=cI.mpr ⟨p',e',g1,g2⟩
    exact ei M this Z Y
  ·rw[J]at m;exact absurd m U
 ·rcases w k s x y H B p f I C J with⟨q,g⟩|g
  ·refine dp g (λz=>?_) λz=>?_
   ·exact absurd z e
   ·exact .inl ⟨q,z⟩
  ·exact .inr g
theorem WT.G'(w:WT tr rows sn j (n::C))(Q:FZ (lits tr))(U:rows[n]? =some r){m:Int}(Y:F5 r m j)(B:F5 Z m j)(H:m≠j){p7 p1:Nat}{I e1:Ent}(J:tr[p7]? =some I)(l0:I.lit= -j)(g1:tr[p1]? =some e1)(l1:e1.lit=m)(hh:e1.ht<=I.ht):
  WT tr (rows.set n Z) sn j C:=λk s x y M A p f G D N=>by
 rcases eE M with⟨rfl,rfl⟩|⟨e,M⟩
 ·have hx:x=m\/x=j:=(cB B x).mp ((cB A x).mpr (.inl rfl))
  have E:y=m\/y=j:=(cB B y).mp ((cB A y).mpr (.inr rfl))
  have O:∀{a b:Int},F5 s a b->F5 s m j->a=m->b=j:=λ{a b} h1 h2 e=>by
   have:=(cB h1 j).mp ((cB h2 j).mpr (.inr rfl))
   rcases this with q|q
   ·exact absurd (e.symm.trans q.symm) H
   ·exact q.symm
  rcases hx with rfl|rfl
  ·have E:=O A B rfl
   subst E
   rcases w k r x y U Y p f G D N with⟨q,_⟩|g
   ·exact absurd q H
   ·exact .inr g
  ·have E:y=m:=by
    rcases E with q|q
    ·exact q
    ·have:=(cB A m).mp ((cB B m).mpr (.inl rfl))
     rcases this with z|z
     ·exact absurd z H
     ·exact z.symm
   subst E
   have:=eB Q G J (by rw[N,l0])
   subst this
   rw[G]at J;cases J
   exact .inr ⟨p1,e1,g1,l1,hh⟩
 ·rcases w k s x y M A p f G D N with⟨q,g⟩|g
  ·refine dp g (λz=>?_) λz=>?_
   ·exact absurd z e
   ·exact .inl ⟨q,z⟩
  ·exact .inr g
end
end
section
section
variable {Mod:(Int->Bool)->Prop} {seen sn:Nat}
theorem EV.Jh(t:EV tr bg seen rows)(L:List Int):EV tr bg seen (rows++[L]):=
 ⟨t.sorted,t.Im,t.seen,t.ht,λi e n j m=>(by obtain⟨r,q,w⟩:=t.cs i e n j m;exact⟨r,db q,w⟩),t.dec⟩
theorem Core.Jh(c:Core N Mod tr bg seen rows)(ok:EB N L)(he:∀q,Mod q->sat q L)(B:∀(j b:Nat),bg[j]? =some b->∃l∈L,∃w∈L,l≠w/\ -l∉lits (tr.take b)/\ -w∉lits (tr.take b)):
  Core N Mod tr bg seen (rows++[L]):=by
 refine⟨c.t.Jh L,c.nd,c.lit,λr m=>?_,λq=>⟨λh=>⟨λr m=>?_,((c.ent q).mp h).2⟩,λh=>(c.ent q).mpr ⟨λr m=>h.1 r (SN _ m),h.2⟩⟩,λj b A r m=>?_⟩
 ·refine cx m (λm=>?_) λm=>?_
  ·exact c.G3 r m
  ·simp at m;subst m;exact ok
 ·refine cx m (λm=>?_) λm=>?_
  ·exact((c.ent q).mp h).1 r m
  ·simp at m;subst m;exact he q h
 ·refine cx m (λm=>?_) λm=>?_
  ·exact c.pb j b A r m
  ·simp at m;subst m;exact .inr (B j b A)
theorem Core.fact(c:Core N Mod tr [] seen rows)(r:1<=u.natAbs/\u.natAbs<=N)(he:∀q,Mod q->tl q u)(w:u∉lits tr)(A: -u∉lits tr):Core N Mod (tr++[⟨u,0,none⟩]) [] seen rows:=by
 refine⟨c.t.fact u,?_,λx m=>?_,c.G3,λq=>⟨λh=>⟨((c.ent q).mp h).1,λx m=>?_⟩,λh=>(c.ent q).mpr ⟨h.1,λx m=>h.2 x ?_⟩⟩,λj b B=>by simp at B⟩
 ·rw[cX];exact gO c.nd w A
 ·rw[cX]at m
  refine cx m (λm=>?_) λm=>?_
  ·exact c.lit x m
  ·simp at m;subst m;exact r
 ·have m:x∈lits ((tr++[_]).take (tr++[_]).length):=m
  rw[SW,cX]at m
  refine cx m (λm=>?_) λm=>?_
  ·refine((c.ent q).mp h).2 x ?_
   show x∈lits (tr.take tr.length)
   rw[SW];exact m
  ·simp at m;subst m;exact he q h
 ·have m:x∈lits (tr.take tr.length):=m
  rw[SW]at m
  show x∈lits ((tr++[_]).take (tr++[_]).length)
  rw[SW,cX];exact SN _ m
theorem Core.ground(c:Core N Mod tr [] seen rows)(j:r∈rows)(q:∀l∈r,-l∈lits tr):¬Mod w:=λA=>by
 obtain⟨B,C⟩:=(c.ent w).mp A
 obtain⟨l,m,ht⟩:=B r j
 have:=C (-l) (by show -l∈lits (tr.take tr.length);rw[SW];exact q l m)
 exact(d5 (by have:=(c.G3 r j).lit l m;omega)).mp this ht
structure Ez (N:Nat) (Mod:(Int->Bool)->Prop) (tr:List Ent) (bg:List Nat) (u:Int) (ls:List Int):Prop where
 dist:FZ (u::ls)
 top:∃(p:Nat) (e:Ent),tr[p]? =some e/\e.lit= -u/\e.ht=bg.length
 low:∀l∈ls,∃(p:Nat) (e:Ent),tr[p]? =some e/\e.lit= -l/\0<e.ht/\e.ht<bg.length
 ent:∀β,Mod β->sat β (u::ls)
theorem Ez.perm(L:Ez N Mod tr bg u m)(p:j.Perm m):Ez N Mod tr bg u j:=by
 refine⟨?_,L.top,λl q=>L.low l (p.mem_iff.mp q),λr h=>(ll (List.Perm.cons u p)).mpr (L.ent r h)⟩
 exact(List.Perm.pairwise_iff (R:=λx y:Int=>x.natAbs≠y.natAbs) (λh=>h.symm) (List.Perm.cons u p)).mpr L.dist
theorem Ez.neg(L:Ez N Mod tr bg u q)(h:l∈u::q): -l∈lits tr:=by
 refine dz h ?_ λh=>?_
 ·obtain⟨p,e,j,m,_⟩:=L.top;exact cI.mpr ⟨p,e,j,m⟩
 ·obtain⟨p,e,j,m,_⟩:=L.low l h;exact cI.mpr ⟨p,e,j,m⟩
theorem dO(h:1<=(-l).natAbs/\(-l).natAbs<=N):1<=l.natAbs/\l.natAbs<=N:=by rw[S9]at h;exact h
theorem tG(h:FZ j):j.Nodup:=by
 rw[Tp];exact h.imp λ{a b} h e=>h (by rw[e])
theorem Ez.ok(c:Core N Mod tr bg seen rows)(L:Ez N Mod tr bg u (v::q)):EB N (u::v::q):=by
 refine⟨by simp,tG L.dist,λl j=>dO (c.lit _ (L.neg j)),λl j r=>?_⟩
 have w:=dO (c.lit _ (L.neg j))
 have m:=L.neg r
 rw[TS]at m
 exact ei c.nd m (by omega) (L.neg j)
theorem Ez.new(c:Core N Mod tr bg seen rows)(L:Ez N Mod tr bg u C)(D:bg≠[])(E:r∈rows):¬∀l,l∈r↔l∈u::C:=λh=>by
 obtain⟨b,j⟩:∃b,bg[bg.length-1]? =some b:=by
  have:bg.length-1<bg.length:=by have:=TY.mpr D;omega
  exact⟨_,SA this⟩
 rcases c.pb _ b j r E with⟨l,A,w⟩|⟨l,A,G,w,H,I,J⟩
 ·have:=L.neg ((h l).mp A)
  have U:=c.lit _ (cY w)
  exact ei c.nd (cY w) (by omega) this
 ·have m:∀x,x∈r-> -x∉lits (tr.take b)->x=u:=λx M O=>by
   rcases SH.mp ((h x).mp M)with q|q
   ·exact q
   ·obtain⟨p,e,B,Q,_,Y⟩:=L.low x q
    exfalso
    refine O (cE.mpr ⟨p,e,B,?_,Q⟩)
    exact(dy c.t.sorted j).mp (by rw[<-c.t.ht p e B];omega)
  exact H ((m l A I).trans (m G w J).symm)
theorem Core.IP(c:Core N Mod tr bg seen rows)(L:Ez N Mod tr bg u (v::J)){pv b:Nat}(q:tr[pv]? =some w)(D:w.lit= -v)(E:∀l∈J,∀(p:Nat) (e:Ent),tr[p]? =some e->e.lit= -l->e.ht<=w.ht)(G:bg[w.ht]? =some b):
  Core N Mod (tr.take b++[⟨u,(bg.take w.ht).length,some rows.length⟩]) (bg.take w.ht) (tr.take b).length (rows++[u::v::J]):=by
 have cb:=c.back G
 have ac:=c.Gb G
 have ae:=bQ G
 obtain⟨pu,eu,H,M,O⟩:=L.top
 have I: -u∉lits (tr.take b):=λA=>by
  obtain⟨p,e,m,B,Q⟩:=cE.mp A
  have:=eB c.nd m H (by rw[Q,M])
  subst this
  have:=(dy c.t.sorted G).mpr B
  rw[<-c.t.ht p eu H,O]at this;omega
 have U:u≠0:=by have:=dO (c.lit _ (L.neg (l:=u) Sy));omega
 have Y:u∉lits (tr.take b):=λA=>ei c.nd (cY A) U (L.neg Sy)
 have ca:=cb.Jh (L.ok c) L.ent λj b' Z=>by
  obtain⟨Z,af⟩:=dg Z
  refine⟨u,Sy,v,Ss _ Sy,?_,λA=>I (cY A),λA=>?_⟩
  ·intro e
   have:=(Uc.mp L.dist).1 v Sy
   exact this (by rw[e])
  ·obtain⟨p,e,m,B,Q⟩:=cE.mp A
   obtain⟨m,_⟩:=dg m
   have:=eB c.nd m q (by rw[Q,D])
   subst this
   rw[q]at m;cases m
   have:=(dy c.t.sorted Z).mpr B
   rw[<-c.t.ht p w q]at this;omega
 refine ca.prop (r:=u::v::J) (by simp) Sy (λx C aa=>?_) Y I
 have C:x∈v::J:=(SH.mp C).resolve_left aa
 obtain⟨p,e,m,B,_,_⟩:=L.low x C
 have ab:e.ht<=w.ht:=by
  rcases SH.mp C with rfl|C
  ·have:=eB c.nd m q (by rw[B,D])
   subst this
   rw[q]at m;cases m;exact SR _
  ·exact E x C p e m B
 exact cE.mpr ⟨p,e,m,(dy c.t.sorted G).mp (by rw[<-c.t.ht p e m];exact ab),B⟩
theorem WT.IP(c:Core N Mod tr bg seen rows)(w:WT tr rows sn 0 [])(L:Ez N Mod tr bg u (v::Y)){Z b:Nat}(q:tr[Z]? =some A)(H:A.lit= -v)(E:bg[A.ht]? =some b)(hs:b<=sn)(n:Nat):
  WT (tr.take b++[⟨u,A.ht,some n⟩]) (rows++[u::v::Y]) (tr.take b).length 0 []:=by
 have aa:=c.Gb E
 have B:(tr.take b).length=b:=by rw[Tf];omega
 have wb:=(w.back c.t E hs).snoc (by omega) ⟨u,A.ht,some n⟩
 rw[B]
 intro k r x y I U p e J C he
 rcases bY I with I|⟨_,rfl⟩
 ·exact wb k r x y I U p e J C he
 ·right
  have j:tr[p]? =some e:=by
   rw[SV (by omega)]at J
   exact(dg J).1
  have M:(x=u/\y=v)\/(x=v/\y=u):=by
   rcases U with⟨G,D⟩|⟨G,D⟩<;>simp at G D
   ·exact .inl ⟨G.symm,D.symm⟩
   ·exact .inr ⟨D.symm,G.symm⟩
  rcases M with⟨rfl,rfl⟩|⟨rfl,rfl⟩
  ·obtain⟨pu,eu,m,O,Q⟩:=L.top
   have:=eB c.nd j m (by rw[he,O])
   subst this
   rw[j]at m;cases m
   have:=(dy c.t.sorted E).mpr C
   have D:=bQ E
   rw[<-c.t.ht p e j,Q]at this;omega
  ·have:=eB c.nd j q (by rw[he,H])
   subst this
   rw[q]at j;cases j
   exact⟨(tr.take b).length,⟨y,A.ht,some n⟩,by simp,rfl,SR _⟩
theorem Core.full(c:Core N Mod tr bg tr.length rows)(w:WT tr rows tr.length 0 [])(m:∀v:Int,1<=v->v<=N->v∈lits tr\/ -v∈lits tr):
  Mod (λv=>decide (v∈lits tr))/\∀l∈lits tr,tl (λv=>decide (v∈lits tr)) l:=by
 have j:∀l∈lits tr,tl (λv=>decide (v∈lits tr)) l:=λl B=>by
  have H:=c.lit l B
  unfold tl
  by_cases A:0<l
  ·have:((l.natAbs:Nat):Int)=l:=MZ A
   rw[this];simp[B,A]
  ·have:((l.natAbs:Nat):Int)= -l:=Oz A
   rw[this]
   have:=ei c.nd B (by omega)
   simp[this,A]
 refine⟨(c.ent _).mpr ⟨λr D=>?_,λl B=>j l (cY B)⟩,j⟩
 rcases c.calm w D with⟨l,C,E⟩|⟨l,C,I,E,J,G,M⟩
 ·exact⟨l,C,j l E⟩
 ·have H:=(c.G3 r D).lit l C
  refine⟨l,C,j l ?_⟩
  by_cases A:0<l
  ·rcases m l A (PU (by assumption))with q|q
   ·exact q
   ·exact absurd q G
  ·rcases m (-l) (Qy (by assumption) A) (Qw (by assumption))with q|q
   ·exact absurd q G
   ·rw[TS]at q;exact q
theorem Core.N6(c:Core N Mod tr bg seen rows){F:List Int}{M:Int->Prop}(Q:M l.natAbs)(U:l∈F)(D: -l∈lits tr)(Y:∀(p:Nat) (e:Ent),tr[p]? =some e->M e.lit.natAbs->0<e.ht->(e.cs=none/\e.lit∈F)\/∃n r,e.cs=some n/\rows[n]? =some r/\∀x∈r,M x.natAbs)(q:Mod A):¬∀x∈F,tl A x:=λE=>by
 obtain⟨Z,g2⟩:=(c.ent A).mp q
 have B:∀(p:Nat) (e:Ent),tr[p]? =some e->M e.lit.natAbs->tl A e.lit:=by
  intro p
  induction p using Nat.strongRecOn with
  |ind p ih=>
   intro e m hM
   by_cases h0:e.ht=0
   ·refine g2 e.lit (cE.mpr ⟨p,e,m,?_,rfl⟩)
    unfold l0
    cases bg with
    |nil=>exact bQ m
    |cons b0 G=>exact(dy (j:=0) c.t.sorted rfl).mp (by rw[<-c.t.ht p e m];omega)
   ·rcases Y p e m hM (by omega)with⟨_,h⟩|⟨n,r,q1,H,q3⟩
    ·exact E _ h
    ·obtain⟨r',I,s2,s3⟩:=c.t.cs p e n m q1
     rw[H]at I;cases I
     have w:=Sp H
     obtain⟨y,C,J⟩:=Z r w
     by_cases z:y=e.lit
     ·exact z▸J
     ·obtain⟨p',e',t1,t2,O⟩:=cE.mp (s3 y C z)
      have:=ih p' t2 e' t1 (by rw[O,S9];exact q3 y C)
      rw[O]at this
      exact absurd J ((d5 (by have:=(c.G3 r w).lit y C;omega)).mp this)
 obtain⟨p,e,m,he⟩:=cI.mp D
 have:=B p e m (by rw[he,S9];exact Q)
 rw[he]at this
 exact(d5 (by have:=c.lit _ D;omega)).mp this (E l U)
end
def enc:List Bool->Nat
 |[]=>0
 |b::r=>b.toNat+2*enc r
theorem CN(l:List Bool):enc l<2^l.length:=by
 induction l with
 |nil=>decide
 |cons b r ih=>
  rw[TK,Nat.pow_succ]
  cases b<;>simp only[enc,Bool.toNat_true,Bool.toNat_false]<;>omega
theorem zQ(l:List Bool):∀(j:List Bool),l.length=j.length->enc l=enc j->l=j:=by
 induction l with
 |nil=>
  intro j m _
  exact(UQ.mp m.symm).symm
 |cons b r ih=>
  intro j m he
  cases j with
  |nil=>cases m
  |cons q w=>
   have k:b=q/\enc r=enc w:=by
    cases b<;>cases q<;>simp only[enc,Bool.toNat_true,Bool.toNat_false]at he<;>first|exact⟨rfl,by omega⟩|(exfalso;omega)
   rw[k.1,ih w (Nat.succ.inj m) k.2]
def Jx:List Int:=((List.range 8).map λ(k:Nat)=>(k:Int)+1)++(List.range 8).map λ(k:Nat)=> -(k:Int)-1
def maskOf(r:List Int):Nat:=enc (Jx.map λl=>decide (l∈r))
theorem Ao(r:List Int):maskOf r<65536:=by
 have:=CN (Jx.map λl=>decide (l∈r))
 rwa [Su]at this
theorem Ap(C:N<=8)(h:EB N r)(h':EB N w)(e:maskOf r=maskOf w):∀l,l∈r↔l∈w:=by
 have:=List.map_inj_left.mp (zQ _ _ ((Su _).trans (Su _).symm) e)
 have m:∀l:Int,1<=l.natAbs/\l.natAbs<=N->(l∈r↔l∈w):=λl j=>by
  refine decide_eq_decide.mp (this l (Tv.mpr ?_))
  have e1:l.natAbs-1+1=l.natAbs:=Nat.sub_add_cancel j.1
  have A:l.natAbs-1∈List.range 8:=Tl.mpr (TP (Vu j.1 (by decide)) (SJ j.2 C))
  have B:((l.natAbs-1:Nat):Int)+1=(l.natAbs:Int):=congrArg Nat.cast e1
  exact(Int.natAbs_eq l).imp (λq=>Te.mpr ⟨_,A,B.trans q.symm⟩) λq=>Te.mpr ⟨_,A,by rw[Int.sub_eq_add_neg,<-Int.neg_add,B];exact q.symm⟩
 exact λl=>⟨λj=>(m l (h.lit l j)).mp j,λj=>(m l (h'.lit l j)).mpr j⟩
theorem fU(n:Nat)(l:List Nat)(j:l.Nodup)(h:∀x∈l,x<n):l.length<=n:=by
 have:=j.length_le_of_subset (l₂:=List.range n) λx m=>Tl.mpr (h x m)
 rw[Tj]at this
 exact this
def News(base:Nat)(rows:List (List Int)):Prop:=((rows.drop base).map maskOf).Nodup
theorem uG(p:j.Perm r):maskOf j=maskOf r:=by
 unfold maskOf;congr 1;apply TX;intro l _;simp[p.mem_iff]
theorem News.len(h:News base rows):rows.length<=base+65536:=by
 have:=fU 65536 _ h λx m=>by refine Ef m λr j=>?_;exact Ao r
 simp at this;omega
theorem News.perm(h:News base rows)(p:PR rows j):News base j:=by
 have:j.map maskOf=rows.map maskOf:=by
  apply UM
  intro n
  rw[SG,SG]
  cases q:rows[n]? with
  |none=>
   have:j[n]? =none:=by rw[Vw]at q⊢;rw[p.1];exact q
   rw[this]
  |some r=>
   obtain⟨A,m,w⟩:=p.2 n r q
   rw[m];simp[uG w]
 unfold News at h⊢
 rw[List.map_drop,this,<-List.map_drop];exact h
theorem News.add(w:N<=8)(h:News base rows)(A:base<=rows.length)(ok:∀r∈rows,EB N r)(q:EB N L)(B:∀r∈rows,¬∀l,l∈r↔l∈L):News base (rows++[L]):=by
 unfold News at h⊢
 rw[List.drop_append_of_le_length A,SX,Tn]
 refine⟨h,by simp,λa C b j e=>?_⟩
 simp at j
 obtain⟨r,D,rfl⟩:=Te.mp C
 have m:=List.mem_of_mem_drop D
 exact B r m (Ap w (ok r m) q (e.trans j))
end
section
open PySem PySem.W PySem.Calls PyProof.Rows PySem.SeqAt
section
structure Cn where
 kn:List (Int×AV)
 ht:List (Int×AV)
 cs:List (Int×AV)
 lk:List (Int×AV)
 he:List (Int×AV)
 tr:List Ent
 bg:List Nat
 seen:Nat
 rows:List (List Int)
 wt:Int->List Nat
 lg:List AV
 gain:Int
 refuted:Bool
 bl:List AV
 clashes:Int
 limit:Int
structure Ad where
 a:Addr
 dx:Addr
 kn:Addr
 ht:Addr
 cs:Addr
 ro:Addr
 bg:Addr
 lk:Addr
 rs:Addr
 wt:Addr
 he:Addr
 lg:Addr
 bl:Addr
 R:List Addr
 W:List (Int×Addr)
 T:Addr->Nat
def Cn.Fu(C:Cn)(j:Nat)(m:Int)(q:Bool)(r w:Int):Cn:={C with seen:=j,gain:=m,refuted:=q,clashes:=r,limit:=w}
def Cn.Hx(C:Cn)(x:List (Int×AV)):Cn:={C with kn:=x}
def Cn.Km(C:Cn)(x:List (Int×AV)):Cn:={C with ht:=x}
def Cn.Kn(C:Cn)(x:List (Int×AV)):Cn:={C with cs:=x}
def Cn.Jy(C:Cn)(x:List (Int×AV)):Cn:={C with lk:=x}
def Cn.FK(C:Cn)(x:List (Int×AV)):Cn:={C with he:=x}
def Cn.HS(C:Cn)(x:List Ent):Cn:={C with tr:=x}
def Cn.Es(C:Cn)(x:List Nat):Cn:={C with bg:=x}
def Cn.HT(C:Cn)(x:List AV):Cn:={C with lg:=x}
def Cn.El(C:Cn)(x:List AV):Cn:={C with bl:=x}
def Cn.Ea(C:Cn)(x:List (List Int)):Cn:={C with rows:=x}
def Cn.Eo(C:Cn)(x:Int->List Nat):Cn:={C with wt:=x}
def Fv(A:Ad)(C:Cn):List AV:=[.ref A.kn,.ref A.ht,.ref A.cs,.ref A.ro,.ref A.bg,.int C.seen,.ref A.lk,.ref A.rs,.ref A.wt,.ref A.he,.int C.gain,.ref A.lg,.bool C.refuted,.ref A.bl,.int C.clashes,.int C.limit]
def g'(l:List Int):List AV:=l.map .int
def j'(l:List Nat):List AV:=l.map λ(n:Nat)=> .int (n:Int)
structure Ko (A:Ad):Prop where
 a:A.T A.a=1
 kn:A.T A.kn=2
 ht:A.T A.ht=3
 cs:A.T A.cs=4
 ro:A.T A.ro=5
 bg:A.T A.bg=6
 lk:A.T A.lk=7
 rs:A.T A.rs=8
 wt:A.T A.wt=9
 he:A.T A.he=10
 lg:A.T A.lg=11
 R:∀b∈A.R,A.T b=12
 W:∀p∈A.W,A.T p.2=13
 bl:A.T A.bl=14
 dR:A.R.Nodup
 dW:(A.W.map (·.2)).Nodup
 kW:(A.W.map (·.1)).Nodup
structure D8 (σ:AH) (A:Ad) (C:Cn):Prop where
 tags:Ko A
 own:∀b,A.T b≠0->σ b≠none
 inst:σ A.a=some (.inst 272 A.dx (Fv A C))
 kn:∃o,σ A.kn=some (.D0 C.kn o)
 ht:∃o,σ A.ht=some (.D0 C.ht o)
 cs:∃o,σ A.cs=some (.D0 C.cs o)
 ro:σ A.ro=some (.list (g' (C.tr.map Ent.lit)))
 bg:σ A.bg=some (.list (j' C.bg))
 lk:∃o,σ A.lk=some (.D0 C.lk o)
 rs:σ A.rs=some (.list (A.R.map .ref))
 wt:∃o,σ A.wt=some (.D0 (A.W.map λp=>(p.1,.ref p.2)) o)
 he:∃o,σ A.he=some (.D0 C.he o)
 lg:σ A.lg=some (.list C.lg)
 bl:σ A.bl=some (.tup C.bl)
 len:A.R.length=C.rows.length
 R:∀(n:Nat) (b:Addr) (r:List Int),A.R[n]? =some b->C.rows[n]? =some r->σ b=some (.list (g' r))
 W:∀p∈A.W,σ p.2=some (.list (j' (C.wt p.1)))
 W0:∀l,(∀p∈A.W,p.1≠l)->C.wt l=[]
theorem xo{x y:Option AO}{f:Obj->AO}(e:x=y)(h:∃o,y=some (f o)):∃o,x=some (f o):=e▸h
theorem xk{σ j:AH}{f:Obj->AO}(k:∀b o,σ b=some o->j b=some o)(h:∃o,σ a=some (f o)):∃o,j a=some (f o):=h.elim λo h=>⟨o,k _ _ h⟩
structure Fr (T:Addr->Nat) (σ:AH) (T':Addr->Nat) (Eb:AH):Prop where
 keep:∀b o,T b=0->σ b=some o->Eb b=some o
 new:∀b,T' b≠0->T b≠0\/σ b=none
 there:∀b,σ b≠none->Eb b≠none
theorem Fr.refl(T:Addr->Nat)(σ:AH):Fr T σ T σ:=⟨λj j j h=>h,λj h=> .inl h,λj h=>h⟩
theorem Fr.trans{T j w:Addr->Nat}{σ m r:AH}(x:Fr T σ j m)(y:Fr j m w r):Fr T σ w r:=by
 refine⟨λb o ht h=>y.keep b o ?_ (x.keep b o ht h),λb h=>?_,λb h=>y.there b (x.there b h)⟩
 ·cases q:j b with
  |zero=>rfl
  |succ n=>
   rcases x.new b (by rw[q];exact Ub n)with z|z
   ·exact absurd ht z
   ·rw[h]at z;cases z
 ·rcases y.new b h with z|z
  ·exact x.new b z
  ·right
   cases q:σ b with
   |none=>rfl
   |some o=>exact absurd z (x.there b (by rw[q];simp))
section
variable {σ:AH} {A:Ad} {C:Cn} {o:AO}
theorem off{T:Addr->Nat}{x y:Addr}{j k:Nat}(m:T x=k)(q:T y=j)(h:j≠k:=by decide):upd σ x o y=σ y:=bP λe=>h (by rw[<-m,<-q,e])
theorem dn{T:Addr->Nat}{x:Addr}(h:∀b,T b≠0->σ b≠none):∀b,T b≠0->upd σ x o b≠none:=λb j=>by
 unfold upd;split
 ·simp
 ·exact h b j
theorem b8{T:Addr->Nat}{x:Addr}(h:T x≠0):Fr T σ T (upd σ x o):=⟨λb o' ht e=>(bP λq=>h (by rw[<-q];exact ht)).trans e,λj h=> .inl h,λb m=>by
 unfold upd;split
 ·simp
 ·exact m⟩
theorem cU{T:Addr->Nat}{z:Addr}(h:σ z=none):Fr T σ T (upd σ z o):=⟨λb o' ht e=>(bP λq=>by rw[q,h]at e;cases e).trans e,λj h=> .inl h,λb m=>by
 unfold upd;split
 ·simp
 ·exact m⟩
theorem D8.Fh(r:D8 σ A C)(j:Nat)(m:Int)(q:Bool)(w B:Int):D8 (upd σ A.a (.inst 272 A.dx (Fv A (C.Fu j m q w B)))) A (C.Fu j m q w B):=
 ⟨r.tags,dn r.own,bO _ _ _,(xo (off r.tags.a r.tags.kn) r.kn),(xo (off r.tags.a r.tags.ht) r.ht),(xo (off r.tags.a r.tags.cs) r.cs),(off r.tags.a r.tags.ro).trans r.ro,(off r.tags.a r.tags.bg).trans r.bg,(xo (off r.tags.a r.tags.lk) r.lk),(off r.tags.a r.tags.rs).trans r.rs,(xo (off r.tags.a r.tags.wt) r.wt),(xo (off r.tags.a r.tags.he) r.he),(off r.tags.a r.tags.lg).trans r.lg,(off r.tags.a r.tags.bl).trans r.bl,r.len,(λn b G D H=>(off r.tags.a (r.tags.R b (Sp D))).trans (r.R n b G D H)),(λp E=>(off r.tags.a (r.tags.W p E)).trans (r.W p E)),r.W0⟩
theorem D8.Kr(r:D8 σ A C)(kvs:List (Int×AV))(ob:Obj):D8 (upd σ A.kn (.D0 kvs ob)) A (C.Hx kvs):=
 ⟨r.tags,dn r.own,(off r.tags.kn r.tags.a).trans r.inst,⟨ob,bO _ _ _⟩,(xo (off r.tags.kn r.tags.ht) r.ht),(xo (off r.tags.kn r.tags.cs) r.cs),(off r.tags.kn r.tags.ro).trans r.ro,(off r.tags.kn r.tags.bg).trans r.bg,(xo (off r.tags.kn r.tags.lk) r.lk),(off r.tags.kn r.tags.rs).trans r.rs,(xo (off r.tags.kn r.tags.wt) r.wt),(xo (off r.tags.kn r.tags.he) r.he),(off r.tags.kn r.tags.lg).trans r.lg,(off r.tags.kn r.tags.bl).trans r.bl,r.len,(λn b q j w=>(off r.tags.kn (r.tags.R b (Sp j))).trans (r.R n b q j w)),(λp m=>(off r.tags.kn (r.tags.W p m)).trans (r.W p m)),r.W0⟩
theorem D8.Mn(r:D8 σ A C)(kvs:List (Int×AV))(ob:Obj):D8 (upd σ A.ht (.D0 kvs ob)) A (C.Km kvs):=
 ⟨r.tags,dn r.own,(off r.tags.ht r.tags.a).trans r.inst,(xo (off r.tags.ht r.tags.kn) r.kn),⟨ob,bO _ _ _⟩,(xo (off r.tags.ht r.tags.cs) r.cs),(off r.tags.ht r.tags.ro).trans r.ro,(off r.tags.ht r.tags.bg).trans r.bg,(xo (off r.tags.ht r.tags.lk) r.lk),(off r.tags.ht r.tags.rs).trans r.rs,(xo (off r.tags.ht r.tags.wt) r.wt),(xo (off r.tags.ht r.tags.he) r.he),(off r.tags.ht r.tags.lg).trans r.lg,(off r.tags.ht r.tags.bl).trans r.bl,r.len,(λn b q j w=>(off r.tags.ht (r.tags.R b (Sp j))).trans (r.R n b q j w)),(λp m=>(off r.tags.ht (r.tags.W p m)).trans (r.W p m)),r.W0⟩
theorem D8.Mo(r:D8 σ A C)(kvs:List (Int×AV))(ob:Obj):D8 (upd σ A.cs (.D0 kvs ob)) A (C.Kn kvs):=
 ⟨r.tags,dn r.own,(off r.tags.cs r.tags.a).trans r.inst,(xo (off r.tags.cs r.tags.kn) r.kn),(xo (off r.tags.cs r.tags.ht) r.ht),⟨ob,bO _ _ _⟩,(off r.tags.cs r.tags.ro).trans r.ro,(off r.tags.cs r.tags.bg).trans r.bg,(xo (off r.tags.cs r.tags.lk) r.lk),(off r.tags.cs r.tags.rs).trans r.rs,(xo (off r.tags.cs r.tags.wt) r.wt),(xo (off r.tags.cs r.tags.he) r.he),(off r.tags.cs r.tags.lg).trans r.lg,(off r.tags.cs r.tags.bl).trans r.bl,r.len,(λn b q j w=>(off r.tags.cs (r.tags.R b (Sp j))).trans (r.R n b q j w)),(λp m=>(off r.tags.cs (r.tags.W p m)).trans (r.W p m)),r.W0⟩
theorem D8.Mp(r:D8 σ A C)(kvs:List (Int×AV))(ob:Obj):D8 (upd σ A.lk (.D0 kvs ob)) A (C.Jy kvs):=
 ⟨r.tags,dn r.own,(off r.tags.lk r.tags.a).trans r.inst,(xo (off r.tags.lk r.tags.kn) r.kn),(xo (off r.tags.lk r.tags.ht) r.ht),(xo (off r.tags.lk r.tags.cs) r.cs),(off r.tags.lk r.tags.ro).trans r.ro,(off r.tags.lk r.tags.bg).trans r.bg,⟨ob,bO _ _ _⟩,(off r.tags.lk r.tags.rs).trans r.rs,(xo (off r.tags.lk r.tags.wt) r.wt),(xo (off r.tags.lk r.tags.he) r.he),(off r.tags.lk r.tags.lg).trans r.lg,(off r.tags.lk r.tags.bl).trans r.bl,r.len,(λn b q j w=>(off r.tags.lk (r.tags.R b (Sp j))).trans (r.R n b q j w)),(λp m=>(off r.tags.lk (r.tags.W p m)).trans (r.W p m)),r.W0⟩
theorem D8.Mq(r:D8 σ A C)(kvs:List (Int×AV))(ob:Obj):D8 (upd σ A.he (.D0 kvs ob)) A (C.FK kvs):=
 ⟨r.tags,dn r.own,(off r.tags.he r.tags.a).trans r.inst,(xo (off r.tags.he r.tags.kn) r.kn),(xo (off r.tags.he r.tags.ht) r.ht),(xo (off r.tags.he r.tags.cs) r.cs),(off r.tags.he r.tags.ro).trans r.ro,(off r.tags.he r.tags.bg).trans r.bg,(xo (off r.tags.he r.tags.lk) r.lk),(off r.tags.he r.tags.rs).trans r.rs,(xo (off r.tags.he r.tags.wt) r.wt),⟨ob,bO _ _ _⟩,(off r.tags.he r.tags.lg).trans r.lg,(off r.tags.he r.tags.bl).trans r.bl,r.len,(λn b q j w=>(off r.tags.he (r.tags.R b (Sp j))).trans (r.R n b q j w)),(λp m=>(off r.tags.he (r.tags.W p m)).trans (r.W p m)),r.W0⟩
theorem D8.Kt(r:D8 σ A C)(tr:List Ent):D8 (upd σ A.ro (.list (g' (tr.map Ent.lit)))) A (C.HS tr):=
 ⟨r.tags,dn r.own,(off r.tags.ro r.tags.a).trans r.inst,(xo (off r.tags.ro r.tags.kn) r.kn),(xo (off r.tags.ro r.tags.ht) r.ht),(xo (off r.tags.ro r.tags.cs) r.cs),bO _ _ _,(off r.tags.ro r.tags.bg).trans r.bg,(xo (off r.tags.ro r.tags.lk) r.lk),(off r.tags.ro r.tags.rs).trans r.rs,(xo (off r.tags.ro r.tags.wt) r.wt),(xo (off r.tags.ro r.tags.he) r.he),(off r.tags.ro r.tags.lg).trans r.lg,(off r.tags.ro r.tags.bl).trans r.bl,r.len,(λn b q j w=>(off r.tags.ro (r.tags.R b (Sp j))).trans (r.R n b q j w)),(λp m=>(off r.tags.ro (r.tags.W p m)).trans (r.W p m)),r.W0⟩
theorem D8.Ku(r:D8 σ A C)(lg:List AV):D8 (upd σ A.lg (.list lg)) A (C.HT lg):=
 ⟨r.tags,dn r.own,(off r.tags.lg r.tags.a).trans r.inst,(xo (off r.tags.lg r.tags.kn) r.kn),(xo (off r.tags.lg r.tags.ht) r.ht),(xo (off r.tags.lg r.tags.cs) r.cs),(off r.tags.lg r.tags.ro).trans r.ro,(off r.tags.lg r.tags.bg).trans r.bg,(xo (off r.tags.lg r.tags.lk) r.lk),(off r.tags.lg r.tags.rs).trans r.rs,(xo (off r.tags.lg r.tags.wt) r.wt),(xo (off r.tags.lg r.tags.he) r.he),bO _ _ _,(off r.tags.lg r.tags.bl).trans r.bl,r.len,(λn b q j w=>(off r.tags.lg (r.tags.R b (Sp j))).trans (r.R n b q j w)),(λp m=>(off r.tags.lg (r.tags.W p m)).trans (r.W p m)),r.W0⟩
theorem D8.Lm(r:D8 σ A C)(bg:List Nat):D8 (upd σ A.bg (.list (j' bg))) A (C.Es bg):=
 ⟨r.tags,dn r.own,(off r.tags.bg r.tags.a).trans r.inst,(xo (off r.tags.bg r.tags.kn) r.kn),(xo (off r.tags.bg r.tags.ht) r.ht),(xo (off r.tags.bg r.tags.cs) r.cs),(off r.tags.bg r.tags.ro).trans r.ro,bO _ _ _,(xo (off r.tags.bg r.tags.lk) r.lk),(off r.tags.bg r.tags.rs).trans r.rs,(xo (off r.tags.bg r.tags.wt) r.wt),(xo (off r.tags.bg r.tags.he) r.he),(off r.tags.bg r.tags.lg).trans r.lg,(off r.tags.bg r.tags.bl).trans r.bl,r.len,(λn b q j w=>(off r.tags.bg (r.tags.R b (Sp j))).trans (r.R n b q j w)),(λp m=>(off r.tags.bg (r.tags.W p m)).trans (r.W p m)),r.W0⟩
theorem D8.made(r:D8 σ A C){z:Addr}(hz:σ z=none):D8 (upd σ z o) A C:=by
 have k:∀y o',σ y=some o'->upd σ z o y=some o':=λy o' e=>(bP λq=>by rw[q,hz]at e;cases e).trans e
 exact⟨r.tags,dn r.own,k _ _ r.inst,(xk k r.kn),(xk k r.ht),(xk k r.cs),k _ _ r.ro,k _ _ r.bg,(xk k r.lk),k _ _ r.rs,(xk k r.wt),
  (xk k r.he),k _ _ r.lg,k _ _ r.bl,r.len,λn b j m w=>k _ _ (r.R n b j m w),λp B=>k _ _ (r.W p B),r.W0⟩
theorem D8.at{m:AH}(r:D8 σ A C)(k:∀y,A.T y≠0->m y=σ y):D8 m A C:=by
 have n:∀{y j},A.T y=j->j≠0->m y=σ y:=λh D=>k _ (by rw[h];exact D)
 exact⟨r.tags,λb q=>by rw[k b q];exact r.own b q,(n r.tags.a (by decide)).trans r.inst,(by obtain⟨o,h⟩:=r.kn;exact⟨o,(n r.tags.kn (by decide)).trans h⟩),(by obtain⟨o,h⟩:=r.ht;exact⟨o,(n r.tags.ht (by decide)).trans h⟩),(by obtain⟨o,h⟩:=r.cs;exact⟨o,(n r.tags.cs (by decide)).trans h⟩),
  (n r.tags.ro (by decide)).trans r.ro,(n r.tags.bg (by decide)).trans r.bg,(by obtain⟨o,h⟩:=r.lk;exact⟨o,(n r.tags.lk (by decide)).trans h⟩),(n r.tags.rs (by decide)).trans r.rs,(by obtain⟨o,h⟩:=r.wt;exact⟨o,(n r.tags.wt (by decide)).trans h⟩),(by obtain⟨o,h⟩:=r.he;exact⟨o,(n r.tags.he (by decide)).trans h⟩),
  (n r.tags.lg (by decide)).trans r.lg,(n r.tags.bl (by decide)).trans r.bl,r.len,λi b E w G=>(n (r.tags.R b (Sp w)) (by decide)).trans (r.R i b E w G),λp B=>(n (r.tags.W p B) (by decide)).trans (r.W p B),r.W0⟩
end
end
section
section
variable {kvs:List (Int×V)} {k k':Int}
theorem dU(p:Int×V)(kvs:List (Int×V))(k:Int):lk (p::kvs) k=if p.1=k then some p.2 else lk kvs k:=by
 unfold lk;rw[UU];by_cases h:p.1=k<;>simp[h]
theorem jp(h:lk kvs k=some v):(k,v)∈kvs:=by
 induction kvs with
 |nil=>cases h
 |cons p r ih=>
  rewrite[dU]at h
  by_cases e:p.1=k
  ·subst e
   cases(if_pos rfl).symm.trans h
   exact .head _
  ·exact .tail _ (ih ((if_neg e).symm.trans h))
theorem eZ(h:k∈kvs.map (·.1)):∃v,lk kvs k=some v:=by
 induction kvs with
 |nil=>cases h
 |cons p r ih=>
  rw[dU]
  by_cases e:p.1=k
  ·exact⟨_,if_pos e⟩
  ·rw[if_neg e]
   exact ih ((SH.mp h).resolve_left λq=>e q.symm)
theorem vH(kvs more:List (Int×V))(k:Int):lk (kvs++more) k=(lk kvs k).or (lk more k):=by
 induction kvs with
 |nil=>rfl
 |cons p r ih=>
  rw[Vj,dU,dU,ih]
  by_cases h:p.1=k
  ·rewrite[if_pos h,if_pos h];rfl
  ·rewrite[if_neg h,if_neg h];rfl
theorem tY(kvs:List (Int×V))(k:Int)(v:V)(k':Int):lk (kvs.map λm=>if m.1=k then(m.1,v)else m) k'=(lk kvs k').map λu=>if k'=k then v else u:=by
 induction kvs with
 |nil=>rfl
 |cons p r ih=>
  rw[TM,dU,dU,ih]
  by_cases h:p.1=k
  ·rw[if_pos h]
   by_cases j:p.1=k'
   ·rewrite[if_pos j,if_pos j];exact congrArg some (if_pos (j.symm.trans h)).symm
   ·rewrite[if_neg j,if_neg j];rfl
  ·rw[if_neg h]
   by_cases j:p.1=k'
   ·rewrite[if_pos j,if_pos j];exact congrArg some (if_neg λq=>h (j.trans q)).symm
   ·rewrite[if_neg j,if_neg j];rfl
set_option tactic.hygienic true in
theorem gn(kvs:List (Int×V))(k:Int)(v:V)(k':Int):lk (put kvs k v) k'=if k'=k then some v else lk kvs k':=by
 unfold put
 split
 ·rename_i h
  rw[tY]
  by_cases e:k'=k
  ·subst e
   simp only[Th,decide_eq_true_eq]at h
   obtain⟨p,j,e⟩:=h
   obtain⟨u,m⟩:=eZ (kvs:=kvs) (k:=k') (by rw[<-e];exact SY j)
   rw[m];simp
  ·rw[if_neg e];cases lk kvs k'<;>simp[e]
 ·rename_i h
  rw[vH]
  by_cases e:k'=k
  ·subst e
   rw[if_pos rfl]
   have:lk kvs k'=none:=by
    cases q:lk kvs k' with
    |none=>rfl
    |some u=>exact absurd (Th.mpr ⟨_,jp q,by simp⟩) h
   rw[this];simp[lk]
  ·rw[if_neg e]
   have:lk [(k,v)] k'=none:=by rw[dU,if_neg (Ne.symm e)];rfl
   rw[this];simp
set_option tactic.hygienic true in
theorem CI(kvs:List (Int×V))(k k':Int):lk (del kvs k) k'=if k'=k then none else lk kvs k':=by
 induction kvs with
 |nil=>simp[del,lk]
 |cons p r ih=>
  unfold del at ih⊢
  rw[Uy]
  split
  ·rename_i h
   rw[dU,dU,ih]
   have h:p.1≠k:=by simpa using h
   by_cases e:p.1=k'
   ·rw[if_pos e,if_pos e,if_neg (e▸h)]
   ·rw[if_neg e,if_neg e]
  ·rename_i h
   have h:p.1=k:=by simpa using h
   rw[ih,dU]
   by_cases e:k'=k
   ·rw[if_pos e,if_pos e]
   ·rw[if_neg e,if_neg e,if_neg (show ¬p.1=k' from λq=>e (by rw[<-q,h]))]
def E0(N:Nat)(kvs:List (Int×V)):Prop:=(kvs.map (·.1)).Nodup/\∀p∈kvs,1<=p.1/\p.1<=N
theorem fg(kvs:List (Int×V))(k:Int)(v:V):(put kvs k v).map (·.1)=if k∈kvs.map (·.1)then kvs.map (·.1)else kvs.map (·.1)++[k]:=by
 unfold put
 by_cases h:k∈kvs.map (·.1)
 ·have:kvs.any (λj=>decide (j.1=k))=true:=by
   refine jL h λp m e=>?_
   exact Th.mpr ⟨p,m,by simp[e]⟩
  rw[if_pos h,if_pos this,Td]
  apply TX
  intro p _
  show(if p.1=k then(p.1,v)else p).1=p.1
  split<;>rfl
 ·have:¬kvs.any (λj=>decide (j.1=k))=true:=λq=>by
   obtain⟨p,m,e⟩:=Th.mp q
   exact h (by rw[<-of_decide_eq_true e];exact SY m)
  rw[if_neg h,if_neg this];simp
set_option tactic.hygienic true in
theorem E0.put(h:E0 N kvs)(w:1<=k/\k<=N):E0 N (put kvs k v):=by
 refine⟨?_,λp A=>?_⟩
 ·rw[fg]
  split
  ·exact h.1
  ·rename_i B
   rw[Tn]
   exact⟨h.1,by simp,λa C b r e=>B (by simp at r;rw[<-r,<-e];exact C)⟩
 ·have j:p.1∈(Mine.put kvs k v).map (·.1):=SY A
  rw[fg]at j
  split at j
  ·refine jL j λq m e=>?_;rw[<-e];exact h.2 q m
  ·refine cx j (λj=>?_) λj=>?_
   ·refine jL j λq m e=>?_;rw[<-e];exact h.2 q m
   ·simp at j;rw[j];exact w
theorem E0.del(h:E0 N kvs):E0 N (del kvs k):=by
 unfold Mine.del
 exact⟨h.1.sublist (List.Sublist.map _ TA),λp j=>h.2 p (SO.mp j).1⟩
theorem fa(n:Nat)(l:List Int)(m:l.Nodup)(h:∀x∈l,1<=x/\x<=n):l.length<=n:=by
 have:=m.length_le_of_subset (l₂:=(List.range n).map λ(i:Nat)=>(i:Int)+1) λx j=>Te.mpr ⟨x.toNat-1,Tl.mpr (Qs (n:=x) (h x j)),by rw[<-p7 (Int.pos_iff_toNat_pos.mp (h x j).1),Int.sub_add_cancel];exact U5 (UT (h x j).1)⟩
 rw[Su,Tj]at this
 exact this
theorem E0.len(h:E0 N kvs):kvs.length<=N:=by
 have:=fa N (kvs.map (·.1)) h.1 λx j=>by refine Ef j λp m=>?_;exact h.2 p m
 simpa using this
end
end
def sg(j:List Int)(l:Int):Option Bool:=if l∈j then some true else if -l∈j then some false else none
def ob:Option Bool->AV
 |none=> .none
 |some b=> .bool b
def Ln:Option Nat->AV
 |none=> .none
 |some n=> .int n
structure EE (N:Nat) (C:Cn):Prop where
 kn:∀v:Int,1<=v->lk C.kn v=(sg (lits C.tr) v).map .bool
 ht:∀e∈C.tr,lk C.ht e.lit.natAbs=some (.int e.ht)
 cs:∀e∈C.tr,lk C.cs e.lit.natAbs=some (Ln e.cs)
 kk:E0 N C.kn
 kh:E0 N C.ht
 kc:E0 N C.cs
 kl:E0 N C.lk
 ke:E0 N C.he
 he:∀v:Int,1<=v->v<=N->∃i,lk C.he v=some (.int i)
 MW:∀v u,lk C.lk v=some u->∃b,u=.bool b
 lit:∀l∈lits C.tr,1<=l.natAbs/\l.natAbs<=N
 nd:(lits C.tr).Pairwise λx y=>x.natAbs≠y.natAbs
 small:N<=8
theorem Dw{j:List Int}(h:j.Pairwise λx y=>x.natAbs≠y.natAbs)(m:x∈j)(r:y∈j)(e:x.natAbs=y.natAbs):x=y:=by
 rcases pJ h m r with q|q|q
 ·exact q
 ·exact absurd e q
 ·exact absurd e.symm q
theorem Ah{j:List Int}(h:j.Pairwise λx y=>x.natAbs≠y.natAbs)(m:l∈j)(r:l≠0): -l∉j:=λq=>by
 have:=Dw h m q PQ
 omega
set_option tactic.hygienic true in
theorem fQ:sg j l=some true↔l∈j:=by unfold sg;split<;>rename_i h<;>simp[h]
theorem dN{j:List Int}(h:j.Pairwise λx y=>x.natAbs≠y.natAbs)(r:l≠0):sg j l=some false↔ -l∈j:=by
 unfold sg
 by_cases m:l∈j
 ·rw[if_pos m]
  exact⟨λq=>by simp at q,λq=>absurd q (Ah h m r)⟩
 ·rw[if_neg m]
  by_cases w: -l∈j<;>simp[w]
set_option tactic.hygienic true in
theorem dw:sg j l=none↔l∉j/\ -l∉j:=by
 unfold sg;split
 ·rename_i h;simp[h]
 ·rename_i h;split<;>rename_i m<;>simp[h,m]
theorem Cl(h:j.Pairwise λx y=>x.natAbs≠y.natAbs)(m:l≠0):sg j (-l)=(sg j l).map (!·):=by
 cases q:sg j l with
 |none=>rw[dw]at q;exact dw.mpr ⟨q.2,by rw[TS];exact q.1⟩
 |some b=>
  cases b with
  |true=>rw[fQ]at q;exact(dN h (by omega)).mpr (by rw[TS];exact q)
  |false=>rw[dN h m]at q;exact fQ.mpr q
theorem vN(D:1<=d)(r:D8 σ A C)(i:EE N C)(E:l≠0):D5 d (.ref 135) [.ref A.a,.int l] (λv m=>v=ob (sg (lits C.tr) l)/\m=σ) d' σ:=by
 refine cw zw D (n:=1) rfl ?_
 intro d D;dsimp only
 obtain⟨o,G⟩:=r.kn
 refine dd (C9 (bS (ad rfl) r.inst rfl) (ef (ad rfl)) G) ?_
 have w:=i.kn l.natAbs (US.mpr (Int.natAbs_pos.mpr E))
 rw[w]
 have B:((sg (lits C.tr) l.natAbs).map (λb=>b==decide (l>0)))=sg (lits C.tr) l:=by
  by_cases j:l>0
  ·have:((l.natAbs:Nat):Int)=l:=MZ j
   rw[this,decide_eq_true j]
   cases sg (lits C.tr) l<;>simp
  ·have:((l.natAbs:Nat):Int)= -l:=Oz j
   rw[this,decide_eq_false j,Cl i.nd E]
   cases sg (lits C.tr) l<;>simp
 rw[<-B]
 cases q:sg (lits C.tr) l.natAbs with
 |none=>exact cW (fk (bR (ad rfl) u' d8) u') ⟨rfl,rfl⟩
 |some b=>exact cW (fk (bR (ad rfl) u' d8) (eM (ad rfl) (eM (ad rfl) u' fE) lE)) ⟨rfl,rfl⟩
theorem sb(C:l≠0)(A:sg j l=none)(B:1<=v):sg (j++[l]) v=if v=l.natAbs then some (decide (l>0))else sg j v:=by
 rw[dw]at A
 unfold sg
 simp only[Tv,Sx]
 by_cases e:v=l.natAbs
 ·rw[if_pos e]
  by_cases m:l>0
  ·have:v=l:=e.trans (MZ m)
   rw[if_pos (.inr this),decide_eq_true m]
  ·have: -v=l:=by rw[e,Oz m,TS]
   have r:v∉j:=λq=>A.2 (by rw[<-this,TS];exact q)
   have w:¬(v∈j\/v=l):=λq=>q.elim r (by omega)
   rw[if_neg w,if_pos (.inr this),decide_eq_false m]
 ·rw[if_neg e]
  have r:¬v=l:=QA B e
  have w:¬-v=l:=QB B e
  simp only[r,w,or_false]
def Cn.F0(C:Cn)(l:Int)(c:Option Nat):Cn:=(((C.Hx (put C.kn l.natAbs (.bool (decide (l>0))))).Km (put C.ht l.natAbs (.int C.bg.length))).Kn (put C.cs l.natAbs (Ln c))).HS (C.tr++[⟨l,C.bg.length,c⟩])
theorem jF(tr:List Ent)(e:Ent):lits (tr++[e])=lits tr++[e.lit]:=by simp[lits]
theorem EE.F0(i:EE N C)(E:1<=l.natAbs)(G:l.natAbs<=N)(A:sg (lits C.tr) l=none):EE N (C.F0 l c):=by
 have r:=dw.mp A
 have m:∀x∈lits C.tr,x.natAbs≠l.natAbs:=λx j e=>by
  rcases Int.natAbs_eq_natAbs_iff.mp e with q|q
  ·exact r.1 (q▸j)
  ·exact r.2 (q▸j)
 have w:1<=(l.natAbs:Int)/\(l.natAbs:Int)<=N:=by omega
 refine⟨λv B=>?_,λe he=>?_,λe he=>?_,i.kk.put w,i.kh.put w,i.kc.put w,i.kl,i.ke,i.he,i.MW,λx j=>?_,?_,i.small⟩
 ·show lk (put _ _ _) v=(sg (lits (C.tr++[_])) v).map AV.bool
  rw[gn,jF,sb (by omega) A B]
  split
  ·rfl
  ·exact i.kn v B
 ·show lk (put _ _ _) _=_
  rw[gn]
  refine cx he (λhe=>?_) λhe=>?_
  ·rw[if_neg (by have:=m e.lit (SY he);omega)];exact i.ht e he
  ·simp at he;subst he;rw[if_pos rfl]
 ·show lk (put _ _ _) _=_
  rw[gn]
  refine cx he (λhe=>?_) λhe=>?_
  ·rw[if_neg (by have:=m e.lit (SY he);omega)];exact i.cs e he
  ·simp at he;subst he;rw[if_pos rfl]
 ·have j:x∈lits (C.tr++[_]):=j
  rw[jF]at j
  refine cx j (λj=>?_) λj=>?_
  ·exact i.lit x j
  ·simp at j;subst j;exact⟨E,G⟩
 ·show(lits (C.tr++[_])).Pairwise _
  rw[jF,T9]
  exact⟨i.nd,Uq ..,λx j y D=>by simp at D;subst D;exact m x j⟩
theorem EE.len(i:EE N C):C.tr.length<=N:=by
 have:=fa N ((lits C.tr).map λx=>(x.natAbs:Int)) ?_ ?_
 ·simpa using this
 ·rw[Tp,TB]
  exact i.nd.imp λ{a b} h=>by omega
 ·intro x j
  refine Ef j λy m=>?_
  have:=i.lit y m
  omega
theorem eF{k:Int}(h:E0 N kvs)(j:1<=k/\k<=N)(m:N<=8):(put kvs k v).length<=big:=by
 have:=(h.put (v:=v) j).len
 show _<=1048576
 omega
structure Step (N:Nat) (A:Ad) (σ:AH) (A':Ad) (C':Cn) (Eb:AH):Prop where
 rep:D8 Eb A' C'
 inv:EE N C'
 fr:Fr A.T σ A'.T Eb
theorem iS(D:1<=d)(r:D8 σ A C)(i:EE N C)(E:1<=l.natAbs)(G:l.natAbs<=N)(H:sg (lits C.tr) l=none):
  D5 d (.ref 142) [.ref A.a,.int l,Ln c] (λv m=>v=.none/\Step N A σ A (C.F0 l c) m) d' σ:=by
 refine cw CB D (n:=1) rfl ?_
 intro d D O
 have q:1<=(l.natAbs:Int)/\(l.natAbs:Int)<=N:=by omega
 have I:=i.F0 (c:=c) E G H
 refine dd (ef (ad rfl)) ?_
 obtain⟨o1,J⟩:=r.kn
 refine gh (eM (ad rfl) u' fE) (bS (ad rfl) r.inst rfl) (ad rfl) J (eF i.kk q i.small) λo1=>?_
 have r1:=r.Kr (put C.kn l.natAbs (.bool (decide (l>0)))) o1
 obtain⟨o2,M⟩:=r1.ht
 refine gh (cH (bS (ad rfl) r1.inst rfl) (.inl r1.bg) (k:=C.bg.length) (by simp[j',Cn.Hx])) (bS (ad rfl) r1.inst rfl) (ad rfl) M (eF i.kh q i.small) λo2=>?_
 have w:=r1.Mn (put C.ht l.natAbs (.int C.bg.length)) o2
 obtain⟨o3,k3⟩:=w.cs
 refine gh (ad rfl) (bS (ad rfl) w.inst rfl) (ad rfl) k3 (eF i.kc q i.small) λo3=>?_
 have B:=w.Mo (put C.cs l.natAbs (Ln c)) o3
 have j:(g' (C.tr.map Ent.lit)).length<big:=by have:=i.len;have:=i.small;show _<1048576;simp only[g',Su];omega
 refine dt (ys:=g' ((C.tr++[Ent.mk l C.bg.length c]).map Ent.lit)) (bS (ad rfl) B.inst rfl) (ad rfl) B.ro (by simp[g',Cn.Hx,Cn.Km,Cn.Kn]) j ?_
 exact⟨rfl,B.Kt _,I,((b8 (by rw[r.tags.kn];decide)).trans (b8 (by rw[r.tags.ht];decide))).trans ((b8 (by rw[r.tags.cs];decide)).trans (b8 (by rw[r.tags.ro];decide)))⟩
def tg(T:Addr->Nat)(z:Addr)(k:Nat):Addr->Nat:=λb=>if b=z then k else T b
theorem fO(T:Addr->Nat)(z:Addr)(k:Nat):tg T z k z=k:=by simp[tg]
theorem dM(hz:T z=0)(h:T y=j)(m:j≠0:=by decide):tg T z k y=j:=by
 unfold tg;rw[if_neg (λe=>m (by rw[<-h,e,hz]))];exact h
def Ad.Es(A:Ad)(z:Addr):Ad:={A with bg:=z,T:=tg A.T z 6}
def Ad.FK(A:Ad)(z:Addr):Ad:={A with he:=z,T:=tg A.T z 10}
def Ad.El(A:Ad)(z:Addr):Ad:={A with bl:=z,T:=tg A.T z 14}
def Ad.Pf(A:Ad)(z:Addr):Ad:={A with R:=A.R++[z],T:=tg A.T z 12}
def Ad.addW(A:Ad)(l:Int)(z:Addr):Ad:={A with W:=A.W++[(l,z)],T:=tg A.T z 13}
def Ad.Lo(A:Ad)(l:Int)(b:Addr):Ad:={A with W:=A.W.filter λp=>decide (p.1≠l),T:=tg A.T b 0}
set_option tactic.hygienic true in
theorem jr(h:∀b,T b≠0->σ b≠none)(hz:σ z≠none):∀b,tg T z k b≠0->upd σ x o b≠none:=λb j=>by
 unfold upd;split
 ·simp
 ·unfold tg at j
  split at j
  ·rename_i e;rw[e];exact hz
  ·exact h b j
set_option tactic.hygienic true in
theorem Fr.tg(f:Fr T σ q j)(hs:σ z=none):Fr T σ (tg q z k) j:=⟨f.keep,λb m=>by
 unfold Mine.tg at m
 split at m
 ·rename_i e;rw[e];exact .inr hs
 ·exact f.new b m,f.there⟩
theorem Ko.tg(t:Ko A)(hz:A.T z=0):Ko {A with T:=tg A.T z k}:=
 ⟨dM hz t.a,dM hz t.kn,dM hz t.ht,dM hz t.cs,dM hz t.ro,dM hz t.bg,dM hz t.lk,dM hz t.rs,dM hz t.wt,dM hz t.he,dM hz t.lg,λb j=>dM hz (t.R b j),λp m=>dM hz (t.W p m),dM hz t.bl,t.dR,t.dW,t.kW⟩
theorem D8.Kv(r:D8 σ A C)(hz:A.T z=0)(h:A.T y=j)(m:j≠0:=by decide):z≠y:=λe=>m (by rw[<-h,<-e,hz])
theorem D8.Mr(r:D8 σ A C)(x:List Nat)(hs:σ z=some (.list (j' x)))(hz:A.T z=0):D8 (upd σ A.a (.inst 272 A.dx (Fv (A.Es z) (C.Es x)))) (A.Es z) (C.Es x):=
 have t:=r.tags.tg (k:=6) hz
 ⟨⟨(t.a),(t.kn),(t.ht),(t.cs),(t.ro),fO _ _ _,(t.lk),(t.rs),(t.wt),(t.he),(t.lg),t.R,t.W,t.bl,t.dR,t.dW,t.kW⟩,jr r.own (by rw[hs];simp),bO _ _ _,(xo (off r.tags.a r.tags.kn) r.kn),(xo (off r.tags.a r.tags.ht) r.ht),(xo (off r.tags.a r.tags.cs) r.cs),(off r.tags.a r.tags.ro).trans r.ro,(bP (r.Kv hz r.tags.a)).trans hs,(xo (off r.tags.a r.tags.lk) r.lk),(off r.tags.a r.tags.rs).trans r.rs,(xo (off r.tags.a r.tags.wt) r.wt),(xo (off r.tags.a r.tags.he) r.he),(off r.tags.a r.tags.lg).trans r.lg,(off r.tags.a r.tags.bl).trans r.bl,r.len,(λn b q j w=>(off r.tags.a (r.tags.R b (Sp j))).trans (r.R n b q j w)),(λp m=>(off r.tags.a (r.tags.W p m)).trans (r.W p m)),r.W0⟩
theorem D8.Ms(r:D8 σ A C)(x:List (Int×AV))(ob:Obj)(hs:σ z=some (.D0 x ob))(hz:A.T z=0):D8 (upd σ A.a (.inst 272 A.dx (Fv (A.FK z) (C.FK x)))) (A.FK z) (C.FK x):=
 have t:=r.tags.tg (k:=10) hz
 ⟨⟨(t.a),(t.kn),(t.ht),(t.cs),(t.ro),(t.bg),(t.lk),(t.rs),(t.wt),fO _ _ _,(t.lg),t.R,t.W,t.bl,t.dR,t.dW,t.kW⟩,jr r.own (by rw[hs];simp),bO _ _ _,(xo (off r.tags.a r.tags.kn) r.kn),(xo (off r.tags.a r.tags.ht) r.ht),(xo (off r.tags.a r.tags.cs) r.cs),(off r.tags.a r.tags.ro).trans r.ro,(off r.tags.a r.tags.bg).trans r.bg,(xo (off r.tags.a r.tags.lk) r.lk),(off r.tags.a r.tags.rs).trans r.rs,(xo (off r.tags.a r.tags.wt) r.wt),⟨ob,(bP (r.Kv hz r.tags.a)).trans hs⟩,(off r.tags.a r.tags.lg).trans r.lg,(off r.tags.a r.tags.bl).trans r.bl,r.len,(λn b q j w=>(off r.tags.a (r.tags.R b (Sp j))).trans (r.R n b q j w)),(λp m=>(off r.tags.a (r.tags.W p m)).trans (r.W p m)),r.W0⟩
theorem D8.Kw(r:D8 σ A C)(x:List AV)(hs:σ z=some (.tup x))(hz:A.T z=0):D8 (upd σ A.a (.inst 272 A.dx (Fv (A.El z) (C.El x)))) (A.El z) (C.El x):=
 have t:=r.tags.tg (k:=14) hz
 ⟨⟨(t.a),(t.kn),(t.ht),(t.cs),(t.ro),(t.bg),(t.lk),(t.rs),(t.wt),(t.he),(t.lg),t.R,t.W,fO _ _ _,t.dR,t.dW,t.kW⟩,jr r.own (by rw[hs];simp),bO _ _ _,(xo (off r.tags.a r.tags.kn) r.kn),(xo (off r.tags.a r.tags.ht) r.ht),(xo (off r.tags.a r.tags.cs) r.cs),(off r.tags.a r.tags.ro).trans r.ro,(off r.tags.a r.tags.bg).trans r.bg,(xo (off r.tags.a r.tags.lk) r.lk),(off r.tags.a r.tags.rs).trans r.rs,(xo (off r.tags.a r.tags.wt) r.wt),(xo (off r.tags.a r.tags.he) r.he),(off r.tags.a r.tags.lg).trans r.lg,(bP (r.Kv hz r.tags.a)).trans hs,r.len,(λn b q j w=>(off r.tags.a (r.tags.R b (Sp j))).trans (r.R n b q j w)),(λp m=>(off r.tags.a (r.tags.W p m)).trans (r.W p m)),r.W0⟩
theorem D8.Jz(r:D8 σ A C)(q:A.R[n]? =some b)(x:List Int):D8 (upd σ b (.list (g' x))) A (C.Ea (C.rows.set n x)):=
 have j:=r.tags.R b (Sp q)
 ⟨r.tags,dn r.own,(off j r.tags.a).trans r.inst,(xo (off j r.tags.kn) r.kn),(xo (off j r.tags.ht) r.ht),(xo (off j r.tags.cs) r.cs),(off j r.tags.ro).trans r.ro,(off j r.tags.bg).trans r.bg,(xo (off j r.tags.lk) r.lk),(off j r.tags.rs).trans r.rs,(xo (off j r.tags.wt) r.wt),(xo (off j r.tags.he) r.he),(off j r.tags.lg).trans r.lg,(off j r.tags.bl).trans r.bl,(r.len.trans (TT ..).symm),(λk c s m D=>by
  rcases eE D with⟨e1,w⟩|⟨e1,w⟩
  ·subst e1;rw[q]at m;cases m;rw[w];exact bO _ _ _
  ·refine(bP λe=>e1 ?_).trans (r.R k c s m w)
   obtain⟨H,E⟩:=Sr.mp m
   obtain⟨I,G⟩:=Sr.mp q
   exact(Uj r.tags.dR).mp (E.trans (e.trans G.symm))),(λp B=>(off j (r.tags.W p B)).trans (r.W p B)),r.W0⟩
theorem D8.Lp(r:D8 σ A C)(x:List Int)(hs:σ z=some (.list (g' x)))(hz:A.T z=0):D8 (upd σ A.rs (.list ((A.R++[z]).map .ref))) (A.Pf z) (C.Ea (C.rows++[x])):=
 have t:=r.tags.tg (k:=12) hz
 ⟨⟨t.a,t.kn,t.ht,t.cs,t.ro,t.bg,t.lk,t.rs,t.wt,t.he,t.lg,λb m=>(Tv.mp m).elim (t.R b) λq=>by
   rw[Sx.mp q];exact fO _ _ _,t.W,t.bl,by
   show(A.R++[z]).Nodup
   rw[Tn];exact⟨t.dR,by simp,λa G b m e=>by rw[Sx]at m;subst m;subst e;have:=r.tags.R a G;rw[hz]at this;cases this⟩,t.dW,t.kW⟩,jr r.own (by rw[hs];simp),(off r.tags.rs r.tags.a).trans r.inst,(xo (off r.tags.rs r.tags.kn) r.kn),(xo (off r.tags.rs r.tags.ht) r.ht),(xo (off r.tags.rs r.tags.cs) r.cs),(off r.tags.rs r.tags.ro).trans r.ro,(off r.tags.rs r.tags.bg).trans r.bg,(xo (off r.tags.rs r.tags.lk) r.lk),bO _ _ _,(xo (off r.tags.rs r.tags.wt) r.wt),(xo (off r.tags.rs r.tags.he) r.he),(off r.tags.rs r.tags.lg).trans r.lg,(off r.tags.rs r.tags.bl).trans r.bl,(by show(A.R++[z]).length=(C.rows++[x]).length;rw[Sw,Sw,r.len];rfl),(λn b s H B=>by
  rcases bY H with w|⟨w,I⟩
  ·rcases bY B with j|⟨j,D⟩
   ·exact(off r.tags.rs (r.tags.R b (Sp w))).trans (r.R n b s w j)
   ·have:=bQ w;rw[r.len]at this;omega
  ·rcases bY B with j|⟨j,D⟩
   ·have:=bQ j;rw[<-r.len]at this;omega
   ·rw[I,D];exact(bP (r.Kv hz r.tags.rs)).trans hs),(λp E=>(off r.tags.rs (r.tags.W p E)).trans (r.W p E)),r.W0⟩
theorem D8.GL(r:D8 σ A C)(E:q∈A.W)(ns:List Nat):D8 (upd σ q.2 (.list (j' ns))) A (C.Eo λx=>if x=q.1 then ns else C.wt x):=
 have m:=r.tags.W q E
 ⟨r.tags,dn r.own,(off m r.tags.a).trans r.inst,(xo (off m r.tags.kn) r.kn),(xo (off m r.tags.ht) r.ht),(xo (off m r.tags.cs) r.cs),(off m r.tags.ro).trans r.ro,(off m r.tags.bg).trans r.bg,(xo (off m r.tags.lk) r.lk),(off m r.tags.rs).trans r.rs,(xo (off m r.tags.wt) r.wt),(xo (off m r.tags.he) r.he),(off m r.tags.lg).trans r.lg,(off m r.tags.bl).trans r.bl,r.len,(λn b s N Q=>(off m (r.tags.R b (Sp N))).trans (r.R n b s N Q)),(λp G=>by
  by_cases e:p.2=q.2
  ·have:p=q:=by
    obtain⟨i,H⟩:=SQ.mp G
    obtain⟨j,I⟩:=SQ.mp E
    obtain⟨J,D⟩:=Sr.mp H
    obtain⟨M,B⟩:=Sr.mp I
    have w:i=j:=by
     refine(Uj (h₀:=by simpa using J) (h₁:=by simpa using M) r.tags.dW).mp ?_
     rw[TO,TO,D,B,e]
    subst w;rw[<-D,<-B]
   subst this
   rw[bO];simp[Cn.Eo]
  ·have e1:p.1≠q.1:=λh=>by
    obtain⟨i,H⟩:=SQ.mp G
    obtain⟨j,I⟩:=SQ.mp E
    obtain⟨J,D⟩:=Sr.mp H
    obtain⟨M,B⟩:=Sr.mp I
    have w:i=j:=by
     refine(Uj (h₀:=by simpa using J) (h₁:=by simpa using M) r.tags.kW).mp ?_
     rw[TO,TO,D,B,h]
    subst w;rw[D]at B;exact e (by rw[B])
   rw[bP e,r.W p G];simp[Cn.Eo,e1]),(λl O=>by
  have:l≠q.1:=λe=>O q E e.symm
  simp[Cn.Eo,this];exact r.W0 l O)⟩
theorem D8.HU(r:D8 σ A C)(ob:Obj)(B:∀p∈A.W,p.1≠l)(hs:σ z=some (.list []))(hz:A.T z=0):D8 (upd σ A.wt (.D0 (A.W.map (λp=>(p.1,AV.ref p.2))++[(l,.ref z)]) ob)) (A.addW l z) C:=
 have t:=r.tags.tg (k:=13) hz
 ⟨⟨t.a,t.kn,t.ht,t.cs,t.ro,t.bg,t.lk,t.rs,t.wt,t.he,t.lg,t.R,λp j=>(Tv.mp j).elim (t.W p) λq=>by
   rw[Sx.mp q];exact fO _ _ _,t.bl,t.dR,by
   show((A.W++[(l,z)]).map (·.2)).Nodup
   rw[SX,Tn];exact⟨t.dW,by simp,λa w b m e=>by
    simp at m;subst m;subst e
    refine jL w λp j e=>?_
    have:=r.tags.W p j;rw[e,hz]at this;cases this⟩,by
   show((A.W++[(l,z)]).map (·.1)).Nodup
   rw[SX,Tn];exact⟨t.kW,by simp,λa w b m e=>by
    simp at m;subst m;subst e
    refine jL w λp j e=>?_
    exact B p j e⟩⟩,jr r.own (by rw[hs];simp),(off r.tags.wt r.tags.a).trans r.inst,(xo (off r.tags.wt r.tags.kn) r.kn),(xo (off r.tags.wt r.tags.ht) r.ht),(xo (off r.tags.wt r.tags.cs) r.cs),(off r.tags.wt r.tags.ro).trans r.ro,(off r.tags.wt r.tags.bg).trans r.bg,(xo (off r.tags.wt r.tags.lk) r.lk),(off r.tags.wt r.tags.rs).trans r.rs,⟨ob,(bO _ _ _).trans (by simp[Ad.addW])⟩,(xo (off r.tags.wt r.tags.he) r.he),(off r.tags.wt r.tags.lg).trans r.lg,(off r.tags.wt r.tags.bl).trans r.bl,r.len,(λn b E D G=>(off r.tags.wt (r.tags.R b (Sp D))).trans (r.R n b E D G)),(λp j=>(Tv.mp j).elim (λh=>(off r.tags.wt (r.tags.W p h)).trans (r.W p h)) λq=>by
  rw[Sx.mp q]
  refine(bP (r.Kv hz r.tags.wt)).trans ?_
  rw[hs,r.W0 l B];rfl),(λH h=>r.W0 H λp j=>h p (SN _ j))⟩
theorem D8.JP(r:D8 σ A C)(ob:Obj)(I:q∈A.W):D8 (upd σ A.wt (.D0 ((A.Lo q.1 q.2).W.map λp=>(p.1,AV.ref p.2)) ob)) (A.Lo q.1 q.2) (C.Eo (cleared C.wt q.1)):=
 have n:∀{y:Addr} {j:Nat},A.T y=j->(h:j≠13:=by decide)->tg A.T q.2 0 y=j:=λ{y j} h D=>by
  unfold tg;rw[if_neg λe=>D (by rw[<-h,e,r.tags.W q I])];exact h
 ⟨⟨n r.tags.a,n r.tags.kn,n r.tags.ht,n r.tags.cs,n r.tags.ro,n r.tags.bg,n r.tags.lk,n r.tags.rs,n r.tags.wt,n r.tags.he,n r.tags.lg,λb E=>n (r.tags.R b E),λp B=>by
   obtain⟨m,w⟩:=SO.mp B
   have e:p.2≠q.2:=λe=>by
    obtain⟨i,N⟩:=SQ.mp m
    obtain⟨j,D⟩:=SQ.mp I
    obtain⟨O,J⟩:=Sr.mp N
    obtain⟨Q,G⟩:=Sr.mp D
    have H:i=j:=by
     refine(Uj (h₀:=by simpa using O) (h₁:=by simpa using Q) r.tags.dW).mp ?_
     rw[TO,TO,J,G,e]
    subst H;rw[J]at G;rw[G]at w;simp at w
   show tg A.T q.2 0 p.2=13
   unfold tg;rw[if_neg e];exact r.tags.W p m,n r.tags.bl,r.tags.dR,r.tags.dW.sublist (List.Sublist.map _ TA),r.tags.kW.sublist (List.Sublist.map _ TA)⟩,(λb E=>by
  refine dn r.own b ?_
  intro h;apply E;show tg A.T q.2 0 b=0;unfold tg;split<;>first|rfl|exact h),(off r.tags.wt r.tags.a).trans r.inst,(xo (off r.tags.wt r.tags.kn) r.kn),(xo (off r.tags.wt r.tags.ht) r.ht),(xo (off r.tags.wt r.tags.cs) r.cs),(off r.tags.wt r.tags.ro).trans r.ro,(off r.tags.wt r.tags.bg).trans r.bg,(xo (off r.tags.wt r.tags.lk) r.lk),(off r.tags.wt r.tags.rs).trans r.rs,⟨ob,bO _ _ _⟩,(xo (off r.tags.wt r.tags.he) r.he),(off r.tags.wt r.tags.lg).trans r.lg,(off r.tags.wt r.tags.bl).trans r.bl,r.len,(λn b U m w=>(off r.tags.wt (r.tags.R b (Sp m))).trans (r.R n b U m w)),(λp B=>by
  obtain⟨m,w⟩:=SO.mp B
  have w:p.1≠q.1:=by simpa using w
  refine(off r.tags.wt (r.tags.W p m)).trans ((r.W p m).trans ?_)
  simp[Cn.Eo,cleared,w]),(λl Y=>by
  by_cases e:l=q.1
  ·simp[Cn.Eo,cleared,e]
  ·simp[Cn.Eo,cleared,e]
   exact r.W0 l λp B M=>Y p (SO.mpr ⟨B,by simp[M,e]⟩) M)⟩
section
section
theorem cQ{n:Nat}(h:xs[n]? =some v):ix xs (n:Int)=some v:=by
 have q:=bQ h
 have e:seqIndex? (n:Int) xs.length=some n:=by
  unfold seqIndex?
  have j:¬((n:Int)<0):=by omega
  have m:(n:Int)<xs.length:=by omega
  simp[j,m]
 unfold ix;rw[e];exact h
theorem zq(h:xs.getLast? =some v):ix xs (-1)=some v:=by
 have m:xs≠[]:=by intro e;rw[e]at h;cases h
 have j:=TY.mpr m
 have e:seqIndex? (-1) xs.length=some (xs.length-1):=by
  unfold seqIndex?
  have q:(0:Int)<= -1+xs.length:=by omega
  have r:(-1:Int)+xs.length<xs.length:=by omega
  have w:((-1:Int)+xs.length).toNat=xs.length-1:=Qo j
  simp[q,r,w]
 unfold ix;rw[e]
 rw[List.getLast?_eq_getElem?]at h
 exact h
theorem fX{Q:List AV->AH->Prop}(h:(ev d q a Xp).e m (λv σ=>Q [v] σ) σ):(ev d q (.cons a .nil) Xp).l m Q σ:=h
theorem b7{Q:List AV->AH->Prop}(h:Q [] σ):(ev d q .nil Xp).l m Q σ:=h
theorem ds{Q:List AV->AH->Prop}(g:E1 d σ m a v)(h:(ev d true as Xp).l m (λvs σ=>Q (v::vs) σ) σ):(ev d true (.cons a as) Xp).l m Q σ:=g Xp _ h
theorem ch{Q:List AV->AH->Prop}(h:(ev d q a Xp).e m (λv σ=>(ev d q as Xp).l m (λvs σ=>Q (v::vs) σ) σ) σ):(ev d q (.cons a as) Xp).l m Q σ:=h
theorem fG(g:E1 d σ m a (.ref o))(q:F9 j (.ref o) σ)(h:(ev d true as Xp).l m (λvs σ=>Ij j (.ref o) vs Q σ) σ):(ev d true (.bm j a as) Xp).e m Q σ:=g Xp _ ⟨q,h⟩
theorem DB(h:(ev d true a Xp).e m (λv σ=>F9 j v σ/\(ev d true as Xp).l m (λvs σ=>Ij j v vs Q σ) σ) σ):(ev d true (.bm j a as) Xp).e m Q σ:=h
theorem ej(e:σ o=some (.list xs))(j:xs++[v]=ys)(hz:xs.length<big)(q:Q .none (upd σ o (.list ys))):Ij .Ed (.ref o) [v] Q σ:=oi e hz (j▸q)
theorem xI(e:σ o=some (.list xs))(j:σ y=some (.list ys))(m:xs++ys=zs)(hz:xs.length+ys.length<=big)(q:Q .none (upd σ o (.list zs))):Ij .Fo (.ref o) [.ref y] Q σ:=vw e j hz (m▸q)
theorem qR{ob:Obj}(e:σ o=some (.D0 kvs ob))(j:∀w,lk kvs k=some w->Q w σ)(m:lk kvs k=none->kvs.length<big/\∀o',Q v (upd σ o (.D0 (kvs++[(k,v)]) o'))):Ij .Ek (.ref o) [.int k,v] Q σ:=Ag e j m
theorem zp{ob:Obj}(e:σ o=some (.D0 kvs ob))(j:∀w,lk kvs k=some w->∀o',Q w (upd σ o (.D0 (del kvs k) o')))(m:lk kvs k=none->Q v σ):Ij .H0 (.ref o) [.int k,v] Q σ:=w9 e j m
theorem Bz(g:E1 d σ m a (.ref o))(h:σ o=some (.list (xs++[v])))(q:Q v (upd σ o (.list xs))):(ev d true (.bm .I6 a .nil) Xp).e m Q σ:=g Xp _ ⟨ec h,zB h q⟩
theorem BB{ob:Obj}(g:E1 d σ m a (.ref o))(j:E1 d σ m i (.int k))(h:σ o=some (.D0 kvs ob))(r:lk kvs k=some v)(q:∀o',Q v (upd σ o (.D0 (del kvs k) o'))):
  (ev d true (.bm .H0 a (.cons i .nil)) Xp).e m Q σ:=g Xp _ ⟨ft h,j Xp _ (zY h r q)⟩
def JA(xs:List AV)(lo j:AV)(ys:List AV):Prop:=∀{σ:AH} {a:Addr} {Q:EO},(σ a=some (.list xs)\/∃o,σ a=some (.obj o)/\Hk o xs)->(∀z,σ z=none->Q (.ref z) (upd σ z (.list ys)))->Hl (.ref a) lo j Q σ
theorem fS{lo j:X}(g:E1 d σ m a (.ref o))(gl:E1 d σ m lo l)(r:E1 d σ m j h)(e:σ o=some (.list xs))(w:JA xs l h ys)(q:∀z,σ z=none->Q (.ref z) (upd σ z (.list ys))):(ev d true (.slice a lo j) Xp).e m Q σ:=
 g Xp _ (gl Xp _ (r Xp _ (w (.inl e) q)))
theorem lM{n:Nat}:JA xs .none (.int n) (xs.take n):=yl
theorem qP{n:Nat}:JA xs (.int n) .none (xs.drop n):=yn
theorem gv(g:L1 d σ m as vs)(hz:vs.length<=big)(q:∀z,σ z=none->Q (.ref z) (upd σ z (.tup vs))):(ev d true (.tup as) Xp).e m Q σ:=g Xp _ ⟨hz,q⟩
theorem cR(g:L1 d σ m as vs)(hz:vs.length<=big)(q:∀z,σ z=none->Q (.ref z) (upd σ z (.list vs))):(ev d true (.lst as) Xp).e m Q σ:=g Xp _ ⟨hz,q⟩
theorem BD(g:E1 d σ m a (.ref o))(h:σ o=some (.list xs)\/σ o=some (.tup xs))(q:∀z,σ z=none->Q (.ref z) (upd σ z (.list xs))):(ev d true (.bf .list (.cons a .nil)) Xp).e m Q σ:=⟨rfl,g Xp _ (mP h q)⟩
theorem qE(g:E1 d σ m a (.int k))(h:E1 d σ m b (.int l))(hz:small k/\small l)(q:∀z,σ z=none->Q (.ref z) (upd σ z (.EG k l))):(ev d true (.bf .range (.cons a (.cons b .nil))) Xp).e m Q σ:=⟨rfl,g Xp _ (h Xp _ (un hz q))⟩
theorem gf(h:E1 d σ m b (.int l))(hz:small l)(q:∀z,σ z=none->Q (.ref z) (upd σ z (.EG 0 l))):(ev d true (.bf .range (.cons b .nil)) Xp).e m Q σ:=⟨rfl,h Xp _ (nT hz q)⟩
variable {K:D7->AH->Prop}
theorem cZ(h:(ev d true x Xp).e m (λv σ=>wt d true Xp j v (λm σ=>ws d Xp r true P m σ) m σ) σ):ws d Xp (.cons (.set j x) r) true P m σ:=h
theorem cN(h:(ev d true x Xp).e m (λv σ=>notRef v/\ws d Xp r true P m σ) σ):ws d Xp (.cons (.ex x) r) true P m σ:=h
theorem mF(I:Nat->D7->AH->Prop)(k:Nat)(q:I k m σ)(st:∀k m σ,I k m σ->∃b,T1 d σ m x b/\(b=true->ws d Xp y true ⟨λm σ=>∃j,j<k/\I j m σ,P.rt⟩ m σ)/\(b=false->ws d Xp r true P m σ)):ws d Xp (.cons (.wh x y) r) true P m σ:=
 ⟨I,⟨k,q⟩,λk m σ w=>by
  obtain⟨b,A,B,C⟩:=st k m σ w
  refine A Xp _ ?_
  cases b with
  |true=>exact B rfl
  |false=>exact C rfl⟩
theorem eG(h:(ev d true x Xp).e m (λv σ=>Ej (items σ v) λxs=>∃I:Nat->D7->AH->Prop,I 0 m σ/\∀k m j,I k m j->same σ j v/\(k=xs.length->ws d Xp r true P m j)/\
   ∀u,xs[k]? =some u->ws d Xp y true ⟨λm σ=>I (k+1) m σ,P.rt⟩ (m.set n (some u)) j) σ):ws d Xp (.cons (.fo n x y) r) true P m σ:=⟨rfl,h⟩
theorem Dk(q:Q (.int k.natAbs) σ):Ik .abs [.int k] Q σ:=pD q
theorem c0(q:K (m.set n (some v)) σ):wt d true Xp (.var n) v K m σ:=q
theorem gc(g:E1 d σ m a (.ref o))(e:σ o=some (.inst C q j))(r:n<=j.length)(k:K m (upd σ o (.inst C q (GC j n v)))):wt d true Xp (.attr a C n) v K m σ:=
 g Xp _ (iD e r k)
theorem CJ{ob:Obj}(g:E1 d σ m a (.ref o))(j:E1 d σ m i (.int l))(e:σ o=some (.D0 kvs ob))(hz:(put kvs l v).length<=big)(k:∀o',K m (upd σ o (.D0 (put kvs l v) o'))):
  wt d true Xp (.item a i) v K m σ:=g Xp _ (j Xp _ (yL e hz k))
theorem pB(g:E1 d σ m a (.ref o))(j:E1 d σ m i (.int l))(e:σ o=some (.list xs))(hz:0<=l/\l<xs.length)(k:K m (upd σ o (.list (xs.set l.toNat v)))):
  wt d true Xp (.item a i) v K m σ:=g Xp _ (j Xp _ (yV e hz k))
theorem yU(g:E1 d σ m a (.ref o))(e:σ o=some (.D4 j q))(r:n<=q.length)(k:K m (upd σ o (.D4 j (GC q n v)))):wt d true Xp (.key a j n) v K m σ:=
 g Xp _ (nJ e r k)
end
section
def Cn.HK(C:Cn)(kn lk:List (Int×AV))(k:Nat):Cn:=((C.Hx kn).Jy lk).HS (C.tr.take k)
def Cn.backTo(C:Cn)(kn lk:List (Int×AV))(b h:Nat):Cn:=((C.HK kn lk b).Es (C.bg.take h)).Fu b C.gain C.refuted C.clashes C.limit
theorem lu{l:List α}(h:l[k]? =some e):l.take (k+1)=l.take k++[e]:=by rw[Ue,h];rfl
theorem d9(A:Ad)(C:Cn)(n:Nat)(h:n<=16:=by decide):n<=(Fv A C).length:=h
inductive N7 (N:Nat) (A:Ad) (σ:AH) (C:Cn) (b h:Nat) (n:Nat) (m:D7) (Eb:AH):Prop
 |mk (k kn lk u) (h0:n=k-b) (h1:b<=k) (h2:k<=C.tr.length) (h3:m=[some (.ref A.a),some (.int h),u]) (h4:Step N A σ A (C.HK kn lk k) Eb)
set_option tactic.hygienic true in
theorem fj(hd:1<=d)(r:D8 σ A C)(i:EE N C)(t:C.bg.Pairwise (·<= ·))(tb:∀b∈C.bg,b<=C.tr.length)(h:Nat):
  D5 d (.ref 149) [.ref A.a,.int h] (λv D=>v=.none/\((C.bg.length<=h/\D=σ)\/∃b z kn lk,C.bg[h]? =some b/\σ z=none/\Step N A σ (A.Es z) (C.backTo kn lk b h) D)) d' σ:=by
 refine gl ?_
 intro ah
 refine cw vJ hd (n:=1) rfl ?_
 intro d hd RR
 refine co (bR (ad rfl) (cH (bS (ad rfl) r.inst rfl) (.inl r.bg) (k:=C.bg.length) (by simp[j'])) pG) ?_
 by_cases hh:h<C.bg.length
 ·rw[if_pos (by simpa using hh)]
  refine gl ?_
  intro ai
  obtain⟨b,hb⟩:∃b,C.bg[h]? =some b:=⟨_,SA hh⟩
  have aa:=tb b (Sp hb)
  have ab:ix (j' C.bg) (h:Int)=some (.int b):=cQ (by simp[j',hb])
  refine mF (N7 N A σ C b h) _ ⟨C.tr.length,C.kn,C.lk,none,rfl,aa,SR _,rfl,?_⟩ ?_
  ·have:C.HK C.kn C.lk C.tr.length=C:=by delta Cn.HK Cn.Hx Cn.Jy Cn.HS;rw[SW]
   rw[this];exact⟨r,i,.refl ..⟩
  ·rintro n m D ⟨k,kn,w,u,rfl,aj,hk,rfl,s⟩
   have I:((g' ((C.HK kn w k).tr.map Ent.lit)).length:Int)=k:=by simp[g',Cn.HK,Cn.HS];omega
   refine⟨_,bR (cH (bS (ad rfl) s.rep.inst rfl) (.inl s.rep.ro) I) (cA (bS (ad rfl) s.rep.inst rfl) (ad rfl) (.inl s.rep.bg) ab) fE,λB=>?_,λB=>?_⟩
   ·have B:b<k:=by simpa using B
    obtain⟨k,rfl⟩:∃j,k=j+1:=⟨k-1,Qx (by assumption)⟩
    obtain⟨e,he⟩:∃e,C.tr[k]? =some e:=⟨_,SA (by omega)⟩
    have E:=lu he
    have ac:D A.ro=some (.list (g' ((C.tr.take k).map Ent.lit)++[.int e.lit])):=by
     have:=s.rep.ro
     rw[this]
     show some (AO.list (g' ((C.tr.take (k+1)).map Ent.lit)))=_
     rw[E];simp[g']
    refine cZ ?_
    refine⟨rfl,fX (Bz (bS (ad rfl) s.rep.inst rfl) ac ?_)⟩
    have r1:=s.rep.Kt (C.tr.take k)
    obtain⟨o1,h1⟩:=r1.kn
    have ae:e.lit∈lits (C.tr.take (k+1)):=by rw[E];simp
    have al:=s.inv.lit e.lit ae
    have G:FZ (lits (C.tr.take (k+1))):=s.inv.nd
    rw[E,cX]at G
    replace G:=G
    have H:sg (lits (C.tr.take k)) e.lit=none:=by
     rw[dw]
     have:=T9.mp G
     exact⟨λq=>this.2.2 _ q _ (TL _) rfl,λq=>this.2.2 _ q _ (TL _) (by rw[S9])⟩
    have U:∀v:Int,1<=v->lk kn v=(if v=e.lit.natAbs then some (decide (e.lit>0))else sg (lits (C.tr.take k)) v).map .bool:=λv Z=>by
     have:=s.inv.kn v Z
     rw[show lk kn v=_ from this]
     show(sg (lits (C.tr.take (k+1))) v).map AV.bool=_
     rw[E,cX,sb (by omega) H Z]
    have af:lk kn e.lit.natAbs=some (.bool (decide (e.lit>0))):=by rw[U _ (by omega),if_pos rfl];rfl
    refine Dk (c0 ?_)
    refine cZ ?_
    refine BB (bS (ad rfl) r1.inst rfl) (ad rfl) h1 af λo2=>?_
    have J:=r1.Kr (del kn e.lit.natAbs) o2
    obtain⟨o3,h3⟩:=J.lk
    have M:1<=(e.lit.natAbs:Int)/\(e.lit.natAbs:Int)<=N:=by omega
    refine CJ (bS (ad rfl) J.inst rfl) (ad rfl) h3 (eF s.inv.kl M s.inv.small) λo4=>?_
    have r3:=J.Mp (put w e.lit.natAbs (.bool (decide (e.lit>0)))) o4
    have sub:∀x∈C.tr.take k,x∈C.tr.take (k+1):=λx O=>by rw[E];exact SN _ O
    have i3:EE N (C.HK (del kn e.lit.natAbs) (put w e.lit.natAbs (.bool (decide (e.lit>0)))) k):=by
     refine⟨λv Z=>?_,λx O=>s.inv.ht x (sub x O),λx O=>s.inv.cs x (sub x O),s.inv.kk.del,s.inv.kh,s.inv.kc,s.inv.kl.put M,s.inv.ke,s.inv.he,λv u Q=>?_,λl hl=>?_,?_,s.inv.small⟩
     ·show lk (del kn _) v=(sg (lits (C.tr.take k)) v).map _
      rw[CI]
      split
      ·rename_i e1
       subst e1
       have:sg (lits (C.tr.take k)) (e.lit.natAbs:Int)=none:=by
        rw[dw]at H⊢
        rcases Int.natAbs_eq e.lit with q|q
        ·rw[<-q];exact H
        ·have q2:(e.lit.natAbs:Int)= -e.lit:=by omega
         rw[q2,TS];exact⟨H.2,H.1⟩
       rw[this];rfl
      ·rename_i e1
       rw[U v Z,if_neg e1]
     ·have Q:lk (put w _ _) v=some u:=Q
      rw[gn]at Q
      split at Q
      ·cases Q;exact⟨_,rfl⟩
      ·exact s.inv.MW v u Q
     ·refine Ef hl λx O=>?_
      exact s.inv.lit _ (SY (sub x O))
     ·exact(T9.mp G).1
    refine⟨k-b,Qp (by assumption),k,_,_,_,rfl,by omega,by omega,rfl,r3,i3,?_⟩
    exact s.fr.trans ((b8 (by rw[r.tags.ro];decide)).trans ((b8 (by rw[r.tags.kn];decide)).trans (b8 (by rw[r.tags.lk];decide))))
   ·have B:k=b:=by
     have:¬b<k:=by simpa using B
     omega
    subst B
    refine cZ ?_
    refine fS (bS (ad rfl) s.rep.inst rfl) u' (ad rfl) s.rep.bg lM λz hz=>?_
    have hT:A.T z=0:=by
     cases q:A.T z with
     |zero=>rfl
     |succ n=>exact absurd hz (s.rep.own z (by rw[q];exact Ub n))
    have Y:σ z=none:=by
     cases q:σ z with
     |none=>rfl
     |some o=>exact absurd hz (s.fr.there z (by rw[q];simp))
    have r1:=s.rep.made (o:=.list ((j' (C.HK kn w k).bg).take h)) hz
    have ag:upd D z (.list ((j' (C.HK kn w k).bg).take h)) z=some (.list (j' (C.bg.take h))):=by rw[bO];simp[j',Cn.HK,Cn.HS,Cn.Hx,Cn.Jy]
    refine gc (ad rfl) r1.inst (d9 ..) ?_
    have J:=r1.Mr (C.bg.take h) ag hT
    refine fw (cH (bS (ad rfl) J.inst rfl) (.inl J.ro) I) (ad rfl) J.inst (d9 ..) ?_
    refine(?_:_->_) (J.Fh k C.gain C.refuted C.clashes C.limit)
    intro r3
    refine⟨rfl,.inr ⟨k,z,kn,w,hb,Y,r3,?_,?_⟩⟩
    ·exact⟨s.inv.kn,s.inv.ht,s.inv.cs,s.inv.kk,s.inv.kh,s.inv.kc,s.inv.kl,s.inv.ke,s.inv.he,s.inv.MW,s.inv.lit,s.inv.nd,s.inv.small⟩
    ·exact((s.fr.trans (cU hz)).trans ((b8 (by rw[r.tags.a];decide)).trans (b8 (by rw[r.tags.a];decide)))).tg Y
 ·rw[if_neg (by simpa using hh)]
  exact⟨rfl,.inl ⟨by omega,rfl⟩⟩
end
end
section
section
variable {N d n:Nat}
theorem D8.zT(r:D8 σ A C)(hz:σ z=none):A.T z=0:=by
 cases q:A.T z with
 |zero=>rfl
 |succ n=>exact absurd hz (r.own z (by rw[q];exact Ub n))
theorem CG{W:List (Int×Addr)}(h:lk (W.map λp=>(p.1,AV.ref p.2)) l=some v):∃b,v=.ref b/\(l,b)∈W:=by
 have:=jp h
 refine jL this λp j e=>?_
 cases e
 exact⟨p.2,rfl,j⟩
theorem oh{W:List (Int×Addr)}(h:lk (W.map λp=>(p.1,AV.ref p.2)) l=none):∀p∈W,p.1≠l:=λp m e=>by
 obtain⟨v,j⟩:=eZ (kvs:=W.map λp=>(p.1,AV.ref p.2)) (k:=l) (by rw[Td];exact Te.mpr ⟨p,m,e⟩)
 rw[h]at j;cases j
structure HV (A:Ad) (l:Int) (A':Ad):Prop where
 a:A'.a=A.a
 R:A'.R=A.R
 W:∀p∈A.W,p∈A'.W
 W':∀p∈A'.W,p∈A.W\/p.1=l
theorem HV.refl(A:Ad)(l:Int):HV A l A:=⟨rfl,rfl,λj h=>h,λj h=> .inl h⟩
theorem mG{Q J:X}(r:D8 σ A C)(Y:A.W.length<big)(hs:Em m 0=some (.ref A.a))(Z:E1 d σ m Q (.int l))(D:(C.wt l).length<big)(hn:∀w j,D8 j w C->w.a=A.a->w.R=A.R->Fr A.T σ w.T j->E1 d j m J (.int n))(k:∀w j,D8 j w (C.Eo (more C.wt l [n]))->Fr A.T σ w.T j->HV A l w->ws d Xp B true P m j):
  ws d Xp (.cons (.ex (.bm .Ed (.bm .Ek (.attr (.var 0) 272 8) (.cons Q (.cons (.lst .nil) .nil))) (.cons J .nil))) B) true P m σ:=by
 obtain⟨ob,hw⟩:=r.wt
 have E:∀(w:Ad) (j:AH) (b:Addr),D8 j w C->Fr A.T σ w.T j->HV A l w->(l,b)∈w.W->
   F9 .Ed (.ref b) j/\(ev d true (.cons J .nil) Xp).l m (λvs σ=>Ij .Ed (.ref b) vs (λv σ=>notRef v/\ws d Xp B true P m σ) σ) j:=by
  intro w j b I U M G
  have H:=I.W _ G
  exact⟨ec H,ds (hn w j I M.a M.R U) (b7 (ej H (ys:=j' (C.wt l++[n])) (by simp[j']) (by simpa[j']using D)
   ⟨trivial,k w _ (I.GL G (C.wt l++[n])) (U.trans (b8 (by rw[I.tags.W _ G];decide))) M⟩))⟩
 refine cN ?_
 refine DB (fG (bS (ad hs) r.inst rfl) (ft hw) (ds Z (ch (cR cm (SI _) λz hz=>b7 ?_))))
 have r1:=r.made (o:=.list []) hz
 obtain⟨o1,h1⟩:=r1.wt
 refine qR h1 (λv q=>?_) λq=>⟨by simpa using Y,λo'=>?_⟩
 ·obtain⟨b,rfl,G⟩:=CG q
  exact E A _ b r1 (cU hz) (.refl A l) G
 ·have hT:=r.zT hz
  have r2:=r1.HU o' (oh q) (bO _ _ _) hT
  refine E (A.addW l z) _ z r2 (((cU hz).trans (b8 (by rw[r.tags.wt];decide))).tg hz) ⟨rfl,rfl,λp O=>SN _ O,λp O=>?_⟩ (T7 _ (TL _))
  refine cx O (λh=>?_) λh=>?_
  ·exact .inl h
  ·rw[Sx]at h;subst h;exact .inr rfl
def WK(N:Nat)(A:Ad):Prop:=∀p∈A.W,1<=p.1.natAbs/\p.1.natAbs<=N
theorem WK.len(h:WK N A)(j:N<=8)(m:(A.W.map (·.1)).Nodup):A.W.length<=17:=by
 have:=fa 17 ((A.W.map (·.1)).map λx=>x+9) ?_ ?_
 ·simpa using this
 ·rw[Tp,TB]
  exact(Tp.mp m).imp λ{a b} h e=>h (by omega)
 ·intro x q
  refine Ef q λy r=>?_
  refine Ef r λp w=>?_
  exact PS j (h p w)
theorem WK.grow(h:WK N A)(g:HV A l j)(m:1<=l.natAbs/\l.natAbs<=N):WK N j:=λp q=>(g.W' p q).elim (h p) λe=>by rw[e];exact m
theorem EE.at(i:EE N C)(m:C'.kn=C.kn)(q:C'.ht=C.ht)(r:C'.cs=C.cs)(w:C'.lk=C.lk)(A:C'.he=C.he)(j:C'.tr=C.tr):EE N C':=
 ⟨by rw[m,j];exact i.kn,by rw[q,j];exact i.ht,by rw[r,j];exact i.cs,by rw[m];exact i.kk,by rw[q];exact i.kh,by rw[r];exact i.kc,by rw[w];exact i.kl,by rw[A];exact i.ke,by rw[A];exact i.he,by rw[w];exact i.MW,by rw[j];exact i.lit,by rw[j];exact i.nd,i.small⟩
theorem Fr.zero(f:Fr T σ j m)(h:T b=0)(e:σ b=some o):j b=0:=by
 cases q:j b with
 |zero=>rfl
 |succ n=>
  rcases f.new b (by rw[q];exact Ub n)with z|z
  ·exact absurd h z
  ·rw[e]at z;cases z
theorem ey(h:σ a=some (.list xs)):items σ (.ref a)=some xs:=mY h
theorem eA(h:σ a=some o)(h':j a=some o):same σ j (.ref a):=h'.trans h.symm
def Kx(C:Cn)(L:List Int)(u v:Int):Nat->Cn
 |0=>C.Ea (C.rows++[L])
 |1=>(C.Ea (C.rows++[L])).Eo (more C.wt u [C.rows.length])
 |_=>(C.Ea (C.rows++[L])).Eo (more (more C.wt u [C.rows.length]) v [C.rows.length])
inductive N8 (N:Nat) (A:Ad) (σ:AH) (C:Cn) (L:List Int) (u v:Int) (la zs:Addr) (k:Nat) (m:D7) (Eb:AH):Prop
 |mk (A' w) (h0:D8 Eb A' (Kx C L u v k)) (h1:WK N A') (h2:Fr A.T σ A'.T Eb) (h3:A'.a=A.a) (h4:A'.T zs=0) (h5:Eb zs=some (.list [.int u,.int v])) (h6:m=[some (.ref A.a),some (.ref la),w])
theorem dK(h:E1 d σ m x (.int k))(e:k=l):E1 d σ m x (.int l):=e▸h
set_option tactic.hygienic true in
theorem yf(wt:Int->List Nat)(l:Int)(ns:List Nat)(x:Int):(more wt l ns x).length<=(wt x).length+ns.length:=by
 unfold more;split
 ·rename_i e;rw[e];simp
 ·omega
theorem nS(hd:1<=d)(r:D8 σ A C)(wk:WK N A)(hN:N<=8)(aa:σ la=some (.list (g' (u::v::G))))(hT:A.T la=0)(hu:1<=u.natAbs/\u.natAbs<=N)(hv:1<=v.natAbs/\v.natAbs<=N)(hz:C.rows.length<1000000)(hw:∀l,(C.wt l).length<1000000)(ag:G.length<1000):
  D5 d (.ref 189) [.ref A.a,.ref la] (λw q=>w=.int C.rows.length/\∃H,D8 q H ((C.Ea (C.rows++[u::v::G])).Eo (more (more C.wt u [C.rows.length]) v [C.rows.length]))/\WK N H/\Fr A.T σ H.T q/\H.a=A.a) d' σ:=by
 refine cw AS hd (n:=1) rfl ?_
 intro d hd RR
 refine cN ?_
 refine fG (bS (ad rfl) r.inst rfl) (ec r.rs) (ch (BD (ad rfl) (.inl aa) λz O=>b7 ?_))
 have ae:=r.zT O
 have r1:=r.made (o:=.list (g' (u::v::G))) O
 have e1:A.R.map AV.ref++[AV.ref z]=(A.R++[z]).map AV.ref:=by simp
 refine ej r1.rs e1 (by rw[Su,r.len];show _<1048576;omega) ⟨trivial,?_⟩
 have J:=r1.Lp (u::v::G) (bO _ _ _) ae
 have M:=((cU (T:=A.T) (o:=.list (g' (u::v::G))) O).trans (b8 (x:=A.rs) (o:=.list ((A.R++[z]).map .ref)) (by rw[r.tags.rs];decide))).tg (k:=12) O
 have ab:=M.keep la _ hT aa
 refine eG ?_
 refine fS (ad rfl) u' u' ab (lM (n:=2)) λzs Z=>?_
 have af:=J.zT Z
 have r3:=J.made (o:=.list ((g' (u::v::G)).take 2)) Z
 have B:upd (upd (upd σ z (.list (g' (u::v::G)))) A.rs (.list ((A.R++[z]).map .ref))) zs (.list ((g' (u::v::G)).take 2)) zs=some (.list [.int u,.int v]):=bO _ _ _
 have D:∀{k:Nat} {H:Ad} {q:AH} {m:D7},D8 q H (Kx C (u::v::G) u v k)->Em m 0=some (.ref H.a)->E1 d q m (.bin .Sub (.bf .len (.cons (.attr (.var 0) 272 7) .nil)) (.D6 (.int 1))) (.int C.rows.length):=λ{k H q m} Q hm=>
  dK (ee (cH (bS (ad hm) Q.inst rfl) (.inl Q.rs) (k:=C.rows.length+1) (by
   rw[Su,Q.len]
   have:(Kx C (u::v::G) u v k).rows=C.rows++[u::v::G]:=by match k with|0=>rfl|1=>rfl|_+2=>rfl
   rw[this];simp)) u') (by omega)
 refine bU (ey B) ⟨N8 N A σ C (u::v::G) u v la zs,⟨_,none,r3,λp hp=>wk p hp,M.trans (cU Z),rfl,af,B,rfl⟩,?_⟩
 rintro k m q ⟨H,w,Q,U,f',Y,E,I,rfl⟩
 refine⟨eA B I,λhk=>?_,λy hy=>?_⟩
 ·have hk:k=2:=hk
  subst hk
  refine cW (D Q (by rw[Y];rfl)) ⟨rfl,H,Q,U,f',Y⟩
 ·have ac:H.W.length<big:=by have:=U.len hN Q.tags.kW;show _<1048576;omega
  match k,hy with
  |0,hy=>
   cases hy
   refine mG Q ac (by rw[Y];rfl) (ad rfl) (by have:=hw u;show(C.wt u).length<1048576;omega) (λA2 σ2 J h2 j j=>D J (by rw[h2,Y];rfl)) λA2 σ2 J M g2=>?_
   exact⟨A2,_,J,U.grow g2 hu,f'.trans M,g2.a.trans Y,M.zero E I,M.keep _ _ E I,rfl⟩
  |1,hy=>
   cases hy
   refine mG Q ac (by rw[Y];rfl) (ad rfl) (by have:=hw v;have h2:=yf C.wt u [C.rows.length] v;simp at h2;show(more C.wt u [C.rows.length] v).length<1048576;omega) (λA2 σ2 J h2 j j=>D J (by rw[h2,Y];rfl)) λA2 σ2 J M g2=>?_
   exact⟨A2,_,J,U.grow g2 hv,f'.trans M,g2.a.trans Y,M.zero E I,M.keep _ _ E I,rfl⟩
  |k+2,hy=>simp at hy
end
end
section
section
variable {N d n:Nat}
theorem fu(j:1<=d)(r:D8 σ A C)(i:EE N C)(q:l≠0)(hs:Em m 0=some (.ref A.a))(g:E1 d σ m x (.int l)):E1 d σ m (.D3 (.var 0) 272 0 (.cons x .nil)) (ob (sg (lits C.tr) l)):=
 λXp Q p=>pq (ad hs) r.inst (cJ g) rfl (vN j r i q) p
theorem pj:C1 σ .Eq (ob o) (.bool b) (o==some b):=by
 cases o with
 |none=>exact Dy
 |some c=>exact λK p=>lE K (by simpa using p)
theorem CD:C1 σ .NotEq (ob o) (.bool b) (!(o==some b)):=by
 cases o with
 |none=>exact λK p=>gq tS p
 |some c=>exact λK p=>gq BH (by simpa using p)
theorem zZ(g:L1 d σ m as [j,q])(k:∀z,σ z=none->wt d true Xp A j (λm σ=>wt d true Xp B q (λm σ=>ws d Xp r true P m σ) m σ) m (upd σ z (.tup [j,q]))):
  ws d Xp (.cons (.sets [A,B] (.tup as)) r) true P m σ:=⟨rfl,gv g (show 2<=1048576 by decide) λz hz=>bU (w:=[j,q]) (show itemsT (upd σ z (.tup [j,q])) (.ref z)=_ by unfold itemsT;simp only[bO]) ⟨rfl,k z hz⟩⟩
theorem nR(r:List Int)(n:Nat)(x:Int):(g' r).set n (.int x)=g' (r.set n x):=by unfold g';rw[List.map_set]
theorem cP(h:r[n]? =some x):ix (g' r) (n:Int)=some (.int x):=cQ (by unfold g';rw[SG,h];rfl)
theorem bX(r:List Int):(g' r).length=r.length:=by simp[g']
theorem yS{j:Nat}(I:D8 σ A C)(H:A.R[n]? =some b)(E:C.rows[n]? =some q)(g:L1 d σ m as [.int D,.int G])(g0:∀w,E1 d w m (.var 3) (.ref b))(B:Nat)(O:∀w,E1 d w m Q (.int B))(U:∀w,E1 d w m Y (.int j))(h0:B<q.length)(h1:j<q.length)(k:∀w,D8 w A (C.Ea (C.rows.set n ((q.set B D).set j G)))->Fr A.T σ A.T w->ws d Xp r true P m w):
  ws d Xp (.cons (.sets [.item (.var 3) Q,.item (.var 3) Y] (.tup as)) r) true P m σ:=by
 refine zZ g λz hz=>?_
 have r1:=I.made (o:=.tup [.int D,.int G]) hz
 have Z:=r1.R n b q H E
 refine pB (g0 _) (O _) Z (by rw[bX];omega) ?_
 rw[UO,nR]
 have r2:=r1.Jz H (q.set B D)
 refine pB (g0 _) (U _) (bO _ _ _) (by rw[bX,TT];omega) ?_
 rw[UO,nR]
 have J:=r2.Jz H ((q.set B D).set j G)
 have e:(C.Ea (C.rows.set n (q.set B D))).Ea ((C.Ea (C.rows.set n (q.set B D))).rows.set n ((q.set B D).set j G))=C.Ea (C.rows.set n ((q.set B D).set j G)):=by
  show C.Ea ((C.rows.set n (q.set B D)).set n _)=_
  rw[List.set_set]
 rw[e]at J
 have M:A.T b≠0:=by rw[I.tags.R b (Sp H)];decide
 exact k _ J ((cU hz).trans ((b8 M).trans (b8 M)))
theorem ji(C:Cn)(h:C.rows[n]? =some j):C.Ea (C.rows.set n j)=C:=by
 unfold Cn.Ea
 have:C.rows.set n j=C.rows:=by
  obtain⟨q,m⟩:=Sr.mp h
  rw[<-m,List.set_getElem_self]
 rw[this]
theorem xZ{l:List α}:∀{k:Nat} {x y:α},l[k]? =some x->(x::l.set k y).Perm (y::l):=by
 induction l with
 |nil=>exact λh=>(by cases h)
 |cons a l ih=>
  intro k x y h
  cases k with
  |zero=>cases h;exact List.Perm.swap ..
  |succ k=>exact(List.Perm.swap ..).trans ((List.Perm.cons a (ih (k:=k) h)).trans (List.Perm.swap ..))
def Ib(N:Nat)(A:Ad)(σ:AH)(C:Cn)(n:Nat)(B q:Int)(j:List Int)(v:AV)(w:AH):Prop:=
 (v=.bool false/\Step N A σ A (C.Ea (C.rows.set n (B::q::j))) w/\(B∈lits C.tr\/∀l∈j,-l∈lits C.tr))\/
 (v=.bool true/\∃D r m,r∈j/\ -r∉lits C.tr/\(r::m).Perm (q::j)/\
  Step N A σ D ((C.Ea (C.rows.set n (B::r::m))).Eo (more C.wt r [n])) w/\WK N D/\HV A r D)
def Ph(N:Nat)(A:Ad)(σ:AH)(C:Cn)(n:Nat)(B r:Int)(q:List Int)(b D:Addr)(k:Nat)(m:D7)(w:AH):Prop:=
 Step N A σ A (C.Ea (C.rows.set n (B::r::q))) w/\(∀j x,j<k->q[j]? =some x-> -x∈lits C.tr)/\w D=some (.EG 2 (q.length+2))/\∃u,m=[some (.ref A.a),some (.int n),some (.int r),some (.ref b),u]
theorem oP(hd:2<=d)(r:D8 σ A C)(i:EE N C)(wk:WK N A)(H:C.rows[n]? =some (x::y::D))(ah:(x=E/\y=G)\/(x=G/\y=E))(aw:G≠E)(hl:∀l∈x::y::D,1<=l.natAbs/\l.natAbs<=N)(aA:(x::y::D).Nodup)(hw:∀l,(C.wt l).length<1000000)(az:D.length<1000):D5 d (.ref 203) [.ref A.a,.int n,.int E] (Ib N A σ C n G E D) d' σ:=by
 refine cw rk hd (n:=2) rfl ?_
 intro d hd RR
 obtain⟨b,hb⟩:∃b,A.R[n]? =some b:=⟨_,SA (by rw[r.len];exact bQ H)⟩
 have ai:=r.R n b _ hb H
 refine dd (cA (bS (ad rfl) r.inst rfl) (ad rfl) (.inl r.rs) (cQ (by rw[SG,hb];rfl))) ?_
 have aa:∀Y,Step N A σ A (C.Ea (C.rows.set n (G::E::D))) Y->ws d d' i7 true ⟨λB aj=>Ib N A σ C n G E D .none aj,Ib N A σ C n G E D⟩ [some (.ref A.a),some (.int n),some (.int E),some (.ref b),none] Y:=by
  intro Y s
  have al:=bQ H
  have I:(C.Ea (C.rows.set n (G::E::D))).rows[n]? =some (G::E::D):=Ts al
  have am:=s.rep.R n b _ hb I
  have ab:∀z,z∈G::E::D->1<=z.natAbs/\z.natAbs<=N:=λz hz=>hl z (by
   clear RR
   rcases ah with⟨rfl,rfl⟩|⟨rfl,rfl⟩
   ·refine dp hz (λe=>?_) λhz=>?_
    ·rw[e];exact Ss _ Sy
    ·refine dp hz (λe=>?_) λhz=>?_
     ·rw[e];exact Sy
     ·exact Ss _ (Ss _ hz)
   ·exact hz)
  refine co (bR (fu hd s.rep s.inv (by have:=ab G (by simp);omega) rfl (cA (ad rfl) u' (.inl am) (cP (n:=0) rfl))) u' pj) ?_
  refine gl ?_
  intro aB
  by_cases ae:sg (lits C.tr) G=some true
  ·rw[if_pos (by show(sg (lits C.tr) G==some true)=true;rw[ae];rfl)]
   exact cW u' (.inl ⟨rfl,s,.inl (fQ.mp ae)⟩)
  ·rw[if_neg (by show ¬(sg (lits C.tr) G==some true)=true;simpa using ae)]
   refine eG ?_
   refine qE u' (cH (ad rfl) (.inl am) (k:=D.length+2) (by rw[bX];simp;omega)) ⟨sm (n:=2) (by decide),sm (n:=D.length+2) (by omega)⟩ λzr af=>?_
   have M:upd Y zr (.EG 2 (D.length+2)) zr=some (.EG 2 (D.length+2)):=bO _ _ _
   have aC:=s.rep.zT af
   refine bU (w:=EK 2 (D.length+2)) (kR M) ⟨Ph N A σ C n G E D b zr,⟨⟨s.rep.made af,s.inv,s.fr.trans (cU af)⟩,λj x h=>absurd h (UC _),M,none,rfl⟩,?_⟩
   rintro k m aj ⟨s',hk,an,u,rfl⟩
   refine⟨eA M an,λaq=>?_,λy hy=>?_⟩
   ·have aq:k=D.length:=by rw[aq];unfold EK;simp
    exact cW u' (.inl ⟨rfl,s',.inr λl hl=>by
     obtain⟨j,hj⟩:=SQ.mp hl
     exact hk j l (by have:=bQ hj;omega) hj⟩)
   ·obtain⟨hy,ax⟩:y=.int (2+k)/\k<D.length:=by
     unfold EK at hy
     rw[SG]at hy
     cases q:(List.range ((D.length:Int)+2-2).toNat)[k]? with
     |none=>rw[q]at hy;cases hy
     |some j=>
      have h1:=bQ q
      rw[Tj]at h1
      replace h1:=h1
      rw[Un h1]at q
      cases q
      rw[Un h1]at hy
      exact⟨(Option.some.inj hy).symm,Qz (by assumption)⟩
    refine wm ?_
    intro aD aE aF
    subst hy
    obtain⟨J,O⟩:∃J,D[k]? =some J:=⟨_,SA ax⟩
    have ar:=s'.rep.R n b _ hb I
    have ac:((2:Int)+k)=((k+2:Nat):Int):=by omega
    have as:∀Q (r':Q b=some (.list (g' (G::E::D)))),E1 d Q [some (.ref A.a),some (.int n),some (.int E),some (.ref b),some (.int (2+k))] (.sub (.var 3) (.var 4)) (.int J):=λQ r'=>cA (ad rfl) (ad rfl) (.inl r') (by rw[ac];exact cP (by simpa using O))
    have au:=ab J (by simp[Sp O])
    refine co (bR (fu hd s'.rep s'.inv (by omega) rfl (as _ ar)) u' CD) ?_
    by_cases Z:sg (lits C.tr) J=some false
    ·rw[if_neg (by show ¬(!(sg (lits C.tr) J==some false))=true;rw[Z];simp)]
     refine⟨s',λj x hj hx=>?_,an,_,rfl⟩
     by_cases e:j=k
     ·subst e;rw[O]at hx;cases hx;exact(dN i.nd (by omega)).mp Z
     ·exact hk j x (by omega) hx
    ·rw[if_pos (by show(!(sg (lits C.tr) J==some false))=true;simpa using Z)]
     refine(?_:((G::E::D).set 1 J).set (k+2) E=G::J::D.set k E->_) (rfl)
     intro ag
     refine yS (j:=k+2) s'.rep hb I (dc (as _ ar) (ad rfl)) (λB=>ad rfl) 1 (λB=>u') (λB=>ad (by rw[<-ac];rfl)) (by simp) (by simp;omega) λσ2 U f2=>?_
     rw[ag]at U
     replace U:=U
     have e2:(C.Ea (C.rows.set n (G::E::D))).Ea ((C.Ea (C.rows.set n (G::E::D))).rows.set n (G::J::D.set k E))=C.Ea (C.rows.set n (G::J::D.set k E)):=by
      show C.Ea ((C.rows.set n (G::E::D)).set n _)=_
      rw[List.set_set]
     rw[e2]at U
     replace U:=U
     have ay:=U.R n b (G::J::D.set k E) hb (Ts al)
     refine mG U (by have:=wk.len i.small r.tags.kW;show _<1048576;omega) rfl (cA (ad rfl) u' (.inl ay) (cP (n:=1) rfl)) (by have:=hw J;show(C.wt J).length<1048576;omega) (λB B B B B B=>ad rfl) λA' aG r3 f3 g3=>?_
     exact cW u' (.inr ⟨rfl,A',J,D.set k E,Sp O,λh=>Z ((dN i.nd (by omega)).mpr h),xZ O,⟨r3,i.at rfl rfl rfl rfl rfl rfl,s'.fr.trans (f2.trans f3)⟩,wk.grow g3 au,g3⟩)
 refine co (bR (cA (ad rfl) u' (.inl ai) (cP (n:=0) rfl)) (ad rfl) dD) ?_
 rcases ah with⟨rfl,rfl⟩|⟨rfl,rfl⟩
 ·rw[if_pos (by simp)]
  refine yS (j:=1) r hb H (dc (cA (ad rfl) u' (.inl ai) (cP (n:=1) rfl)) (ad rfl)) (λB=>ad rfl) 0 (λB=>u') (λB=>u') (by simp) (by simp) λσ2 U f2=>?_
  exact aa σ2 ⟨U,i.at rfl rfl rfl rfl rfl rfl,f2⟩
 ·rw[if_neg (by simpa using aw)]
  exact aa σ ⟨by rw[ji C H];exact r,by rw[ji C H];exact i,.refl ..⟩
end
end
section
theorem Core.Q1{Mod:(Int->Bool)->Prop}(c:Core N Mod tr bg sn rows)(h:sn<=j)(h':j<=tr.length):Core N Mod tr bg j rows:=
 ⟨⟨c.t.sorted,λb m=>SJ (c.t.Im b m) h,h',c.t.ht,c.t.cs,c.t.dec⟩,c.nd,c.lit,c.G3,c.ent,c.pb⟩
theorem WT.same(w:WT tr rows sn j m)(M:rows[n]? =some r)(G:F5 r x y)(B:F5 N x y):WT tr (rows.set n N) sn j m:=λk s a b C q p e H A he=>by
 rcases eE C with⟨rfl,rfl⟩|⟨_,C⟩
 ·refine w k r a b M ?_ p e H A he
  rcases B with⟨I,J⟩|⟨I,J⟩<;>rcases q with⟨D,E⟩|⟨D,E⟩<;>(rw[I]at D;rw[J]at E;cases D;cases E;first|exact G|exact G.symm)
 ·exact w k s a b C q p e H A he
theorem HB.lt{wt:Int->List Nat}(w:HB rows wt j m)(l:Int):(wt l).length<=rows.length:=
 fU _ _ (w.n l) λn q=>by
  obtain⟨r,h,_⟩:=w.b l n (.inl q)
  exact bQ h
structure Good (N base:Nat) (Mod:(Int->Bool)->Prop) (C:Cn) (sn:Nat) (Hw:Int) (pend:List Nat):Prop where
 core:Core N Mod C.tr C.bg sn C.rows
 HC:HB C.rows C.wt Hw pend
 wt:WT C.tr C.rows sn Hw pend
 news:News base C.rows
 bl:base<=C.rows.length
 bs:base<=100000
theorem Good.rl{Mod:(Int->Bool)->Prop}(g:Good N base Mod C sn j m):C.rows.length<=165536:=by have:=g.news.len;have:=g.bs;omega
theorem Good.wl{Mod:(Int->Bool)->Prop}(g:Good N base Mod C sn j m)(l:Int):(C.wt l).length<=165536:=SJ (g.HC.lt l) g.rl
structure HW (C C':Cn):Prop where
 pr:PR C.rows C'.rows
 bg:C'.bg=C.bg
 pre:∃t,C'.tr=C.tr++t/\∀e∈t,e.cs≠none
 he:C'.he=C.he
 lk:C'.lk=C.lk
 lg:C'.lg=C.lg
 fl:C'.gain=C.gain/\C'.refuted=C.refuted/\C'.bl=C.bl/\C'.clashes=C.clashes/\C'.limit=C.limit
theorem HW.refl(C:Cn):HW C C:=⟨.refl _,rfl,⟨[],by simp,λj h=>(by cases h)⟩,rfl,rfl,rfl,rfl,rfl,rfl,rfl,rfl⟩
theorem HW.trans(x:HW C j)(y:HW j m):HW C m:=
 ⟨x.pr.trans y.pr,y.bg.trans x.bg,(by obtain⟨t,h,h'⟩:=x.pre;exact(by obtain⟨u,k,q⟩:=y.pre;exact⟨t++u,by rw[k,h,Va],λe he=>(Tv.mp he).elim (h' e) (q e)⟩)),y.he.trans x.he,y.lk.trans x.lk,y.lg.trans x.lg,
  y.fl.1.trans x.fl.1,y.fl.2.1.trans x.fl.2.1,y.fl.2.2.1.trans x.fl.2.2.1,y.fl.2.2.2.1.trans x.fl.2.2.2.1,y.fl.2.2.2.2.trans x.fl.2.2.2.2⟩
theorem nH(h:EB N r):∃x y j,r=x::y::j:=by
 have h:=h.two
 cases r with
 |nil=>exact absurd h (by decide)
 |cons x r=>cases r with
  |nil=>exact absurd h (by simp)
  |cons y j=>exact⟨x,y,j,rfl⟩
theorem iy{i:Nat}(h:tr[i]? =some e):e.lit∈lits tr:=cI.mpr ⟨i,e,h,rfl⟩
section
variable {Mod:(Int->Bool)->Prop}
theorem Good.G'(g:Good N base Mod C sn j (n::ns))(A:C.rows[n]? =some r)(B:F5 r q j)(G:(q::j::m).Perm r)(D:q≠j){p0 p1:Nat}{e0 e1:Ent}(g0:C.tr[p0]? =some e0)(l0:e0.lit= -j)(H:C.tr[p1]? =some e1)(I:e1.lit=q)(J:e1.ht<=e0.ht):
  Good N base Mod ((C.Ea (C.rows.set n (q::j::m))).Eo (more C.wt j [n])) sn j ns:=by
 have w:F5 (q::j::m) q j:=.inl ⟨rfl,rfl⟩
 have E:=PR.set A G
 exact⟨g.core.perm E,g.HC.G' A B w D,g.wt.G' g.core.nd A B w D g0 l0 H I J,g.news.perm E,by show base<=(C.rows.set n _).length;rw[TT];exact g.bl,g.bs⟩
theorem Good.prop(g:Good N base Mod C sn j (n::ns))(hs:sn<=C.tr.length)(B:C.rows[n]? =some r)(I:F5 r q j)(O:(q::j::m).Perm r)(J:q≠j){p0:Nat}{e0:Ent}(g0:C.tr[p0]? =some e0)(l0:e0.lit= -j)(Q:e0.ht=C.bg.length)(U:∀l∈m,-l∈lits C.tr)(Y:sg (lits C.tr) q=none):
  Good N base Mod (((C.Ea (C.rows.set n (q::j::m))).Eo (more C.wt j [n])).F0 q (some n)) sn j ns:=by
 have w:F5 (q::j::m) q j:=.inl ⟨rfl,rfl⟩
 have M:=PR.set B O
 have D:=dw.mp Y
 have Z:=g.core.perm M
 have hl: -j∈lits C.tr:=by rw[<-l0];exact iy g0
 have E:(C.rows.set n (q::j::m))[n]? =some (q::j::m):=Ts (bQ B)
 refine⟨Z.prop E Sy (λx A G=>?_) D.1 D.2,g.HC.G' B I w J,?_,g.news.perm M,by show base<=(C.rows.set n _).length;rw[TT];exact g.bl,g.bs⟩
 ·refine dp A (λe=>?_) λA=>?_
  ·exact absurd e G
  ·refine dp A (λe=>?_) λA=>?_
   ·rw[e];exact hl
   ·exact U x A
 ·have w1:=g.wt.snoc hs ⟨q,C.bg.length,some n⟩
  have H:FZ (lits (C.tr++[⟨q,C.bg.length,some n⟩])):=by rw[cX];exact gO g.core.nd D.1 D.2
  exact w1.G' H B I w J (db g0) l0 (p1:=C.tr.length) (e1:=⟨q,C.bg.length,some n⟩) (by simp) rfl (by rw[Q];exact SR _)
theorem Good.moved(g:Good N base Mod C sn j (n::ns))(B:C.rows[n]? =some r)(D:F5 r w j)(I:(w::q::m).Perm r)(J: -q∉lits C.tr)(M: -j∈lits C.tr)(O:j≠0)(E:w≠j)(G:q≠w)(Q:q≠j):
  Good N base Mod ((C.Ea (C.rows.set n (w::q::m))).Eo (more C.wt q [n])) sn j ns:=by
 have A:F5 (w::q::m) w q:=.inl ⟨rfl,rfl⟩
 have H:=PR.set B I
 exact⟨g.core.perm H,g.HC.moved B D A Q G E,g.wt.moved g.core.nd B D A J M O E G,g.news.perm H,by show base<=(C.rows.set n _).length;rw[TT];exact g.bl,g.bs⟩
theorem Good.N9(g:Good N base Mod C (sn+1) j (n::ns))(E:∀b∈C.bg,b<=sn)(A:C.rows[n]? =some r)(B:F5 r q j)(G:(q::j::m).Perm r)(H:q≠j){e0:Ent}(g0:C.tr[sn]? =some e0)(l0:e0.lit= -j):
  Good N base Mod (((C.Ea (C.rows.set n (q::j::m))).Eo (more C.wt j [n])).Eo (more (more C.wt j [n]) j ns)) sn 0 []:=by
 have w:F5 (q::j::m) q j:=.inl ⟨rfl,rfl⟩
 have D:=PR.set A G
 have c:=g.core
 have I:Core N Mod C.tr C.bg sn C.rows:=⟨⟨c.t.sorted,E,by have:=bQ g0;omega,c.t.ht,c.t.cs,c.t.dec⟩,c.nd,c.lit,c.G3,c.ent,c.pb⟩
 exact⟨I.perm D,(g.HC.G' A B w H).rest,(g.wt.cut g.core.nd g0 l0 (SR _)).same A B w,g.news.perm D,by show base<=(C.rows.set n _).length;rw[TT];exact g.bl,g.bs⟩
theorem Good.start(g:Good N base Mod C sn 0 []){e0:Ent}(j:C.tr[sn]? =some e0):Good N base Mod (C.Eo (cleared C.wt (-e0.lit))) (sn+1) (-e0.lit) (C.wt (-e0.lit)):=
 ⟨g.core.Q1 (Us _) (bQ j),g.HC.start _,g.wt.start j (λk s m hs=>by
  rcases g.HC.a k s _ m hs with h|⟨_,h⟩
  ·exact h
  ·cases h),g.news,g.bl,g.bs⟩
end
end
section
section
variable {C:Cn} {N d n base sn:Nat} {Mod:(Int->Bool)->Prop}
inductive Gv (N base:Nat) (Mod:(Int->Bool)->Prop) (A:Ad) (σ:AH) (C:Cn) (v:AV) (Eb:AH):Prop
 |mk (A' C') (h0:Step N A σ A' C' Eb) (h1:A'.a=A.a) (h2:WK N A') (h3:HW C C') (h4:((v=.int (-1)/\Good N base Mod C' C'.seen 0 []/\C'.seen=C'.tr.length)\/∃n r sn,v=.int (n:Nat)/\C'.rows[n]? =some r/\(∀l∈r,-l∈lits C'.tr)/\Good N base Mod C' sn 0 []/\(∀b∈C'.bg,b<=sn)))
inductive Pj (N base:Nat) (Mod:(Int->Bool)->Prop) (A:Ad) (σ:AH) (C:Cn) (k:Nat) (m:D7) (Eb:AH):Prop
 |mk (A' C' u1 u2 u3 u4 u5) (h0:m=[some (.ref A'.a),u1,u2,u3,u4,u5]) (h1:Step N A σ A' C' Eb) (h2:A'.a=A.a) (h3:WK N A') (h4:HW C C') (h5:Good N base Mod C' C'.seen 0 []) (h6:k=N-C'.seen)
inductive Pk (N base:Nat) (Mod:(Int->Bool)->Prop) (A:Ad) (σ:AH) (C:Cn) (sn:Nat) (Hw:Int) (ns:List Nat) (nb st zr:Addr) (k:Nat) (m:D7) (Eb:AH):Prop
 |mk (A' C' e0 u4 u5) (h0:m=[some (.ref A'.a),some (.int Hw),some (.ref nb),some (.ref st),u4,u5]) (h1:Step N A σ A' C' Eb) (h2:A'.a=A.a) (h3:WK N A') (h4:HW C C') (h5:C'.seen=sn+1) (h6:Good N base Mod C' (sn+1) Hw (ns.drop k)) (h7:C'.tr[sn]? =some e0) (h8:e0.lit= -Hw) (h9:(∀b∈C'.bg,b<=sn)) (Pl:(Hw,st)∈A'.W) (P9:A'.T nb=0) (Q2:Eb nb=some (.list (j' ns))) (Q5:A'.T zr=0) (Q6:Eb zr=some (.EG 0 ns.length))
theorem Cm{C n:Nat}(h:(ev d true (.D3 a C n as) Xp).e m (truth λb σ=>if !b then ws d Xp t true ⟨λm σ=>ws d Xp r true P m σ,P.rt⟩ m σ else ws d Xp e true ⟨λm σ=>ws d Xp r true P m σ,P.rt⟩ m σ) σ):
  ws d Xp (.cons (.ite (.not (.D3 a C n as)) t e) r) true P m σ:=h
theorem vf{n x:Nat}(h:r[n]? =some x):ix (j' r) (n:Int)=some (.int x):=cQ (by unfold j';rw[SG,h];rfl)
theorem bZ(r:List Nat):(j' r).length=r.length:=by simp[j']
theorem jN{l:List α}(h:l[k]? =some x):l.drop k=x::l.drop (k+1):=by
 obtain⟨j,m⟩:=Sr.mp h
 rw[Vx j,m]
theorem Mt(m:(EK 0 n)[k]? =some y):y=.int k/\k<n:=by
 unfold EK at m
 rw[SG]at m
 cases q:(List.range ((n:Int)-0).toNat)[k]? with
 |none=>rw[q]at m;cases m
 |some j=>
  have r:=bQ q
  rw[Tj]at r
  rw[Un r]at q
  cases q
  rw[Un r]at m
  have:=Option.some.inj m
  exact⟨by rw[<-this];simp,Ql r⟩
theorem Fr.N'(f:Fr T σ m j):Fr T σ (Mine.tg m z 0) j:=⟨f.keep,λb q=>f.new b λh=>q (by unfold Mine.tg;split<;>first|rfl|exact h),f.there⟩
theorem w4(ht:EV C.tr C.bg sn C.rows)(h:∀b∈C.bg,b<=sn){e0:Ent}(g:C.tr[sn]? =some e0):e0.ht=C.bg.length:=by rw[ht.ht sn e0 g];exact jW h
theorem Hy(ht:EV C.tr C.bg sn C.rows){i:Nat}(g:C.tr[i]? =some e):e.ht<=C.bg.length:=by rw[ht.ht i e g];exact wA _ _
theorem HW.row(C:Cn){m q:List Int}(w:Int->List Nat)(r:C.rows[n]? =some m)(p:q.Perm m):HW C ((C.Ea (C.rows.set n q)).Eo w):=⟨PR.set r p,rfl,⟨[],by simp[Cn.Ea,Cn.Eo],λj h=>(by cases h)⟩,rfl,rfl,rfl,rfl,rfl,rfl,rfl,rfl⟩
theorem HW.F0(C:Cn)(l:Int)(n:Nat):HW C (C.F0 l (some n)):=⟨.refl _,rfl,⟨[_],rfl,λe h=>by rw[Sx]at h;subst h;exact λh=>(by cases h)⟩,rfl,rfl,rfl,rfl,rfl,rfl,rfl,rfl⟩
theorem EB.len(h:EB N r)(j:N<=8):r.length<=17:=by
 have:=fa 17 (r.map λx=>x+9) ?_ ?_
 ·simpa using this
 ·rw[Tp,TB]
  exact(Tp.mp h.nd).imp λ{a b} h e=>h (by omega)
 ·intro x m
  refine Ef m λy q=>?_
  exact PS j (h.lit y q)
theorem rb(hd:2<=d){ns:List Nat}{nb st zr:Addr}(I:Pk N base Mod A σ C sn w ns nb st zr k m ag)(hn:ns[k]? =some n):
  ws d d' g8 true ⟨λm ag=>Pk N base Mod A σ C sn w ns nb st zr (k+1) m ag,Gv N base Mod A σ C⟩ (m.set 4 (some (.int k))) ag:=by
 refine cL ?_
 intro RR YY
 obtain⟨A',C',e0,u4,u5,rfl,s,ha,wk,sp,ah,g,h0,U,hb,J,M,Y,Z,ai⟩:=I
 have aj:1<=d:=by omega
 rw[jN hn]at g
 replace g:=g
 obtain⟨aB,B,al⟩:=g.HC.b w n (.inr ⟨rfl,Sy⟩)
 have O:=g.core.G3 aB (Sp B)
 obtain⟨x,y,E,rfl⟩:=nH O
 obtain⟨G,am⟩:∃G,(x=w/\y=G)\/(x=G/\y=w):=by
  rcases al with h|h
  ·exact⟨y,.inl ⟨Option.some.inj h,rfl⟩⟩
  ·exact⟨x,.inr ⟨rfl,Option.some.inj h⟩⟩
 have hw:F5 (x::y::E) G w:=by
  refine gl ?_
  intro aJ
  rcases am with⟨rfl,rfl⟩|⟨rfl,rfl⟩
  ·exact .inr ⟨rfl,rfl⟩
  ·exact .inl ⟨rfl,rfl⟩
 have h3:G≠w:=hw.ne O.nd
 have D:(G::w::E).Perm (x::y::E):=by
  rcases am with⟨rfl,rfl⟩|⟨rfl,rfl⟩
  ·exact List.Perm.swap ..
  ·exact .refl _
 have ar: -w∈lits C'.tr:=by rw[<-U];exact iy h0
 have as:=O.lit G hw.mem.1
 have aK:=O.lit w hw.mem.2
 refine(?_:_->_) (O.len s.inv.small)
 intro al
 refine(?_:_->_) (bQ h0)
 intro aC
 obtain⟨b,au⟩:∃b,A'.R[n]? =some b:=⟨_,SA (by rw[s.rep.len];exact bQ B)⟩
 have aa:∀{σ2:AH} {u:Option AV},σ2 nb=some (.list (j' ns))->E1 d σ2 [some (.ref A'.a),some (.int w),some (.ref nb),some (.ref st),some (.int k),u] (.sub (.var 2) (.var 4)) (.int n):=λh=>cA (ad rfl) (ad rfl) (.inl h) (vf hn)
 have aL:=g.wl w
 have aD:(ns.drop (k+1)).length<=165536:=by
  have h1:=fU C'.rows.length (n::ns.drop (k+1)) g.HC.np λq hq=>by
   obtain⟨r,h,_⟩:=g.HC.b w q (.inr ⟨rfl,hq⟩)
   exact bQ h
  have h2:=g.rl
  have h3:(n::ns.drop (k+1)).length=(ns.drop (k+1)).length+1:=TK
  omega
 refine Cm (cD (ad rfl) s.rep.inst (dc (aa Y) (ad rfl)) rfl ((oP hd s.rep s.inv wk B am h3 O.lit O.nd (λl=>by have:=g.wl l;omega) (by simp at al;omega)).mono (λv σ2 hv=>?_) λσ h=>h.elim))
 refine gl ?_
 intro aM
 rcases hv with⟨rfl,s2,hq⟩|⟨rfl,A2,nw,aE,aw,aF,hp,s2,aG,gw⟩
 ·show ws d d' fH true _ _ _
  refine(?_:_->_) (s2.fr.keep nb _ M Y)
  intro ax
  have ae:σ2 st=some (.list (j' (C'.wt w))):=s2.rep.W _ J
  refine cN (fG (ad rfl) (ec ae) (ds (aa ax) (b7 (ej ae (ys:=j' (C'.wt w++[n])) (by simp[j']) (by rw[bZ];show _<1048576;omega) ⟨trivial,?_⟩))))
  have r3:D8 (upd σ2 st (.list (j' (C'.wt w++[n])))) A' ((C'.Ea (C'.rows.set n (G::w::E))).Eo (more C'.wt w [n])):=s2.rep.GL J _
  have i3:EE N ((C'.Ea (C'.rows.set n (G::w::E))).Eo (more C'.wt w [n])):=s2.inv.at rfl rfl rfl rfl rfl rfl
  have f3:=s2.fr.trans (b8 (x:=st) (o:=.list (j' (C'.wt w++[n]))) (by rw[s.rep.tags.W _ J];decide))
  have Q:=f3.keep nb _ M Y
  have af:=f3.keep zr _ Z ai
  refine(?_:_->_) (r3.R n b (G::w::E) au (Ts (bQ B)))
  intro an
  have aq:=sp.trans (HW.row C' (more C'.wt w [n]) B D)
  refine dd (cA (cA (bS (ad rfl) r3.inst rfl) (aa Q) (.inl r3.rs) (cQ (by rw[SG,au];rfl))) u' (.inl an) (cP (n:=0) rfl)) ?_
  refine co (bR (fu aj r3 i3 (by omega) rfl (ad rfl)) u' pj) ?_
  by_cases ac:sg (lits C'.tr) G=some false
  ·rw[if_pos (by show(sg (lits C'.tr) G==some false)=true;rw[ac];rfl)]
   show ws d d' eH true _ _ _
   have hm:=(dN g.core.nd (by omega)).mp ac
   refine cN (fG (ad rfl) (ec (bO _ _ _)) (ch (fS (ad rfl) (dK (dE (ad rfl) u') (l:=((k+1:Nat):Int)) (by omega)) u' Q qP λz hz=>b7 ?_)))
   have r4:=r3.made (o:=.list ((j' ns).drop (k+1))) hz
   have ay:upd (upd σ2 st (.list (j' (C'.wt w++[n])))) z (.list ((j' ns).drop (k+1))) st=some (.list (j' (C'.wt w++[n]))):=by
    refine(bP λe=>?_).trans (bO _ _ _)
    rw[<-e,bO]at hz;cases hz
   refine xI ay (bO _ _ _) (zs:=j' (more C'.wt w [n] w++ns.drop (k+1))) (by rw[cK];simp[j']) (by rw[bZ,Vf,bZ];rw[Vf]at aD;simp;show _<=1048576;omega) ⟨trivial,?_⟩
   refine(?_:_->_) (r4.GL J (more C'.wt w [n] w++ns.drop (k+1)))
   intro r5
   have f5:=(f3.trans (cU (T:=A'.T) (o:=.list ((j' ns).drop (k+1))) hz)).trans (b8 (x:=st) (o:=.list (j' (more C'.wt w [n] w++ns.drop (k+1)))) (by rw[s.rep.tags.W _ J];decide))
   refine cW (aa (f5.keep nb _ M Y)) ⟨A',_,⟨r5,i3.at rfl rfl rfl rfl rfl rfl,s.fr.trans f5⟩,ha,wk,aq.trans ⟨.refl _,rfl,⟨[],by simp[Cn.Eo],λj h=>(by cases h)⟩,rfl,rfl,rfl,rfl,rfl,rfl,rfl,rfl⟩,.inr ⟨n,_,sn,rfl,Ts (bQ B),λl hl=>?_,g.N9 hb B hw D h3 h0 U,hb⟩⟩
   refine dp hl (λe=>?_) λhl=>?_
   ·rw[e];exact hm
   ·refine dp hl (λe=>?_) λhl=>?_
    ·rw[e];exact ar
    ·exact(hq.resolve_left λh=>ei g.core.nd h (by omega) hm) l hl
  ·rw[if_neg (by show ¬(sg (lits C'.tr) G==some false)=true;simpa using ac)]
   refine co (bR (fu aj r3 i3 (by omega) rfl (ad rfl)) u' d8) ?_
   have az:=w4 g.core.t (sn:=sn+1)|>λj=>(g.core.t.ht sn e0 h0).trans (jW hb)
   by_cases H:sg (lits C'.tr) G=none
   ·rw[if_pos (by show decide (ob (sg (lits C'.tr) G)=.none)=true;rw[H];rfl)]
    have nn:=dw.mp H
    refine cN (cD (ad rfl) r3.inst (dc (ad rfl) (aa Q)) rfl ((iS aj r3 i3 (c:=some n) as.1 as.2 H).mono (λv aN hv=>⟨by rw[hv.1];trivial,?_⟩) λσ h=>h.elim))
    refine gl ?_
    intro aH
    have s4:=hv.2
    exact⟨A',_,e0,_,_,rfl,⟨s4.rep,s4.inv,s.fr.trans (f3.trans s4.fr)⟩,ha,wk,aq.trans (HW.F0 _ _ _),ah,g.prop aC B hw D h3 h0 U az (hq.resolve_left nn.1) H,db h0,U,hb,J,M,s4.fr.keep nb _ M Q,Z,s4.fr.keep zr _ Z af⟩
   ·rw[if_neg (by show ¬decide (ob (sg (lits C'.tr) G)=.none)=true;cases q:sg (lits C'.tr) G with|none=>exact absurd q H|some b=>simp[ob])]
    have aA:G∈lits C'.tr:=by
     cases q:sg (lits C'.tr) G with
     |none=>exact absurd q H
     |some b=>cases b with
      |false=>exact absurd q ac
      |true=>exact fQ.mp q
    obtain⟨p1,e1,g1,l1⟩:=cI.mp aA
    exact⟨A',_,e0,_,_,rfl,⟨r3,i3,s.fr.trans f3⟩,ha,wk,aq,ah,g.G' B hw D h3 h0 U g1 l1 (by rw[az];exact Hy g.core.t g1),h0,U,hb,J,M,Q,Z,af⟩
 ·skip
  have ab:(G::w::E).Nodup:=D.nodup_iff.mpr O.nd
  rw[Tb,Tb]at ab
  replace ab:=ab
  refine⟨A2,_,e0,_,_,by rw[gw.a];rfl,⟨s2.rep,s2.inv,s.fr.trans s2.fr⟩,gw.a.trans ha,aG,sp.trans (HW.row C' _ B ((List.Perm.cons _ hp).trans D)),ah,g.moved B hw ((List.Perm.cons _ hp).trans D) aF ar (by omega) h3 (λe=>ab.1 (by rw[<-e];exact Ss _ aw)) (λe=>ab.2.1 (by rw[<-e];exact aw)),h0,U,hb,gw.W _ J,s2.fr.zero M Y,s2.fr.keep _ _ M Y,s2.fr.zero Z ai,s2.fr.keep _ _ Z ai⟩
end
end
section
section
variable {Mod:(Int->Bool)->Prop}
theorem dJ(h:(ev d true as Xp).l m (λvs σ=>vs.length<=big/\∀z,σ z=none->Q (.ref z) (upd σ z (.tup vs))) σ):(ev d true (.tup as) Xp).e m Q σ:=h
set_option tactic.hygienic true in
theorem pC{wt:Int->List Nat}(h:wt l=[]):cleared wt l=wt:=by
 funext x;unfold cleared;split
 ·rename_i e;rw[e,h]
 ·rfl
theorem AJ{k:Int}{v:AV}(h:∀p∈kvs,p.1≠k):put kvs k v=kvs++[(k,v)]:=by
 unfold put;rw[if_neg]
 rw[Th]
 rintro⟨p,j,e⟩
 exact h p j (of_decide_eq_true e)
theorem Good.field(g:Good N base Mod C sn j m)(q:Nat)(r:Int)(w:Bool)(A B:Int):Good N base Mod (C.Fu q r w A B) sn j m:=⟨g.core,g.HC,g.wt,g.news,g.bl,g.bs⟩
theorem qW(hd:2<=d){Y B:Ad}{C1:Cn}{G st:Addr}{e0:Ent}(s:Step N A σ Y C1 Q)(ha:Y.a=A.a)(wk:WK N Y)(sp:HW C C1)(g:Good N base Mod C1 C1.seen 0 [])(hk:k=N-C1.seen)(h0:C1.tr[C1.seen]? =some e0)(hl:D= -e0.lit)(hb:∀b∈C1.bg,b<=C1.seen)(Z:D8 E B ((C1.Fu (C1.seen+1) C1.gain C1.refuted C1.clashes C1.limit).Eo (cleared C1.wt D)))(ag:B.a=Y.a)(aa:WK N B)(f4:Fr Y.T Q B.T E)(hW:∀p∈B.W,p.1≠D)(ab:B.T G=0)(ah:E G=some (.list (j' (C1.wt D))))(ai:B.T st=0)(aj:E st=some (.list []))(al:G≠st)(am:Q st=none):
  ws d d' fe true ⟨λm ac=>∃j,j<k/\Pj N base Mod A σ C j m ac,Gv N base Mod A σ C⟩ [some (.ref B.a),some (.int D),some (.ref G),some (.ref st),u4,u5] E:=by
 refine cL ?_
 intro RR YY
 subst hl
 obtain⟨ob,hw⟩:=Z.wt
 have az:B.W.length<=17:=aa.len s.inv.small Z.tags.kW
 have J:=AJ (kvs:=B.W.map λp=>(p.1,AV.ref p.2)) (k:= -e0.lit) (v:=.ref st) λp hp=>by
  refine Ef hp λq hq=>?_
  exact hW q hq
 refine gh (ad rfl) (bS (ad rfl) Z.inst rfl) (ad rfl) hw (by rw[J];simp;show _<=1048576;omega) λo'=>?_
 rw[J]
 have r5:=Z.HU o' hW aj ai
 have an:=s.inv.lit e0.lit (iy h0)
 have f5:Fr Y.T Q (B.addW (-e0.lit) st).T (upd E B.wt (.D0 (B.W.map (λp=>(p.1,AV.ref p.2))++[(-e0.lit,.ref st)]) o')):=(f4.trans (b8 (by rw[Z.tags.wt];decide))).tg am
 have M:(B.addW (-e0.lit) st).T G=0:=by show tg B.T st 13 G=0;unfold tg;rw[if_neg al];exact ab
 have O:upd E B.wt (.D0 (B.W.map (λp=>(p.1,AV.ref p.2))++[(-e0.lit,.ref st)]) o') G=some (.list (j' (C1.wt (-e0.lit)))):=(b8 (T:=B.T) (o:=.D0 (B.W.map (λp=>(p.1,AV.ref p.2))++[(-e0.lit,.ref st)]) o') (by rw[Z.tags.wt];decide)).keep G _ ab ah
 have aF:=g.wl (-e0.lit)
 have aG:=bQ h0
 show ws d d' g6 true _ _ _
 refine eG (gf (cH (ad rfl) (.inl O) (k:=(C1.wt (-e0.lit)).length) (by rw[bZ])) (sm (by omega)) λzr H=>?_)
 have aq:=r5.zT H
 have r6:=r5.made (o:=.EG 0 ((C1.wt (-e0.lit)).length:Int)) H
 have f6:=f5.trans (cU (o:=.EG 0 ((C1.wt (-e0.lit)).length:Int)) H)
 refine bU (w:=EK 0 (C1.wt (-e0.lit)).length) (kR (bO _ _ _)) ⟨Pk N base Mod A σ C C1.seen (-e0.lit) (C1.wt (-e0.lit)) G st zr,?_,?_⟩
 ·refine⟨B.addW (-e0.lit) st,(C1.Fu (C1.seen+1) C1.gain C1.refuted C1.clashes C1.limit).Eo (cleared C1.wt (-e0.lit)),e0,_,_,rfl,⟨r6,s.inv.at rfl rfl rfl rfl rfl rfl,s.fr.trans f6⟩,ag.trans ha,λp hp=>?_,sp.trans ⟨.refl _,rfl,⟨[],by simp[Cn.Fu,Cn.Eo],λr h=>(by cases h)⟩,rfl,rfl,rfl,rfl,rfl,rfl,rfl,rfl⟩,rfl,(g.start h0).field ..,h0,by omega,hb,T7 _ (TL _),M,(cU (T:=(B.addW (-e0.lit) st).T) H).keep G _ M O,aq,bO _ _ _⟩
  refine cx hp (λh=>?_) λh=>?_
  ·exact aa p h
  ·rw[Sx]at h;subst h;show 1<=(-e0.lit).natAbs/\_;rw[S9];exact an
 ·rintro j m' ac I
  have I':=I
  obtain⟨A',C',aH,aJ,aK,hm,s',ar,as,au,ae,U,aw,aA,aL,aB,aC,aD,aE,af⟩:=I
  refine⟨eA (bO _ _ _) af,λhj=>?_,λy hy=>?_⟩
  ·have hj:j=(C1.wt (-e0.lit)).length:=by rw[hj];unfold EK;simp
   subst hj
   rw[Vi]at U
   have ax:=s'.inv.len
   have:=bQ aw
   refine⟨N-C'.seen,by rw[ae,‹k=N-C1.seen›];exact U3 (TP this ax) (Um _),A',C',_,_,_,_,_,hm,s',ar,as,au,?_,rfl⟩
   rw[ae]
   exact⟨U.core,U.HC.fin,U.wt.fin,U.news,U.bl,U.bs⟩
  ·obtain⟨rfl,ay⟩:=Mt hy
   exact rb hd I' (SA ay)
theorem rg(hd:3<=d)(r:D8 σ A C)(i:EE N C)(wk:WK N A)(g:Good N base Mod C C.seen 0 []):D5 d (.ref 196) [.ref A.a] (Gv N base Mod A σ C) d' σ:=by
 refine cw wC hd (n:=5) rfl ?_
 intro d hd RR
 refine mF (Pj N base Mod A σ C) _ ⟨A,C,_,_,_,_,_,rfl,⟨r,i,.refl ..⟩,rfl,wk,.refl C,g,rfl⟩ ?_
 rintro k m E ⟨B,C1,u1,u2,u3,u4,u5,rfl,s,ha,O,sp,g1,hk⟩
 refine⟨decide ((C1.seen:Int)<C1.tr.length),bR (bS (ad rfl) s.rep.inst rfl) (cH (bS (ad rfl) s.rep.inst rfl) (.inl s.rep.ro) (by simp[g'])) pG,λh=>?_,λh=>?_⟩
 ·have h:C1.seen<C1.tr.length:=by have:=of_decide_eq_true h;omega
  obtain⟨e0,h0⟩:∃e,C1.tr[C1.seen]? =some e:=⟨_,SA h⟩
  have ar:=s.inv.lit e0.lit (iy h0)
  refine dd (eP (cA (bS (ad rfl) s.rep.inst rfl) (bS (ad rfl) s.rep.inst rfl) (.inl s.rep.ro) (cP (by rw[SG,h0];rfl)))) ?_
  refine fw (dK (dE (bS (ad rfl) s.rep.inst rfl) u') (l:=((C1.seen+1:Nat):Int)) (by omega)) (ad rfl) s.rep.inst (d9 ..) ?_
  have r2:=s.rep.Fh (C1.seen+1) C1.gain C1.refuted C1.clashes C1.limit
  have f2:Fr B.T E B.T _:=b8 (x:=B.a) (o:=.inst 272 B.dx (Fv B (C1.Fu (C1.seen+1) C1.gain C1.refuted C1.clashes C1.limit))) (by rw[s.rep.tags.a];decide)
  obtain⟨ob,hw⟩:=r2.wt
  show ws d d' hV true _ _ _
  refine⟨rfl,?_⟩
  refine dJ (ch (fG (bS (ad rfl) r2.inst rfl) (ft hw) (ds (ad rfl) (ch (cR cm (SI _) λz1 Q=>b7 ?_)))))
  have U:=r2.made (o:=.list []) Q
  have f3:=f2.trans (cU (o:=.list []) Q)
  have aa:=r2.zT Q
  obtain⟨PY,ai⟩:=U.wt
  have aq:E z1=none:=by
   cases q:E z1 with
   |none=>rfl
   |some o=>exact absurd Q (f2.there z1 (by rw[q];simp))
  have fin:∀(Y:Ad) (G:AH) (H:Addr),D8 G Y ((C1.Fu (C1.seen+1) C1.gain C1.refuted C1.clashes C1.limit).Eo (cleared C1.wt (-e0.lit)))->Y.a=B.a->WK N Y->Fr B.T E Y.T G->(∀p∈Y.W,p.1≠ -e0.lit)->Y.T H=0->G H=some (.list (j' (C1.wt (-e0.lit))))->
    (ev d true (.cons (.lst .nil) .nil) d').l [some (.ref B.a),some (.int (-e0.lit)),u2,u3,u4,u5] (λvs D=>(AV.ref H::vs).length<=big/\∀z,D z=none->Ej (itemsT (upd D z (.tup (AV.ref H::vs))) (.ref z)) λab=>ab.length=[2,3].length/\LK d true d' ([2,3].map .var) ab (λm D=>ws d d' fe true ⟨λm D=>∃j,j<k/\Pj N base Mod A σ C j m D,Gv N base Mod A σ C⟩ m D) [some (.ref B.a),some (.int (-e0.lit)),u2,u3,u4,u5] (upd D z (.tup (AV.ref H::vs)))) G:=by
   intro Y G H U ac aj f3 hW ae Z
   refine ch (cR cm (SI _) λJ I=>b7 ⟨by show 2<=1048576;omega,λzt M=>bU (w:=[AV.ref H,AV.ref J]) (by unfold itemsT;simp only[bO]) ⟨rfl,?_⟩⟩)
   have r4:=U.made (o:=.list []) I
   have r5:=r4.made (o:=.tup [AV.ref H,AV.ref J]) M
   have f4:=(f3.trans (cU (o:=.list []) I)).trans (cU (o:=.tup [AV.ref H,AV.ref J]) M)
   have al:=(cU (T:=Y.T) (o:=.list []) I).trans (cU (o:=.tup [AV.ref H,AV.ref J]) M)
   have am:E J=none:=by
    cases q:E J with
    |none=>rfl
    |some o=>exact absurd I (f3.there J (by rw[q];simp))
   have an:H≠J:=λe=>by rw[e,I]at Z;cases Z
   have af:upd (upd G J (.list [])) zt (.tup [AV.ref H,AV.ref J]) J=some (.list []):=(bP λe=>by rw[<-e,bO]at M;cases M).trans (bO _ _ _)
   have:=qW (u4:=u4) (u5:=u5) hd s ha O sp g1 hk h0 rfl (λb hb=>g1.core.t.Im b hb) r5 ac aj f4 hW ae (al.keep H _ ae Z) (U.zT I) af an am
   rw[ac]at this
   exact this
  refine zp ai (λv q o'=>?_) λq=>?_
  ·obtain⟨b,rfl,hb⟩:=CG q
   have r4:=U.JP o' hb
   have e:del (B.W.map λp=>(p.1,AV.ref p.2)) (-e0.lit)=(B.Lo (-e0.lit) b).W.map λp=>(p.1,AV.ref p.2):=by unfold del;rw[Uo];rfl
   rw[e]
   have ag:B.T b=13:=s.rep.tags.W _ hb
   refine fin (B.Lo (-e0.lit) b) _ b r4 rfl (λp hp=>O p (SO.mp hp).1) ((f3.trans (b8 (by rw[s.rep.tags.wt];decide))).N') (λp hp=>by have:=(SO.mp hp).2;simpa using this) (fO _ _ _) ?_
   refine(bP λe=>?_).trans (U.W _ hb)
   rw[e,s.rep.tags.wt]at ag;cases ag
  ·have hW:=oh q
   have ah:C1.wt (-e0.lit)=[]:=U.W0 _ hW
   refine fin B _ z1 ?_ rfl O f3 hW aa (by rw[bO,ah];rfl)
   rw[pC ah];exact U
 ·have h:¬C1.seen<C1.tr.length:=by have:=of_decide_eq_false h;omega
  refine cW (eP u') ⟨B,C1,s,ha,O,sp,.inl ⟨rfl,g1,by have:=g1.core.t.seen;omega⟩⟩
end
end
section
section
variable {Mod:(Int->Bool)->Prop}
theorem k9(l:List (Int×AV)):∀(m:List (Int×AV)),E0 N m->(∀p∈l,1<=p.1/\p.1<=N)->E0 N (GS m l):=by
 induction l with
 |nil=>exact λj h j=>h
 |cons p l ih=>exact λm h r=>ih (put m p.1 p.2) (h.put (r p Sy)) λq w=>r q (Ss _ w)
theorem xd(l:List (Int×AV)):∀(m:List (Int×AV)) (k:Int),(∀p∈l,∃i,p.2=.int i)->(k∈l.map (·.1)\/∃i,lk m k=some (.int i))->∃i,lk (GS m l) k=some (.int i):=by
 induction l with
 |nil=>exact λj j j h=>h.elim (λh=>(by cases h)) id
 |cons p l ih=>
  intro m k r h
  refine ih (put m p.1 p.2) k (λq w=>r q (Ss _ w)) ?_
  rw[gn]
  by_cases e:k=p.1
  ·rw[if_pos e];obtain⟨i,A⟩:=r p Sy;exact .inr ⟨i,congrArg some A⟩
  ·rw[if_neg e];exact h.imp (λh=>(SH.mp h).resolve_left e) id
def Cn.Hz(C:Cn)(he:List (Int×AV))(j:Int):Cn:=(C.FK he).Fu C.seen j C.refuted C.clashes C.limit
def intOf:AV->Int
 | .int i=>i
 |_=>0
def Ji(he:List (Int×AV))(x:AV):AV:=
 match lk he (intOf x)with
 |some (.int i)=> .int (i/1000000000)
 |_=> .int 0
theorem xp(he:List (Int×AV))(x:AV):∃i,Ji he x=.int i:=by
 unfold Ji
 cases lk he (intOf x)with
 |none=>exact⟨_,rfl⟩
 |some v=>cases v<;>exact⟨_,rfl⟩
theorem Ext.refl(σ:AH):Ext σ σ:=λj j h=>h
theorem Ext.new(h:σ z=none):Ext σ (upd σ z o):=λb o' e=>(bP λq=>by rw[q,h]at e;cases e).trans e
theorem Ext.trans(x:Ext σ j)(y:Ext j m):Ext σ m:=λa o h=>y a o (x a o h)
theorem EE.Hz{he:List (Int×AV)}(i:EE N C)(j:E0 N he)(h:∀v:Int,1<=v->v<=N->∃i,lk he v=some (.int i)):EE N (C.Hz he m):=
 ⟨i.kn,i.ht,i.cs,i.kk,i.kh,i.kc,i.kl,j,h,i.MW,i.lit,i.nd,i.small⟩
theorem vB(Z:1<=d)(r:D8 σ A C)(i:EE N C){v:Int}(H:1<=v/\v<=N):
  D5 d (.ref 208) [.ref A.a,.int v] (λu M=>u=.none/\∃I he ga,Step N A σ I (C.Hz he ga) M/\I.a=A.a/\I.W=A.W/\I.R=A.R) d' σ:=by
 refine cw zR Z (n:=1) rfl ?_
 intro d Z RR
 obtain⟨o1,h1⟩:=r.he
 obtain⟨x,hx⟩:=i.he v H.1 H.2
 refine gh (dE (fF (bS (ad rfl) r.inst rfl) (ad rfl) h1 hx) (bS (ad rfl) r.inst rfl)) (bS (ad rfl) r.inst rfl) (ad rfl) h1 (eF i.ke H i.small) λo2=>?_
 have B:=r.Mq (put C.he v (.int (x+C.gain))) o2
 have G:E0 N (put C.he v (.int (x+C.gain))):=i.ke.put H
 have O:∀u:Int,1<=u->u<=N->∃i,lk (put C.he v (.int (x+C.gain))) u=some (.int i):=λu h h'=>by
  rw[gn];split
  ·exact⟨_,rfl⟩
  ·exact i.he u h h'
 have Q:Fr A.T σ A.T _:=b8 (x:=A.he) (o:=.D0 (put C.he v (.int (x+C.gain))) o2) (by rw[r.tags.he];decide)
 obtain⟨o3,U⟩:=B.he
 refine co (bR (fF (bS (ad rfl) B.inst rfl) (ad rfl) U ((gn _ _ _ _).trans (if_pos rfl))) (cO rfl) fE) ?_
 by_cases hc:x+C.gain>1000000000
 ·rw[if_pos (by simpa using hc)]
  show ws d d' nU true _ _ _
  refine cZ ⟨rfl,(bS (ad rfl) B.inst rfl) _ _ (bU (w:=(put C.he v (.int (x+C.gain))).map λp=> .int p.1) (yA U) ⟨intOf,Ji (put C.he v (.int (x+C.gain))),?_,?_,?_,?_⟩)⟩
  ·intro y E
   refine Ef E λp D=>?_
   exact ad rfl _ _ ⟨rfl,.refl _⟩
  ·intro y E
   refine Ef E λp D=>?_
   obtain⟨j,J⟩:=O p.1 (G.2 p D).1 (G.2 p D).2
   refine j0 (fF (bS (ad rfl) B.inst rfl) (ad rfl) U J) (cO rfl) (by decide) _ _ ⟨?_,.refl _⟩
   unfold Ji;rw[show intOf (.int p.1)=p.1 from rfl,J]
  ·rw[Su];have:=G.len;have:=i.small;show _<=1048576;omega
  ·intro z o4 hz
   have r3:=B.made (o:=.D0 (GS [] (((put C.he v (.int (x+C.gain))).map λp=>AV.int p.1).map λm=>(intOf m,Ji (put C.he v (.int (x+C.gain))) m))) o4) hz
   refine gc (ad rfl) r3.inst (d9 ..) ?_
   have r4:=r3.Ms _ o4 (bO _ _ _) (B.zT hz)
   have Y:σ z=none:=by
    cases q:σ z with
    |none=>rfl
    |some o=>exact absurd hz (Q.there z (by rw[q];simp))
   have f4:=(Q.trans (cU (o:=.D0 (GS [] (((put C.he v (.int (x+C.gain))).map λp=>AV.int p.1).map λm=>(intOf m,Ji (put C.he v (.int (x+C.gain))) m))) o4) hz)).trans (b8 (x:=A.a) (o:=.inst 272 A.dx (Fv (A.FK z) ((C.FK (put C.he v (.int (x+C.gain)))).FK (GS [] (((put C.he v (.int (x+C.gain))).map λp=>AV.int p.1).map λm=>(intOf m,Ji (put C.he v (.int (x+C.gain))) m)))))) (by rw[r.tags.a];decide))|>.tg (k:=10) Y
   refine fw u' (ad rfl) r4.inst (d9 ..) ?_
   have r5:=r4.Fh C.seen 1 C.refuted C.clashes C.limit
   refine⟨rfl,A.FK z,_,1,⟨r5,i.Hz (k9 _ _ ⟨by simp,by simp⟩ λp D=>?_) λu h h'=>xd _ _ u (λp D=>?_) (.inl ?_),f4.trans (b8 (by show tg A.T z 10 A.a≠0;rw[dM (B.zT hz) r.tags.a];decide))⟩,rfl,rfl,rfl⟩
   ·refine Ef D λy E=>?_
    refine Ef E λq hq=>?_
    exact G.2 q hq
   ·refine Ef D λy E=>?_
    exact xp ..
   ·obtain⟨j,J⟩:=O u h h'
    rw[Td,Td]
    exact Te.mpr ⟨_,jp J,rfl⟩
 ·rw[if_neg (by simpa using hc)]
  exact⟨rfl,A,put C.he v (.int (x+C.gain)),C.gain,⟨B,i.Hz G O,Q⟩,rfl,rfl,rfl⟩
theorem i6(m:1<=d)(r:D8 σ A C)(i:EE N C)(he:e∈C.tr)(q:l.natAbs=e.lit.natAbs):D5 d (.ref 222) [.ref A.a,.int l] (λv j=>v=.int e.ht/\j=σ) d' σ:=by
 refine cw rF m (n:=0) rfl ?_
 intro d m B
 obtain⟨o1,w⟩:=r.ht
 exact cW (fF (bS (ad rfl) r.inst rfl) (ef (ad rfl)) w (by rw[q];exact i.ht e he)) ⟨rfl,rfl⟩
end
end
section
section
variable {Mod:(Int->Bool)->Prop}
theorem Ext.at(e:Ext σ j)(h:σ b≠none):j b=σ b:=by
 cases q:σ b with
 |none=>exact absurd q h
 |some o=>exact e b o q
theorem D8.ext(r:D8 σ A C)(e:Ext σ j):D8 j A C:=r.at λy m=>e.at (r.own y m)
theorem Fr.ext(e:Ext σ m):Fr T σ T m:=⟨λb o j h=>e b o h,λb h=> .inl h,λb h=>by rw[e.at h];exact h⟩
theorem Step.ext(s:Step N A σ m C' j)(e:Ext j σ2):Step N A σ m C' σ2:=⟨s.rep.ext e,s.inv,s.fr.trans (Fr.ext e)⟩
def LN(l:List Int)(σ:AH)(v:AV)(j:AH):Prop:=
 Ext σ j/\((v=.none/\∃x∈l,-x∈l)\/∃z ys,v=.ref z/\σ z=none/\j z=some (.tup (g' ys))/\ys.Nodup/\(∀x,x∈ys↔x∈l)/\∀x∈ys,-x∉ys)
inductive Oa (σ:AH) (la:Addr) (l:List Int) (k:Nat) (m:D7) (Eb:AH):Prop
 |mk (fd kvs ob u) (h0:m=[some (.ref la),some (.ref fd),u]) (h1:Ext σ Eb) (h2:σ fd=none) (h3:Eb fd=some (.D0 kvs ob)) (h4:kvs.length<=k) (h5:(kvs.map (·.1)).Nodup) (h6:(∀x:Int,x∈kvs.map (·.1)↔x∈l.take k)) (h7:∀x∈l.take k,-x∉l.take k)
theorem dG{kvs:List (Int×AV)}:(lk kvs k).isSome=true↔k∈kvs.map (·.1):=by
 constructor
 ·intro h
  obtain⟨v,j⟩:=UI.mp h
  exact Te.mpr ⟨_,jp j,rfl⟩
 ·intro h
  obtain⟨v,j⟩:=eZ h
  rw[j];rfl
theorem i8{l:List Int}(h:l[k]? =some x)(y:Int):y∈l.take (k+1)↔y∈l.take k\/y=x:=by rw[lu h,Tv,Sx]
set_option tactic.hygienic true in
theorem wp{k:Int}{v:AV}(h:(kvs.map (·.1)).Nodup):((put kvs k v).map (·.1)).Nodup:=by
 rw[fg]
 split
 ·exact h
 ·rename_i m
  rw[Tn]
  exact⟨h,by simp,λa q b j e=>m (by simp at j;rw[<-j,<-e];exact q)⟩
theorem As{k:Int}:(put kvs k v).length<=kvs.length+1:=by
 unfold put;split<;>simp
theorem gj(h:ys.Perm (ks.map .int)):∃xs:List Int,ys=g' xs/\xs.Perm ks:=by
 have j:∀y∈ys,y=.int (intOf y):=λy m=>by
  obtain⟨k,_,rfl⟩:=Te.mp (h.mem_iff.mp m);rfl
 refine⟨ys.map intOf,?_,?_⟩
 ·unfold g';rw[Td]
  exact(Vk ys).symm.trans (TX j)
 ·have:=h.map intOf
  rw[Td]at this
  exact this.trans (by rw[show(intOf∘AV.int)=id from rfl,Vk])
set_option tactic.hygienic true in
theorem fW(hd:1<=d){D:Addr}{l:List Int}(hl:σ D=some (.list (g' l))\/σ D=some (.tup (g' l)))(hz:l.length<60)(h0:∀x∈l,x≠0):D5 d (.ref 114) [.ref D] (LN l σ) d' σ:=by
 refine cw tD hd (n:=2) rfl ?_
 intro d hd RR
 refine cZ λz o I=>c0 ?_
 show ws d d' Gr true _ _ _
 have e1:Ext σ (upd σ z (.D0 [] o)):=.new I
 have U:upd σ z (.D0 [] o) D=some (.list (g' l))\/upd σ z (.D0 [] o) D=some (.tup (g' l)):=hl.imp (e1 _ _) (e1 _ _)
 have J:∀{j:AH},Ext σ j->j D=σ D:=λe=>e.at (by rcases hl with h|h<;>(rw[h];simp))
 refine eG ((ad rfl) _ _ (bU (w:=g' l) (U.elim mY wW) ⟨Oa σ D l,⟨z,[],o,none,rfl,e1,I,bO _ _ _,SR _,T5,λx=>by simp,λx C=>by simp at C⟩,?_⟩))
 rintro k m j ⟨fd,kvs,ob,u,rfl,e,hf,E,ab,M,r,G⟩
 refine⟨(J e).trans (J e1).symm,λY=>?_,λy B=>?_⟩
 ·have Y:k=l.length:=by rw[Y,bX]
  subst Y
  rw[SW]at r G
  show ws d d' jl true _ _ _
  refine(show(ev d true (.bf .tuple (.cons (.GU (.var 1)) .nil)) d').e _ _ _ from⟨rfl,fX ⟨rfl,(ad rfl) _ _ (bU (w:=g' (kvs.map (·.1))) (by unfold g';rw[Td];exact yA E) ⟨⟨λx C=>?_,?_⟩,λys hp hs z2 Z=>?_⟩)⟩⟩)
  ·refine Ef C λp hp=>?_;trivial
  ·rw[bX,Su];omega
  ·obtain⟨xs,rfl,C⟩:=gj hp
   have e2:=e.trans (Ext.new (o:=.list (g' xs)) Z)
   refine rO (bO _ _ _) λz3 H=>?_
   have hm:∀x,x∈xs↔x∈l:=λx=>C.mem_iff.trans (r x)
   refine⟨e2.trans (.new H),.inr ⟨z3,xs,rfl,?_,bO _ _ _,C.nodup_iff.mpr M,hm,λx h h'=>G x ((hm x).mp h) ((hm _).mp h')⟩⟩
   cases q:σ z3 with
   |none=>rfl
   |some o=>rw[e2 _ _ q]at H;cases H
 ·obtain⟨x,C,rfl⟩:∃x,l[k]? =some x/\y=.int x:=by
   unfold g' at B;rw[SG]at B
   cases q:l[k]? with
   |none=>rw[q]at B;cases B
   |some x=>rw[q]at B;exact⟨x,rfl,(Option.some.inj B).symm⟩
  have N:=Sp C
  have ac:=bQ C
  refine co (bR (eP (ad rfl)) (ad rfl) (yJ E)) ?_
  by_cases Q:(lk kvs (-x)).isSome=true
  ·rw[if_pos Q]
   have:=(r _).mp (dG.mp Q)
   exact cW u' ⟨e,.inl ⟨rfl,x,N,List.mem_of_mem_take this⟩⟩
  ·rw[if_neg Q]
   have O: -x∉l.take k:=λh=>Q (dG.mpr ((r _).mpr h))
   show ws d d' gL true ⟨λm j=>Oa σ D l (k+1) m j,LN l σ⟩ [some (.ref D),some (.ref fd),some (.int x)] j
   have ae:=As (kvs:=kvs) (k:=x) (v:=.bool true)
   refine gh u' (ad rfl) (ad rfl) E (by show _<=1048576;omega) λo'=>?_
   have ho:∀b o,σ b=some o->upd j fd (.D0 (put kvs x (.bool true)) o') b=some o:=λb o h=>(bP λq=>by rw[q,hf]at h;cases h).trans (e b o h)
   refine⟨fd,_,o',_,rfl,ho,hf,bO _ _ _,by omega,wp M,λy=>?_,λy B A=>?_⟩
   ·rw[fg,i8 C]
    split
    ·rename_i aa
     rw[r y]
     exact⟨.inl,λh=>h.elim id λe=>by rw[e];exact(r x).mp aa⟩
    ·rw[Tv,Sx,r y]
   ·rw[i8 C]at B A
    rcases B with B|rfl
    ·rcases A with A|h
     ·exact G y B A
     ·exact O (by rw[<-h,TS];exact B)
    ·rcases A with A|h
     ·exact O A
     ·have:=h0 y N;omega
end
end
end
section
structure F6 (N:Nat) (Mod:(Int->Bool)->Prop) (tr:List Ent) (bg:List Nat) (JQ:Nat) (mk:List Int) (bh:List Int) (op:List Nat) (R:List Int) (G4:Int):Prop where
 OG:∀v∈mk,∃(p:Nat) (e:Ent),tr[p]? =some e/\(e.lit.natAbs:Int)=v/\0<e.ht
 KY:∀p,p∈op↔p<JQ/\∃e,tr[p]? =some e/\e.ht=bg.length/\(e.lit.natAbs:Int)∈mk
 MX:op.Nodup
 Ky:∀l∈bh,(l.natAbs:Int)∈mk/\∃(p:Nat) (e:Ent),tr[p]? =some e/\e.lit= -l/\0<e.ht/\e.ht<bg.length
 bd:FZ bh
 bk:∀(p:Nat) (e:Ent),tr[p]? =some e->(e.lit.natAbs:Int)∈mk->e.ht<bg.length-> -e.lit∈bh
 fl:∀l∈R,l≠G4->∃(p:Nat) (e:Ent),p<JQ/\tr[p]? =some e/\e.lit= -l
 cl:∀β,Mod β->(∃l∈bh,tl β l)\/(∃p∈op,∃e,tr[p]? =some e/\¬tl β e.lit)\/(∃l∈R,l≠G4/\tl β l)
 ne:op≠[]\/∃l∈R,l≠G4/\∃(p:Nat) (e:Ent),tr[p]? =some e/\e.lit= -l/\e.ht=bg.length
 sp:JQ<=tr.length
section
variable {Mod:(Int->Bool)->Prop} {mk bh:List Int}
theorem Dh(hs:bg.Pairwise (·<= ·))(h:HA bg i=0)(m:i<tr.length):i<l0 tr bg:=by
 unfold l0
 cases bg with
 |nil=>exact m
 |cons b bg=>
  show i<b
  have:=(dy hs (i:=i) (j:=0) (b:=b) rfl).mp (by omega)
  exact this
theorem Core.Pm(c:Core N Mod tr bg seen rows){p:Nat}(j:tr[p]? =some e)(h:e.ht=0)(q:Mod m):tl m e.lit:=by
 refine((c.ent m).mp q).2 _ (cE.mpr ⟨p,e,j,?_,rfl⟩)
 exact Dh c.t.sorted (by rw[<-c.t.ht p e j];exact h) (bQ j)
theorem Core.Hy(c:Core N Mod tr bg seen rows){p:Nat}(j:tr[p]? =some e):e.ht<=bg.length:=by rw[c.t.ht p e j];exact wA _ _
theorem Core.nz(c:Core N Mod tr bg seen rows){p:Nat}(j:tr[p]? =some e):e.lit≠0:=by
 have:=c.lit _ (cI.mpr ⟨p,e,j,rfl⟩);omega
theorem Core.uniq(c:Core N Mod tr bg seen rows){p q:Nat}(m:tr[p]? =some e)(j:tr[q]? =some f)(h:e.lit.natAbs=f.lit.natAbs):p=q/\e=f:=by
 have:=eB c.nd m j h
 subst this;rw[m]at j;cases j;exact⟨rfl,rfl⟩
theorem F6.drop(s:F6 N Mod tr bg A mk bh op (l::R) j)(E:l≠j->∀w,Mod w->tl w l->(∃l∈bh,tl w l)\/(∃p∈op,∃e,tr[p]? =some e/\¬tl w e.lit))(G:l≠j->op≠[]\/∀(p:Nat) (e:Ent),tr[p]? =some e->e.lit= -l->e.ht≠bg.length):F6 N Mod tr bg A mk bh op R j:=by
 refine⟨s.OG,s.KY,s.MX,s.Ky,s.bd,s.bk,λx r=>s.fl x (Ss _ r),λw B=>?_,?_,s.sp⟩
 ·rcases s.cl w B with h|h|⟨x,r,m,ht⟩
  ·exact .inl h
  ·exact .inr (.inl h)
  ·refine dp r (λe=>?_) λr=>?_
   ·subst e;exact(E m w B ht).elim .inl λh=> .inr (.inl h)
   ·exact .inr (.inr ⟨x,r,m,ht⟩)
 ·rcases s.ne with h|⟨x,r,m,p,e,C,he,D⟩
  ·exact .inl h
  ·refine dp r (λq=>?_) λr=>?_
   ·subst q
    rcases G m with h|h
    ·exact .inl h
    ·exact absurd D (h p e C he)
   ·exact .inr ⟨x,r,m,p,e,C,he,D⟩
theorem F6.Q7(s:F6 N Mod tr bg j mk bh op (l::R) l):F6 N Mod tr bg j mk bh op R l:=s.drop (λh=>absurd rfl h) (λh=>absurd rfl h)
theorem F6.old(c:Core N Mod tr bg seen rows)(s:F6 N Mod tr bg w mk bh op (l::R) j)(E:(l.natAbs:Int)∈mk):F6 N Mod tr bg w mk bh op R j:=by
 have A:l≠j->(l∈bh)\/∃p∈op,∃e,tr[p]? =some e/\e.lit= -l:=λm=>by
  obtain⟨p,e,B,r,he⟩:=s.fl l Sy m
  have C:(e.lit.natAbs:Int)∈mk:=by rw[he,S9];exact E
  by_cases D:e.ht=bg.length
  ·exact .inr ⟨p,(s.KY p).mpr ⟨B,e,r,D,C⟩,e,r,he⟩
  ·have:=s.bk p e r C (by have:=c.Hy r;omega)
   rw[he,TS]at this;exact .inl this
 refine s.drop (λm J M ht=>?_) λm=>?_
 ·rcases A m with h|⟨p,r,e,he,G⟩
  ·exact .inl ⟨l,h,ht⟩
  ·have:=c.nz he
   exact .inr ⟨p,r,e,he,by rw[G];exact λq=>(d5 (by omega)).mp q ht⟩
 ·rcases A m with h|⟨p,r,_⟩
  ·right
   intro p e r he D
   obtain⟨q,f,H,I,_,O⟩:=(s.Ky l h).2
   have:=(c.uniq r H (by rw[he,I])).2
   subst this;omega
  ·left;intro e;rw[e]at r;cases r
theorem F6.zero(c:Core N Mod tr bg seen rows)(B:bg≠[])(s:F6 N Mod tr bg m mk bh op (l::R) j){p:Nat}(r:tr[p]? =some e)(he:e.lit= -l)(C:e.ht=0):F6 N Mod tr bg m mk bh op R j:=by
 refine s.drop (λw H D ht=>?_) λw=> .inr λq f E G I=>?_
 ·have A:=c.Pm r C D
  have:=c.nz r
  rw[he]at A
  exact absurd ht ((d5 (by omega)).mp A)
 ·have:=(c.uniq r E (by rw[he,G])).2
  subst this
  have:=TY.mpr B
  omega
theorem F6.top(c:Core N Mod tr bg seen rows)(s:F6 N Mod tr bg m mk bh op (l::R) j)(H:l≠j)(U:(l.natAbs:Int)∉mk){p:Nat}(r:tr[p]? =some e)(he:e.lit= -l)(Y:e.ht=bg.length)(Z:0<e.ht):
  F6 N Mod tr bg m (mk++[(l.natAbs:Int)]) bh (p::op) R j:=by
 have D:(e.lit.natAbs:Int)=l.natAbs:=by rw[he,S9]
 have I:p<m:=by
  obtain⟨q,f,A,C,J⟩:=s.fl l Sy H
  rw[(c.uniq r C (by rw[he,J])).1];exact A
 refine⟨λv M=>?_,λq=>?_,?_,λx w=>⟨SN _ (s.Ky x w).1,(s.Ky x w).2⟩,s.bd,λq f C J A=>?_,λx w=>s.fl x (Ss _ w),λβ hM=>?_,.inl (by simp),s.sp⟩
 ·refine cx M (λh=>?_) λh=>?_
  ·exact s.OG v h
  ·rw[Sx]at h;exact⟨p,e,r,by rw[h];exact D,Z⟩
 ·rw[SH,s.KY q]
  constructor
  ·rintro(rfl|⟨O,f,B,Q,E⟩)
   ·exact⟨I,e,r,Y,by rw[D];simp⟩
   ·exact⟨O,f,B,Q,SN _ E⟩
  ·rintro⟨O,f,B,Q,E⟩
   refine cx E (λh=>?_) λh=>?_
   ·exact .inr ⟨O,f,B,Q,h⟩
   ·rw[Sx,<-D]at h
    exact .inl (c.uniq B r (by omega)).1
 ·rw[Tb]
  refine⟨λh=>?_,s.MX⟩
  obtain⟨_,f,B,_,E⟩:=(s.KY p).mp h
  rw[r]at B;cases B
  exact U (by rw[<-D];exact E)
 ·refine cx J (λh=>?_) λh=>?_
  ·exact s.bk q f C h A
  ·rw[Sx,<-D]at h
   have:=(c.uniq C r (by omega)).2
   subst this;omega
 ·rcases s.cl β hM with h|⟨q,C,h⟩|⟨x,w,G,ht⟩
  ·exact .inl h
  ·exact .inr (.inl ⟨q,Ss _ C,h⟩)
  ·refine dp w (λq=>?_) λw=>?_
   ·subst q
    have:=c.nz r
    exact .inr (.inl ⟨p,Sy,e,r,by rw[he];exact λq=>(d5 (by omega)).mp q ht⟩)
   ·exact .inr (.inr ⟨x,w,G,ht⟩)
theorem F6.low(c:Core N Mod tr bg seen rows)(s:F6 N Mod tr bg A mk bh op (l::R) m)(aa:l≠m)(hm:(l.natAbs:Int)∉mk){p:Nat}(w:tr[p]? =some e)(he:e.lit= -l)(U:e.ht≠bg.length)(Y:0<e.ht):
  F6 N Mod tr bg A (mk++[(l.natAbs:Int)]) (bh++[l]) op R m:=by
 have I:(e.lit.natAbs:Int)=l.natAbs:=by rw[he,S9]
 have J:e.ht<bg.length:=by have:=c.Hy w;omega
 refine⟨λv M=>?_,λq=>?_,s.MX,λx j=>?_,?_,λq f B E C=>?_,λx j=>s.fl x (Ss _ j),λβ hM=>?_,?_,s.sp⟩
 ·refine cx M (λh=>?_) λh=>?_
  ·exact s.OG v h
  ·rw[Sx]at h;exact⟨p,e,w,by rw[h];exact I,Y⟩
 ·rw[s.KY q]
  constructor
  ·rintro⟨O,f,G,H,Q⟩
   exact⟨O,f,G,H,SN _ Q⟩
  ·rintro⟨O,f,G,H,Q⟩
   refine cx Q (λh=>?_) λh=>?_
   ·exact⟨O,f,G,H,h⟩
   ·rw[Sx,<-I]at h
    have:=(c.uniq G w (by omega)).2
    subst this;exact absurd H U
 ·refine cx j (λh=>?_) λh=>?_
  ·exact⟨SN _ (s.Ky x h).1,(s.Ky x h).2⟩
  ·rw[Sx]at h;subst h
   exact⟨by simp,p,e,w,he,Y,J⟩
 ·refine T9.mpr ⟨s.bd,Uq ..,λx j y Z=>?_⟩
  rw[Sx]at Z;subst Z
  exact λe=>hm (by rw[<-e];exact(s.Ky x j).1)
 ·refine cx E (λh=>?_) λh=>?_
  ·exact SN _ (s.bk q f B h C)
  ·rw[Sx,<-I]at h
   have:=(c.uniq B w (by omega)).2
   subst this
   rw[he,TS];simp
 ·rcases s.cl β hM with⟨x,j,ht⟩|h|⟨x,j,r,ht⟩
  ·exact .inl ⟨x,SN _ j,ht⟩
  ·exact .inr (.inl h)
  ·refine dp j (λq=>?_) λj=>?_
   ·subst q;exact .inl ⟨x,by simp,ht⟩
   ·exact .inr (.inr ⟨x,j,r,ht⟩)
 ·rcases s.ne with h|⟨x,j,r,q,f,B,E,D⟩
  ·exact .inl h
  ·refine dp j (λg=>?_) λj=>?_
   ·subst g
    have:=(c.uniq w B (by rw[he,E])).2
    subst this;exact absurd D U
   ·exact .inr ⟨x,j,r,q,f,B,E,D⟩
theorem F6.find(c:Core N Mod tr bg seen rows)(s:F6 N Mod tr bg m mk bh op [] r){i:Nat}(D:i<m)(he:tr[i]? =some e)(E:(e.lit.natAbs:Int)∈mk)(w:∀(j:Nat) (f:Ent),i<j->j<m->tr[j]? =some f->(f.lit.natAbs:Int)∉mk):i∈op/\e.ht=bg.length:=by
 have A:op≠[]:=s.ne.elim id λG=>(by obtain⟨_,h,_⟩:=G;cases h)
 obtain⟨q,H⟩:=UK _ A
 obtain⟨I,f,C,J,M⟩:=(s.KY q).mp H
 have B:q<=i:=by
  rcases Ul i q with h|h
  ·exact absurd M (w q f h I C)
  ·exact h
 have:e.ht=bg.length:=by
  have O:=xt bg B
  rw[<-c.t.ht i e he,<-c.t.ht q f C,J]at O
  have:=c.Hy he
  omega
 exact⟨(s.KY i).mpr ⟨D,e,he,this,E⟩,this⟩
theorem F6.done(c:Core N Mod tr bg seen rows)(s:F6 N Mod tr bg w mk bh op [] r){i:Nat}(he:tr[i]? =some e)(B:i∈op)(C:e.ht=bg.length)(D:op.length=1):Ez N Mod tr bg (-e.lit) bh:=by
 have E:op=[i]:=by
  obtain⟨x,rfl⟩:=I0 D
  rw[Sx.mp B]
 refine⟨?_,⟨i,e,he,by rw[TS],C⟩,λl G=>(s.Ky l G).2,λH I=>?_⟩
 ·refine Uc.mpr ⟨λx j q=>?_,s.bd⟩
  obtain⟨p,f,J,m,_,M⟩:=(s.Ky x j).2
  have:=(c.uniq he J (by rw[m,S9,<-q,S9])).2
  subst this;omega
 ·rcases s.cl H I with⟨x,j,ht⟩|⟨q,A,f,m,ht⟩|⟨x,j,_⟩
  ·exact⟨x,Ss _ j,ht⟩
  ·rw[E,Sx]at A;subst A
   rw[he]at m;cases m
   exact⟨-e.lit,Sy,(d5 (c.nz he)).mpr ht⟩
  ·cases j
theorem F6.step(c:Core N Mod tr bg seen rows)(s:F6 N Mod tr bg w mk bh op [] O)(he:tr[i]? =some e)(Q:i∈op)(hh:e.ht=bg.length)(U:op.length≠1)(hb:bg≠[])(Y:∀(j:Nat) (f:Ent),i<j->j<w->tr[j]? =some f->(f.lit.natAbs:Int)∉mk):
  ∃n r,e.cs=some n/\rows[n]? =some r/\F6 N Mod tr bg i mk bh (op.erase i) r e.lit:=by
 have A:=List.length_erase_of_mem Q
 have B:=List.length_pos_of_mem Q
 have C:op.erase i≠[]:=λq=>U (UX (Nat.le_of_sub_eq_zero (by rw[<-A,q];rfl)) B)
 have D:∀p,p∈op.erase i↔p<i/\∃e,tr[p]? =some e/\e.ht=bg.length/\(e.lit.natAbs:Int)∈mk:=λp=>by
  rw[s.MX.mem_erase_iff,s.KY p]
  constructor
  ·rintro⟨U,J,f,m,Z,M⟩
   refine⟨?_,f,m,Z,M⟩
   rcases UN p i with h|h|h
   ·exact h
   ·exact absurd h U
   ·exact absurd M (Y p f h J m)
  ·rintro⟨J,f,m,Z,M⟩
   have:=((s.KY i).mp Q).1
   exact⟨by omega,by omega,f,m,Z,M⟩
 obtain⟨q,hq⟩:=UK _ C
 obtain⟨aa,f,hf,ab,_⟩:=(D q).mp hq
 obtain⟨n,hn⟩:∃n,e.cs=some n:=by
  cases ac:e.cs with
  |some n=>exact⟨n,rfl⟩
  |none=>
   have ae:=TY.mpr hb
   have J:=c.t.dec i e he ac (by omega)
   have m:=(dy c.t.sorted (i:=q) J).mpr aa
   rw[<-c.t.ht q f hf]at m
   exact absurd m (by rw[ab,hh];exact Nat.not_le.mpr (Vu ae (by decide)))
 obtain⟨r,hr,hl,af⟩:=c.t.cs i e n he hn
 refine⟨n,r,hn,hr,s.OG,D,s.MX.erase _,s.Ky,s.bd,s.bk,λx E ag=>?_,λβ hM=>?_,.inl C,TH (bQ he)⟩
 ·obtain⟨p,g,hp,ah,G⟩:=cE.mp (af x E ag)
  exact⟨p,g,ah,hp,G⟩
 ·rcases s.cl β hM with h|⟨p,hp,g,G,ht⟩|⟨x,E,_⟩
  ·exact .inl h
  ·by_cases H:p=i
   ·subst H
    rw[he]at G;cases G
    obtain⟨x,E,I⟩:=((c.ent β).mp hM).1 r (Sp hr)
    exact .inr (.inr ⟨x,E,λq=>ht (by rw[<-q];exact I),I⟩)
   ·exact .inr (.inl ⟨p,s.MX.mem_erase_iff.mpr ⟨H,hp⟩,g,G,ht⟩)
  ·cases E
theorem F6.start(c:Core N Mod tr bg seen rows){r:List Int}(w:r∈rows)(C:∀l∈r,-l∈lits tr)(G:bg≠[]):F6 N Mod tr bg tr.length [] [] [] r 0:=by
 have H:=TY.mpr G
 refine⟨λj h=>(((Tw h).elim)),λp=>⟨λh=>(((Tw h).elim)),λ⟨_,_,_,_,h⟩=>(((Tw h).elim))⟩,T5,λj h=>(((Tw h).elim)),List.Pairwise.nil,λj j j h=>((by cases h)),λl m j=>?_,λI J=>?_,.inr ?_,SR _⟩
 ·obtain⟨p,e,q,he⟩:=cI.mp (C l m)
  exact⟨p,e,bQ q,q,he⟩
 ·obtain⟨x,E,ht⟩:=((c.ent I).mp J).1 r w
  have:=(c.G3 r w).lit x E
  exact .inr (.inr ⟨x,E,by omega,ht⟩)
 ·obtain⟨b,A⟩:∃b,bg[bg.length-1]? =some b:=⟨_,SA (by omega)⟩
  have D:∃l∈r,-l∉lits (tr.take b):=by
   rcases c.pb _ b A r w with⟨l,m,B⟩|⟨l,m,_,_,_,B,_⟩
   ·have M:=(c.G3 r w).lit l m
    exact absurd (C l m) (ei c.nd (cY B) (by omega))
   ·exact⟨l,m,B⟩
  obtain⟨l,m,B⟩:=D
  have M:=(c.G3 r w).lit l m
  obtain⟨p,e,q,he⟩:=cI.mp (C l m)
  refine⟨l,m,by omega,p,e,q,he,?_⟩
  have Q:b<=p:=by
   rcases Ul p b with h|h
   ·exact absurd (cE.mpr ⟨p,e,q,h,he⟩) B
   ·exact h
  have U:=c.Hy q
  have O:¬HA bg p<=bg.length-1:=λh=>by
   have:=(dy c.t.sorted A).mp h
   omega
  rw[<-c.t.ht p e q]at O
  omega
end
end
section
open PySem PySem.W PySem.Calls PyProof.Rows PySem.SeqAt
section
section
variable {N d n base sn:Nat} {Mod:(Int->Bool)->Prop}
theorem Step.G7(s:Step N A σ m C' j)(r:σ x=none)(w:m.T x=0):Step N A σ m C' (upd j x o):=
 ⟨s.rep.at λy B=>bP λe=>B (by rw[e];exact w),s.inv,⟨λb o' h e=>(bP λq=>by rw[q,r]at e;cases e).trans (s.fr.keep b o' h e),s.fr.new,λb h=>by
  unfold upd;split
  ·simp
  ·exact s.fr.there b h⟩⟩
theorem Dq(j:(ev d true a Xp).e m (λv σ=>(ev d true b Xp).e m (λu σ=>GA .Add v u Q σ) σ) σ):(ev d true (.bin .Add a b) Xp).e m Q σ:=j
theorem rX(g:L1 d σ m as [q,A])(k:∀z,σ z=none->ws d Xp r true P ((m.set i (some q)).set j (some A)) (upd σ z (.tup [q,A]))):
  ws d Xp (.cons (.HH [i,j] (.tup as)) r) true P m σ:=⟨rfl,gv g (show 2<=1048576 by decide) λz hz=>bU (w:=[q,A]) (show itemsT (upd σ z (.tup [q,A])) (.ref z)=_ by unfold itemsT;simp only[bO]) ⟨rfl,k z hz⟩⟩
theorem qs{k:Int}{v:AV}(h:k∉kvs.map (·.1)):(put kvs k v).map (·.1)=kvs.map (·.1)++[k]:=by rw[fg,if_neg h]
inductive Kz (N:Nat) (Mod:(Int->Bool)->Prop) (A:Ad) (σ:AH) (C:Cn) (n:Nat) (R:List Int) (JQ:Nat) (G4:Int) (md bd:Addr) (j:Nat) (m:D7) (Eb:AH):Prop
 |mk (A' he ga kvs ob bh op u7 u8) (h0:m=[some (.ref A'.a),some (.int (n:Nat)),some (.ref md),some (.ref bd),some (.int (List.length (α:=Nat) op:Nat)),some (.int (JQ:Nat)),some (.int G4),u7,u8]) (h1:Step N A σ A' (C.Hz he ga) Eb) (h2:A'.a=A.a) (h3:A'.W=A.W) (h4:A'.R=A.R) (h5:A'.T md=0) (h6:Eb md=some (.D0 kvs ob)) (h7:E0 N kvs) (h8:A'.T bd=0) (h9:Eb bd=some (.list (g' bh))) (Pl:F6 N Mod C.tr C.bg JQ (kvs.map (·.1)) bh op (R.drop j) G4)
theorem Step.trans(x:Step N A σ q B j)(y:Step N q j r w m):Step N A σ r w m:=⟨y.rep,y.inv,x.fr.trans y.fr⟩
theorem natLit(h:l= -y)(g:1<=l.natAbs/\l.natAbs<=n):(1:Int)<=(y.natAbs:Int)/\(y.natAbs:Int)<=(n:Int):=by
 subst h;rw[S9]at g;exact⟨US.mpr g.1,US.mpr g.2⟩
theorem F6.bl{mk j:List Int}(s:F6 N Mod tr bg q mk j op R m){seen:Nat}(c:Core N Mod tr bg seen rows):j.length<=N:=by
 have:=fa N (j.map λx=>(x.natAbs:Int)) ?_ ?_
 ·simpa using this
 ·rw[Tp,TB]
  exact s.bd.imp λ{a b} h=>by omega
 ·intro x r
  refine Ef r λy w=>?_
  obtain⟨p,e,A,he,_⟩:=(s.Ky y w).2
  exact natLit he (c.lit e.lit (cI.mpr ⟨p,e,A,rfl⟩))
theorem rn(hd:1<=d)(c:Core N Mod C.tr C.bg sn C.rows)(aq:C.bg≠[]){D:Nat}{B:Int}(ar:σ md=none)(as:σ bd=none)(I:Kz N Mod A σ C n R D B md bd j m E)(hl:R[j]? =some l)(h0:1<=l.natAbs/\l.natAbs<=N):
  ws d d' gZ true ⟨λm E=>Kz N Mod A σ C n R D B md bd (j+1) m E,P⟩ (m.set 7 (some (.int l))) E:=by
 refine cL ?_
 intro RR YY
 obtain⟨A',he,ga,kvs,ob,bh,op,u7,u8,rfl,s,ha,hW,hR,H,J,hk,ab,M,L⟩:=I
 rw[jN hl]at L
 have hv:1<=(l.natAbs:Int)/\(l.natAbs:Int)<=N:=by omega
 refine dd (ef (ad rfl)) ?_
 refine gl ?_
 intro ax
 have fin:∀u,F6 N Mod C.tr C.bg D (kvs.map (·.1)) bh op (R.drop (j+1)) B->Kz N Mod A σ C n R D B md bd (j+1) [some (.ref A'.a),some (.int n),some (.ref md),some (.ref bd),some (.int (op.length:Nat)),some (.int D),some (.int B),some (.int l),u] E:=λu L'=>
  ⟨A',he,ga,kvs,ob,bh,op,_,_,rfl,s,ha,hW,hR,H,J,hk,ab,M,L'⟩
 by_cases hp:l=B
 ·subst hp
  refine co (fY (r:=false) (s:=false) (bR (r:=false) (ad rfl) (ad rfl) (by have:=@jV E l l;simpa using this)) λh=>(by cases h)) ?_
  exact fin _ L.Q7
 ·obtain⟨p,e,ay,O,Q⟩:=L.fl l Sy hp
  obtain⟨o1,h1⟩:=s.rep.ht
  have ac:=s.inv.ht e (Sp O)
  have au:(e.lit.natAbs:Int)=l.natAbs:=by rw[Q,S9]
  rw[au]at ac
  refine co (fY (r:=true) (bR (r:=true) (ad rfl) (ad rfl) (by have:=@jV E l B;rw[show(l==B)=false by simpa using hp]at this;exact this)) λw=>fY (bR (ad rfl) (ad rfl) (ln J)) λw=>bR (fF (bS (ad rfl) s.rep.inst rfl) (ad rfl) h1 ac) u' fE) ?_
  by_cases hm:(lk kvs (l.natAbs:Int)).isSome=true
  ·rw[if_neg (by rw[hm];simp)]
   exact fin _ (L.old c (dG.mp hm))
  ·have ae:(l.natAbs:Int)∉kvs.map (·.1):=λh=>hm (dG.mpr h)
   by_cases hz:e.ht=0
   ·rw[if_neg (by rw[hz];simp)]
    exact fin _ (L.zero c aq O Q hz)
   ·have ai:0<e.ht:=by omega
    rw[if_pos (by simp only[Bool.not_eq_true]at hm;rw[hm];simp;omega)]
    show ws d d' fI true _ _ E
    refine gh u' (ad rfl) (ad rfl) J (eF hk hv s.inv.small) λo2=>?_
    have s2:=s.G7 (o:=.D0 (put kvs l.natAbs (.bool true)) o2) ar H
    have aj:=qs (v:=.bool true) ae
    have al:md≠bd:=λq=>by rw[<-q,J]at M;cases M
    show ws d d' eK true _ _ _
    refine cN (cD (ad rfl) s2.rep.inst (cJ (ad rfl)) rfl ((vB hd s2.rep s2.inv hv).mono (λu aw hu=>⟨by rw[hu.1];trivial,?_⟩) λσ h=>h.elim))
    obtain⟨rfl,A3,af,ag,s3,ah,am,an⟩:=hu
    have s4:Step N A σ A3 (C.Hz af ag) aw:=s2.trans s3
    have U:upd E md (.D0 (put kvs l.natAbs (.bool true)) o2) bd=some (.list (g' bh)):=(bP (Ne.symm al)).trans M
    have Y:=s3.fr.keep md _ H (bO _ _ _)
    have Z:=s3.fr.keep bd _ ab U
    have aa:=s3.fr.zero H (bO _ _ _)
    have G:=s3.fr.zero ab U
    obtain⟨o5,h5⟩:=s4.rep.ht
    rw[<-ah]
    show ws d d' eR true _ _ _
    refine co (bR (fF (bS (ad rfl) s4.rep.inst rfl) (ad rfl) h5 ac) (cH (bS (ad rfl) s4.rep.inst rfl) (.inl s4.rep.bg) (k:=C.bg.length) (by rw[bZ];rfl)) dD) ?_
    by_cases hh:e.ht=C.bg.length
    ·rw[if_pos (by rw[hh];simp)]
     show ws d d' eO true _ _ _
     refine dd (dK (dE (ad rfl) u') (l:=(((p::op).length:Nat):Int)) (by simp)) ?_
     exact⟨A3,af,ag,_,o2,bh,p::op,_,_,rfl,s4,ah.trans ha,am.trans hW,an.trans hR,aa,Y,hk.put hv,G,Z,by rw[aj];exact L.top c hp ae O Q hh ai⟩
    ·rw[if_neg (by simp;omega)]
     show ws d d' eN true _ _ _
     have az:=L.bl c
     have:=s.inv.small
     refine dt (ys:=g' (bh++[l])) (ad rfl) (ad rfl) Z (by simp[g']) (by rw[bX];show _<1048576;omega) ?_
     exact⟨A3,af,ag,_,o2,bh++[l],op,_,_,rfl,s4.G7 as G,ah.trans ha,am.trans hW,an.trans hR,aa,(bP al).trans Y,hk.put hv,G,bO _ _ _,by rw[aj];exact L.low c hp ae O Q hh ai⟩
end
end
section
section
variable {N d n base sn:Nat} {Mod:(Int->Bool)->Prop}
inductive LO (N:Nat) (Mod:(Int->Bool)->Prop) (A:Ad) (σ:AH) (C:Cn) (v:AV) (Eb:AH):Prop
 |mk (A' he ga z u ls) (h0:v=.ref z) (h1:Step N A σ A' (C.Hz he ga) Eb) (h2:A'.a=A.a) (h3:A'.W=A.W) (h4:A'.R=A.R) (h5:σ z=none) (h6:A'.T z=0) (h7:Eb z=some (.list (g' (u::ls)))) (h8:Ez N Mod C.tr C.bg u ls)
inductive Mu (N:Nat) (Mod:(Int->Bool)->Prop) (A:Ad) (σ:AH) (C:Cn) (md bd:Addr) (k:Nat) (m:D7) (Eb:AH):Prop
 |mk (n R G4) (h0:C.rows[n]? =some R) (h1:Kz N Mod A σ C n R k G4 md bd 0 m Eb)
def Pn(q r:Nat)(kvs:List (Int×AV))(tr:List Ent)(B:Int->D7)(w:AH)(k:Nat)(m:D7)(A:AH):Prop:=
 A=w/\m=B k/\q<=k/\k<r/\∀(j:Nat) (f:Ent),k<j->j<r->tr[j]? =some f->(f.lit.natAbs:Int)∉kvs.map (·.1)
theorem rK(hd:1<=d)(c:Core N Mod C.tr C.bg sn C.rows)(ai:C.bg≠[])(aB:σ md=none)(aC:σ bd=none)(I:Mu N Mod A σ C md bd k m aa):
  ws d d' kH true ⟨λm aa=>∃j,j<k/\Mu N Mod A σ C md bd j m aa,LO N Mod A σ C⟩ m aa:=by
 refine cL ?_
 intro RR YY
 refine gl ?_
 intro aT
 obtain⟨n,R,E,hR,A',he,ga,kvs,ob,bh,op,u7,u8,rfl,s,ha,hW,aj,aD,aE,hk,aF,aG,L⟩:=I
 obtain⟨b,hb⟩:∃b,A'.R[n]? =some b:=⟨_,SA (by rw[s.rep.len];exact bQ hR)⟩
 have al:=s.rep.R n b R hb hR
 have aH:=c.G3 R (Sp hR)
 refine eG (cA (bS (ad rfl) s.rep.inst rfl) (ad rfl) (.inl s.rep.rs) (cQ (by rw[SG,hb];rfl)) _ _ (bU (w:=g' R) (ey al) ⟨Kz N Mod A σ C n R k E md bd,⟨A',he,ga,kvs,ob,bh,op,_,_,rfl,s,ha,hW,aj,aD,aE,hk,aF,aG,L⟩,?_⟩))
 intro j m σ2 I2
 refine(?_:_->_) (I2)
 intro aJ
 obtain⟨A2,am,an,D,aK,ab,r,v7,v8,rfl,s2,aq,ar,ac,as,Q,aL,au,aw,J⟩:=I2
 have aM:A2.R[n]? =some b:=by rw[ac,<-aj];exact hb
 refine⟨eA al (s2.rep.R n b R aM hR),λhj=>?_,λy hy=>?_⟩
 ·refine gl ?_
  intro aU
  have hj:j=R.length:=by rw[hj,bX]
  subst hj
  rw[Vi]at J
  replace J:=J
  refine(?_:r≠[]->_) (J.ne.elim id λzz=>(by obtain⟨_,h,_⟩:=zz;exact(by cases h)))
  intro aN
  obtain⟨q,hq⟩:=UK _ aN
  obtain⟨ax,f,hf,aV,aO⟩:=(J.KY q).mp hq
  have aW:=J.sp
  show ws d d' ik true _ _ _
  refine dd (dK (ee (ad rfl) u') (l:=((k-1:Nat):Int)) (p8 (by assumption))) ?_
  show ws d d' hH true _ _ _
  have G:∀{i:Nat} {e:Ent},C.tr[i]? =some e->∀{m:D7},Em m 0=some (.ref A2.a)->Em m 5=some (.int i)->E1 d σ2 m (.sub (.attr (.var 0) 272 3) (.var 5)) (.int e.lit):=λhe m h0 h5=>cA (bS (ad h0) s2.rep.inst rfl) (ad h5) (.inl s2.rep.ro) (cP (by rw[SG];show Option.map Ent.lit (C.tr[_]?)=_;rw[he];rfl))
  refine mF (Pn q k D C.tr (λi=>[some (.ref A2.a),some (.int n),some (.ref md),some (.ref bd),some (.int (r.length:Nat)),some (.int i),some (.int E),v7,v8]) σ2) _ ⟨rfl,rfl,Nat.le_sub_one_of_lt ax,Vu (Ud (SI _) ax) (by decide),λj f h1 h2=>absurd h2 (Nat.not_lt.mpr (Nat.le_of_pred_lt h1))⟩ ?_
  rintro i m ae ⟨rfl,rfl,ay,af,ag⟩
  obtain⟨e,B⟩:∃e,C.tr[i]? =some e:=⟨_,SA (by omega)⟩
  refine⟨_,bR (ef (G B rfl rfl)) (ad rfl) (ln Q),λH=>?_,λhm=>?_⟩
  ·have H:(e.lit.natAbs:Int)∉D.map (·.1):=λh=>by rw[dG.mpr h]at H;cases H
   have U:q≠i:=λh=>by subst h;rw[hf]at B;cases B;exact H aO
   have M:=Nat.lt_of_le_of_ne ay U
   refine dd (dK (ee (ad rfl) u') (l:=((i-1:Nat):Int)) (p8 M)) ?_
   refine⟨i-1,Vu (Ud (SI _) M) (by decide),rfl,rfl,Nat.le_sub_one_of_lt M,Ud (Vv ..) af,λj g h1 h2 hg=>?_⟩
   by_cases h:j=i
   ·clear M U ay
    subst h;rw[B]at hg;cases hg;exact H
   ·exact ag j g (p6 h1 h) h2 hg
  ·refine(?_:(e.lit.natAbs:Int)∈D.map (·.1)->_) (dG.mp (by cases q:(lk D (e.lit.natAbs:Int)).isSome with|true=>rfl|false=>rw[q]at hm;cases hm))
   intro hm
   obtain⟨O,az⟩:=J.find c af B hm ag
   have aS:=List.length_pos_of_mem O
   refine rX (dc (G B rfl rfl) (dK (ee (ad rfl) u') (l:=((r.length-1:Nat):Int)) (p7 (by assumption)))) λz hz=>?_
   have s3:=s2.ext (Ext.new (o:=.tup [.int e.lit,.int ((r.length-1:Nat):Int)]) hz)
   have x3:Ext ae (upd ae z (.tup [.int e.lit,.int ((r.length-1:Nat):Int)])):=.new hz
   refine(?_:_->_) (x3 _ _ Q)
   intro aA
   have Y:=x3 _ _ aw
   refine co (bR (ad rfl) u' dD) ?_
   by_cases h1:r.length=1
   ·rw[if_pos (by rw[h1];rfl)]
    show ws d d' hG true _ _ _
    refine(show(ev d true (.bin .Add (.lst (.cons (.neg (.var 6)) .nil)) (.var 3)) d').e _ _ _ from Dq (cR (cJ (eP (ad rfl))) (show 1<=1048576 by decide) λz2 aP=>(ad rfl) _ _ ?_))
    have x4:Ext _ (upd _ z2 (.list [.int (-e.lit)])):=Ext.new (σ:=upd ae z (.tup [.int e.lit,.int ((r.length-1:Nat):Int)])) aP
    have aX:=J.bl c
    refine gl ?_
    intro aY
    have:=s.inv.small
    refine yG (bO _ _ _) (x4 _ _ Y) (by rw[bX];show 1+_<=1048576;omega) λz5 ah=>?_
    refine(?_:_->_) ((s3.ext x4).ext (Ext.new (o:=.list ([.int (-e.lit)]++g' ab)) ah))
    intro s5
    refine⟨A2,am,an,z5,-e.lit,ab,rfl,s5,aq,ar,ac,?_,(s3.ext x4).rep.zT ah,bO _ _ _,J.done c B O az h1⟩
    cases q:σ z5 with
    |none=>rfl
    |some o=>exact absurd ah ((s3.ext x4).fr.there z5 (by rw[q];simp))
   ·rw[if_neg (by simp;omega)]
    refine gl ?_
    intro aZ
    obtain⟨n',r',aQ,aR,L3⟩:=J.step c B O az h1 ai ag
    obtain⟨o6,h6⟩:=s3.rep.cs
    have Z:=s3.inv.cs e (Sp B)
    rw[aQ]at Z
    show ws d d' iq true _ [some (.ref A2.a),some (.int n),some (.ref md),some (.ref bd),some (.int ((r.length-1:Nat):Int)),some (.int i),some (.int e.lit),v7,v8] _
    refine dd (fF (bS (ad rfl) s3.rep.inst rfl) (ef (ad rfl)) h6 Z) ?_
    refine⟨i,af,n',r',e.lit,aR,A2,am,an,D,aK,ab,r.erase i,v7,v8,?_,s3,aq,ar,ac,as,aA,aL,au,Y,L3⟩
    rw[List.length_erase_of_mem O];rfl
 ·obtain⟨l,hl,rfl⟩:∃l,R[j]? =some l/\y=.int l:=by
   unfold g' at hy;rw[SG]at hy
   cases q:R[j]? with
   |none=>rw[q]at hy;cases hy
   |some x=>rw[q]at hy;exact⟨x,rfl,(Option.some.inj hy).symm⟩
  exact rn hd c ai aB aC aJ hl (aH.lit l (Sp hl))
theorem qT(O:2<=d)(r:D8 σ A C)(i:EE N C)(c:Core N Mod C.tr C.bg sn C.rows)(J:C.bg≠[])(Z:C.rows[n]? =some R)(hf:∀l∈R,-l∈lits C.tr):D5 d (.ref 215) [.ref A.a,.int n] (LO N Mod A σ C) d' σ:=by
 refine cw vm O (n:=7) rfl ?_
 intro d O RR
 refine⟨rfl,?_⟩
 refine dJ (ch (show ∀z o,σ z=none->_ from λE ob B=>ch (cR cm (SI _) λG D=>ds u' (ds (cH (bS (ad rfl) ((r.made B).made D).inst rfl) (.inl ((r.made B).made D).ro) (k:=C.tr.length) (by simp[g'])) (ds u' (b7 ⟨show 5<=1048576 by decide,λzt Q=>bU (w:=[AV.ref E,AV.ref G,.int 0,.int C.tr.length,.int 0]) (by unfold itemsT;simp only[bO]) ⟨rfl,?_⟩⟩))))))
 have U:Ext σ (upd σ E (.D0 [] ob)):=.new B
 have Y:Ext (upd σ E (.D0 [] ob)) (upd (upd σ E (.D0 [] ob)) G (.list [])):=.new D
 have M:Ext (upd (upd σ E (.D0 [] ob)) G (.list [])) (upd (upd (upd σ E (.D0 [] ob)) G (.list [])) zt (.tup [AV.ref E,AV.ref G,.int 0,.int C.tr.length,.int 0])):=.new Q
 have s:Step N A σ A (C.Hz C.he C.gain) (upd (upd (upd σ E (.D0 [] ob)) G (.list [])) zt (.tup [AV.ref E,AV.ref G,.int 0,.int C.tr.length,.int 0])):=⟨((r.ext U).ext Y).ext M,i,Fr.ext ((U.trans Y).trans M)⟩
 have H:σ G=none:=by
  cases q:σ G with
  |none=>rfl
  |some o=>rw[U _ _ q]at D;cases D
 show ws d d' ku true _ _ _
 refine mF (Mu N Mod A σ C E G) C.tr.length ⟨n,R,0,Z,A,C.he,C.gain,[],ob,[],[],_,_,rfl,s,rfl,rfl,rfl,r.zT B,M _ _ (Y _ _ (bO _ _ _)),⟨by simp,by simp⟩,r.zT H,M _ _ (bO _ _ _),F6.start c (Sp Z) hf J⟩ ?_
 intro k m aa I
 exact⟨true,BJ,λj=>rK O c J B H I,λh=>(by cases h)⟩
end
end
section
theorem HB.add{wt:Int->List Nat}(w:HB rows wt 0 [])(q:u≠v):HB (rows++[u::v::G]) (more (more wt u [rows.length]) v [rows.length]) 0 []:=by
 have A:∀(l:Int) (n:Nat),n∈wt l->n<rows.length:=λl n h=>by
  obtain⟨r,h,_⟩:=w.b l n (.inl h)
  exact bQ h
 have B:∀(l:Int) (n:Nat),n∈more (more wt u [rows.length]) v [rows.length] l↔n∈wt l\/((l=u\/l=v)/\n=rows.length):=λl n=>by
  unfold more
  by_cases j:l=v
  ·subst j;rw[if_pos rfl,if_neg (Ne.symm q)];simp
  ·rw[if_neg j]
   by_cases m:l=u
   ·subst m;rw[if_pos rfl];simp
   ·rw[if_neg m];simp[j,m]
 refine⟨λn r l H C=>?_,λl n h=>?_,λl=>?_,T5,λn h=>(by cases h)⟩
 ·left
  rw[B]
  rcases bY H with g|⟨I,J⟩
  ·rcases w.a n r l g C with h|⟨_,h⟩
   ·exact .inl h
   ·cases h
  ·subst J
   refine .inr ⟨?_,I⟩
   rcases C with h|h
   ·exact .inl (Option.some.inj h).symm
   ·exact .inr (Option.some.inj h).symm
 ·rcases h with h|⟨_,h⟩
  ·rcases(B l n).mp h with h|⟨j,m⟩
   ·obtain⟨r,j,m⟩:=w.b l n (.inl h)
    exact⟨r,db j,m⟩
   ·subst m
    refine⟨u::v::G,by simp,?_⟩
    rcases j with rfl|rfl
    ·exact .inl rfl
    ·exact .inr rfl
  ·cases h
 ·unfold more
  have D:∀l,(wt l++[rows.length]).Nodup:=λl=>by
   rw[Tn]
   exact⟨w.n l,by simp,λa M b E e=>by simp at E;subst E;have:=A l a M;omega⟩
  by_cases j:l=v
  ·subst j;rw[if_pos rfl,if_neg (Ne.symm q)];exact D _
  ·rw[if_neg j]
   by_cases m:l=u
   ·subst m;rw[if_pos rfl];exact D _
   ·rw[if_neg m];exact w.n l
section
variable {Mod:(Int->Bool)->Prop}
theorem Good.at(g:Good N base Mod C sn j m)(r:C'.tr=C.tr)(w:C'.bg=C.bg)(q:C'.rows=C.rows)(A:C'.wt=C.wt):Good N base Mod C' sn j m:=
 ⟨by rw[r,w,q];exact g.core,by rw[q,A];exact g.HC,by rw[r,q];exact g.wt,by rw[q];exact g.news,by rw[q];exact g.bl,g.bs⟩
theorem Good.back(g:Good N base Mod C sn 0 [])(q:C.bg[h]? =some b)(hs:b<=sn)(r:C'.tr=C.tr.take b)(w:C'.bg=C.bg.take h)(j:C'.rows=C.rows)(A:C'.wt=C.wt):Good N base Mod C' b 0 []:=by
 have B:=g.core.Gb q
 have m:(C.tr.take b).length=b:=by rw[Tf];omega
 have c:=g.core.back q
 rw[m]at c
 exact⟨by rw[r,w,j];exact c,by rw[j,A];exact g.HC,by rw[r,j];exact g.wt.back g.core.t q hs,by rw[j];exact g.news,by rw[j];exact g.bl,g.bs⟩
theorem Good.IP(J:N<=8)(g:Good N base Mod C sn 0 [])(E:C.bg≠[])(L:Ez N Mod C.tr C.bg u (v::H)){M b:Nat}{ev:Ent}(j:C.tr[M]? =some ev)(m:ev.lit= -v)(q:∀l∈H,∀(p:Nat) (e:Ent),C.tr[p]? =some e->e.lit= -l->e.ht<=ev.ht)(D:C.bg[ev.ht]? =some b)(hs:b<=sn)(I:C'.tr=C.tr.take b++[⟨u,(C.bg.take ev.ht).length,some C.rows.length⟩])(O:C'.bg=C.bg.take ev.ht)(A:C'.rows=C.rows++[u::v::H])(Q:C'.wt=more (more C.wt u [C.rows.length]) v [C.rows.length]):Good N base Mod C' b 0 []:=by
 have U:=g.core.Gb D
 have B:(C.tr.take b).length=b:=by rw[Tf];omega
 have G:(C.bg.take ev.ht).length=ev.ht:=by rw[Tf];have:=bQ D;omega
 have c:=g.core.IP L j m q D
 have w:=WT.IP g.core g.wt L j m D hs C.rows.length
 rw[B]at c w
 have ok:=L.ok g.core
 refine⟨by rw[I,O,A];exact c,?_,by rw[I,A,G];exact w,?_,by rw[A,Sw];have:=g.bl;omega,g.bs⟩
 ·rw[A,Q]
  refine g.HC.add λe=>?_
  have:=ok.nd
  rw[Tb]at this
  exact this.1 (by rw[e];exact Sy)
 ·rw[A]
  exact g.news.add J g.bl g.core.G3 ok λr Y=>L.new g.core E Y
theorem Good.unit(g:Good N base Mod C sn 0 [])(L:Ez N Mod C.tr C.bg u [])(A:C.bg≠[])(r:C.bg[0]? =some b)(hs:b<=sn)(G:C'.tr=C.tr.take b++[⟨u,0,none⟩])(Q:C'.bg=[])(j:C'.rows=C.rows)(U:C'.wt=C.wt):Good N base Mod C' b 0 []/\u∉lits (C.tr.take b)/\ -u∉lits (C.tr.take b):=by
 have Y:=g.core.Gb r
 have m:(C.tr.take b).length=b:=by rw[Tf];omega
 have c:=g.core.back r
 rw[m,Ua]at c
 obtain⟨p,e,w,he,hh⟩:=L.top
 have H:=g.core.lit e.lit (cI.mpr ⟨p,e,w,rfl⟩)
 have I:=TY.mpr A
 have Z:b<=p:=by
  rcases Ul p b with h|h
  ·have:=(dy g.core.t.sorted r).mpr h
   rw[<-g.core.t.ht p e w]at this;omega
  ·exact h
 have J: -u∉lits (C.tr.take b):=λh=>by
  obtain⟨q,f,B,D,E⟩:=cE.mp h
  have:=(g.core.uniq w B (by rw[he,E])).1
  omega
 have M:u∉lits (C.tr.take b):=λh=>by
  obtain⟨q,f,B,D,E⟩:=cE.mp h
  have:=(g.core.uniq w B (by rw[he,E,S9])).1
  omega
 have c2:=c.fact (u:=u) (by rw[he]at H;exact dO H) (λβ hm=>by
  obtain⟨l,O,ht⟩:=L.ent β hm
  rw[Sx]at O;subst O;exact ht) M J
 exact⟨⟨by rw[G,Q,j];exact c2,by rw[j,U];exact g.HC,by rw[G,j];exact(g.wt.back g.core.t r hs).snoc (by omega) _,by rw[j];exact g.news,by rw[j];exact g.bl,g.bs⟩,M,J⟩
end
end
section
section
variable {N d n base sn:Nat} {Mod:(Int->Bool)->Prop}
def Ob(C C':Cn):Prop:=∃h b u cs,C.bg[h]? =some b/\C'.tr=C.tr.take b++[⟨u,h,cs⟩]/\C'.bg=C.bg.take h/\C'.seen=b/\(cs=none->h=0)/\C'.lg.length=C.lg.length+1/\
 C'.refuted=C.refuted/\C'.bl=C.bl/\C'.clashes=C.clashes+1/\C'.limit=C.limit/\((h=0/\C'.rows.length=C.rows.length)\/C'.rows.length=C.rows.length+1)
inductive HX (N base:Nat) (Mod:(Int->Bool)->Prop) (A:Ad) (σ:AH) (C:Cn) (v:AV) (Eb:AH):Prop
 |mk (h0:v=.none) (A' C') (h1:Step N A σ A' C' Eb) (h2:A'.a=A.a) (h3:WK N A') (h4:Good N base Mod C' C'.seen 0 []) (h5:Ob C C')
theorem pc(h:FZ j)(m:∀l∈j,1<=l.natAbs/\l.natAbs<=N):j.length<=N:=by
 have:=fa N (j.map λx=>(x.natAbs:Int)) ?_ ?_
 ·simpa using this
 ·rw[Tp,TB]
  exact h.imp λ{a b} h=>by omega
 ·intro x q
  refine Ef q λy r=>?_
  have:=m y r
  omega
theorem BA(j:(ev d true a Xp).e m (λv σ=>(ev d true b Xp).e m (λu σ=>GA .Add v u Q σ) σ) σ):(ev d true (.bin .Add a b) Xp).e m Q σ:=j
theorem fK(h:T1 d σ m t r)(k:if r then(ev d true a Xp).e m Q σ else(ev d true b Xp).e m Q σ):(ev d true (.ite t a b) Xp).e m Q σ:=h Xp _ k
theorem gG{o C j:Addr}(g:E1 d σ m a (.ref o))(h:σ o=some (.inst C j r))(q:(methTab C)[k]? =some (s,f))(p:(ev d true as Xp).l m (λvs σ=>D5 d (.ref f) (.ref o::vs) Q Xp σ) σ):
  (ev d true (.D3 a C k as) Xp).e m Q σ:=⟨rfl,g Xp _ ⟨gR h,by rw[q];exact p⟩⟩
def JR(ht:List (Int×AV))(x:AV):Int:=
 match lk ht (intOf x).natAbs with
 |some (.int i)=>i
 |_=>0
theorem oj(s:Step N A σ q C' m)(r:q.a=A.a)(w:WK N q)(g:Good N base Mod C' C'.seen 0 [])(l:Ob C C')(B:P.nx=λj m=>HX N base Mod A σ C .none m):
  ws d d' mh true P [some (.ref A.a),some (.int n),u] m:=by
 refine fw (dE (dE (bS (o:=q.a) (ad (by rw[r];rfl)) s.rep.inst rfl) (j0 (bS (o:=q.a) (ad (by rw[r];rfl)) s.rep.inst rfl) u' (by decide))) u') (o:=q.a) (ad (by rw[r];rfl)) s.rep.inst (d9 ..) ?_
 have D:=s.rep.Fh C'.seen (C'.gain+C'.gain/8+1) C'.refuted C'.clashes C'.limit
 show P.nx _ _
 rw[B]
 exact⟨rfl,q,_,⟨D,s.inv.at rfl rfl rfl rfl rfl rfl,s.fr.trans (b8 (by rw[s.rep.tags.a];decide))⟩,r,w,g.at rfl rfl rfl rfl,l⟩
theorem tA(G:1<=d)(U:Step N A σ Y m H)(B:Y.a=A.a)(aa:WK N Y)(g:Good N base Mod C sn 0 [])(hs:∀b∈C.bg,b<=sn)(I:C.bg≠[])(L:Ez N Mod C.tr C.bg u [])(Z:m.tr=C.tr)(J:m.bg=C.bg)(h3:m.rows=C.rows)(h4:m.wt=C.wt)(M:m.lg.length=C.lg.length+1/\m.refuted=C.refuted/\m.bl=C.bl/\m.clashes=C.clashes+1/\m.limit=C.limit)(hz:H z8=some (.list (g' [u])))(hT:Y.T z8=0)(hu:1<=u.natAbs/\u.natAbs<=N):
  ws d d' iO true ⟨λj D=>HX N base Mod A σ C .none D,HX N base Mod A σ C⟩ [some (.ref A.a),some (.int n),some (.ref z8)] H:=by
 refine cL ?_
 intro RR YY
 have w:∀{A':Ad} {D:AH} {x u:Option AV},A'.a=A.a->E1 d D [some (.ref A.a),x,u] (.var 0) (.ref A'.a):=λha=>ad (by rw[ha];rfl)
 have af:=TY.mpr I
 refine cN (cD (w B) U.rep.inst (cJ (fk (r:=false) (bR (r:=false) (cH (ad rfl) (.inl hz) (k:=1) rfl) u' fE) u')) rfl ((fj G U.rep U.inv (by rw[J];exact g.core.t.sorted) (by rw[Z,J];exact λb E=>SJ (g.core.t.Im b E) g.core.t.seen) 0).mono (λv ag O=>⟨by rw[O.1];trivial,?_⟩) λσ h=>h.elim))
 obtain⟨rfl,⟨ab,_⟩|⟨b,z9,kn,ac,E,ah,s9⟩⟩:=O
 ·rw[J]at ab;omega
 rw[J]at E
 have q:=U.trans s9
 have Q:=s9.fr.keep z8 _ hT hz
 obtain⟨g2,n1,n2⟩:=g.unit (C':=((m.backTo kn ac b 0).F0 u none)) L I E (hs b (Sp E)) (by show m.tr.take b++[⟨u,(m.bg.take 0).length,none⟩]=_;rw[Z,Ua];rfl) (by show m.bg.take 0=[];rw[Ua]) h3 h4
 show ws d d' iU true _ _ _
 refine cN (cD (o:=(Y.Es z9).a) (w B) q.rep.inst (dc (cA (ad rfl) u' (.inl Q) (cP (n:=0) rfl)) (fk (r:=false) (bR (r:=false) (cH (ad rfl) (.inl Q) (k:=1) rfl) u' fE) u')) rfl
  ((iS G q.rep q.inv (c:=none) hu.1 hu.2 (dw.mpr (by show u∉lits (m.tr.take b)/\ -u∉lits (m.tr.take b);rw[Z];exact⟨n1,n2⟩))).mono (λv ae O=>⟨by rw[O.1];trivial,?_⟩) λσ h=>h.elim))
 refine oj (q.trans O.2) B aa g2 ⟨0,b,u,none,E,?_,?_,rfl,λj=>rfl,M.1,M.2.1,M.2.2.1,M.2.2.2.1,M.2.2.2.2,.inl ⟨rfl,?_⟩⟩ rfl
 ·show m.tr.take b++[⟨u,(m.bg.take 0).length,none⟩]=_;rw[Z,Ua];rfl
 ·show m.bg.take 0=_;rw[J]
 ·show m.rows.length=_;rw[h3]
theorem uS(M:1<=d){Z:AH}(U:Step N A σ A2 B Z)(G:A2.a=A.a)(aq:WK N A2)(g:Good N base Mod C sn 0 [])(hs:∀b∈C.bg,b<=sn)(ar:C.bg≠[])(L:Ez N Mod C.tr C.bg u (v::O))(h1:B.tr=C.tr)(Y:B.bg=C.bg)(h3:B.rows=C.rows)(h4:B.wt=C.wt)(h5:B.lg.length=C.lg.length+1/\B.refuted=C.refuted/\B.bl=C.bl/\B.clashes=C.clashes+1/\B.limit=C.limit)(hz:Z z8=some (.list (g' (u::v::O))))(hT:A2.T z8=0)(H:∀l∈u::v::O,1<=l.natAbs/\l.natAbs<=N){pv:Nat}{ev:Ent}(ac:C.tr[pv]? =some ev)(ae:ev.lit= -v)(af:ev.ht<C.bg.length)(ag:∀l∈O,∀(p:Nat) (e:Ent),C.tr[p]? =some e->e.lit= -l->e.ht<=ev.ht):
  ws d d' iO true ⟨λj E=>HX N base Mod A σ C .none E,HX N base Mod A σ C⟩ [some (.ref A.a),some (.int n),some (.ref z8)] Z:=by
 refine cL ?_
 intro RR YY
 have D:∀{A':Ad} {E:AH} {x u:Option AV},A'.a=A.a->E1 d E [some (.ref A.a),x,u] (.var 0) (.ref A'.a):=λha=>ad (by rw[ha];rfl)
 have hN:=U.inv.small
 have hu:=H u Sy
 have as:=H v (Ss _ Sy)
 have ah:=pc L.dist H
 have I:∀{E:AH},E z8=some (.list (g' (u::v::O)))->T1 d E [some (.ref A.a),some (.int n),some (.ref z8)] (.cmp .Gt (.bf .len (.cons (.var 2) .nil)) (.D6 (.int 1))) true:=λh=>by
  have:=bR (m:=[some (.ref A.a),some (.int n),some (.ref z8)]) (cH (d:=d) (a:=.var 2) (ad rfl) (.inl h) (k:=((u::v::O).length:Nat)) (by rw[bX])) (u' (v:=.int 1)) fE
  rw[show decide (((u::v::O).length:Int)>1)=true from decide_eq_true (by simp only[TK];omega)]at this
  exact this
 have ai:v.natAbs=ev.lit.natAbs:=by rw[ae,S9]
 refine cN (cD (D G) U.rep.inst (cJ (fk (r:=true) (I hz) (λXp Q q=>pq (D G) U.rep.inst (cJ (cA (ad rfl) u' (.inl hz) (cP (n:=1) rfl))) rfl (i6 M U.rep U.inv (by rw[h1];exact Sp ac) ai) q))) rfl ((fj M U.rep U.inv (by rw[Y];exact g.core.t.sorted) (by rw[h1,Y];exact λb hb=>SJ (g.core.t.Im b hb) g.core.t.seen) ev.ht).mono (λv aD hv=>⟨by rw[hv.1];trivial,?_⟩) λσ h=>h.elim))
 obtain⟨rfl,⟨au,_⟩|⟨b,z9,kn,aj,hb,aE,s9⟩⟩:=hv
 ·rw[Y]at au;omega
 rw[Y]at hb
 have J:=U.trans s9
 have aa:=s9.fr.keep z8 _ hT hz
 have aw:=s9.fr.zero hT hz
 have ax:(C.bg.take ev.ht).length=ev.ht:=by rw[Tf];omega
 have g2:=g.IP (C':=((((B.backTo kn aj b ev.ht).Ea (B.rows++[u::v::O])).Eo (more (more B.wt u [B.rows.length]) v [B.rows.length])).F0 u (some B.rows.length))) hN ar L ac ae ag hb (hs b (Sp hb))
  (by show B.tr.take b++[⟨u,(B.bg.take ev.ht).length,some B.rows.length⟩]=_;rw[h1,Y,h3]) (by show B.bg.take ev.ht=_;rw[Y]) (by show B.rows++[u::v::O]=_;rw[h3]) (by show more (more B.wt u [B.rows.length]) v [B.rows.length]=_;rw[h3,h4])
 have ay:u∉lits (C.tr.take b)/\ -u∉lits (C.tr.take b):=by
  obtain⟨p,e,hp,he,hh⟩:=L.top
  have aF:b<=p:=by
   rcases Ul p b with h|h
   ·have:=(dy g.core.t.sorted hb).mpr h
    rw[<-g.core.t.ht p e hp]at this;omega
   ·exact h
  constructor
  ·intro h
   obtain⟨q,f,hq,af,hf⟩:=cE.mp h
   have:=(g.core.uniq hp hq (by rw[he,hf,S9])).1
   omega
  ·intro h
   obtain⟨q,f,hq,af,hf⟩:=cE.mp h
   have:=(g.core.uniq hp hq (by rw[he,hf])).1
   omega
 show ws d d' iU true _ _ _
 refine cN (gG (o:=(A2.Es z9).a) (D G) J.rep.inst rfl (ds (cA (ad rfl) u' (.inl aa) (cP (n:=0) rfl)) (fX (fK (I aa) ?_))))
 rw[if_pos rfl]
 refine cD (o:=(A2.Es z9).a) (D G) J.rep.inst (cJ (ad rfl)) rfl ((nS M J.rep (λp hp=>aq p hp) hN aa aw hu as (by show B.rows.length<_;rw[h3];have:=g.rl;omega) (λl=>by show(B.wt l).length<_;rw[h4];have:=g.wl l;omega) (by simp at ah;omega)).mono (λw al hw=>?_) λσ h=>h.elim)
 obtain⟨rfl,A3,az,aA,aB,am⟩:=hw
 have ab:Step N A σ A3 (((B.backTo kn aj b ev.ht).Ea (B.rows++[u::v::O])).Eo (more (more B.wt u [B.rows.length]) v [B.rows.length])) al:=⟨az,J.inv.at rfl rfl rfl rfl rfl rfl,J.fr.trans aB⟩
 have an:A3.a=A.a:=am.trans G
 have e:(A2.Es z9).a=A3.a:=am.symm
 rw[e]
 refine(iS M ab.rep ab.inv (c:=some B.rows.length) hu.1 hu.2 (dw.mpr (by show u∉lits (B.tr.take b)/\ -u∉lits (B.tr.take b);rw[h1];exact ay))).mono (λv aC hv=>⟨by rw[hv.1];trivial,?_⟩) λσ h=>h.elim
 refine oj (ab.trans hv.2) an aA g2 ⟨ev.ht,b,u,some B.rows.length,hb,?_,?_,rfl,(λh=>(by cases h)),h5.1,h5.2.1,h5.2.2.1,h5.2.2.2.1,h5.2.2.2.2,.inr ?_⟩ rfl
 ·show B.tr.take b++[⟨u,(B.bg.take ev.ht).length,some B.rows.length⟩]=_;rw[h1,Y,ax]
 ·show B.bg.take ev.ht=_;rw[Y]
 ·show(B.rows++[_]).length=_;rw[h3];simp
theorem tU(hd:3<=d)(r:D8 σ A C)(i:EE N C)(wk:WK N A)(g:Good N base Mod C sn 0 [])(hs:∀b∈C.bg,b<=sn)(M:C.bg≠[])(hR:C.rows[n]? =some R)(hf:∀l∈R,-l∈lits C.tr)(aJ:C.lg.length<1000000):
  D5 d (.ref 229) [.ref A.a,.int n] (HX N base Mod A σ C) d' σ:=by
 refine cw yb hd (n:=1) rfl ?_
 intro d an RR
 have ab:1<=d:=by omega
 refine fw (dE (bS (ad rfl) r.inst rfl) u') (ad rfl) r.inst (d9 ..) ?_
 have r1:=r.Fh C.seen C.gain C.refuted (C.clashes+1) C.limit
 have i1:EE N (C.Fu C.seen C.gain C.refuted (C.clashes+1) C.limit):=i.at rfl rfl rfl rfl rfl rfl
 refine(?_:Step N A σ A (C.Fu C.seen C.gain C.refuted (C.clashes+1) C.limit) _->_) (⟨r1,i1,b8 (by rw[r.tags.a];decide)⟩)
 intro s1
 refine co (bR (cH (bS (ad rfl) r1.inst rfl) (.inl r1.bg) (k:=C.bg.length) (by rw[bZ];rfl)) u' dD) ?_
 rw[if_neg (by simpa using M)]
 refine cZ (cD (ad rfl) r1.inst (cJ (ad rfl)) rfl ((qT an r1 i1 g.core M hR hf).mono (λv σ2 hv=>c0 ?_) λσ h=>h.elim))
 obtain⟨A2,he,ga,z,u,D,rfl,aA,O,aB,aK,aL,aC,aq,L⟩:=hv
 have Y:=s1.trans aA
 have B:∀l∈u::D,1<=l.natAbs/\l.natAbs<=N:=λl E=>dO (g.core.lit _ (L.neg E))
 have G:=pc L.dist B
 have hN:=i.small
 have ar:WK N A2:=λp I=>wk p (by rw[<-aB];exact I)
 have Z:∀{A':Ad} {as:AH} {x u:Option AV},A'.a=A.a->E1 d as [some (.ref A.a),x,u] (.var 0) (.ref A'.a):=λha=>ad (by rw[ha];rfl)
 refine cN (fG (bS (Z O) Y.rep.inst rfl) (ec Y.rep.lg) (ch (dq (cO rfl) (cJ (ad rfl)) ((fW ab (.inl aq) (by omega) λx hx=>by have:=B x hx;omega).mono (λv ac hv=>b7 (ej (Y.rep.ext hv.1).lg rfl (by show C.lg.length<1048576;omega) ⟨trivial,?_⟩)) λσ h=>h.elim))))
 have r4:=(Y.rep.ext hv.1).Ku (C.lg++[v])
 have s4:Step N A σ A2 ((((C.Fu C.seen C.gain C.refuted (C.clashes+1) C.limit).Hz he ga)).HT (C.lg++[v])) _:=⟨r4,Y.inv.at rfl rfl rfl rfl rfl rfl,(Y.ext hv.1).fr.trans (b8 (by rw[Y.rep.tags.lg];decide))⟩
 have ae:upd ac A2.lg (.list (C.lg++[v])) z=some (.list (g' (u::D))):=(b8 (T:=A2.T) (x:=A2.lg) (o:=.list (C.lg++[v])) (by rw[Y.rep.tags.lg];decide)).keep z _ aC (hv.1 _ _ aq)
 show ws d d' lv true _ _ (upd ac A2.lg (.list (C.lg++[v])))
 generalize upd ac A2.lg (.list (C.lg++[v]))=af at r4 s4 ae⊢
 generalize m:(((C.Fu C.seen C.gain C.refuted (C.clashes+1) C.limit).Hz he ga)).HT (C.lg++[v])=J at r4 s4
 refine cZ (BA (fS (ad rfl) u' u' ae (lM (n:=1)) λz5 ag=>⟨rfl,fS (ad rfl) u' u' (Ext.new ag _ _ ae) (qP (n:=1)) λz6 ah=>(Z O) _ _ ⟨?_,?_⟩⟩))
 ·exact gR ((r4.made ag).made ah).inst
 have s6:=(s4.ext (Ext.new (o:=.list ((g' (u::D)).take 1)) ag)).ext (Ext.new (o:=.list ((g' (u::D)).drop 1)) ah)
 refine(?_:upd (upd af z5 (.list ((g' (u::D)).take 1))) z6 (.list ((g' (u::D)).drop 1)) z5=some (.list [.int u])->_) (Ext.new ah _ _ (bO _ _ _))
 intro au
 have aw:∀l∈D,∃(p:Nat) (e:Ent),C.tr[p]? =some e/\e.lit= -l/\0<e.ht/\e.ht<C.bg.length/\JR J.ht (.int l)=e.ht:=λl E=>by
  obtain⟨p,e,I,Q,h1,h2⟩:=L.low l E
  refine⟨p,e,I,Q,h1,h2,?_⟩
  have:=s6.inv.ht e (by rw[<-m];exact Sp I)
  rw[Q,S9]at this
  delta JR intOf;rw[this]
 refine bU (w:=g' D) (ey (bO _ _ _)) ⟨JR J.ht,⟨by rw[bX];simp at G;omega,by omega,λx hx=>?_⟩,λys I ai z7 aj=>?_⟩
 ·refine Ef hx λl E=>?_
  obtain⟨p,e,I,Q,_,_,hh⟩:=aw l E
  rw[hh]
  exact(i6 (Nat.le_sub_of_add_le an) s6.rep s6.inv (by rw[<-m];exact Sp I) (by rw[Q,S9])).mono (λv as h=>⟨h.1,by rw[h.2];exact Ext.refl _⟩) λσ h=>h
 obtain⟨j,rfl,U⟩:=gj I
 have L':=L.perm U
 have al:(u::j).length<=N:=by simp at G⊢;rw[U.length_eq];exact G
 refine yG (Ext.new aj _ _ au) (bO _ _ _) (by rw[bX];simp at al⊢;show _<=1048576;omega) λz8 ax=>c0 ?_
 have s8:=(s6.ext (Ext.new (o:=.list (g' j)) aj)).ext (Ext.new (o:=.list ([.int u]++g' j)) ax)
 have H:upd (upd (upd (upd af z5 (.list ((g' (u::D)).take 1))) z6 (.list ((g' (u::D)).drop 1))) z7 (.list (g' j))) z8 (.list ([.int u]++g' j)) z8=some (.list (g' (u::j))):=bO _ _ _
 have aa:=(s6.ext (Ext.new (o:=.list (g' j)) aj)).rep.zT ax
 generalize upd (upd (upd (upd af z5 (.list ((g' (u::D)).take 1))) z6 (.list ((g' (u::D)).drop 1))) z7 (.list (g' j))) z8 (.list ([.int u]++g' j))=aM at s8 H⊢
 have am:j.Pairwise λx y=>JR J.ht (.int y)<=JR J.ht (.int x):=by
  unfold g' at ai;rw[TB]at ai;exact ai
 refine gl ?_
 intro aH
 have ay:∀l∈j,∃(p:Nat) (e:Ent),C.tr[p]? =some e/\e.lit= -l/\0<e.ht/\e.ht<C.bg.length/\JR J.ht (.int l)=e.ht:=λl E=>aw l (U.mem_iff.mp E)
 have h5:J.lg.length=C.lg.length+1/\J.refuted=C.refuted/\J.bl=C.bl/\J.clashes=C.clashes+1/\J.limit=C.limit:=by
  rw[<-m];exact⟨by show(C.lg++[v]).length=_;simp,rfl,rfl,rfl,rfl⟩
 cases j with
 |nil=>exact tA ab s8 O ar g hs M L' (by rw[<-m];rfl) (by rw[<-m];rfl) (by rw[<-m];rfl) (by rw[<-m];rfl) h5 H aa (B u Sy)
 |cons w aN=>
  obtain⟨pv,ev,aD,aE,_,aF,az⟩:=ay w Sy
  refine uS ab s8 O ar g hs M L' (by rw[<-m];rfl) (by rw[<-m];rfl) (by rw[<-m];rfl) (by rw[<-m];rfl) h5 H aa (λl E=>?_) aD aE aF λl E p e I he=>?_
  ·refine dp E (λq=>?_) λh=>?_
   ·exact B l (by rw[q];exact Sy)
   ·exact B l (Ss _ (U.mem_iff.mp h))
  ·obtain⟨q,f,hq,hf,_,_,aG⟩:=ay l (Ss _ E)
   have:=(g.core.uniq I hq (by rw[he,hf])).2
   subst this
   have:=(Uc.mp am).1 l E
   rw[aG,az]at this
   omega
end
end
section
section
variable {Mod:(Int->Bool)->Prop}
set_option tactic.hygienic true in
theorem qq{v:AV}{x:Int}:x∈(put kvs k v).map (·.1)↔x∈kvs.map (·.1)\/x=k:=by
 rw[fg];split
 ·rename_i h;exact⟨.inl,λq=>q.elim id λe=>by rw[e];exact h⟩
 ·rw[Tv,Sx]
theorem jm{more:List (Int×AV)}:∀{kvs:List (Int×AV)} {x:Int},x∈(GS kvs more).map (·.1)↔x∈kvs.map (·.1)\/x∈more.map (·.1):=by
 induction more with
 |nil=>exact(or_iff_left Tw).symm
 |cons p l ih=>
  intro kvs x
  show x∈(GS (put kvs p.1 p.2) l).map (·.1)↔_
  rw[ih,qq,TM,SH,or_assoc]
theorem A0{K:Bool->Prop}(k:K (!decide (a=.none))):E5 .IsNot a .none K σ:=λj j j j j j v u j j m q=>by
 rw[fR q]
 refine isNot_none ⟨_,_,rfl,rfl,?_⟩
 rw[show(v==Value.none)=decide (a=AV.none) by subst m;cases v<;>rfl];exact k
theorem zH:C1 σ .IsNot v .none (!decide (v=.none)):=λj p=>A0 p
structure Bl (C:Cn) (lit:Int) (k:Nat) (fl:List Int) (M:List Int):Prop where
 a:(lit.natAbs:Int)∈M
 b:lit∈fl
 c:∀(p:Nat) (e:Ent),C.tr[p]? =some e->C.tr.length<=p+k->(e.lit.natAbs:Int)∈M->0<e.ht->(e.cs=none/\e.lit∈fl)\/∃n r,e.cs=some n/\C.rows[n]? =some r/\∀x∈r,(x.natAbs:Int)∈M
 d:∀x∈fl,x=lit\/∃(p:Nat) (e:Ent),C.tr[p]? =some e/\e.cs=none/\0<e.ht/\e.lit=x
inductive Po (N:Nat) (A:Ad) (σ:AH) (C:Cn) (lit:Int) (fd md zr:Addr) (k:Nat) (m:D7) (Eb:AH):Prop
 |mk (fl kvs ob u4 u5 u6 u7 u8) (h0:m=[some (.ref A.a),some (.int lit),some (.ref fd),some (.ref md),u4,u5,u6,u7,u8]) (h1:Step N A σ A C Eb) (h2:Eb fd=some (.list (g' fl))) (h3:Eb md=some (.D0 kvs ob)) (h4:E0 N kvs) (h5:fl.length<=k+1) (h6:Bl C lit k fl (kvs.map (·.1))) (h7:Eb zr=some (.list (g' (C.tr.map Ent.lit)).reverse))
theorem Bl.skip(s:Bl C j k D M)(E:C.tr[p]? =some e)(G:C.tr.length=p+k+1)(h:¬((e.lit.natAbs:Int)∈M/\0<e.ht)):Bl C j (k+1) D M:=
 ⟨s.a,s.b,λq f m r w A=>by
  by_cases B:q=p
  ·subst B;rw[E]at m;cases m;exact absurd ⟨w,A⟩ h
  ·exact s.c q f m (ON G r B) w A,s.d⟩
theorem Bl.dec(s:Bl C j k D M)(w:C.tr[p]? =some e)(E:C.tr.length=p+k+1)(A:e.cs=none)(G:0<e.ht):Bl C j (k+1) (D++[e.lit]) M:=
 ⟨s.a,SN _ s.b,λq f m r H I=>by
  by_cases B:q=p
  ·subst B;rw[w]at m;cases m;exact .inl ⟨A,by simp⟩
  ·exact(s.c q f m (ON E r B) H I).imp (λh=>⟨h.1,SN _ h.2⟩) id,λx J=>by
  refine cx J (λh=>?_) λh=>?_
  ·exact s.d x h
  ·rw[Sx]at h;subst h;exact .inr ⟨p,e,w,A,G,rfl⟩⟩
theorem Bl.Q8(c:Core N Mod C.tr C.bg sn C.rows)(s:Bl C E k fl M)(G:C.tr[p]? =some e)(Z:C.tr.length=p+k+1)(hm:(e.lit.natAbs:Int)∈M)(hc:e.cs=some n)(hr:C.rows[n]? =some r)(B:∀x,x∈M'↔x∈M\/∃l∈r,(l.natAbs:Int)=x):Bl C E (k+1) fl M':=
 ⟨(B _).mpr (.inl s.a),s.b,λq f j m H hf=>by
  obtain⟨r',w,hl,I⟩:=c.t.cs p e n G hc
  rw[hr]at w;cases w
  by_cases A:q=p
  ·subst A;rw[G]at j;cases j
   exact .inr ⟨n,r,hc,hr,λx J=>(B _).mpr (.inr ⟨x,J,rfl⟩)⟩
  ·have O:(f.lit.natAbs:Int)∈M:=by
    rcases(B _).mp H with h|⟨l,hl,e'⟩
    ·exact h
    ·by_cases D:l=e.lit
     ·have:=(c.uniq j G (by rw[<-D];omega)).1
      exact absurd this A
     ·obtain⟨q2,f2,Q,U,Y⟩:=cE.mp (I l hl D)
      have:=(c.uniq j Q (by rw[Y,S9];omega)).1
      exact absurd (PV Z m) (Nat.not_le.mpr (by rw[this];exact U))
   exact(s.c q f j (ON Z m A) O hf).imp id λzz=>(by obtain⟨n',r',h1,A,D⟩:=zz;exact⟨n',r',h1,A,λx J=>(B _).mpr (.inl (D x J))⟩),s.d⟩
theorem sW(c:Core N Mod C.tr C.bg sn C.rows){P:EO}(ac:σ fd=none)(ae:σ Z=none)(af:A.T fd=0)(ag:A.T Z=0)(ah:zr≠fd)(ai:zr≠Z)(I:Po N A σ C aj fd Z zr k m D)(O:C.tr[p]? =some e)(hk:C.tr.length=p+k+1):
  ws d d' mo true ⟨λm D=>Po N A σ C aj fd Z zr (k+1) m D,P⟩ (m.set 4 (some (.int e.lit))) D:=by
 refine cL ?_
 intro RR YY
 obtain⟨fl,kvs,ob,u4,u5,u6,u7,u8,rfl,s,G,E,H,ar,B,hz⟩:=I
 have hN:=s.inv.small
 have aq:=s.inv.len
 have as:=c.lit e.lit (iy O)
 refine dd (ef (ad rfl)) ?_
 show ws d d' F4 true _ _ D
 obtain⟨o1,h1⟩:=s.rep.ht
 have al:=s.inv.ht e (Sp O)
 refine co (fY (bR (ad rfl) (ad rfl) (yJ E)) λj=>bR (fF (bS (ad rfl) s.rep.inst rfl) (ad rfl) h1 al) u' fE) ?_
 by_cases hc:(e.lit.natAbs:Int)∈kvs.map (·.1)/\0<e.ht
 ·rw[if_pos (by rw[dG.mpr hc.1];simp;omega)]
  show ws d d' i4 true _ _ D
  obtain⟨o2,h2⟩:=s.rep.cs
  have Q:=s.inv.cs e (Sp O)
  refine co (bR (fF (bS (ad rfl) s.rep.inst rfl) (ad rfl) h2 Q) u' d8) ?_
  have aa:Z≠fd:=λq=>by rw[<-q,E]at G;cases G
  cases J:e.cs with
  |none=>
   rw[if_pos (by rfl)]
   show ws d d' gb true _ _ D
   refine dt (ys:=g' (fl++[e.lit])) (ad rfl) (ad rfl) G (by simp[g']) (by rw[bX];show _<1048576;omega) ?_
   exact⟨fl++[e.lit],kvs,ob,_,_,_,_,_,rfl,s.G7 ac af,bO _ _ _,(bP aa).trans E,H,by simp;omega,B.dec O hk J hc.2,(bP ah).trans hz⟩
  |some n=>
   rw[if_neg (by show ¬decide (AV.int (n:Int)=AV.none)=true;simp)]
   show ws d d' ge true _ _ D
   obtain⟨r,M,_⟩:=c.t.cs p e n O J
   have ab:=c.G3 r (Sp M)
   have au:=ab.len hN
   obtain⟨b,hb⟩:∃b,A.R[n]? =some b:=⟨_,SA (by rw[s.rep.len];exact bQ M)⟩
   have am:=s.rep.R n b r hb M
   rw[J]at Q
   refine cN (fG (ad rfl) (ft E) (ch (show(ev d true (.Gl _ _ _ _) d').e _ _ _ from⟨rfl,cA (bS (ad rfl) s.rep.inst rfl) (fF (bS (ad rfl) s.rep.inst rfl) (ad rfl) h2 Q) (.inl s.rep.rs) (cQ (by rw[SG,hb];rfl)) _ _ (bU (w:=g' r) (ey am) ⟨λx=>((intOf x).natAbs:Int),λj=> .bool true,λx hx=>?_,λx hx=>⟨rfl,Ext.refl _⟩,by rw[bX];show _<=1048576;omega,λz o U=>b7 ?_⟩)⟩)))
   ·refine Ef hx λl hl=>?_
    exact ef (ad rfl) _ _ ⟨rfl,Ext.refl _⟩
   ·have aw:(GS [] ((g' r).map λx=>(((intOf x).natAbs:Int),AV.bool true))).length<=17:=by
     have:=sw ((g' r).map λx=>(((intOf x).natAbs:Int),AV.bool true)) []
     rw[Su,bX]at this
     simp at this;omega
    have x1:Ext D (upd D z (.D0 (GS [] ((g' r).map λx=>(((intOf x).natAbs:Int),AV.bool true))) o)):=.new U
    have ax:=H.len
    have an:Z≠z:=λq=>by rw[<-q,E]at U;cases U
    refine vI (x1 _ _ E) (bO _ _ _) an (by show _<=1048576;omega) λo'=>⟨trivial,?_⟩
    have Y:∀x,x∈(GS [] ((g' r).map λx=>(((intOf x).natAbs:Int),AV.bool true))).map (·.1)↔∃l∈r,(l.natAbs:Int)=x:=λx=>by
     rw[jm]
     simp only[U6,Tw,false_or]
     unfold g'
     rw[Td,Td]
     exact Te
    have kk:E0 N (GS [] ((g' r).map λx=>(((intOf x).natAbs:Int),AV.bool true))):=k9 _ _ ⟨by simp,by simp⟩ λq hq=>by
     refine Ef hq λy hy=>?_
     refine Ef hy λl hl=>?_
     have:=ab.lit l hl
     show 1<=((l.natAbs:Nat):Int)/\((l.natAbs:Nat):Int)<=N
     omega
    refine⟨fl,_,o',_,_,_,_,_,rfl,(s.ext x1).G7 ae ag,(bP (Ne.symm aa)).trans (x1 _ _ G),bO _ _ _,k9 _ _ H kk.2,by omega,B.Q8 c O hk hc.1 J M λx=>?_,(bP ai).trans (x1 _ _ hz)⟩
    rw[jm,Y]
 ·rw[if_neg (by
   intro h
   rw[SF]at h
   exact hc ⟨dG.mp h.1,by have:=of_decide_eq_true h.2;omega⟩)]
  exact⟨fl,kvs,ob,_,_,_,_,_,rfl,s,G,E,H,by omega,B.skip O hk hc,hz⟩
end
end
section
section
variable {Mod:(Int->Bool)->Prop}
theorem Dm(g:E1 d σ m a (.ref o))(h:σ o=some (.list xs))(q:∀z,σ z=none->Q (.ref z) (upd σ z (.list xs.reverse))):(ev d true (.rev a) Xp).e m Q σ:=g Xp _ (Da h q)
theorem fP(h:σ o=some (.list xs))(q:∀z,σ z=none->Q (.ref z) (upd σ z (.tup xs))):Ik .tuple [.ref o] Q σ:=rO h q
inductive Lq (N:Nat) (Mod:(Int->Bool)->Prop) (A:Ad) (σ:AH) (C:Cn) (lit:Int) (v:AV) (Eb:AH):Prop
 |mk (h0:v=.none) (z F lg) (h1:Step N A σ (A.El z) ((C.El (g' F)).HT lg) Eb) (h2:List.length (α:=AV) lg<=C.lg.length+1) (h3:(∀β,Mod β->¬∀x∈F,tl β x)) (h4:(∀x∈F,x=lit\/∃(p:Nat) (e:Ent),C.tr[p]? =some e/\e.cs=none/\0<e.ht/\e.lit=x)) (h5:F.length<=9) (h6:lit∈F)
theorem rN(f:Fr T σ m j)(h:j z=none):σ z=none:=by
 cases q:σ z with
 |none=>rfl
 |some o=>exact absurd h (f.there z (by rw[q];simp))
theorem wg(Q:1<=d)(r:D8 σ A C)(i:EE N C)(c:Core N Mod C.tr C.bg sn C.rows)(h0:1<=D.natAbs/\D.natAbs<=N)(hf: -D∈lits C.tr)(af:C.lg.length<1000000)(U:A.T fd=0)(hk:C.tr.length<=k){kvs:List (Int×AV)}(s:Step N A σ A C q)(I:q fd=some (.list (g' m)))(ag:m.length<=C.tr.length+1)(B:Bl C D k m (kvs.map (·.1))):
  ws d d' mj true ⟨λj q=>Lq N Mod A σ C D .none q,Lq N Mod A σ C D⟩ [some (.ref A.a),some (.int D),some (.ref fd),some (.ref md),u4,u5,u6,u7,u8] q:=by
 refine cL ?_
 intro RR YY
 have hN:=i.small
 have ae:=i.len
 have hn:∀Y,Mod Y->¬∀x∈m,tl Y x:=λY hM=>c.N6 (M:=λv=>v∈kvs.map (·.1)) B.a B.b hf (λp e Z hm h0=>B.c p e Z (by omega) hm h0) hM
 have aa:∀x∈m,x≠0:=λx H=>by
  rcases B.d x H with rfl|⟨p,e,Z,_,_,rfl⟩
  ·omega
  ·exact c.nz Z
 refine cZ ⟨rfl,ds (ad rfl) (b7 (fP I λz hz=>?_))⟩
 have r2:=s.rep.made (o:=.tup (g' m)) hz
 refine gc (ad rfl) r2.inst (d9 ..) ?_
 have ab:=s.rep.zT hz
 have r3:=r2.Kw (g' m) (bO _ _ _) ab
 have f3:Fr A.T q (A.El z).T _:=((cU (o:=.tup (g' m)) hz).trans (b8 (x:=A.a) (o:=.inst 272 A.dx (Fv (A.El z) (C.El (g' m)))) (by rw[r.tags.a];decide))).tg (k:=14) hz
 have s3:Step N A σ (A.El z) (C.El (g' m)) _:=⟨r3,s.inv.at rfl rfl rfl rfl rfl rfl,s.fr.trans f3⟩
 have E:=f3.keep fd _ U I
 show ws d d' lJ true _ _ (upd (upd q z (.tup (g' m))) A.a (.inst 272 A.dx (Fv (A.El z) (C.El (g' m)))))
 generalize upd (upd q z (.tup (g' m))) A.a (.inst 272 A.dx (Fv (A.El z) (C.El (g' m))))=ah at s3 r3 E⊢
 refine cZ (show(ev d true (.call (.glob 4) _) d').e _ _ _ from⟨rfl,(cO rfl) _ _ (ch (show(ev d true (.comp _ _ _ _) d').e _ _ _ from⟨rfl,(ad rfl) _ _ (bU (w:=g' m) (ey E) ⟨λj=>true,λx=> .int (-(intOf x)),λx H=>⟨rfl,Ext.refl _⟩,λx H j=>?_,by rw[bX];show _<=1048576;omega,λz4 ac=>b7 ?_⟩)⟩))⟩)
 ·refine Ef H λl hl=>?_
  exact eP (ad rfl) _ _ ⟨rfl,Ext.refl _⟩
 have he:(((g' m).filter λj=>true).map λx=>AV.int (-(intOf x)))=g' (m.map λx=> -x):=by
  rw[show((g' m).filter λj=>true)=g' m from UD.mpr λj j=>rfl];unfold g';rw[Td,Td];rfl
 rw[he]
 have s4:=s3.ext (Ext.new (o:=.list (g' (m.map λx=> -x))) ac)
 refine(fW Q (.inl (bO _ _ _)) (by rw[Su];omega) λx H=>?_).mono (λv J hv=>c0 ?_) λσ h=>h.elim
 ·refine Ef H λy hy=>?_
  have:=aa y hy;omega
 have G:=s4.ext hv.1
 show ws d d' lT true _ _ J
 refine co (bR (ad rfl) u' zH) ?_
 by_cases O:v=.none
 ·rw[if_neg (by rw[O];simp)]
  exact⟨rfl,z,m,C.lg,G,by omega,hn,B.d,by omega,B.b⟩
 ·rw[if_pos (by simpa using O)]
  show ws d d' me true _ _ J
  refine dt (ys:=C.lg++[v]) (bS (o:=(A.El z).a) (ad rfl) G.rep.inst rfl) (ad rfl) G.rep.lg rfl (by show C.lg.length<1048576;omega) ?_
  exact⟨rfl,z,m,C.lg++[v],⟨G.rep.Ku _,G.inv.at rfl rfl rfl rfl rfl rfl,G.fr.trans (b8 (by rw[G.rep.tags.lg];decide))⟩,by simp,hn,B.d,by omega,B.b⟩
theorem sF(hd:2<=d)(r:D8 σ A C)(i:EE N C)(c:Core N Mod C.tr C.bg sn C.rows)(h0:1<=j.natAbs/\j.natAbs<=N)(hf: -j∈lits C.tr)(aa:C.lg.length<1000000):
  D5 d (.ref 234) [.ref A.a,.int j] (Lq N Mod A σ C j) d' σ:=by
 refine cw wU hd (n:=7) rfl ?_
 intro d ab RR
 refine⟨rfl,dJ (ch (cR (cJ (ad rfl)) (show 1<=1048576 by decide) λfd E=>fX ((ef (ad rfl)) _ _ (u' _ _ (show ∀z o,_->_ from λB ob M=>⟨show 2<=1048576 by decide,λY ac=>bU (w:=[AV.ref fd,AV.ref B]) (by unfold itemsT;simp only[bO]) ⟨rfl,?_⟩⟩)))))⟩
 have x1:Ext σ (upd σ fd (.list [.int j])):=.new E
 have x2:Ext (upd σ fd (.list [.int j])) (upd (upd σ fd (.list [.int j])) B (.D0 [((j.natAbs:Int),.bool true)] ob)):=.new M
 have Z:Ext (upd (upd σ fd (.list [.int j])) B (.D0 [((j.natAbs:Int),.bool true)] ob)) (upd (upd (upd σ fd (.list [.int j])) B (.D0 [((j.natAbs:Int),.bool true)] ob)) Y (.tup [AV.ref fd,AV.ref B])):=.new ac
 have s:Step N A σ A C (upd (upd (upd σ fd (.list [.int j])) B (.D0 [((j.natAbs:Int),.bool true)] ob)) Y (.tup [AV.ref fd,AV.ref B])):=⟨((r.ext x1).ext x2).ext Z,i,Fr.ext ((x1.trans x2).trans Z)⟩
 have H:=(x2.trans Z) _ _ (bO σ fd (.list [.int j]))
 have J:=Z _ _ (bO (upd σ fd (.list [.int j])) B (.D0 [((j.natAbs:Int),.bool true)] ob))
 have G:σ B=none:=rN (Fr.ext (T:=A.T) x1) M
 show ws d d' lX true _ [some (.ref A.a),some (.int j),some (.ref fd),some (.ref B),none,none,none,none,none] (upd (upd (upd σ fd (.list [.int j])) B (.D0 [((j.natAbs:Int),.bool true)] ob)) Y (.tup [AV.ref fd,AV.ref B]))
 generalize upd (upd (upd σ fd (.list [.int j])) B (.D0 [((j.natAbs:Int),.bool true)] ob)) Y (.tup [AV.ref fd,AV.ref B])=O at s H J⊢
 refine eG (Dm (bS (ad rfl) s.rep.inst rfl) s.rep.ro λzr D=>?_)
 have x4:Ext O (upd O zr (.list (g' (C.tr.map Ent.lit)).reverse)):=.new D
 have ae:zr≠fd:=λq=>by rw[q,H]at D;cases D
 have af:zr≠B:=λq=>by rw[q,J]at D;cases D
 refine bU (w:=(g' (C.tr.map Ent.lit)).reverse) (ey (bO _ _ _)) ⟨Po N A σ C j fd B zr,⟨[j],_,ob,_,_,_,_,_,rfl,s.ext x4,x4 _ _ H,x4 _ _ J,⟨by simp,λp hp=>by rw[Sx]at hp;subst hp;show 1<=((j.natAbs:Nat):Int)/\_;omega⟩,SR _,⟨by simp,by simp,λp e hp hk=>absurd (bQ hp) (by omega),λx hx=> .inl (by simpa using hx)⟩,bO _ _ _⟩,?_⟩
 intro k m al I
 have I':=I
 obtain⟨fl,kvs,am,u4,u5,u6,u7,u8,rfl,s',Q,ai,an,aj,B',ag⟩:=I
 refine⟨eA (bO _ _ _) ag,λhk=>?_,λy U=>?_⟩
 ·have hk:k=C.tr.length:=by rw[hk];simp[g']
  exact wg ab r i c h0 hf aa (r.zT E) (Nat.le_of_eq hk.symm) s' Q (by omega) B'
 ·have ah:k<C.tr.length:=by have:=bQ U;simpa[g']using this
  obtain⟨e,he⟩:∃e,C.tr[C.tr.length-1-k]? =some e:=⟨_,SA (by omega)⟩
  have:y=.int e.lit:=by
   rw[List.getElem?_reverse (by simpa[g']using ah)]at U
   unfold g' at U
   rw[Su,Su,SG,SG,he]at U
   exact(Option.some.inj U).symm
  subst this
  exact sW c E G (r.zT E) (r.zT G) ae af I' he (by omega)
end
end
section
section
variable {Mod:(Int->Bool)->Prop}
theorem BX(q:E1 d σ m a (.int i))(r:E1 d σ m b (.int j))(w:E1 d σ m c (.int k))(A:E1 d σ m f (.int l)):T1 d σ m (.MO a b c f) (decide (i>k\/i=k/\j>l)):=λXp K p=>q Xp _ (r Xp _ (w Xp _ (A Xp _ p)))
def Oc(N:Nat)(A:Ad)(σ:AH)(C:Cn)(k:Nat)(m:D7)(q:AH):Prop:=
 ∃b u,m=[some (.ref A.a),some (.int b),u]/\q=σ/\((b=0/\∀j p,j<k->C.he[j]? =some p->(lk C.kn p.1).isSome=true)\/((1<=b/\b<=N)/\lk C.kn b=none))
def Od(N:Nat)(σ:AH)(C:Cn)(v:AV)(j:AH):Prop:=
 ∃b:Int,v=.int b/\j=σ/\((b=0/\∀v:Int,1<=v->v<=N->v∈lits C.tr\/ -v∈lits C.tr)\/((1<=b/\b<=N)/\sg (lits C.tr) b=none))
theorem qj(hd:1<=d)(r:D8 σ A C)(i:EE N C):D5 d (.ref 241) [.ref A.a] (Od N σ C) d' σ:=by
 refine cw t8 hd (n:=2) rfl ?_
 intro d hd RR
 refine dd u' ?_
 show ws d d' Gu true _ _ σ
 obtain⟨o1,I⟩:=r.he
 obtain⟨o2,M⟩:=r.kn
 refine eG ((bS (ad rfl) r.inst rfl) _ _ (bU (w:=C.he.map λp=> .int p.1) (yA I) ⟨Oc N A σ C,⟨0,_,rfl,rfl,.inl ⟨rfl,λj p h=>absurd h (UC _)⟩⟩,?_⟩))
 rintro k m D ⟨b,u,rfl,rfl,O⟩
 refine⟨rfl,λhk=>?_,λy J=>?_⟩
 ·refine cW (ad rfl) ⟨b,rfl,rfl,O.imp (λh=>⟨h.1,λv I M=>?_⟩) λh=>⟨h.1,?_⟩⟩
  ·obtain⟨x,Q⟩:=i.he v I M
   obtain⟨j,U⟩:=SQ.mp (jp Q)
   have:=h.2 j _ (by rw[hk,Su];exact bQ U) U
   rw[i.kn v I]at this
   cases q:sg (lits C.tr) v with
   |none=>rw[q]at this;cases this
   |some c=>
    cases c with
    |true=>exact .inl (fQ.mp q)
    |false=>exact .inr ((dN i.nd (by omega)).mp q)
  ·have:=h.2
   rw[i.kn b h.1.1]at this
   cases q:sg (lits C.tr) b with
   |none=>rfl
   |some c=>rw[q]at this;cases this
 ·obtain⟨p,hp,rfl⟩:∃p,C.he[k]? =some p/\y=.int p.1:=by
   rw[SG]at J
   cases q:C.he[k]? with
   |none=>rw[q]at J;cases J
   |some p=>rw[q]at J;exact⟨p,rfl,(Option.some.inj J).symm⟩
  have G:=i.ke.2 p (Sp hp)
  refine co (bR (ad rfl) (bS (ad rfl) r.inst rfl) (ln M)) ?_
  by_cases E:(lk C.kn p.1).isSome=true
  ·rw[if_neg (by rw[E];simp)]
   refine⟨b,_,rfl,rfl,O.imp (λh=>⟨h.1,λj q U Y=>?_⟩) id⟩
   by_cases e:j=k
   ·subst e;rw[hp]at Y;cases Y;exact E
   ·exact h.2 j q (by omega) Y
  ·rw[if_pos (by simpa using E)]
   have hn:lk C.kn p.1=none:=by simpa using E
   show ws d d' gQ true _ _ D
   obtain⟨x,Q⟩:=i.he p.1 G.1 G.2
   have done:Oc N A D C (k+1) [some (.ref A.a),some (.int p.1),some (.int p.1)] D:=⟨p.1,_,rfl,rfl,.inr ⟨G,hn⟩⟩
   by_cases Z:b=0
   ·subst Z
    refine co (jX (r:=true) (s:=true) (bR (r:=true) (ad rfl) u' (by have:=@dD D 0 0;exact this)) λh=>(by cases h)) ?_
    rw[if_pos (show(true||true)=true from rfl)]
    exact dd (ad rfl) done
   ·have H:=O.resolve_left λh=>Z h.1
    obtain⟨x2,aa⟩:=i.he b H.1.1 H.1.2
    refine co (jX (r:=false) (bR (r:=false) (ad rfl) u' (by have:=@dD D b 0;rw[show(b==0)=false by simpa using Z]at this;exact this)) λB=>BX (fF (bS (ad rfl) r.inst rfl) (ad rfl) I Q) (eP (ad rfl)) (fF (bS (ad rfl) r.inst rfl) (ad rfl) I aa) (eP (ad rfl))) ?_
    by_cases hc:x>x2\/x=x2/\ -p.1> -b
    ·rw[if_pos (by simpa using hc)]
     exact dd (ad rfl) done
    ·rw[if_neg (by simpa using hc)]
     exact⟨b,_,rfl,rfl,.inr H⟩
end
end
section
section
variable {Mod:(Int->Bool)->Prop}
def LP(N:Nat)(Mod:(Int->Bool)->Prop)(A:Ad)(σ:AH)(C:Cn)(as:List Int)(v:AV)(j:AH):Prop:=
 (v=.bool false/\∃l,as[C.bg.length]? =some l/\ -l∈lits C.tr/\Lq N Mod A σ C l .none j)\/
 (v=.bool true/\j=σ/\as.length<=C.bg.length/\∀v:Int,1<=v->v<=N->v∈lits C.tr\/ -v∈lits C.tr)\/
 (v=.none/\∃l,(1<=l.natAbs/\l.natAbs<=N)/\((as[C.bg.length]? =some l/\l∈lits C.tr/\Step N A σ A (C.Es (C.bg++[C.tr.length])) j)\/
  ((as[C.bg.length]? =some l\/as.length<=C.bg.length)/\sg (lits C.tr) l=none/\Step N A σ A ((C.Es (C.bg++[C.tr.length])).F0 l none) j)))
theorem iE(m:1<=d)(r:D8 σ A C)(i:EE N C)(I:C.bg.length<100000)(B:1<=l.natAbs/\l.natAbs<=N)(D:as[C.bg.length]? =some l\/(as.length<=C.bg.length/\l∉lits C.tr))(J: -l∉lits C.tr)(E:P.rt=LP N Mod A σ C as):
  ws d d' kF true P [some (.ref A.a),M,some (.int l),O] σ:=by
 refine dt (ys:=j' (C.bg++[C.tr.length])) (bS (ad rfl) r.inst rfl) (cH (bS (ad rfl) r.inst rfl) (.inl r.ro) (k:=C.tr.length) (by simp[g'])) r.bg (by simp[j']) (by rw[bZ];show _<1048576;omega) ?_
 have r1:=r.Lm (C.bg++[C.tr.length])
 have i1:EE N (C.Es (C.bg++[C.tr.length])):=i.at rfl rfl rfl rfl rfl rfl
 have G:Step N A σ A (C.Es (C.bg++[C.tr.length])) _:=⟨r1,i1,b8 (by rw[r.tags.bg];decide)⟩
 show ws d d' kt true P _ _
 refine co (bR (fu m r1 i1 (by omega) rfl (ad rfl)) u' d8) ?_
 by_cases j:sg (lits C.tr) l=none
 ·rw[if_pos (by show decide (ob (sg (lits C.tr) l)=.none)=true;rw[j];rfl)]
  show ws d d' ky true _ _ _
  refine cN (cD (ad rfl) r1.inst (dc (ad rfl) u') rfl ((iS m r1 i1 (c:=none) B.1 B.2 j).mono (λv σ2 H=>⟨by rw[H.1];trivial,?_⟩) λσ h=>h.elim))
  show P.rt .none σ2
  rw[E]
  exact .inr (.inr ⟨rfl,l,B,.inr ⟨D.imp id (·.1),j,G.trans H.2⟩⟩)
 ·rw[if_neg (by show ¬decide (ob (sg (lits C.tr) l)=.none)=true;cases q:sg (lits C.tr) l with|none=>exact absurd q j|some b=>simp[ob])]
  have w:l∈lits C.tr:=by
   cases q:sg (lits C.tr) l with
   |none=>exact absurd q j
   |some b=>cases b with
    |true=>exact fQ.mp q
    |false=>exact absurd ((dN i.nd (by omega)).mp q) J
  show P.rt .none _
  rw[E]
  exact .inr (.inr ⟨rfl,l,B,.inl ⟨D.resolve_right λh=>h.2 w,w,G⟩⟩)
theorem rc(hd:3<=d)(r:D8 σ A C)(i:EE N C)(c:Core N Mod C.tr C.bg sn C.rows)(w:C.bg.length<100000)(O:C.lg.length<1000000)(D:σ H=some (.list (g' as))\/σ H=some (.tup (g' as)))(Q:∀l∈as,1<=l.natAbs/\l.natAbs<=N):
  D5 d (.ref 248) [.ref A.a,.ref H] (LP N Mod A σ C as) d' σ:=by
 refine cw uX hd (n:=2) rfl ?_
 intro d U RR
 have j:1<=d:=by omega
 refine co (bR (cH (bS (ad rfl) r.inst rfl) (.inl r.bg) (k:=C.bg.length) (by rw[bZ])) (cH (ad rfl) D (k:=as.length) (by rw[bX])) pG) ?_
 by_cases Y:C.bg.length<as.length
 ·rw[if_pos (by simpa using Y)]
  obtain⟨l,I⟩:∃l,as[C.bg.length]? =some l:=⟨_,SA Y⟩
  have E:=Q l (Sp I)
  show ws d d' kI true _ _ σ
  refine dd (cA (ad rfl) (cH (bS (ad rfl) r.inst rfl) (.inl r.bg) (k:=C.bg.length) (by rw[bZ])) D (cP I)) ?_
  show ws d d' il true _ _ σ
  refine co (bR (fu j r i (by omega) rfl (ad rfl)) u' pj) ?_
  by_cases m:sg (lits C.tr) l=some false
  ·rw[if_pos (by show(sg (lits C.tr) l==some false)=true;rw[m];rfl)]
   show ws d d' ig true _ _ σ
   have Z:=(dN i.nd (by omega)).mp m
   refine cN (cD (ad rfl) r.inst (cJ (ad rfl)) rfl ((sF U r i c E Z O).mono (λv σ2 B=>⟨by rw[B.1];trivial,?_⟩) λσ h=>h.elim))
   rw[B.1]at B
   exact cW u' (.inl ⟨rfl,l,I,Z,B⟩)
  ·rw[if_neg (by show ¬(sg (lits C.tr) l==some false)=true;simpa using m)]
   exact iE j r i w E (.inl I) (λh=>m ((dN i.nd (by omega)).mpr h)) rfl
 ·rw[if_neg (by simpa using Y)]
  show ws d d' kB true _ _ σ
  refine cZ (cD (ad rfl) r.inst cm rfl ((qj j r i).mono (λv σ2 B=>c0 ?_) λσ h=>h.elim))
  obtain⟨b,rfl,rfl,J⟩:=B
  show ws d d' FJ true _ _ σ2
  refine co (bR (ad rfl) u' dD) ?_
  rcases J with⟨rfl,G⟩|⟨J,hn⟩
  ·rw[if_pos (by decide)]
   exact cW u' (.inr (.inl ⟨rfl,rfl,by omega,G⟩))
  ·rw[if_neg (by simp;omega)]
   obtain⟨o6,h6⟩:=r.lk
   have M:=dw.mp hn
   show ws d d' im true _ [some (.ref A.a),some (.ref H),none,some (.int b)] σ2
   obtain⟨q,hq⟩:∃q:Bool,(lk C.lk b).getD (.bool false)=.bool q:=by
    cases e:lk C.lk b with
    |none=>exact⟨false,rfl⟩
    |some u=>obtain⟨q,rfl⟩:=i.MW b u e;exact⟨q,rfl⟩
   have ht:T1 d σ2 [some (.ref A.a),some (.ref H),none,some (.int b)] (.bm .HF (.attr (.var 0) 272 6) (.cons (.var 3) (.cons (.D6 (.bool false)) .nil))) q:=λXp K p=>(BC (bS (ad rfl) r.inst rfl) (ad rfl) u' h6) Xp (truth K) (by rw[hq];exact p)
   cases q with
   |true=>exact dd (fk (r:=true) ht (ad rfl)) (iE j r i w (p3 J) (.inr ⟨by omega,M.1⟩) M.2 rfl)
   |false=>exact dd (fk (r:=false) ht (eP (ad rfl))) (iE j r i w (l:= -b) (p4 J) (.inr ⟨by omega,M.2⟩) (by rw[TS];exact M.1) rfl)
end
end
section
structure IY (as:List Int) (C:Cn):Prop where
 a1:∀(p:Nat) (e:Ent),C.tr[p]? =some e->e.cs=none->0<e.ht->e.ht<=as.length->as[e.ht-1]? =some e.lit
 a2:∀(j:Nat) (l:Int),as[j]? =some l->j<C.bg.length->l∈lits (C.tr.take (C.bg[j+1]?.getD C.tr.length))
 a3:∀(j b:Nat),C.bg[j]? =some b->j<=as.length+b
 a4:C.bg.length<=as.length+C.tr.length
def FF(C:Cn):Nat:=C.rows.length+l0 C.tr C.bg
def mu(N:Nat)(as:List Int)(C:Cn):Nat:=(as.length-C.bg.length)+(N-C.tr.length)
def Fc(N base:Nat)(as:List Int)(C:Cn)(j m:Int):Nat:=((base+65545-FF C)*2+if C.clashes-j>=m then 1 else 0)*(as.length+10)+mu N as C
section
variable {Mod:(Int->Bool)->Prop}
theorem IY.ground(c:Core N Mod C.tr C.bg sn C.rows)(h:C.bg=[]):IY as C:=
 ⟨λp e A m q=>by rw[c.t.ht p e A,h]at q;exact absurd q (T3 0),λj l m r=>by rw[h]at r;exact absurd r (UC _),λj b w=>(by rw[h]at w;cases w),by rw[h];exact SI _⟩
theorem IY.P'(a:IY as C)(s:HW C C')(H:Core N Mod C'.tr C'.bg sn C'.rows)(A:∀b∈C.bg,b<=C.tr.length):IY as C':=by
 obtain⟨t,ht,D⟩:=s.pre
 refine⟨λp e w m E B=>?_,λj l G r=>?_,λj b A=>a.a3 j b (by rw[<-s.bg];exact A),?_⟩
 ·rw[ht,List.getElem?_append]at w
  split at w
  ·exact a.a1 p e w m E B
  ·exact absurd m (D e (Sp w))
 ·rw[s.bg]at r⊢
  have h:=a.a2 j l G r
  cases q:C.bg[j+1]? with
  |none=>
   rw[q]at h
   have h:l∈lits (C.tr.take C.tr.length):=h
   show l∈lits (C'.tr.take C'.tr.length)
   rw[SW]at h⊢
   rw[ht];unfold lits at h⊢
   rw[SX];exact SN _ h
  |some b=>
   rw[q]at h
   show l∈lits (C'.tr.take b)
   rw[ht,TR (A b (Sp q))]
   exact h
 ·have:=a.a4;rw[s.bg,ht,Sw];omega
theorem IY.Q'(a:IY as C)(c:Core N Mod C.tr C.bg sn C.rows)(L:Ob C C'):IY as C':=by
 obtain⟨h,b,u,cs,D,ht,q,_,H,_⟩:=L
 have I:=c.Gb D
 have E:(C.tr.take b).length=b:=List.length_take_of_le I
 have Q:=bQ D
 refine⟨λp e J M O w=>?_,λj l U A=>?_,λj B m=>?_,?_⟩
 ·rw[ht]at J
  rcases bY J with g|⟨_,rfl⟩
  ·exact a.a1 p e (dg g).1 M O w
  ·have:=H M;simp only at O;omega
 ·rw[q,Tf]at A
  have G:=a.a2 j l U (TP A (Vl ..))
  rw[q,T6]
  by_cases r:j+1<h
  ·rw[if_pos r]
   obtain⟨B,m⟩:∃B,C.bg[j+1]? =some B:=⟨_,SA (by omega)⟩
   rw[m]at G⊢
   have w:B<=b:=by
    obtain⟨Y,g2⟩:=Sr.mp m
    obtain⟨Z,g4⟩:=Sr.mp D
    have:=Tr.mp c.t.sorted (j+1) h Y Z r
    omega
   show l∈lits (C'.tr.take B)
   rw[ht,TR (by omega),UZ,UW w]
   exact G
  ·rw[if_neg r]
   have:j+1=h:=UX (TP A (Nat.min_le_left ..)) (T4 r)
   rw[this,D]at G
   show l∈lits (C'.tr.take C'.tr.length)
   rw[SW,ht,cX]
   exact SN _ G
 ·rw[q]at m
  exact a.a3 j B (dg m).1
 ·have:=a.a3 h b D
  rw[q,ht,Tf,Sw,E]
  simp;omega
theorem IY.dec(a:IY as C)(r:as[C.bg.length]? =some l\/as.length<=C.bg.length)(c:Core N Mod C.tr C.bg sn C.rows)(h:(C'.bg=C.bg++[C.tr.length]/\C'.tr=C.tr/\l∈lits C.tr/\as[C.bg.length]? =some l)\/(C'.bg=C.bg++[C.tr.length]/\C'.tr=C.tr++[⟨l,C.bg.length+1,none⟩])):IY as C':=by
 have w:C'.bg=C.bg++[C.tr.length]:=h.elim (·.1) (·.1)
 have q:∃t,C'.tr=C.tr++t:=h.elim (λh=>⟨[],by rw[h.2.1];simp⟩) (λh=>⟨_,h.2⟩)
 obtain⟨t,q⟩:=q
 have B:as[C.bg.length]? =some l->l∈lits C'.tr:=λm=>by
  rcases h with h|h
  ·rw[h.2.1];exact h.2.2.1
  ·rw[h.2,cX];simp
 refine⟨λp e H U Y A=>?_,λj I J D=>?_,λj b Z=>?_,?_⟩
 ·rcases h with h|h
  ·rw[h.2.1]at H;exact a.a1 p e H U Y A
  ·rw[h.2]at H
   rcases bY H with g|⟨_,rfl⟩
   ·exact a.a1 p e g U Y A
   ·simp only at A⊢
    rcases r with r|r
    ·rw[Nat.add_sub_cancel];exact r
    ·omega
 ·rw[w,Sw]at D
  simp at D
  rw[w]
  by_cases O:j<C.bg.length
  ·have M:=a.a2 j I J O
   by_cases E:j+1<C.bg.length
   ·rw[SV E]
    obtain⟨Q,G⟩:∃Q,C.bg[j+1]? =some Q:=⟨_,SA E⟩
    rw[G]at M⊢
    show I∈lits (C'.tr.take Q)
    rw[q,TR (c.Gb G)]
    exact M
   ·have e:j+1=C.bg.length:=by omega
    rw[e,show C.bg[C.bg.length]? =none from Tq (SR _)]at M
    rw[e,SZ (SR _),Nat.sub_self]
    show I∈lits (C'.tr.take C.tr.length)
    rw[q,TR (SR _)]
    exact M
  ·have e:j=C.bg.length:=by omega
   subst e
   rw[Tq (by simp)]
   show I∈lits (C'.tr.take C'.tr.length)
   rw[SW]
   rcases r with r|r
   ·rw[J]at r;cases r;exact B J
   ·have:=bQ J;omega
 ·rw[w]at Z
  rcases bY Z with g|⟨rfl,rfl⟩
  ·exact a.a3 j b g
  ·exact a.a4
 ·rw[w,Sw]
  rcases h with h|h
  ·have:=bQ h.2.2.2
   simp;omega
  ·rw[h.2,Sw];have:=a.a4;simp;omega
theorem BK{bg:List Nat}:l0 tr bg<=l0 (tr++t) bg:=by
 unfold l0
 cases bg with
 |nil=>simp
 |cons b bg=>exact SR _
theorem qm(g:Good N base Mod C sn 0 [])(h:C.tr.length<=N)(j:N<=8):FF C<=base+65544:=by
 have m:=g.news.len
 have q:=g.core.Pe
 unfold FF;omega
theorem si(s:HW C C'):FF C<=FF C':=by
 obtain⟨t,ht,_⟩:=s.pre
 unfold FF
 rw[s.pr.1,s.bg,ht]
 have:=@BK C.tr t C.bg
 omega
theorem sq(c:Core N Mod C.tr C.bg sn C.rows)(L:Ob C C'):FF C+1<=FF C':=by
 obtain⟨h,b,u,cs,m,ht,w,_,_,_,_,_,_,_,A⟩:=L
 have B:=c.Gb m
 have q:(C.tr.take b).length=b:=List.length_take_of_le B
 unfold FF
 have r:l0 C.tr C.bg<=l0 C'.tr C'.bg/\(h=0->l0 C.tr C.bg+1<=l0 C'.tr C'.bg):=by
  rw[ht,w]
  unfold l0
  cases D:C.bg with
  |nil=>rw[D]at m;cases m
  |cons x xs=>
   cases h with
   |zero=>
    rw[D]at m
    have H:x=b:=Option.some.inj m
    rw[Ua]
    have E:(C.tr.take b++[Ent.mk u 0 cs]).length=b+1:=by rw[Sw,q];rfl
    show x<=(C.tr.take b++[Ent.mk u 0 cs]).length/\(0=0->x+1<=(C.tr.take b++[Ent.mk u 0 cs]).length)
    rw[E]
    exact⟨by omega,λj=>by omega⟩
   |succ h=>exact⟨SR _,λe=>by cases e⟩
 rcases A with⟨G,A⟩|A
 ·have:=r.2 G;omega
 ·have:=r.1;omega
theorem mE{a b w m q:Nat}(h:a<b)(r:m<w):a*w+m<b*w+q:=by
 have j:(a+1)*w<=b*w:=U1 _ h
 rw[Nat.succ_mul]at j
 exact TP (UG r _) (SJ j (Uz _ _))
theorem yZ(j:N<=8):mu N as C<as.length+10:=Ud (U0 (Vv ..) (Vv ..)) (UG (Ud j (by decide)) _)
theorem wT(s:HW C C')(j m:Int):Fc N base as C' j m<=Fc N base as C j m:=by
 obtain⟨t,ht,_⟩:=s.pre
 have q:=si s
 have r:mu N as C'<=mu N as C:=by unfold mu;rw[s.bg,ht,Sw];exact Nat.add_le_add_left (U4 (Uz ..) _) _
 unfold Fc
 rw[s.fl.2.2.2.1]
 have:((base+65545-FF C')*2+if C.clashes-j>=m then 1 else 0)<=((base+65545-FF C)*2+if C.clashes-j>=m then 1 else 0):=Nat.add_le_add_right (U1 2 (U4 q _)) _
 exact U0 (U1 (as.length+10) this) r
theorem w6(w:N<=8)(c:Core N Mod C.tr C.bg sn C.rows)(A:FF C'<=base+65544)(L:Ob C C')(j m:Int):Fc N base as C' j m<Fc N base as C j m:=by
 have r:=sq c L
 unfold Fc
 refine mE ?_ (yZ w)
 have q:base+65545-FF C'<base+65545-FF C:=U3 (TP r (SJ A (Nat.add_le_add_left (by decide) _))) r
 split<;>split<;>exact mE q (by decide)
end
end
section
section
variable {Mod:(Int->Bool)->Prop}
structure FA (N base q:Nat) (Mod:(Int->Bool)->Prop) (A:Ad) (σ:AH) (C:Cn):Prop where
 rep:D8 σ A C
 inv:EE N C
 wk:WK N A
 good:Good N base Mod C C.seen 0 []
 ref:C.refuted=false
 lg:C.lg.length+base<=q+FF C
theorem FA.Pp(r:FA N base q Mod A σ C):FF C<=base+65544:=qm r.good r.inv.len r.inv.small
theorem FA.Ra(r:FA N base q Mod A σ C)(j:q<=100000):C.lg.length<1000000:=by have:=r.Pp;have:=r.lg;omega
theorem zA(r:E1 d σ m a (.int k))(w:E1 d σ m b (.int l))(A:E1 d σ m c (.int j)):T1 d σ m (.JJ .Lt .LtE a b c) (decide (k<l)&&decide (l<=j)):=λXp K p=>r Xp _ (w Xp _ (wf (by
 cases q:decide (k<l)with
 |true=>exact A Xp _ (Bw (by rw[q]at p;exact p))
 |false=>rw[q]at p;exact p)))
theorem Bv(g:E1 d σ m a (.int i))(h:0<=i/\i<=1)(p:∀x,Q (.str x) σ):(ev d true (.JK a t) Xp).e m Q σ:=g Xp _ ⟨h,p⟩
theorem FA.Oe(R:FA N base q Mod A σ C)(D:(C.bg.length<=0/\j=σ)\/∃b z kn lk,C.bg[0]? =some b/\σ z=none/\Step N A σ (A.Es z) (C.backTo kn lk b 0) j):
  ∃B C',Fr A.T σ B.T j/\B.a=A.a/\FA N base q Mod B j C'/\C'.bg=[]/\C'.limit=C.limit/\C'.clashes=C.clashes/\FF C'=FF C:=by
 rcases D with⟨h,rfl⟩|⟨b,z,kn,r,m,hz,s⟩
 ·exact⟨A,C,.refl ..,rfl,R,UQ.mp (by omega),rfl,rfl,rfl⟩
 ·have hs:=R.good.core.t.Im b (Sp m)
  have E:=R.good.core.Gb m
  have w:Mine.FF (C.backTo kn r b 0)=Mine.FF C:=by
   unfold Mine.FF
   show C.rows.length+l0 (C.tr.take b) (C.bg.take 0)=_
   rw[Ua]
   have:l0 C.tr C.bg=b:=by
    unfold l0
    cases h:C.bg with
    |nil=>rw[h]at m;cases m
    |cons x xs=>rw[h]at m;cases m;rfl
   rw[this]
   show C.rows.length+(C.tr.take b).length=_
   rw[Tf];omega
  exact⟨A.Es z,C.backTo kn r b 0,s.fr,rfl,⟨s.rep,s.inv,λp w=>R.wk p w,R.good.back m hs rfl rfl rfl rfl,R.ref,by rw[w];exact R.lg⟩,by show C.bg.take 0=[];rw[Ua],rfl,rfl,w⟩
theorem lZ(B:1<=d)(R:FA N base q Mod A σ C):D5 d (.ref 149) [.ref A.a,.int 0] (λv m=>v=.none/\∃r C',Fr A.T σ r.T m/\r.a=A.a/\FA N base q Mod r m C'/\C'.bg=[]/\C'.limit=C.limit/\C'.clashes=C.clashes/\Mine.FF C'=Mine.FF C) d' σ:=
 (fj B R.rep R.inv R.good.core.t.sorted (λb D=>SJ (R.good.core.t.Im b D) R.good.core.t.seen) 0).mono (λv m w=>⟨w.1,R.Oe w.2⟩) λj h=>h
def Told(N base:Nat)(Mod:(Int->Bool)->Prop)(as:List Int)(C:Cn)(b:Bool):Prop:=
 (b=true->∃j,Mod j/\∀l∈as,tl j l)/\(b=false->∃F:List Int,C.bl=g' F/\F.length<=9/\(∀x∈F,x∈as)/\∀j,Mod j->¬∀x∈F,tl j x)
inductive Of (N base q:Nat) (Mod:(Int->Bool)->Prop) (A:Ad) (σ:AH) (C:Cn) (as:List Int) (aa:Addr) (begun:Int) (k:Nat) (m:D7) (Eb:AH):Prop
 |mk (A' C' KA span told u2 u7) (h0:m=[some (.ref A.a),some (.ref aa),u2,some (.int begun),some (.int KA),some (.int span),some told,u7]) (h1:Fr A.T σ A'.T Eb) (h2:A'.a=A.a) (h3:C'.limit=C.limit) (h4:0<span) (h5:((told=.none/\FA N base q Mod A' Eb C'/\IY as C'/\k=Fc N base as C' KA span+1)\/∃b,told=.bool b/\FA N base (q+1) Mod A' Eb C'/\Told N base Mod as C' b))
inductive KB (N base q:Nat) (Mod:(Int->Bool)->Prop) (A:Ad) (σ:AH) (C:Cn) (Eb:AH):Prop
 |mk (h0:0<C.limit) (A' C') (h1:Fr A.T σ A'.T Eb) (h2:A'.a=A.a) (h3:FA N base (q+1) Mod A' Eb C') (h4:C'.limit=C.limit)
inductive JB (N base q:Nat) (Mod:(Int->Bool)->Prop) (A:Ad) (σ:AH) (C:Cn) (as:List Int) (v:AV) (Eb:AH):Prop
 |mk (b) (h0:v=.bool b) (A' C') (h1:Fr A.T σ A'.T Eb) (h2:A'.a=A.a) (h3:FA N base (q+1) Mod A' Eb C') (h4:C'.limit=C.limit) (h5:Told N base Mod as C' b)
theorem FA.more(R:FA N base q Mod A σ C):FA N base (q+1) Mod A σ C:=⟨R.rep,R.inv,R.wk,R.good,R.ref,by have:=R.lg;omega⟩
theorem Ac(h:t+1<=n):a-(b+1)+(n-(t+1))<a-b+(n-t):=Nat.add_lt_add_of_le_of_lt (U4 (Us b) a) (U3 h (Um t))
theorem ty(hd:3<=d)(aq:∃β,Mod β)(hq:q<=100000)(ai:0<=C.limit/\C.limit<=1)(az:∀l∈as,1<=l.natAbs/\l.natAbs<=N)(aW:as.length<=1000)(hT:A.T aa=0)(aA:σ aa=some (.list (g' as))\/σ aa=some (.tup (g' as))){u2 u7:Option AV}(f:Fr A.T σ A'.T ab)(ha:A'.a=A.a)(hl:C'.limit=C.limit)(ac:0<G)(R:FA N base q Mod A' ab C')(I:IY as C'):
  ws d (KB N base q Mod A σ C) lC true ⟨λm ab=>∃j,j<Fc N base as C' E G+1/\Of N base q Mod A σ C as aa ae j m ab,JB N base q Mod A σ C as⟩ [some (.ref A.a),some (.ref aa),u2,some (.int ae),some (.int E),some (.int G),some .none,u7] ab:=by
 refine cL ?_
 intro RR YY
 have hN:=R.inv.small
 have aX:2<=d:=by omega
 have aB:1<=d:=by omega
 have M:∀{A':Ad} {ab:AH} {m':D7},A'.a=A.a->E1 d ab (some (.ref A.a)::m') (.var 0) (.ref A'.a):=λha=>ad (by rw[ha];rfl)
 refine cZ (cD (M ha) R.rep.inst cm rfl ((rg hd R.rep R.inv R.wk R.good).mono (λv σ2 hv=>c0 ?_) λσ h=>h.elim))
 obtain⟨A2,D,U,aC,af,sp,hv⟩:=hv
 have H:=aC.trans ha
 have O:D.limit=C.limit:=sp.fl.2.2.2.2.trans hl
 have f2:=f.trans U.fr
 have aY:=wT (N:=N) (base:=base) (as:=as) sp E G
 have aZ:=si sp
 have ar:∀b∈C'.bg,b<=C'.tr.length:=λb hb=>SJ (R.good.core.t.Im b hb) R.good.core.t.seen
 have ag:D.lg.length+base<=q+Mine.FF D:=by rw[sp.lg];have:=R.lg;omega
 rcases hv with⟨rfl,J,Y⟩|⟨n,r,sn,rfl,aj,hf,J,aD⟩
 ·have R2:FA N base q Mod A2 σ2 D:=⟨U.rep,U.inv,af,J,sp.fl.2.1.trans R.ref,ag⟩
  have I2:=I.P' sp J.core ar
  refine co (bR (ad rfl) u' yq) ?_
  rw[if_neg (by decide)]
  refine co (zA u' (bS (M H) U.rep.inst rfl) (ee (bS (M H) U.rep.inst rfl) (ad rfl))) ?_
  by_cases Q:0<D.limit/\D.limit<=D.clashes-ae
  ·rw[if_pos (by simpa using Q)]
   exact⟨rfl,by omega,Bv (bS (M H) U.rep.inst rfl) ⟨by rw[O];exact ai.1,by rw[O];exact ai.2⟩ λx=>⟨trivial,by rw[<-O];exact Q.1,A2,D,f2,H,R2.more,O⟩⟩
  ·rw[if_neg (by simpa using Q)]
   refine co (bR (ee (bS (M H) U.rep.inst rfl) (ad rfl)) (ad rfl) yq) ?_
   by_cases KC:D.clashes-E>=G
   ·rw[if_pos (by simpa using KC)]
    refine rX (dc (bS (M H) U.rep.inst rfl) (dE (ad rfl) (j0 (ad rfl) u' (by decide)))) λz hz=>?_
    have x3:Ext σ2 (upd σ2 z (.tup [.int D.clashes,.int (G+G/2)])):=.new hz
    have R3:FA N base q Mod A2 _ D:=⟨U.rep.ext x3,R2.inv,R2.wk,R2.good,R2.ref,R2.lg⟩
    refine cN (cD (M H) R3.rep.inst (cJ u') rfl ((lZ aB R3).mono (λv a0 hv=>⟨by rw[hv.1];trivial,?_⟩) λσ h=>h.elim))
    obtain⟨_,A4,C4,f4,aE,R4,au,aF,aG,aH⟩:=hv
    refine⟨Fc N base as C4 D.clashes (G+G/2)+1,?_,A4,C4,D.clashes,G+G/2,.none,_,_,rfl,(f2.trans (Fr.ext x3)).trans f4,aE.trans H,aF.trans O,by omega,.inl ⟨rfl,R4,IY.ground R4.good.core au,rfl⟩⟩
    have:Fc N base as C4 D.clashes (G+G/2)<Fc N base as D E G:=by
     delta Fc
     rw[aH,aG,if_neg (by omega),if_pos KC]
     exact mE (by omega) (yZ hN)
    omega
   ·rw[if_neg (by simpa using KC)]
    refine(?_:σ2 aa=some (.list (g' as))\/σ2 aa=some (.tup (g' as))->_) (aA.imp (f2.keep _ _ hT) (f2.keep _ _ hT))
    intro aw
    have aJ:=U.inv.len
    have a5:=I2.a4
    refine cZ (cD (M H) U.rep.inst (cJ (ad rfl)) rfl ((rc hd U.rep U.inv J.core (by omega) (R2.Ra hq) aw az).mono (λv aK hv=>c0 ?_) λσ h=>h.elim))
    rcases hv with⟨rfl,l,ax,hm,_,z,F,lg,Z,aL,aM,hF,aN,a6⟩|⟨rfl,rfl,a7,hk⟩|⟨rfl,l,aO,hv⟩
    ·have al:Mine.FF ((D.El (g' F)).HT lg)=Mine.FF D:=rfl
     refine⟨0,by omega,A2.El z,(D.El (g' F)).HT lg,E,G,.bool false,_,_,rfl,f2.trans Z.fr,H,O,ac,.inr ⟨false,rfl,⟨Z.rep,Z.inv,λp hp=>af p hp,J.at rfl rfl rfl rfl,R2.ref,?_⟩,(λh=>(by cases h)),λB=>⟨F,rfl,aN,λx hx=>?_,aM⟩⟩⟩
     ·rw[al];show lg.length+base<=_;omega
     ·rcases hF x hx with rfl|⟨p,e,hp,hc,h0,rfl⟩
      ·exact Sp ax
      ·refine Sp (I2.a1 p e hp hc h0 ?_)
       have:=J.core.Hy hp
       have:=bQ ax
       omega
    ·refine⟨0,by omega,A2,D,E,G,.bool true,_,_,rfl,f2,H,O,ac,.inr ⟨true,rfl,R2.more,λB=>?_,(λh=>(by cases h))⟩⟩
     have c:=J.core
     have w:=J.wt
     rw[Y]at c w
     obtain⟨h1,h2⟩:=c.full w hk
     refine⟨_,h1,λl hl=>h2 l ?_⟩
     obtain⟨j,hj⟩:=SQ.mp hl
     exact cY (I2.a2 j l hj (by have:=bQ hj;omega))
    ·have hw:WT D.tr D.rows D.tr.length 0 []:=by have:=J.wt;rw[Y]at this;exact this
     have c:Core N Mod D.tr D.bg D.tr.length D.rows:=by have:=J.core;rw[Y]at this;exact this
     rcases hv with⟨am,aP,Z⟩|⟨ho,hn,Z⟩
     ·have a8:=bQ am
      refine⟨Fc N base as (D.Es (D.bg++[D.tr.length])) E G+1,?_,A2,D.Es (D.bg++[D.tr.length]),E,G,.none,_,_,rfl,f2.trans Z.fr,H,O,ac,.inl ⟨rfl,⟨Z.rep,Z.inv,af,?_,R2.ref,?_⟩,I2.dec (.inl am) J.core (.inl ⟨rfl,rfl,aP,am⟩),rfl⟩⟩
      ·have hp:Mine.FF (D.Es (D.bg++[D.tr.length]))=Mine.FF D:=by
        delta Mine.FF l0
        cases D.bg<;>rfl
       have an:mu N as (D.Es (D.bg++[D.tr.length]))<mu N as D:=by
        delta mu
        show as.length-(D.bg++[D.tr.length]).length+(N-D.tr.length)<_
        rw[Sw];simp;omega
       have:Fc N base as (D.Es (D.bg++[D.tr.length])) E G<Fc N base as D E G:=by
        delta Fc
        rw[hp]
        exact UG an _
       omega
      ·refine⟨?_,J.HC,J.wt,J.news,J.bl,J.bs⟩
       rw[Y]
       exact c.level hw
      ·have hp:Mine.FF (D.Es (D.bg++[D.tr.length]))=Mine.FF D:=by
        delta Mine.FF l0
        cases D.bg<;>rfl
       rw[hp];exact ag
     ·have ah:(D.bg++[D.tr.length]).length=D.bg.length+1:=by simp
      have nn:=dw.mp hn
      have aQ:D.tr.length+1<=N:=by
       have:=Z.inv.len
       have h2:(D.tr++[Ent.mk l (D.bg++[D.tr.length]).length none]).length<=N:=this
       rw[Sw]at h2;simpa using h2
      have hp:Mine.FF ((D.Es (D.bg++[D.tr.length])).F0 l none)=Mine.FF D:=by
       delta Mine.FF l0
       cases D.bg<;>rfl
      refine⟨Fc N base as ((D.Es (D.bg++[D.tr.length])).F0 l none) E G+1,?_,A2,(D.Es (D.bg++[D.tr.length])).F0 l none,E,G,.none,_,_,rfl,f2.trans Z.fr,H,O,ac,.inl ⟨rfl,⟨Z.rep,Z.inv,af,?_,R2.ref,?_⟩,I2.dec ho J.core (.inr ⟨rfl,?_⟩),rfl⟩⟩
      ·have an:mu N as ((D.Es (D.bg++[D.tr.length])).F0 l none)<mu N as D:=by
        delta mu
        rw[Sw,Sw];exact Ac aQ
       have:Fc N base as ((D.Es (D.bg++[D.tr.length])).F0 l none) E G<Fc N base as D E G:=by
        delta Fc
        rw[hp]
        exact UG an _
       omega
      ·refine⟨?_,J.HC,?_,J.news,J.bl,J.bs⟩
       ·show Core N Mod (D.tr++[⟨l,(D.bg++[D.tr.length]).length,none⟩]) (D.bg++[D.tr.length]) D.seen D.rows
        rw[Y,ah]
        exact c.choose hw aO nn.1 nn.2
       ·exact J.wt.snoc J.core.t.seen _
      ·rw[hp];exact ag
      ·show D.tr++[⟨l,(D.bg++[D.tr.length]).length,none⟩]=_
       rw[ah]
 ·refine co (bR (ad rfl) u' yq) ?_
  rw[if_pos (by simp)]
  obtain⟨β,aR⟩:=aq
  have aS:D.bg≠[]:=λe=>by
   have c:=J.core
   rw[e]at c
   exact c.ground (Sp aj) hf aR
  have a9:=qm J U.inv.len hN
  refine cN (cD (M H) U.rep.inst (cJ (ad rfl)) rfl ((tU hd U.rep U.inv af J aD aS aj hf (by have:=J.bs;omega)).mono (λv aK hv=>⟨by rw[hv.1];trivial,?_⟩) λσ h=>h.elim))
  obtain⟨_,A3,C3,Z,aT,aU,g3,L⟩:=hv
  refine(?_:_->_) (qm g3 Z.inv.len hN)
  intro al
  have ba:=sq J.core L
  have bb:=w6 (as:=as) hN J.core al L E G
  refine(?_:IY as D->_) (I.P' sp J.core ar)
  intro I2
  refine(?_:_->_) (I2.Q' J.core L)
  intro I3
  obtain⟨h,b,u,cs,_,_,_,_,_,aL,ay,_,_,aV,_⟩:=L
  refine⟨Fc N base as C3 E G+1,by omega,A3,C3,E,G,.none,_,_,rfl,f2.trans Z.fr,aT.trans H,aV.trans O,ac,.inl ⟨rfl,⟨Z.rep,Z.inv,aU,g3,?_,by omega⟩,I3,rfl⟩⟩
  rw[ay];exact sp.fl.2.1.trans R.ref
end
end
section
section
variable {Mod:(Int->Bool)->Prop}
theorem AT{as:X}(g:L1 d σ m as [j,q,A,B])(k:∀z,σ z=none->wt d true Xp C j (λm σ=>wt d true Xp D q (λm σ=>wt d true Xp E A (λm σ=>wt d true Xp G B (λm σ=>ws d Xp r true P m σ) m σ) m σ) m σ) m (upd σ z (.tup [j,q,A,B]))):
  ws d Xp (.cons (.sets [C,D,E,G] (.tup as)) r) true P m σ:=⟨rfl,gv g (show 4<=1048576 by decide) λz hz=>bU (w:=[j,q,A,B]) (show itemsT (upd σ z (.tup [j,q,A,B])) (.ref z)=_ by unfold itemsT;simp only[bO]) ⟨rfl,k z hz⟩⟩
theorem cT(h:σ a=some (.list xs)\/σ a=some (.tup xs)):items σ (.ref a)=some xs:=h.elim mY wW
theorem FA.Pq(R:FA N base q Mod A σ C)(hz:σ z=none):∃C',Fr A.T σ (A.El z).T (upd (upd σ z (.tup [])) A.a (.inst 272 A.dx (Fv (A.El z) C')))/\FA N base q Mod (A.El z) (upd (upd σ z (.tup [])) A.a (.inst 272 A.dx (Fv (A.El z) C'))) C'/\C'=C.El []:=
 ⟨C.El [],((cU (T:=A.T) (o:=.tup []) hz).trans (b8 (x:=A.a) (o:=.inst 272 A.dx (Fv (A.El z) (C.El []))) (by rw[R.rep.tags.a];decide))).tg (k:=14) hz,
  ⟨(R.rep.made hz).Kw [] (bO _ _ _) (R.rep.zT hz),R.inv.at rfl rfl rfl rfl rfl rfl,λp j=>R.wk p j,R.good.at rfl rfl rfl rfl,R.ref,R.lg⟩,rfl⟩
theorem tR(hd:4<=d)(Z:∃β,Mod β)(hq:q<=100000)(R:FA N base q Mod A σ C)(aa:0<=C.limit/\C.limit<=1)(ab:∀l∈as,1<=l.natAbs/\l.natAbs<=N)(ac:as.length<=1000)(hT:A.T G=0)(ae:σ G=some (.list (g' as))\/σ G=some (.tup (g' as))):
  D5 d (.ref 255) [.ref A.a,.ref G] (JB N base q Mod A σ C as) (KB N base q Mod A σ C) σ:=by
 obtain⟨d,rfl⟩:∃e,d=e+1:=⟨d-1,by omega⟩
 have aj:3<=d:=by omega
 have al:1<=d:=by omega
 have r:∀{A':Ad} {B:AH} {m':D7},A'.a=A.a->E1 d B (some (.ref A.a)::m') (.var 0) (.ref A'.a):=λha=>ad (by rw[ha];rfl)
 refine et yc (n:=6) rfl ?_
 intro RR
 refine cN (cD (r rfl) R.rep.inst (cJ u') rfl ((lZ al R).mono (λv am hv=>⟨by rw[hv.1];trivial,?_⟩) λσ h=>h.elim))
 obtain⟨_,A1,C1,f1,af,R1,ag,an,az,aA⟩:=hv
 show ws d (KB N base q Mod A σ C) lN true _ _ am
 refine cZ (gv cm (SI _) λz hz=>?_)
 obtain⟨J,f2,E,Q⟩:=R1.Pq hz
 refine gc (r af) (R1.rep.made hz).inst (d9 ..) ?_
 refine(?_:_->_) (f1.trans f2)
 intro aq
 have ar:∀σ2,Fr A.T σ (A1.El z).T σ2->FA N base q Mod (A1.El z) σ2 J->ws d (KB N base q Mod A σ C) Hv true ⟨λj B=>JB N base q Mod A σ C as .none B,JB N base q Mod A σ C as⟩ [some (.ref A.a),some (.ref G),none,none,none,none,none,none] σ2:=by
  intro σ2 f E
  have M:σ2 G=some (.list (g' as))\/σ2 G=some (.tup (g' as)):=ae.imp (f.keep _ _ hT) (f.keep _ _ hT)
  have H:(A1.El z).a=A.a:=af
  refine eG ((ad rfl) _ _ (bU (w:=g' as) (cT M) ⟨λk m B=>B=σ2/\∃u2,m=[some (.ref A.a),some (.ref G),u2,none,none,none,none,none],⟨rfl,_,rfl⟩,?_⟩))
  clear M
  rintro k m B ⟨rfl,u2,rfl⟩
  refine⟨rfl,λj=>?_,λy U=>?_⟩
  ·show ws d (KB N base q Mod A σ C) lw true _ _ B
   refine AT (fT (bS (r H) E.rep.inst rfl) (fT (bS (r H) E.rep.inst rfl) (dc (cO rfl) u'))) λz4 au=>?_
   have x4:=Ext.new (o:=.tup [.int J.clashes,.int J.clashes,.int 16,.none]) au
   have R4:FA N base q Mod (A1.El z) _ J:=⟨E.rep.ext x4,E.inv,E.wk,E.good,E.ref,E.lg⟩
   refine mF (Of N base q Mod A σ C as G J.clashes) _ ⟨_,J,_,_,.none,_,_,rfl,f.trans (Fr.ext x4),H,by rw[Q];exact an,by decide,.inl ⟨rfl,R4,IY.ground R4.good.core (by rw[Q];exact ag),rfl⟩⟩ ?_
   rintro k m ah ⟨A5,C5,D,O,ay,v2,v7,rfl,f5,I,ai,aw,hI⟩
   rcases hI with⟨rfl,Y,I5,rfl⟩|⟨b,rfl,Y,ax⟩
   ·refine⟨true,?_,λj=>ty aj Z hq aa ab ac hT ae f5 I ai aw Y I5,λh=>(by cases h)⟩
    have:T1 d ah [some (.ref A.a),some (.ref G),v2,some (.int J.clashes),some (.int D),some (.int O),some .none,v7] (.and (.cmp .Is (.var 6) (.D6 .none)) (.not (.attr (.var 0) 272 12))) (decide (AV.none=AV.none)&& !C5.refuted):=
     fY (bR (ad rfl) u' d8) λj=>vR (nt (bS (r I) Y.rep.inst rfl))
    rw[Y.ref]at this
    exact this
   ·refine⟨false,?_,(λh=>(by cases h)),λj=>?_⟩
    ·have:T1 d ah [some (.ref A.a),some (.ref G),v2,some (.int J.clashes),some (.int D),some (.int O),some (.bool b),v7] (.and (.cmp .Is (.var 6) (.D6 .none)) (.not (.attr (.var 0) 272 12))) (decide (AV.bool b=AV.none)&& !C5.refuted):=
      fY (bR (ad rfl) u' d8) λj=>vR (nt (bS (r I) Y.rep.inst rfl))
     rw[show decide (AV.bool b=AV.none)=false by simp]at this
     exact this
    ·refine cW (eM (ad rfl) u' lE) ⟨b,by cases b<;>rfl,A5,C5,f5,I,Y,ai,ax⟩
  ·obtain⟨l,hl,rfl⟩:∃l,as[k]? =some l/\y=.int l:=by
    unfold g' at U;rw[SG]at U
    cases q:as[k]? with
    |none=>rw[q]at U;cases U
    |some x=>rw[q]at U;exact⟨x,rfl,(Option.some.inj U).symm⟩
   have aB:=ab l (Sp hl)
   obtain⟨o1,h1⟩:=E.rep.he
   obtain⟨i,hi⟩:=E.inv.he l.natAbs (by omega) (by omega)
   refine cN (fG (bS (r H) E.rep.inst rfl) (ft h1) (ds (ef (ad rfl)) (ds u' (b7 (qR h1 (λw hw=>?_) λh=>?_)))))
   ·rw[hi]at hw;cases hw
    exact⟨trivial,rfl,_,rfl⟩
   ·rw[hi]at h;cases h
 clear f2
 subst Q
 exact ar _ aq E
end
end
section
section
variable {as:List Int}
theorem q6(m:1<=d)(r:D8 σ A C):D5 d (.ref 269) [.ref A.a] (λv j=>v=.ref A.bl/\j=σ) d' σ:=by
 refine cw uL m (n:=0) rfl ?_
 intro d m q
 exact cW (bS (ad rfl) r.inst rfl) ⟨rfl,rfl⟩
theorem sk(l:List Int)(k:Int):(g' l).any (λx=>decide (x=.int k))=decide (k∈l):=by
 unfold g'
 rw[UE,TU,Th,decide_eq_true_iff]
 exact⟨λj=>(by obtain⟨x,h,e⟩:=j;cases of_decide_eq_true e;exact h),λh=>⟨k,h,decide_eq_true rfl⟩⟩
theorem v9:∀x∈g' l,HE σ 3 x (.int k) (decide (x=.int k)):=λx m=>by
 refine Ef m λi j=>?_
 have:decide (AV.int i=.int k)=(i==k):=by rw[TU,decide_eq_true_iff,beq_iff_eq,AV.int.injEq]
 rw[this];exact tQ
theorem xa(h:σ y=some (.list (g' l))\/σ y=some (.tup (g' l))):C1 σ .In (.int k) (.ref y) (decide (k∈l)):=λK p=>vA h v9 (by rw[sk];exact p)
theorem jU(h:σ y=some (.list (g' l))\/σ y=some (.tup (g' l))):C1 σ .NotIn (.int k) (.ref y) (!decide (k∈l)):=λK p=>B8 h v9 (by rw[sk];exact p)
theorem Co(h:σ y=some (.list xs))(m:∀x∈xs,HE σ 3 x v false):C1 σ .In v (.ref y) false:=λK p=>vA (f:=λj=>false) (.inl h) m (by rw[show(xs.any λj=>false)=false by simp];exact p)
theorem fi(h:(ev d true x Xp).t m (λb σ=>brk d Xp y z r P m σ b) σ):ws d Xp (.cons (.ite x y z) r) true P m σ:=h
theorem fs{K:Bool->AH->Prop}(h:T1 d σ m a false)(k:(ev d true b Xp).t m K σ):(ev d true (.or a b) Xp).t m K σ:=h Xp _ (by rw[if_neg (by decide)];exact k)
theorem fh{K:Bool->AH->Prop}(h:(ev d true a Xp).e m (λv σ=>(ev d true b Xp).e m (λu σ=>E5 op v u (λr=>K r σ) σ) σ) σ):(ev d true (.cmp op a b) Xp).t m K σ:=h
theorem eJ{w A cond:X}(g:E1 d σ m A v)(B:items σ v=some xs)(p:AV->Bool)(F:AV->AV)(C:∀x∈xs,(ev d true cond d').t (m.set j (some x)) (λb r=>b=p x/\Ext σ r) σ)(D:∀x∈xs,p x=true->(ev d true w d').e (m.set j (some x)) (λy r=>y=F x/\Ext σ r) σ)(hz:xs.length<=big)(q:∀z,σ z=none->Q (.ref z) (upd σ z (.list ((xs.filter p).map F)))):(ev d true (.comp w j A cond) Xp).e m Q σ:=⟨rfl,g Xp _ (bU B ⟨p,F,C,D,hz,q⟩)⟩
theorem Bs{q w cond:X}(h:(ev d true (.comp q j w cond) Xp).e m (λv σ=>ws d Xp r true P (m.set i (some v)) σ) σ):ws d Xp (.cons (.JO i q j w cond) r) true P m σ:=⟨rfl,h⟩
structure OI (N:Nat) (A:Ad) (σ:AH) (C:Cn):Prop where
 rep:D8 σ A C
 inv:EE N C
 wk:WK N A
 tr:C.tr=[]
 bg:C.bg=[]
 ref:C.refuted=false
 HC:HB C.rows C.wt 0 []
 G3:∀r∈C.rows,EB N r
set_option tactic.hygienic true in
theorem mX(hd:2<=d)(R:OI N A σ C)(aw:C.rows.length<1000){L:List Int}(ab:σ la=some (.list (g' L))\/σ la=some (.tup (g' L)))(hT:A.T la=0)(O:EB N L):
  D5 d (.ref 175) [.ref A.a,.ref la] (λv B=>v=.bool true/\∃A' C' ys,Fr A.T σ A'.T B/\A'.a=A.a/\OI N A' B C'/\C'.rows=C.rows++[ys]/\(∀x,x∈ys↔x∈L)/\C'.lg=C.lg/\C'.limit=C.limit/\C'.seen=C.seen) d' σ:=by
 obtain⟨d,rfl⟩:∃e,d=e+1:=⟨d-1,by omega⟩
 have I:1<=d:=by omega
 have r:=R.rep
 have i:=R.inv
 have hN:=i.small
 have ax:=O.len hN
 have aj:∀x∈L,x≠0:=λx J=>by have:=O.lit x J;omega
 refine et qd (n:=5) rfl ?_
 intro RR
 refine cN (cD (ad rfl) r.inst (cJ u') rfl ((fj I r i (by rw[R.bg];exact .nil) (by rw[R.bg];exact λj h=>(by cases h)) 0).mono (λv Z hv=>⟨by rw[hv.1];trivial,?_⟩) λσ h=>h.elim))
 obtain rfl:Z=σ:=by
  rcases hv.2 with h|⟨b,_,_,_,hb,_⟩
  ·exact h.2
  ·rw[R.bg]at hb;cases hb
 show ws d d' ic true _ _ Z
 refine cZ (dq (cO rfl) (cJ (ad rfl)) ((fW I ab (by omega) aj).mono (λv σ2 hv=>c0 ?_) λσ h=>h.elim))
 obtain⟨x2,⟨_,x,J,al⟩|⟨z,ys,rfl,ay,hz,aa,D,_⟩⟩:=hv
 ·exact absurd al (O.neg x J)
 have E:EB N ys:=by
  refine⟨?_,aa,λl H=>O.lit l ((D l).mp H),λl H h=>O.neg l ((D l).mp H) ((D _).mp h)⟩
  have:ys.Perm L:=(List.perm_ext_iff_of_nodup aa O.nd).mpr D
  rw[this.length_eq];exact O.two
 have r2:=r.ext x2
 have Q:=ab.imp (x2 _ _) (x2 _ _)
 refine eG ((ad rfl) _ _ (bU (w:=g' L) (cT Q) ⟨λk m B=>B=σ2/\∃u,m=[some (.ref A.a),some (.ref la),some (.ref z),u,none,none,none],⟨rfl,_,rfl⟩,?_⟩))
 clear Q aa hv
 rintro k m B ⟨rfl,u,rfl⟩
 refine⟨rfl,λj=>?_,λy hy=>?_⟩
 ·show ws d d' hB true _ _ B
  have am:=E.len hN
  have U:∀l∈ys,sg (lits C.tr) l=none:=λl j=>by rw[R.tr];rfl
  have ac:∀l∈ys,l≠0:=λl H=>by have:=E.lit l H;omega
  have ae:=hz
  refine fi (fs (bR (r:=false) (ad rfl) u' (by have:=@d8 B (.ref z);simpa using this)) (fs (by have:=nt (bS (m:=[some (.ref A.a),some (.ref la),some (.ref z),u,none,none,none]) (d:=d) (a:=.var 0) (ad rfl) r2.inst (n:=12) (v:=.bool C.refuted) rfl);rw[R.ref]at this;exact this) (fh ((u') _ _ (eJ (ad rfl) (cT (.inr ae)) (λj=>true) (λj=> .none) (λx J=>⟨rfl,Ext.refl _⟩) (λx J j=>?_) (by rw[bX];show _<=1048576;omega) λz2 an=>?_)))))
  ·refine Ef J λl H=>?_
   refine fu I r2 i (ac l H) rfl (ad rfl) _ _ ⟨?_,Ext.refl _⟩
   rw[U l H];rfl
  refine(Co (bO _ _ _) λx J=>by refine Ef J λy j=>?_;exact tS) _ ?_
  have x3:Ext B (upd B z2 (.list (((g' ys).filter λj=>true).map λj=>AV.none))):=.new an
  have r3:=r2.ext x3
  have af:=x3 _ _ ae
  generalize upd B z2 (.list (((g' ys).filter λj=>true).map λj=>AV.none))=M at x3 r3 af⊢
  rw[if_neg (by decide)]
  refine Bs (eJ (ad rfl) (cT (.inr af)) (λj=>true) (λx=>x) (λx J=>?_) (λx J j=>ad rfl _ _ ⟨rfl,Ext.refl _⟩) (by rw[bX];show _<=1048576;omega) λzl ag=>?_)
  ·refine Ef J λl H=>?_
   refine bR (fu I r3 i (ac l H) rfl (ad rfl)) u' d8 _ _ ⟨?_,Ext.refl _⟩
   rw[U l H];rfl
  have he:(((g' ys).filter λj=>true).map λx=>x)=g' ys:=by
   rw[show((g' ys).filter λj=>true)=g' ys from UD.mpr λj j=>rfl];exact Vk _
  rw[he]
  have x4:Ext M (upd M zl (.list (g' ys))):=.new ag
  have r4:=r3.ext x4
  have G:upd M zl (.list (g' ys)) zl=some (.list (g' ys)):=bO _ _ _
  refine(?_:_->_) (r3.zT ag)
  intro aq
  have fx:Fr A.T Z A.T (upd M zl (.list (g' ys))):=Fr.ext ((x2.trans x3).trans x4)
  generalize upd M zl (.list (g' ys))=ah at x4 r4 G fx⊢
  obtain⟨a,b,ls,rfl⟩:=nH E
  refine co (bR (cH (ad rfl) (.inl G) (k:=((a::b::ls).length:Nat)) (by rw[bX])) u' dD) ?_
  rw[if_neg (by simp;omega)]
  show ws d d' hU true _ _ ah
  refine co (bR (cH (ad rfl) (.inl G) (k:=((a::b::ls).length:Nat)) (by rw[bX])) u' dD) ?_
  rw[if_neg (by simp;omega)]
  show ws d d' fJ true _ _ ah
  refine(?_:_->_) (E.lit a Sy)
  intro ha
  refine(?_:_->_) (E.lit b (Ss _ Sy))
  intro hb
  refine cN (cD (ad rfl) r4.inst (cJ (ad rfl)) rfl ((nS I r4 R.wk hN G aq ha hb (by omega) (λl=>by have:=R.HC.lt l;omega) (by simp at am;omega)).mono (λw az hw=>⟨by rw[hw.1];trivial,?_⟩) λσ h=>h.elim))
  obtain⟨_,A5,r5,ar,f5,ai⟩:=hw
  have au:a≠b:=λe=>by
   have:=E.nd
   rw[Tb]at this
   exact this.1 (by rw[e];exact Sy)
  have Y:=BG (bS (o:=A5.a) (m:=[some (.ref A.a),some (.ref la),some (.ref z),u,some (.ref zl),none,none]) (d:=d) (a:=.var 0) (ad (by rw[ai];rfl)) r5.inst (n:=12) (v:=.bool C.refuted) rfl)
  rw[R.ref]at Y
  refine cW Y ⟨rfl,A5,_,a::b::ls,fx.trans f5,ai,⟨r5,i.at rfl rfl rfl rfl rfl rfl,ar,R.tr,R.bg,R.ref,R.HC.add au,λr hr=>?_⟩,rfl,D,rfl,rfl,rfl⟩
  refine cx hr (λh=>?_) λh=>?_
  ·exact R.G3 r h
  ·rw[Sx]at h;subst h;exact E
 ·obtain⟨l,H,rfl⟩:∃l,L[k]? =some l/\y=.int l:=by
   unfold g' at hy;rw[SG]at hy
   cases q:L[k]? with
   |none=>rw[q]at hy;cases hy
   |some x=>rw[q]at hy;exact⟨x,rfl,(Option.some.inj hy).symm⟩
  have aA:=O.lit l (Sp H)
  obtain⟨o1,h1⟩:=r2.he
  obtain⟨i',hi⟩:=i.he l.natAbs (by omega) (by omega)
  refine cN (fG (bS (ad rfl) r2.inst rfl) (ft h1) (ds (ef (ad rfl)) (ds u' (b7 (qR h1 (λw hw=>?_) λh=>?_)))))
  ·rw[hi]at hw;cases hw
   exact⟨trivial,rfl,_,rfl⟩
  ·rw[hi]at h;cases h
end
end
theorem iA(h:T1 d σ m x false)(k:ws d Xp r true P m σ):ws d Xp (.cons (.ite x y .nil) r) true P m σ:=h Xp _ (brk_no (b:=false) (λh=>(by cases h)) k)
theorem dI(h:T1 d σ m x true)(k:ws d Xp y true (MV d Xp r P) m σ):ws d Xp (.cons (.ite x y z) r) true P m σ:=h Xp _ (brk_yes (z:=z) (b:=true) rfl k)
theorem du(h:T1 d σ m x b)(e:b=c):T1 d σ m x c:=e▸h
structure Fw (σ:AH) (tp cl:Addr) (cells:List Int) (sp:Nat):Prop where
 tp:σ tp=some (.D4 0 [.ref cl,.int sp])
 cl:σ cl=some (.list (g' cells))
 len:cells.length<=1000
 sp:sp<1000000
theorem Fw.ne{m q:Addr}{r:Nat}(t:Fw σ m q j r):q≠m:=λe=>by
 have:=t.tp;rw[<-e,t.cl]at this;cases this
def KD(σ:AH)(m q:Addr)(r:Nat)(P:Int->Prop)(v:AV)(j:AH):Prop:=∃k:Int,v=.int k/\P k/\j=upd σ m (.D4 0 [.ref q,.int ((r+1:Nat):Int)])
theorem jo(H:1<=d){q A:Addr}(t:Fw σ q A r j)(C:0<w):D5 d (.ref 281) [.ref q,.int w] (KD σ q A j λk=>0<=k/\k<w) d' σ:=by
 refine cw tT H (n:=1) rfl ?_
 intro d H;dsimp only
 refine dd (d2 (ad rfl) t.tp rfl) ?_
 refine Di (dK (dE (ad rfl) u') (l:=((j+1:Nat):Int)) (by omega)) (ad rfl) t.tp (show 1<=2 by decide) ?_
 have I:upd σ q (.D4 0 [.ref A,.int ((j+1:Nat):Int)]) q=some (.D4 0 [.ref A,.int ((j+1:Nat):Int)]):=bO _ _ _
 have J:upd σ q (.D4 0 [.ref A,.int ((j+1:Nat):Int)]) A=some (.list (g' r)):=(bP t.ne).trans t.cl
 show ws d d' jR true _ [some (.ref q),some (.int w),some (.int j)] (upd σ q (.D4 0 [.ref A,.int ((j+1:Nat):Int)]))
 have B:E1 d (upd σ q (.D4 0 [.ref A,.int ((j+1:Nat):Int)])) [some (.ref q),some (.int w),some (.int j)] (.bf .len (.cons (.key (.var 0) 0 0) .nil)) (.int (r.length:Nat)):=cH (d2 (ad rfl) I rfl) (.inl J) (by rw[bX])
 by_cases M:j<r.length
 ·refine dI (du (bR (ad rfl) B pG) (decide_eq_true (by omega))) ?_
  obtain⟨x,N⟩:∃x,r[j]? =some x:=⟨_,SA M⟩
  have D:E1 d (upd σ q (.D4 0 [.ref A,.int ((j+1:Nat):Int)])) [some (.ref q),some (.int w),some (.int j)] (.sub (.key (.var 0) 0 0) (.var 2)) (.int x):=cA (d2 (ad rfl) I rfl) (ad rfl) (.inl J) (cP N)
  have E:E1 d (upd σ q (.D4 0 [.ref A,.int ((j+1:Nat):Int)])) [some (.ref q),some (.int w),some (.int j)] (.var 1) (.int w):=ad rfl
  exact cW (j4 D E C) ⟨_,rfl,⟨Int.emod_nonneg _ (by omega),Int.emod_lt_of_pos _ C⟩,rfl⟩
 ·have hl:=t.len
  have hs:=t.sp
  refine iA (du (bR (ad rfl) B pG) (decide_eq_false (by omega))) ?_
  have G:E1 d (upd σ q (.D4 0 [.ref A,.int ((j+1:Nat):Int)])) [some (.ref q),some (.int w),some (.int j)] (.var 2) (.int j):=ad rfl
  have O:=oZ (u' (σ:=upd σ q (.D4 0 [.ref A,.int ((j+1:Nat):Int)])) (d:=d) (m:=[some (.ref q),some (.int w),some (.int j)]) (v:=.int 5)) G ⟨by omega (config:={}),by omega (config:={})⟩
  have Q:=oZ O G ⟨by omega (config:={}),by omega (config:={})⟩
  have U:=oZ (u' (σ:=upd σ q (.D4 0 [.ref A,.int ((j+1:Nat):Int)])) (d:=d) (m:=[some (.ref q),some (.int w),some (.int j)]) (v:=.int 3)) G ⟨by omega (config:={}),by omega (config:={})⟩
  have Y:=oZ (u' (σ:=upd σ q (.D4 0 [.ref A,.int ((j+1:Nat):Int)])) (d:=d) (m:=[some (.ref q),some (.int w),some (.int j)]) (v:=.int 7)) B ⟨by omega (config:={}),by omega (config:={})⟩
  have Z:=j4 (dE (dE Q U) Y) (u' (v:=.int 83)) (by omega)
  have E:E1 d (upd σ q (.D4 0 [.ref A,.int ((j+1:Nat):Int)])) [some (.ref q),some (.int w),some (.int j)] (.var 1) (.int w):=ad rfl
  exact cW (j4 Z E C) ⟨_,rfl,⟨Int.emod_nonneg _ (by omega),Int.emod_lt_of_pos _ C⟩,rfl⟩
theorem C7{k:Int}(h:0<=k/\k<6):1<=(1+k/2).natAbs/\(1+k/2).natAbs<=3:=by
 have:=(by decide:∀n:Fin 6,1<=(1+((n:Nat):Int)/2).natAbs/\(1+((n:Nat):Int)/2).natAbs<=3) ⟨k.toNat,(Int.toNat_lt h.1).mpr h.2⟩
 rwa [show((k.toNat:Nat):Int)=k from U5 h.1]at this
theorem CY{k:Int}(h:0<=k/\k<6):1<=(0-1-k/2).natAbs/\(0-1-k/2).natAbs<=3:=by
 have:=(by decide:∀n:Fin 6,1<=(0-1-((n:Nat):Int)/2).natAbs/\(0-1-((n:Nat):Int)/2).natAbs<=3) ⟨k.toNat,(Int.toNat_lt h.1).mpr h.2⟩
 rwa [show((k.toNat:Nat):Int)=k from U5 h.1]at this
theorem qF(B:2<=d){j m:Addr}(t:Fw σ j m q w):D5 d (.ref 288) [.ref j] (KD σ j m w λk=>1<=k.natAbs/\k.natAbs<=3) d' σ:=by
 refine cw oV B (n:=1) rfl ?_
 intro d B;dsimp only
 have A:1<=d:=by omega
 refine cZ (dq (cO rfl) (dc (ad rfl) u') ((jo A t (by decide)).mono (λv E G=>c0 ?_) λσ h=>h.elim))
 obtain⟨k,rfl,C,rfl⟩:=G
 show ws d d' gH true _ [some (.ref j),some (.int k)] _
 by_cases D:k%2=0
 ·refine cW (fk (r:=true) (bR (r:=true) (j4 (ad rfl) u' (by decide)) u' (by have:=@dD (upd σ j (.D4 0 [.ref m,.int ((w+1:Nat):Int)])) (k%2) 0;rw[show(k%2==0)=true by simpa using D]at this;exact this)) (dE u' (j0 (ad rfl) u' (by decide)))) ⟨_,rfl,C7 C,rfl⟩
 ·refine cW (fk (r:=false) (bR (r:=false) (j4 (ad rfl) u' (by decide)) u' (by have:=@dD (upd σ j (.D4 0 [.ref m,.int ((w+1:Nat):Int)])) (k%2) 0;rw[show(k%2==0)=false by simpa using D]at this;exact this)) (ee (ee u' u') (j0 (ad rfl) u' (by decide)))) ⟨_,rfl,CY C,rfl⟩
def FD(w one:Int):Bool:=((w/2^((one.natAbs:Int)-1).toNat)%2==1)==decide (one>0)
def EY(F:List (List (List Int)))(w:Int)(ks:List Nat):Bool:=ks.all λk=>(F[k]?.getD []).all λc=>c.any (FD w)
def Fd(F:List (List (List Int)))(ks:List Nat):Bool:=(List.range 8).any λ(w:Nat)=>EY F w ks
def Form(σ:AH)(a:Addr)(f:List (List Int)):Prop:=
 ∃m:List Addr,σ a=some (.list (m.map .ref))/\m.length=f.length/\∀(j:Nat) (b:Addr) (c:List Int),m[j]? =some b->f[j]? =some c->σ b=some (.list (g' c))
def E2(σ:AH)(m:Addr)(F:List (List (List Int))):Prop:=
 ∃j:List Addr,σ m=some (.list (j.map .ref))/\j.length=F.length/\∀(i:Nat) (a:Addr) (f:List (List Int)),j[i]? =some a->F[i]? =some f->Form σ a f
theorem Form.ext(h:Form σ a f)(e:Ext σ m):Form m a f:=(by obtain⟨q,r,w,A⟩:=h;exact⟨q,e _ _ r,w,λj b c B C=>e _ _ (A j b c B C)⟩)
theorem E2.ext(h:E2 σ m F)(e:Ext σ j):E2 j m F:=(by obtain⟨q,r,w,A⟩:=h;exact⟨q,e _ _ r,w,λi a f B C=>(A i a f B C).ext e⟩)
theorem ir(h:σ z=some (.list xs))(q:σ r=some (.list [])):C1 σ .Eq (.ref z) (.ref r) xs.isEmpty:=λK p=>by
 cases xs with
 |nil=>exact fy (tZ (e:=λm=>true) h q rfl (λj a b g=>by cases g) rfl λm=>rfl) p
 |cons x xs=>exact fy (yX h q λe=>by cases e) p
def Ha(σ:AH)(w:Int)(y:AV):Bool:=
 match y with
 | .ref b=>match σ b with
  |some (.list xs)=>(xs.filter λv=>FD w (intOf v)).isEmpty
  |_=>false
 |_=>false
def FL(σ:AH)(j:List Addr)(x:AV):List AV:=
 match j[(intOf x).toNat]? with
 |some a=>match σ a with
  |some (.list vs)=>vs
  |_=>[]
 |none=>[]
structure FE (F:List (List (List Int))):Prop where
 n:F.length<=50
 f:∀f∈F,f.length<=50
 c:∀f∈F,∀c∈f,c.length<=50
 l:∀f∈F,∀c∈f,∀l∈c,1<=l.natAbs/\l.natAbs<=3
theorem sR{G:α->List q}{xs:List α}:(∀x∈xs,(G x).length<=b)->(xs.flatMap G).length<=b*xs.length:=by
 induction xs with
 |nil=>exact λj=>SR _
 |cons x xs ih=>
  intro h
  rw[Uu,Sw,TK,Nat.mul_succ,Nat.add_comm]
  exact U0 (ih λy m=>h y (Ss _ m)) (h x Sy)
theorem zG{r w A cond:X}(g:E1 d σ m w v)(D:items σ v=some xs)(G:AV->List AV)(p:AV->AV->Bool)(F:AV->AV->AV)(E:∀x∈xs,(ev d true A d').e (m.set B (some x)) (λH j=>items σ H=some (G x)/\Ext σ j) σ)(I:∀x∈xs,∀y∈G x,(ev d true cond d').t ((m.set B (some x)).set C (some y)) (λb j=>b=p x y/\Ext σ j) σ)(J:∀x∈xs,∀y∈G x,p x y=true->(ev d true r d').e ((m.set B (some x)).set C (some y)) (λv j=>v=F x y/\Ext σ j) σ)(hz:(xs.flatMap G).length<=big)(q:∀z,σ z=none->Q (.ref z) (upd σ z (.list (xs.flatMap λx=>((G x).filter (p x)).map (F x))))):
  (ev d true (.GV r B w C A cond) Xp).e m Q σ:=⟨rfl,g Xp _ (bU D ⟨G,p,F,E,I,J,hz,q⟩)⟩
theorem AY{j q w cond:X}(h:(ev d true (.GV j A q B w cond) Xp).e m (λv σ=>ws d Xp r true P (m.set i (some v)) σ) σ):ws d Xp (.cons (.HQ i j A q B w cond) r) true P m σ:=⟨rfl,h⟩
theorem CW{w one:Int}(A:E1 d σ m (.var 2) (.int w))(q:E1 d σ m (.var 6) (.int one))(r:1<=one.natAbs/\one.natAbs<=3):
  T1 d σ m (.cmp .Eq (.cmp .Eq (.bin .Mod (.bin .FloorDiv (.var 2) (.bin .Pow (.D6 (.int 2)) (.bin .Sub (.bf .abs (.cons (.var 6) .nil)) (.D6 (.int 1))))) (.D6 (.int 2))) (.D6 (.int 1))) (.cmp .Gt (.var 6) (.D6 (.int 0)))) (FD w one):=by
 have B:E1 d σ m (.bin .Sub (.bf .abs (.cons (.var 6) .nil)) (.D6 (.int 1))) (.int ((one.natAbs:Int)-1)):=ee (ef q) u'
 have C:E1 d σ m (.bin .Pow (.D6 (.int 2)) (.bin .Sub (.bf .abs (.cons (.var 6) .nil)) (.D6 (.int 1)))) (.int (2^((one.natAbs:Int)-1).toNat)):=CR (u' (v:=.int 2)) B ⟨by omega,by omega,by omega⟩
 have j:(0:Int)<2^((one.natAbs:Int)-1).toNat/\(2:Int)^((one.natAbs:Int)-1).toNat<2^64:=by
  have:((one.natAbs:Int)-1).toNat=0\/((one.natAbs:Int)-1).toNat=1\/((one.natAbs:Int)-1).toNat=2:=(show ∀n:Nat,n<=3->1<=n->((n:Int)-1).toNat=0\/((n:Int)-1).toNat=1\/((n:Int)-1).toNat=2 by decide) _ r.2 r.1
  rcases this with h|h|h<;>(rw[h];omega)
 have D:=j0 A C j
 have E:=j4 D (u' (v:=.int 2)) (by omega)
 have G:=eM E (u' (v:=.int 1)) dD
 have H:=eM q (u' (v:=.int 0)) fE
 exact bR G H lE
theorem ry:(((g' c).filter λv=>FD w (intOf v)).isEmpty)= !(c.any (FD w)):=by
 induction c with
 |nil=>rfl
 |cons x c ih=>
  unfold g' at ih⊢
  rw[TM,Uy,List.any_cons,show intOf (AV.int x)=x from rfl]
  by_cases h:FD w x=true
  ·rw[if_pos h,h];rfl
  ·rw[if_neg h,ih]
   rw[Bool.not_eq_true]at h;rw[h,Bool.false_or]
inductive Og (σ:AH) (F:List (List (List Int))) (ks:List Nat) (cs sa:Addr) (k:Nat) (m:D7) (Eb:AH):Prop
 |mk (u2 u3 u4 u5 u6) (h0:m=[some (.ref cs),some (.ref sa),u2,u3,u4,u5,u6]) (h1:Ext σ Eb) (h2:∀w:Nat,w<k->EY F w ks=false)
theorem E2.cls{F:List (List (List Int))}(C:q.length=F.length)(D:∀(i:Nat) (a:Addr) (f:List (List Int)),q[i]? =some a->F[i]? =some f->Form σ a f)(w:k<F.length):
  ∃a f m,q[k]? =some a/\F[k]? =some f/\σ a=some (.list (m.map AV.ref))/\FL σ q (.int k)=m.map .ref/\List.length (α:=Addr) m=f.length/\∀(j:Nat) (b:Addr) (c:List Int),m[j]? =some b->f[j]? =some c->σ b=some (.list (g' c)):=by
 obtain⟨a,r⟩:∃a,q[k]? =some a:=⟨_,SA (by rw[C];exact w)⟩
 obtain⟨f,A⟩:∃f,F[k]? =some f:=⟨_,SA w⟩
 obtain⟨m,B,E,G⟩:=D k a f r A
 refine⟨a,f,m,r,A,B,?_,E,G⟩
 unfold FL
 rw[show(intOf (.int k)).toNat=k from UO k,r]
 simp only[B]
theorem A9(h:σ b=some (.list (g' c))):Ha σ w (.ref b)= !(c.any (FD w)):=by
 unfold Ha;simp only[h];exact ry
theorem uH(m:List Addr):∀(f:List (List Int)),m.length=f.length->(∀(j:Nat) (b:Addr) (c:List Int),m[j]? =some b->f[j]? =some c->σ b=some (.list (g' c)))->((m.map AV.ref).filter λy=>Ha σ w y).isEmpty=f.all λc=>c.any (FD w):=by
 induction m with
 |nil=>
  intro f q _
  cases f with
  |nil=>rfl
  |cons c f=>cases q
 |cons b m r=>
  intro f q h
  cases f with
  |nil=>cases q
  |cons c f=>
   have A:=A9 (w:=w) (h 0 b c rfl rfl)
   rw[TM,Uy,List.all_cons,<-r f (Nat.succ.inj q) λj=>h (j+1),A]
   cases c.any (FD w)<;>rfl
theorem th{F:List (List (List Int))}(A:m.length=F.length)(B:∀(i:Nat) (a:Addr) (f:List (List Int)),m[i]? =some a->F[i]? =some f->Form σ a f)(ks:List Nat):(∀k∈ks,k<F.length)->
  ((j' ks).flatMap λx=>((FL σ m x).filter λy=>Ha σ w y).map λj=>x).isEmpty=EY F w ks:=by
 induction ks with
 |nil=>exact λj=>rfl
 |cons k ks ih=>
  intro r
  have ih:=ih λq C=>r q (Ss _ C)
  obtain⟨a,f,D,J,E,M,G,H,I⟩:=E2.cls A B (r k Sy)
  show(((FL σ m (.int k)).filter λy=>Ha σ w y).map (λj=>AV.int k)++((j' ks).flatMap λx=>((FL σ m x).filter λy=>Ha σ w y).map λj=>x)).isEmpty=((F[k]?.getD []).all (λc=>c.any (FD w))&&EY F w ks)
  rw[<-ih,E,show(some f).getD []=f from rfl,<-uH D f H I,<-G]
  cases(FL σ m (.int k)).filter λy=>Ha σ w y<;>rfl
theorem ye{ks:List Nat}{fl:List AV}(ok:FE F)(hF:E2 A fm F)(aa:A cs=some (.D4 1 fl))(ab:fl[1]? =some (.ref fm))(ac:A sa=some (.list (j' ks))\/A sa=some (.tup (j' ks)))(C:∀k∈ks,k<F.length)(ae:ks.length<=50)(e:Ext σ A){k:Nat}(hP:EY F k ks=true->∀σ2,Ext σ σ2->P (.bool true) σ2)(hn:∀w:Nat,w<k->EY F w ks=false):
  ws d d' ki true ⟨λm A=>Og σ F ks cs sa (k+1) m A,P⟩ [some (.ref cs),some (.ref sa),some (.int k),u3,u4,u5,u6] A:=by
 refine cL ?_
 intro RR YY
 obtain⟨I,f1,U,Y⟩:=hF
 refine AY (zG (ad rfl) (cT ac) (FL A I) (λr y=>Ha A k y) (λx r=>x) (λx H=>?_) (λx H y hy=>?_) (λx H y hy r=>ad rfl _ _ ⟨rfl,Ext.refl _⟩) ?_ λz hz=>?_)
 ·obtain⟨q,J,rfl⟩:=Te.mp H
  obtain⟨a,f,cr,ha,Z,g1,M,_,_⟩:=E2.cls U Y (C q J)
  refine cA (d2 (ad rfl) aa ab) (ad rfl) (.inl f1) (cQ (by rw[SG,ha];rfl)) _ _ ⟨?_,Ext.refl _⟩
  rw[M];exact ey g1
 ·obtain⟨q,J,rfl⟩:=Te.mp H
  obtain⟨a,f,cr,ha,Z,g1,M,g3,g4⟩:=E2.cls U Y (C q J)
  rw[M]at hy
  refine Ef hy λb hb=>?_
  obtain⟨j,hj⟩:=SQ.mp hb
  obtain⟨c,hc⟩:∃c,f[j]? =some c:=⟨_,SA (by rw[<-g3];exact bQ hj)⟩
  have N:=g4 j b c hj hc
  have D:=Sp Z
  have O:=Sp hc
  have af:=ok.c f D c O
  refine fh (eJ (ad rfl) (ey N) (λv=>FD k (intOf v)) (λv=>v) (λv hv=>?_) (λv hv r=>ad rfl _ _ ⟨rfl,Ext.refl _⟩) (by rw[bX];show _<=1048576;omega) λz hz=>cR cm (SI _) λz2 B=>?_)
  ·refine Ef hv λl hl=>?_
   exact CW (ad rfl) (ad rfl) (ok.l f D c O l hl) _ _ ⟨rfl,Ext.refl _⟩
  ·have Q:Ext A (upd A z (.list (((g' c).filter λv=>FD k (intOf v)).map λv=>v))):=.new hz
   have x2:=Q.trans (Ext.new (o:=.list []) B)
   refine ir (Ext.new B _ _ (bO _ _ _)) (bO _ _ _) _ ⟨?_,x2⟩
   unfold Ha;simp only[N]
   rw[show(((g' c).filter λv=>FD k (intOf v)).map λv=>v)=((g' c).filter λv=>FD k (intOf v))from Vk _]
 ·have:=sR (b:=50) (xs:=j' ks) (G:=FL A I) λx H=>by
   obtain⟨q,J,rfl⟩:=Te.mp H
   obtain⟨a,f,cr,ha,Z,g1,M,g3,g4⟩:=E2.cls U Y (C q J)
   rw[M,Su,g3]
   exact ok.f f (Sp Z)
  rw[bZ]at this
  show _<=1048576;omega
 ·have hw:=th (w:=k) U Y ks C
  have Q:Ext A (upd A z (.list ((j' ks).flatMap λx=>((FL A I x).filter λy=>Ha A k y).map λr=>x))):=.new hz
  have E:upd A z (.list ((j' ks).flatMap λx=>((FL A I x).filter λy=>Ha A k y).map λr=>x)) z=_:=bO _ _ _
  generalize (j' ks).flatMap (λx=>((FL A I x).filter λy=>Ha A k y).map λr=>x)=L at hw Q E⊢
  generalize upd A z (.list L)=σ2 at Q E⊢
  refine fi (fh ((ad rfl) _ _ (cR cm (SI _) λz2 B=>ir (Ext.new B _ _ E) (bO _ _ _) _ ?_)))
  have e3:=(e.trans Q).trans (Ext.new (o:=.list []) B)
  cases hL:L.isEmpty with
  |true=>
   rw[if_pos rfl]
   exact cW u' (hP (by rw[<-hw];exact hL) _ e3)
  |false=>
   rw[if_neg (by decide)]
   refine⟨_,_,_,_,_,rfl,e3,λw ag=>?_⟩
   by_cases h:w=k
   ·subst h;rw[<-hw];exact hL
   ·exact hn w (by omega)
theorem iI(O:1<=d)(ok:FE F)(Y:E2 σ Z F)(C:σ cs=some (.D4 1 fl))(D:fl[1]? =some (.ref Z))(E:σ sa=some (.list (j' ks))\/σ sa=some (.tup (j' ks)))(G:∀k∈ks,k<F.length)(H:ks.length<=50):
  D5 d (.ref 300) [.ref cs,.ref sa] (λv q=>v=.bool (Fd F ks)/\Ext σ q) d' σ:=by
 refine cw wi O (n:=5) rfl ?_
 intro d O RR
 refine eG (gf u' (sm (by omega)) λr I=>?_)
 have A:Ext σ (upd σ r (.EG 0 8)):=.new I
 have j:upd σ r (.EG 0 8) r=some (.EG 0 8):=bO _ _ _
 generalize upd σ r (.EG 0 8)=J at A j⊢
 refine bU (w:=EK 0 (8:Nat)) (kR j) ⟨Og J F ks cs sa,⟨_,_,_,_,_,rfl,Ext.refl _,λw h=>absurd h (UC _)⟩,?_⟩
 rintro k m q ⟨u2,u3,u4,u5,u6,rfl,e,Q⟩
 refine⟨eA j (e _ _ j),λU=>?_,λy hy=>?_⟩
 ·have U:k=8:=by rw[U];rfl
  refine cW u' ⟨?_,A.trans e⟩
  have:Fd F ks=false:=by
   unfold Fd
   rw[Vb]
   intro w M
   rw[Q w (by have:=Tl.mp M;omega)];decide
  rw[this]
 ·obtain⟨rfl,N⟩:=Mt hy
  have B:=A.trans e
  refine ye ok (Y.ext B) (B _ _ C) D (E.imp (B _ _) (B _ _)) G H e (λM σ2 e2=>⟨?_,A.trans e2⟩) Q
  have:Fd F ks=true:=by
   unfold Fd
   exact Th.mpr ⟨k,Tl.mpr N,M⟩
  rw[this]
def FN(F:List (List (List Int)))(j:Int->Bool):Prop:=∀(k:Nat) (f:List (List Int)),F[k]? =some f->∀c∈f,sat j (c++[-(4+k:Int)])
def Jj(ks:List Nat):List Int:=ks.map λ(k:Nat)=>(4+k:Int)
def b2i(b:Bool):Nat:=if b then 1 else 0
def KG(j:Int->Bool):Nat:=b2i (j 1)+2*b2i (j 2)+4*b2i (j 3)
theorem Cy(j:Int->Bool):KG j<8:=by delta KG b2i;cases j 1<;>cases j 2<;>cases j 3<;>decide
theorem zD(j:Int->Bool)(h:1<=l.natAbs/\l.natAbs<=3):FD (KG j) l=true↔tl j l:=by
 have q:l.natAbs=1\/l.natAbs=2\/l.natAbs=3:=(show ∀n:Nat,n<=3->1<=n->n=1\/n=2\/n=3 by decide) _ h.2 h.1
 delta FD tl
 rw[beq_iff_eq]
 have e1:decide (l>0)=decide (0<l):=rfl
 rw[e1]
 have m:(((KG j:Nat):Int)/2^((l.natAbs:Int)-1).toNat%2==1)=j (l.natAbs:Int):=by
  rcases q with h|h|h
  ·rw[h]
   show(((KG j:Nat):Int)/2^0%2==1)=j 1
   delta KG b2i
   cases j 1<;>cases j 2<;>cases j 3<;>decide
  ·rw[h]
   show(((KG j:Nat):Int)/2^1%2==1)=j 2
   delta KG b2i
   cases j 1<;>cases j 2<;>cases j 3<;>decide
  ·rw[h]
   show(((KG j:Nat):Int)/2^2%2==1)=j 3
   delta KG b2i
   cases j 1<;>cases j 2<;>cases j 3<;>decide
 rw[m]
theorem kJ:sat m (c++[x])↔sat m c\/tl m x:=by
 delta sat
 constructor
 ·rintro⟨l,j,ht⟩
  refine cx j (λh=>?_) λh=>?_
  ·exact .inl ⟨l,h,ht⟩
  ·rw[Sx]at h;subst h;exact .inr ht
 ·rintro(⟨l,j,ht⟩|h)
  ·exact⟨l,SN _ j,ht⟩
  ·exact⟨x,T7 _ (TL _),h⟩
theorem sL(ok:FE F)(A:FN F j)(ht:∀l∈Jj ks,tl j l):Fd F ks=true:=by
 delta Fd
 refine Th.mpr ⟨KG j,Tl.mpr (Cy j),?_⟩
 delta EY
 rw[Ti]
 intro k B
 cases q:F[k]? with
 |none=>rfl
 |some f=>
  rw[show(some f).getD []=f from rfl,Ti]
  intro c r
  rw[Th]
  have C:=ht (4+k:Int) (Te.mpr ⟨k,B,rfl⟩)
  rcases kJ.mp (A k f q c r)with⟨l,w,m⟩|h
  ·exact⟨l,w,(zD j (ok.l f (Sp q) c r l w)).mpr m⟩
  ·exact absurd C ((d5 (by omega)).mp h)
def Oh(w:Nat)(l:List Nat)(v:Int):Bool:=if v<=3 then((w:Int)/2^(v-1).toNat%2==1)else decide ((v-4).toNat∈l)
theorem Be(w:Nat)(l:List Nat)(h:1<=x.natAbs/\x.natAbs<=3):FD w x=true↔tl (Oh w l) x:=by
 delta FD tl Oh
 rw[beq_iff_eq,if_pos (by omega)]
theorem Ar(ok:FE F){m:List Int}(G:∀x∈m,x∈Jj ks)(A:∀B,FN F B->¬∀x∈m,tl B x):Fd F (ks.filter λ(k:Nat)=>decide ((4+(k:Int))∈m))=false:=by
 cases H:Fd F (ks.filter λ(k:Nat)=>decide ((4+(k:Int))∈m))with
 |false=>rfl
 |true=>
  obtain⟨w,J,j⟩:=Th.mp H
  unfold EY at j
  rw[Ti]at j
  refine absurd ?_ (A (Oh w (ks.filter λ(k:Nat)=>decide ((4+(k:Int))∈m))) ?_)
  ·intro x C
   obtain⟨k,r,rfl⟩:=Te.mp (G x C)
   delta tl Oh
   have e:((4+(k:Int)).natAbs:Int)=4+k:=MK
   rw[e,if_neg PW,decide_eq_true OA]
   refine decide_eq_true ?_
   rw[PX]
   exact SO.mpr ⟨r,decide_eq_true C⟩
  ·intro k f D c q
   rw[kJ]
   by_cases r:k∈ks.filter λ(k:Nat)=>decide ((4+(k:Int))∈m)
   ·left
    have:=j k r
    rw[D,show(some f).getD []=f from rfl,Ti]at this
    obtain⟨l,E,I⟩:=Th.mp (this c q)
    exact⟨l,E,(Be w _ (ok.l f (Sp D) c q l E)).mp I⟩
   ·right
    refine(d5 QC).mpr ?_
    delta tl Oh
    have e:((4+(k:Int)).natAbs:Int)=4+k:=MK
    rw[e,if_neg PW,decide_eq_true OA]
    rw[PX]
    simpa using r
theorem qp(h:∀k∈m,k∈ks)(q:Fd F ks=true):Fd F m=true:=by
 obtain⟨w,r,j⟩:=Th.mp q
 refine Th.mpr ⟨w,r,?_⟩
 unfold EY at j⊢
 rw[Ti]at j⊢
 exact λk A=>j k (h k A)
theorem AX(F:List (List (List Int))):∃j,FN F j:=⟨λv=>decide (v<=3),λk f m c q=>kJ.mpr (.inr ((d5 (by omega)).mpr (by
 delta tl
 have e:((4+(k:Int)).natAbs:Int)=4+k:=MK
 rw[e,decide_eq_true OA]
 simp
 omega)))⟩
def plain:AO->Bool
 | .inst .. =>false
 |_=>true
def res(T:Addr->Nat)(σ:AH):AH:=λb=>if T b=0 then(match σ b with|some o=>if plain o then some o else none|none=>none)else none
theorem cg(h:T b=0)(e:σ b=some o)(j:plain o=true:=by rfl):res T σ b=some o:=by
 delta res;rw[if_pos h,e];simp only[j];rfl
set_option tactic.hygienic true in
theorem cV(h:res T σ b=some o):(T b=0/\σ b=some o)/\plain o=true:=by
 delta res at h
 split at h
 ·rename_i m
  cases e:σ b with
  |none=>rw[e]at h;cases h
  |some o'=>
   rw[e]at h
   cases j:plain o' with
   |true=>simp only[j]at h;cases h;exact⟨⟨m,rfl⟩,j⟩
   |false=>simp[j]at h
 ·cases h
theorem ce(h:res T σ b=some o):T b=0/\σ b=some o:=(cV h).1
theorem e7(T:Addr->Nat)(σ:AH):Ext (res T σ) σ:=λb o h=>(ce h).2
theorem Fr.res(f:Fr T σ r j):Ext (res T σ) (res r j):=λb o h=>by
 obtain⟨⟨m,q⟩,w⟩:=cV h
 exact cg (f.zero m q) (f.keep b o m q) w
theorem yk(h:σ b=some (.inst C w A)):Ext (res T σ) (res T (upd σ b o)):=λc o' e=>by
 obtain⟨⟨r,j⟩,m⟩:=cV e
 refine cg r ((bP λq=>?_).trans j) m
 rw[q,h]at j;cases j;cases m
def plus(X:List Addr)(T:Addr->Nat):Addr->Nat:=λb=>if b∈X then 99 else T b
theorem mM{X:List Addr}(h:b∈X):plus X T b=99:=by delta plus;rw[if_pos h]
set_option tactic.hygienic true in
theorem bT{X:List Addr}:plus X T b=0↔b∉X/\T b=0:=by
 delta plus;split
 ·rename_i h;simp[h]
 ·rename_i h;simp[h]
theorem Fr.plus(X:List Addr)(f:Fr T σ m j):Fr (Mine.plus X T) σ (Mine.plus X m) j:=
 ⟨λb o h e=>f.keep b o (bT.mp h).2 e,λb h=>by
  by_cases r:b∈X
  ·left;rw[mM r];decide
  ·have h':m b≠0:=λq=>h (bT.mpr ⟨r,q⟩)
   exact(f.new b h').imp (λq w=>q (bT.mp w).2) id,f.there⟩
section
inductive Gf where
 |lim
 |Fd
 |core (l:List Nat)
def KH(σ:AH)(v:AV):Gf->Prop
 | .lim=>v=.str "limit"
 | .Fd=>v=.str "can"
 | .core l=>∃b,v=.ref b/\σ b=some (.tup (j' l))
def Hb(σ:AH)(v:AV)(p:List Nat×Gf):Prop:=∃e s a,v=.ref e/\σ e=some (.list [.ref s,a])/\σ s=some (.tup (j' p.1))/\KH σ a p.2
inductive ER {α:Type} (R:AV->α->Prop):List AV->List α->Prop
 |nil:ER R [] []
 |cons {v:AV} {a:α} {vs:List AV} {as:List α}:R v a->ER R vs as->ER R (v::vs) (a::as)
theorem ER.imp{R S:AV->α->Prop}(h:∀v a,R v a->S v a)(H:ER R vs as):ER S vs as:=by
 induction H with
 |nil=>exact .nil
 |cons x y ih=>exact .cons (h _ _ x) ih
theorem ER.snoc(h:R v a)(H:ER R vs as):ER R (vs++[v]) (as++[a]):=by
 induction H with
 |nil=>exact .cons h .nil
 |cons x y ih=>exact .cons x ih
theorem ER.len(h:ER R vs as):vs.length=as.length:=by
 induction h with
 |nil=>rfl
 |cons _ _ ih=>rw[TK,TK,ih]
theorem KH.ext(e:Ext σ j)(h:KH σ v a):KH j v a:=by
 cases a with
 |lim=>exact h
 |Fd=>exact h
 |core l=>obtain⟨b,m,q⟩:=h;exact⟨b,m,e _ _ q⟩
theorem Hb.ext(x:Ext σ j)(h:Hb σ v p):Hb j v p:=(by obtain⟨e,s,a,m,q,r,w⟩:=h;exact⟨e,s,a,m,x _ _ q,x _ _ r,w.ext x⟩)
structure LA where
 tp:Addr
 cl:Addr
 cs:Addr
 fm:Addr
 ak:Addr
 cells:List Int
 ex:List (Addr×AO)
def LA.X(L:LA):List Addr:=L.tp::L.cs::L.ak::L.ex.map (·.1)
def LA.T(L:LA)(A:Ad):Addr->Nat:=plus L.X A.T
structure Eu (L:LA) (F:List (List (List Int))) (base q:Nat) (σ:AH) (A:Ad) (C:Cn) (sp:Nat) (asked:List (List Nat×Gf)):Prop where
 FO:FA (3+F.length) base q (FN F) A σ C
 tp:σ L.tp=some (.D4 0 [.ref L.cl,.int sp])
 cl:res (L.T A) σ L.cl=some (.list (g' L.cells))
 cs:σ L.cs=some (.D4 1 [.ref L.tp,.ref L.fm,.ref L.ak,.ref A.a])
 fm:E2 (res (L.T A) σ) L.fm F
 ak:∃vs,σ L.ak=some (.list vs)/\ER (Hb (res (L.T A) σ)) vs asked
 x:∀b∈L.X,A.T b=0
 xs:∀p∈L.ex,σ p.1=some p.2
 nx:∀p∈L.ex,p.1≠L.tp/\p.1≠L.cs/\p.1≠L.ak
section
variable {b:Addr}
theorem FA.ext'{Mod:(Int->Bool)->Prop}(R:FA N base q Mod A σ C)(h:∀y,A.T y≠0->j y=σ y):FA N base q Mod A j C:=⟨R.rep.at h,R.inv,R.wk,R.good,R.ref,R.lg⟩
theorem FA.off{Mod:(Int->Bool)->Prop}(R:FA N base q Mod A σ C)(h:A.T b=0):FA N base q Mod A (upd σ b o) C:=R.ext' λy j=>bP λe=>j (by rw[e];exact h)
theorem LA.KZ(L:LA):L.tp∈L.X:=Sy
theorem LA.K0(L:LA):L.cs∈L.X:=Ss _ Sy
theorem LA.Lr(L:LA):L.ak∈L.X:=Ss _ (Ss _ Sy)
theorem LA.K2(L:LA)(h:p∈L.ex):p.1∈L.X:=Ss _ (Ss _ (Ss _ (SY h)))
theorem LA.GN(L:LA){P:Addr->Prop}(j:b∈L.X)(m:P L.tp)(q:P L.cs)(r:P L.ak)(w:∀p∈L.ex,P p.1):P b:=by
 refine dz j ?_ λj=>?_
 ·exact m
 ·refine dz j ?_ λj=>?_
  ·exact q
  ·refine dz j ?_ λj=>?_
   ·exact r
   ·refine Ef j λp A=>?_;exact w p A
theorem LA.ne(L:LA)(h:b∈L.X):L.T A b≠0:=by show plus L.X A.T b≠0;rw[mM h];decide
theorem Eu.Lu(S:Eu L F base q σ A C m j):L.tp≠L.cs:=λe=>by have:=S.tp;rw[e,S.cs]at this;cases this
theorem Eu.Mv(S:Eu L F base q σ A C m j):L.ak≠L.cs:=λe=>by obtain⟨vs,h,_⟩:=S.ak;rw[e,S.cs]at h;cases h
theorem Eu.LQ(S:Eu L F base q σ A C m j):L.ak≠L.tp:=λe=>by obtain⟨vs,h,_⟩:=S.ak;rw[e,S.tp]at h;cases h
theorem Eu.Lv(S:Eu L F base q σ A C m j)(r:L.cells.length<=1000)(hs:m<1000000):Fw σ L.tp L.cl L.cells m:=⟨S.tp,(ce S.cl).2,r,hs⟩
theorem Eu.solver(S:Eu L F base q σ A C E r)(f:Fr A.T σ w.T m)(G:w.a=A.a)(R:FA (3+F.length) base H (FN F) w m C'):Eu L F base H m w C' E r/\Fr (L.T A) σ (L.T w) m:=by
 have B:Fr (L.T A) σ (L.T w) m:=f.plus L.X
 have e:=B.res
 obtain⟨vs,D,I⟩:=S.ak
 exact⟨⟨R,f.keep _ _ (S.x _ L.KZ) S.tp,e _ _ S.cl,by rw[G];exact f.keep _ _ (S.x _ L.K0) S.cs,S.fm.ext e,⟨vs,f.keep _ _ (S.x _ L.Lr) D,I.imp λj j h=>h.ext e⟩,λb J=>L.GN (P:=λb=>w.T b=0) J (f.zero (S.x _ L.KZ) S.tp) (f.zero (S.x _ L.K0) S.cs) (f.zero (S.x _ L.Lr) D) (λp h=>f.zero (S.x p.1 (L.K2 h)) (S.xs p h)),λp h=>f.keep _ _ (S.x p.1 (L.K2 h)) (S.xs p h),S.nx⟩,B⟩
theorem Eu.ext(S:Eu L F base q σ A C r j)(e:Ext σ m):Eu L F base q m A C r j/\Fr (L.T A) σ (L.T A) m:=S.solver (Fr.ext e) rfl (S.FO.ext' λy w=>e.at (S.FO.rep.own y w))
theorem Bi(h:T x≠0):Ext (res T σ) (res T (upd σ x o)):=(b8 h).res
theorem Eu.draw(S:Eu L F base q σ A C r m):Eu L F base q (upd σ L.tp (.D4 0 [.ref L.cl,.int ((r+1:Nat):Int)])) A C (r+1) m/\Fr (L.T A) σ (L.T A) (upd σ L.tp (.D4 0 [.ref L.cl,.int ((r+1:Nat):Int)])):=by
 have w:L.T A L.tp≠0:=L.ne L.KZ
 have e:=Bi (σ:=σ) (o:=.D4 0 [.ref L.cl,.int ((r+1:Nat):Int)]) w
 obtain⟨vs,B,D⟩:=S.ak
 exact⟨⟨S.FO.off (S.x _ L.KZ),bO _ _ _,e _ _ S.cl,(bP (Ne.symm S.Lu)).trans S.cs,S.fm.ext e,⟨vs,(bP S.LQ).trans B,D.imp λj j h=>h.ext e⟩,S.x,λp h=>(bP (S.nx p h).1).trans (S.xs p h),S.nx⟩,b8 w⟩
theorem Bb(f:Fr T σ m j)(r:σ b=none):Fr T σ m (upd j b o):=
 ⟨λc o' h e=>(bP λq=>by rw[q,r]at e;cases e).trans (f.keep c o' h e),f.new,λc h=>by
  unfold upd;split
  ·simp
  ·exact f.there c h⟩
end
end
section
section
variable {ks:List Nat}
def Ic(L:LA)(F:List (List (List Int)))(base q:Nat)(σ:AH)(A:Ad)(w:Nat)(m:List (List Nat×Gf))(ks:List Nat)(v:AV)(j:AH):Prop:=
 ∃r C',Fr (L.T A) σ (L.T r) j/\r.a=A.a/\
  ((∃z B,v=.ref z/\res (L.T r) j z=some (.tup [.bool false,.ref B])/\res (L.T r) j B=some (.tup [])/\Fd F ks=true/\Eu L F base (q+1) j r C' (w+1) (m++[(ks,.Fd)]))\/
   (∃p z C,v=.ref z/\res (L.T r) j z=some (.tup [.bool true,.ref C])/\res (L.T r) j C=some (.tup (j' (ks.filter p).reverse))/\Fd F (ks.filter p)=false/\Eu L F base (q+1) j r C' (w+1) (m++[(ks,.core (ks.filter p))])))
def JC(L:LA)(F:List (List (List Int)))(base q:Nat)(σ:AH)(A:Ad)(w:Nat)(j:List (List Nat×Gf))(ks:List Nat)(m:AH):Prop:=
 ∃r C',Fr (L.T A) σ (L.T r) m/\r.a=A.a/\Eu L F base (q+1) m r C' (w+1) (j++[(ks,.lim)])
theorem Eu.fin(S:Eu L F base q σ A C N r){w J:Nat}(B:ER (Hb (res (L.T A) σ)) vs r)(f:Fr (L.T A) σ (L.T D) m)(R:FA (3+F.length) base J (FN F) D m C')(E:m L.tp=some (.D4 0 [.ref L.cl,.int w]))(G:m L.cs=some (.D4 1 [.ref L.tp,.ref L.fm,.ref L.ak,.ref D.a]))(H:m L.ak=some (.list (vs++[.ref e])))(M:∀b∈L.X,D.T b=0)(I:∀p∈L.ex,m p.1=some p.2)(he:Hb (res (L.T D) m) (.ref e) (ks,a)):Eu L F base J m D C' w (r++[(ks,a)]):=
 have x:=f.res
 ⟨R,E,x _ _ S.cl,G,S.fm.ext x,⟨_,H,(B.imp λj j h=>h.ext x).snoc he⟩,M,I,S.nx⟩
structure JD (L:LA) (F:List (List (List Int))) (base q:Nat) (σ:AH) (A:Ad) (sp:Nat) (vs:List AV) (e sa:Addr) (Mw:AH) (Ai:Ad) (Ci:Cn):Prop where
 FO:FA (3+F.length) base q (FN F) Ai Mw Ci
 f:Fr (L.T A) σ (L.T Ai) Mw
 a:Ai.a=A.a
 tp:Mw L.tp=some (.D4 0 [.ref L.cl,.int (sp:Nat)])
 cs:Mw L.cs=some (.D4 1 [.ref L.tp,.ref L.fm,.ref L.ak,.ref A.a])
 ak:Mw L.ak=some (.list (vs++[.ref e]))
 he:Mw e=some (.list [.ref sa,.str "limit"])
 eT:L.T Ai e=0
 x:∀b∈L.X,Ai.T b=0
 xs:∀p∈L.ex,Mw p.1=some p.2
 en:σ e=none
theorem JD.solver(M:JD L F base q σ A B vs e sa r w G)(f:Fr w.T r m.T j)(C:m.a=w.a)(R:FA (3+F.length) base D (FN F) m j C'):JD L F base D σ A B vs e sa j m C':=
 have he:=bT.mp M.eT
 ⟨R,M.f.trans (f.plus L.X),C.trans M.a,f.keep _ _ (M.x _ L.KZ) M.tp,f.keep _ _ (M.x _ L.K0) M.cs,f.keep _ _ (M.x _ L.Lr) M.ak,f.keep _ _ he.2 M.he,bT.mpr ⟨he.1,f.zero he.2 M.he⟩,λb E=>L.GN (P:=λb=>m.T b=0) E (f.zero (M.x _ L.KZ) M.tp) (f.zero (M.x _ L.K0) M.cs) (f.zero (M.x _ L.Lr) M.ak) (λp h=>f.zero (M.x p.1 (L.K2 h)) (M.xs p h)),λp h=>f.keep _ _ (M.x p.1 (L.K2 h)) (M.xs p h),M.en⟩
theorem JD.ext(M:JD L F base q σ A r vs e sa j w B)(x:Ext j m):JD L F base q σ A r vs e sa m w B:=M.solver (Fr.ext x) rfl (M.FO.ext' λy C=>x.at (M.FO.rep.own y C))
theorem JD.start(S:Eu L F base q σ A C I w)(j:σ L.ak=some (.list vs))(f:Fr (L.T E) σ0 (L.T A) σ)(G:A.a=E.a)(he:σ e=none)(B:σ0 e=none):
  JD L F base q σ0 E I vs e sa (upd (upd σ e (.list [.ref sa,.str "limit"])) L.ak (.list (vs++[.ref e]))) A C:=by
 have H:=S.FO.rep.zT he
 have m:L.ak≠e:=λq=>by rw[q]at j;rw[he]at j;cases j
 have D:e∉L.X:=λh=>L.GN (P:=λb=>b≠e) h (λq=>by have:=S.tp;rw[q,he]at this;cases this) (λq=>by have:=S.cs;rw[q,he]at this;cases this) m (λp J q=>by have:=S.xs p J;rw[q,he]at this;cases this) rfl
 have r:Ext σ (upd σ e (.list [.ref sa,.str "limit"])):=.new he
 refine⟨(S.FO.off H).off (S.x _ L.Lr),(f.trans (Fr.ext r)).trans (b8 (L.ne L.Lr)),G,(bP (Ne.symm S.LQ)).trans (r _ _ S.tp),?_,bO _ _ _,(bP (Ne.symm m)).trans (bO _ _ _),bT.mpr ⟨D,H⟩,S.x,(λp h=>(bP (S.nx p h).2.2).trans (r _ _ (S.xs p h))),B⟩
 rw[<-G];exact(bP (Ne.symm S.Mv)).trans (r _ _ S.cs)
theorem JD.open(S:Eu L F base q σ A C H j){D m:Nat}(r:ER (Hb (res (L.T A) σ)) vs j)(w:res (L.T A) σ sa=some (.tup (j' ks)))(M:JD L F base D σ A m vs e sa B E G):Eu L F base D B E G m (j++[(ks,.lim)]):=
 S.fin r M.f M.FO M.tp (by rw[M.a];exact M.cs) M.ak M.x M.xs ⟨e,sa,_,rfl,cg (M.eT) (M.he),M.f.res _ _ w,rfl⟩
theorem JD.answer(S:Eu L F base q σ A C J m){a:Gf}(r:ER (Hb (res (L.T A) σ)) vs m)(D:res (L.T A) σ sa=some (.tup (j' ks)))(M:JD L F base G σ A E vs e sa j w H)(I:KH (res (L.T w) (upd j e (.list [.ref sa,v]))) v a):Eu L F base G (upd j e (.list [.ref sa,v])) w H E (m++[(ks,a)])/\Fr (L.T A) σ (L.T w) (upd j e (.list [.ref sa,v])):=by
 have f:Fr (L.T A) σ (L.T w) (upd j e (.list [.ref sa,v])):=Bb M.f M.en
 have he:=bT.mp M.eT
 have B:∀{y:Addr},y∈L.X->upd j e (.list [.ref sa,v]) y=j y:=λh=>bP λq=>he.1 (by rw[<-q];exact h)
 exact⟨S.fin r f (M.FO.off he.2) ((B L.KZ).trans M.tp) (by rw[M.a];exact(B L.K0).trans M.cs) ((B L.Lr).trans M.ak) M.x (λp h=>by rw[B (L.K2 h)];exact M.xs p h) ⟨e,sa,_,rfl,cg (M.eT) (bO _ _ _),f.res _ _ D,I⟩,f⟩
end
end
section
section
variable {Xp:AH->Prop}
theorem B1{o:Addr}(g:E1 d σ m a (.ref o))(h:σ o=some (.tup xs))(q:∀z,σ z=none->Q (.ref z) (upd σ z (.tup xs.reverse))):(ev d true (.rev a) Xp).e m Q σ:=g Xp _ (Dj h q)
theorem Eu.fresh(S:Eu L F base q σ A C w j)(hz:σ z=none):L.T A z=0:=by
 obtain⟨vs,m,_⟩:=S.ak
 exact bT.mpr ⟨(λh=>L.GN (P:=λb=>b≠z) h (λq=>by have:=S.tp;rw[q,hz]at this;cases this) (λq=>by have:=S.cs;rw[q,hz]at this;cases this) (λq=>by rw[q,hz]at m;cases m) (λp r q=>by have:=S.xs p r;rw[q,hz]at this;cases this) rfl),S.FO.rep.zT hz⟩
theorem wq(ks:List Nat):((j' ks).filter λj=>true).map (λx=>AV.int (4+intOf x))=g' (Jj ks):=by
 rw[show((j' ks).filter λj=>true)=j' ks from UD.mpr λj j=>rfl]
 delta j' g' Jj;rw[Td,Td];rfl
theorem jE(p:Int->Bool)(ks:List Nat):((j' ks).filter λx=>p (intOf x)).map (λx=>x)=j' (ks.filter λk=>p (k:Int)):=by
 rw[UR]
 delta j'
 rw[Uo];rfl
theorem w0(al:1<=d)(S:Eu L F base q σ A C sp w)(ok:FE F)(H:ER (Hb (res (L.T A) σ)) vs w)(N:res (L.T A) σ sa=some (.tup (j' ks)))(ay:ks.length<=50)(M:JD L F base (q+1) σ A (sp+1) vs e sa B U Ci)(ht:Told (3+F.length) base (FN F) (Jj ks) Ci r){X:AH->Prop}:
  ws d X jz true ⟨λj am=>Ic L F base q σ A sp w ks .none am,Ic L F base q σ A sp w ks⟩ [some (.ref L.cs),some (.ref sa),some an,some (.ref A.a),some (.bool r),u5,u6] B:=by
 refine cL ?_
 intro RR YY
 have Y:∀{σ2:AH} {m:D7},Em m 0=some (.ref L.cs)->σ2 L.cs=some (.D4 1 [.ref L.tp,.ref L.fm,.ref L.ak,.ref A.a])->σ2 L.ak=some (.list (vs++[.ref e]))->E1 d σ2 m (.sub (.key (.var 0) 1 2) (.neg (.D6 (.int 1)))) (.ref e):=λh0 h1 h2=>cA (d2 (ad h0) h1 rfl) (eP u') (.inl h2) (zq (by simp))
 cases r with
 |true=>
  refine Bt (fk (r:=true) (gY (ad rfl)) u') (Y rfl M.cs M.ak) u' M.he (by simp) ?_
  obtain⟨Z,f6⟩:=M.answer S H N (v:=.str "can") (a:=.Fd) rfl
  refine fK (r:=true) (gY (ad rfl)) (dJ (ds u' (ch (gv cm (SI _) λz0 ae=>b7 ⟨show 2<=1048576 by decide,λz hz=>?_⟩))))
  obtain⟨S7,f7⟩:=Z.ext (Ext.new (o:=.tup []) ae)
  obtain⟨S8,f8⟩:=S7.ext (Ext.new (o:=.tup [.bool false,.ref z0]) hz)
  obtain⟨β,hm,ha⟩:=ht.1 rfl
  exact⟨U,Ci,(f6.trans f7).trans f8,M.a,.inl ⟨z,z0,rfl,cg (S7.fresh hz) (bO _ _ _),f8.res _ _ (cg (Z.fresh ae) (bO _ _ _)),sL ok hm ha,S8⟩⟩
 |false=>
  obtain⟨G,aq,az,ar,as⟩:=ht.2 rfl
  refine(?_:_->_) ((ce (M.f.res _ _ N)).2)
  intro af
  have aa:B A.a=some (.inst 272 U.dx (Fv U Ci)):=by rw[<-M.a];exact M.FO.rep.inst
  have ag:B U.bl=some (.tup (g' G)):=by rw[<-aq];exact M.FO.rep.bl
  refine cZ (fK (r:=false) (gY (ad rfl)) ⟨rfl,ch (eJ (ad rfl) (cT (.inr af)) (λx=>decide ((4+intOf x)∈G)) (λx=>x) (λx hx=>?_) (λx hx j=>ad rfl _ _ ⟨rfl,Ext.refl _⟩) (by rw[bZ];show _<=1048576;omega) λz hz=>b7 (fP (bO _ _ _) λD ab=>?_))⟩)
  ·refine Ef hx λk hk=>?_
   exact bR (dE u' (ad rfl)) (λXp Q q=>pq (ad rfl) aa cm rfl (by have:=q6 al M.FO.rep;rw[M.a]at this;exact this) q) (xa (.inr ag)) _ _ ⟨rfl,Ext.refl _⟩
  ·rw[jE (λx=>decide ((4+x)∈G)) ks]at ab⊢
   have x1:Ext B (upd B z (.list (j' (ks.filter λ(k:Nat)=>decide ((4+(k:Int))∈G))))):=.new hz
   refine(?_:_->_) (x1.trans (Ext.new (o:=.tup (j' (ks.filter λ(k:Nat)=>decide ((4+(k:Int))∈G)))) ab))
   intro x2
   have J:=M.ext x2
   have E:upd (upd B z (.list (j' (ks.filter λ(k:Nat)=>decide ((4+(k:Int))∈G))))) D (.tup (j' (ks.filter λ(k:Nat)=>decide ((4+(k:Int))∈G)))) D=some (.tup (j' (ks.filter λ(k:Nat)=>decide ((4+(k:Int))∈G)))):=bO _ _ _
   have au:L.T U D=0:=by
    have:=(M.open S H N).ext x1
    exact this.1.fresh ab
   generalize upd (upd B z (.list (j' (ks.filter λ(k:Nat)=>decide ((4+(k:Int))∈G))))) D (.tup (j' (ks.filter λ(k:Nat)=>decide ((4+(k:Int))∈G))))=σ2 at J E⊢
   refine(?_:D≠e->_) (λq=>by rw[q,J.he]at E;cases E)
   intro aw
   refine pB (Y rfl J.cs J.ak) u' J.he (by simp) ?_
   have ac:res (L.T U) (upd σ2 e (.list [.ref sa,.ref D])) D=some (.tup (j' (ks.filter λ(k:Nat)=>decide ((4+(k:Int))∈G)))):=cg (au) ((bP aw).trans E)
   obtain⟨Z,f6⟩:=J.answer S H N (v:=.ref D) (a:=.core (ks.filter λ(k:Nat)=>decide ((4+(k:Int))∈G))) ⟨D,rfl,ac⟩
   have I:=Z.cs
   rw[J.a]at I
   refine(?_:_->_) ((bT.mp J.eT).1)
   intro ax
   have O:upd σ2 e (.list [.ref sa,.ref D]) L.ak=some (.list (vs++[.ref e])):=(bP λq=>ax (by rw[<-q];exact L.Lr)).trans J.ak
   have ah:upd σ2 e (.list [.ref sa,.ref D]) e=some (.list [.ref sa,.ref D]):=bO _ _ _
   show ws d X jT true _ [some (.ref L.cs),some (.ref sa),some an,some (.ref A.a),some (.bool false),u5,u6] (upd σ2 e (.list [.ref sa,.ref D]))
   generalize upd σ2 e (.list [.ref sa,.ref D])=aA at ac Z f6 I O ah⊢
   refine fK (r:=false) (gY (ad rfl)) (dJ (ds u' (ch (B1 (cA (Y rfl I O) u' (.inl ah) rfl) (ce ac).2 λzl ai=>b7 ⟨show 2<=1048576 by decide,λzz aj=>?_⟩))))
   obtain⟨S7,f7⟩:=Z.ext (Ext.new (o:=.tup (j' (ks.filter λ(k:Nat)=>decide ((4+(k:Int))∈G))).reverse) ai)
   obtain⟨S8,f8⟩:=S7.ext (Ext.new (o:=.tup [.bool true,.ref zl]) aj)
   refine⟨U,Ci,(f6.trans f7).trans f8,J.a,.inr ⟨_,zz,zl,rfl,cg (S7.fresh aj) (bO _ _ _),f8.res _ _ (cg (Z.fresh ai) (?_)),Ar ok ar as,S8⟩⟩
   rw[bO];delta j';rw[Ve]
theorem uk(hd:5<=d)(S:Eu L F base q σ A C O m)(ok:FE F)(hl:L.cells.length<=1000)(ac:O<1000000)(hq:q<=100000)(al:m.length<=1000)(H:res (L.T A) σ sa=some (.tup (j' ks)))(ae:∀k∈ks,k<F.length)(af:ks.length<=50):
  D5 d (.ref 305) [.ref L.cs,.ref sa] (Ic L F base q σ A O m ks) (JC L F base q σ A O m ks) σ:=by
 refine gl ?_
 intro G2
 obtain⟨d,rfl⟩:∃e,d=e+1:=⟨d-1,by omega⟩
 have Y:1<=d:=by omega
 have ag:4<=d:=by omega
 obtain⟨vs,Z,D⟩:=S.ak
 refine et sV (n:=5) rfl ?_
 intro RR
 refine⟨rfl,dJ (ch (dq (cO rfl) (dc (d2 (ad rfl) S.cs rfl) u') ((jo Y (S.Lv hl ac) (by decide)).mono (λv I hv=>?_) (λσ h=>h.elim))))⟩
 obtain⟨B,rfl,aj,rfl⟩:=hv
 obtain⟨S1,f1⟩:=S.draw
 have J:upd σ L.tp (.D4 0 [.ref L.cl,.int ((O+1:Nat):Int)]) L.ak=some (.list vs):=(bP S.LQ).trans Z
 generalize upd σ L.tp (.D4 0 [.ref L.cl,.int ((O+1:Nat):Int)])=I at S1 f1 J⊢
 refine ds (d2 (ad rfl) S1.cs rfl) (b7 ⟨show 2<=1048576 by decide,λz hz=>bU (w:=[.int B,.ref A.a]) (by delta itemsT;simp only[bO]) ⟨rfl,?_⟩⟩)
 obtain⟨S2,f2⟩:=S1.ext (Ext.new (o:=.tup [.int B,.ref A.a]) hz)
 have E:upd I z (.tup [.int B,.ref A.a]) L.ak=some (.list vs):=Ext.new hz _ _ J
 show ws d (JC L F base q σ A O m ks) jn true _ [some (.ref L.cs),some (.ref sa),some (.int B),some (.ref A.a),none,none,none] (upd I z (.tup [.int B,.ref A.a]))
 generalize upd I z (.tup [.int B,.ref A.a])=σ2 at S2 f2 E⊢
 refine cN (fG (d2 (ad rfl) S2.cs rfl) (ec E) (ch (cR (dc (ad rfl) u') (show 2<=1048576 by decide) λe he=>b7 (ej (Ext.new he _ _ E) rfl (by rw[D.len];show _<1048576;omega) ⟨trivial,?_⟩))))
 have M:=JD.start (sa:=sa) S2 E (f1.trans f2) rfl he (rN (f1.trans f2) he)
 generalize upd (upd σ2 e (.list [.ref sa,.str "limit"])) L.ak (.list (vs++[.ref e]))=Q at M⊢
 by_cases h5:B=5
 ·refine dI (du (bR (ad rfl) u' dD) (by simpa using h5)) ?_
  have M':=M.solver (Fr.refl ..) rfl M.FO.more
  exact⟨rfl,by omega,trivial,A,C,M'.f,M'.a,M'.open S D H⟩
 ·refine iA (du (bR (ad rfl) u' dD) (by simpa using h5)) ?_
  refine fw (DL (eM (ad rfl) u' dD)) (ad rfl) M.FO.rep.inst (d9 ..) ?_
  have N:(0:Int)<=(if(B==4)then(1:Int)else 0)/\(if(B==4)then(1:Int)else 0)<=1:=by split<;>decide
  generalize (if(B==4)then(1:Int)else 0)=G at N⊢
  have R4:FA (3+F.length) base q (FN F) A (upd Q A.a (.inst 272 A.dx (Fv A (C.Fu C.seen C.gain C.refuted C.clashes G)))) (C.Fu C.seen C.gain C.refuted C.clashes G):=⟨M.FO.rep.Fh C.seen C.gain C.refuted C.clashes G,M.FO.inv.at rfl rfl rfl rfl rfl rfl,M.FO.wk,M.FO.good.at rfl rfl rfl rfl,M.FO.ref,M.FO.lg⟩
  have M4:=M.solver (b8 (x:=A.a) (o:=.inst 272 A.dx (Fv A (C.Fu C.seen C.gain C.refuted C.clashes G))) (by rw[M.FO.rep.tags.a];decide)) rfl R4
  show ws d (JC L F base q σ A O m ks) jq true _ [some (.ref L.cs),some (.ref sa),some (.int B),some (.ref A.a),none,none,none] (upd Q A.a (.inst 272 A.dx (Fv A (C.Fu C.seen C.gain C.refuted C.clashes G))))
  generalize upd Q A.a (.inst 272 A.dx (Fv A (C.Fu C.seen C.gain C.refuted C.clashes G)))=am at R4 M4⊢
  refine(?_:_->_) ((ce (M4.f.res _ _ H)).2)
  intro aa
  refine cZ (gG (ad rfl) M4.FO.rep.inst rfl (fX (eJ (ad rfl) (cT (.inr aa)) (λj=>true) (λx=> .int (4+intOf x)) (λx hx=>⟨rfl,Ext.refl _⟩) (λx hx j=>?_) (by rw[bZ];show _<=1048576;omega) λzl ab=>?_)))
  ·refine Ef hx λk hk=>?_
   exact dE u' (ad rfl) _ _ ⟨rfl,Ext.refl _⟩
  rw[wq]
  have M5:=M4.ext (Ext.new (o:=.list (g' (Jj ks))) ab)
  refine(tR ag (AX F) hq M5.FO N (λl ah=>?_) (by delta Jj;rw[Su];omega) (M4.FO.rep.zT ab) (.inl (bO _ _ _))).mono (λv ai hv=>c0 ?_) λai hv=>?_
  ·refine Ef ah λk hk=>?_
   exact Qm (ae k hk)
  ·obtain⟨r,rfl,A6,C6,f6,U,R6,_,hT⟩:=hv
   exact w0 Y S ok D H af (M5.solver f6 U R6) hT
  ·obtain⟨_,A6,C6,f6,U,R6,_⟩:=hv
   have M6:=M5.solver f6 U R6
   exact⟨A6,C6,M6.f,M6.a,M6.open S D H⟩
end
end
section
section
variable {dx ask:Addr}
def Fi(d:Nat)(L:LA)(F:List (List (List Int)))(base:Nat)(ask:Addr)(m:AH->Prop):Prop:=
 ∀(σ:AH) (A:Ad) (C:Cn) (q r:Nat) (j:List (List Nat×Gf)) (sa:Addr) (ks:List Nat),Eu L F base q σ A C r j->m (res (L.T A) σ)->r<1000000->q<=100000->j.length<=1000->res (L.T A) σ sa=some (.tup (j' ks))->(∀k∈ks,k<F.length)->ks.length<=50->
  D5 d (.ref ask) [.ref sa] (Ic L F base q σ A r j ks) (JC L F base q σ A r j ks) σ
structure En (L:LA) (F:List (List (List Int))) (base q:Nat) (fn dx ask:Addr) (Jk:AH->Prop) (least:Bool) (σ:AH) (A:Ad) (C:Cn) (sp:Nat) (asked:List (List Nat×Gf)):Prop where
 s:Eu L F base q σ A C sp asked
 F7:σ fn=some (.inst 103 dx [.ref ask,.int F.length,.bool least])
 hT:L.T A fn=0
 ao:Jk (res (plus [fn] (L.T A)) σ)
def TF(L:LA)(j:Addr)(A:Ad):Addr->Nat:=plus [j] (L.T A)
def Seq(σ:AH)(j:Addr)(ks:List Nat):Prop:=σ j=some (.list (j' ks))\/∃n:Nat,σ j=some (.EG 0 n)/\ks=List.range n
theorem iH(n:Nat):EK 0 n=j' (List.range n):=by
 delta EK j'
 rw[show((n:Int)-0).toNat=n by omega]
 apply TX
 intro a _;simp
theorem Seq.items(h:Seq σ j ks):items σ (.ref j)=some (j' ks):=by
 rcases h with h|⟨n,h,rfl⟩
 ·exact mY h
 ·rw[<-iH];exact kR h
theorem Seq.ext(h:Seq σ m ks)(e:Ext σ j):Seq j m ks:=h.imp (e _ _) λq=>(by obtain⟨n,h,r⟩:=q;exact⟨n,e _ _ h,r⟩)
theorem Seq.tuple(h:Seq σ j ks)(hz:ks.length<=big)(q:∀z,σ z=none->Q (.ref z) (upd σ z (.tup (j' ks)))):Ik .tuple [.ref j] Q σ:=by
 rcases h with h|⟨n,h,rfl⟩
 ·exact fP h q
 ·exact zm h (by rw[iH,bZ];exact hz) (by rw[iH];exact q)
def KI(L:LA)(F:List (List (List Int)))(base q:Nat)(B dx ask:Addr)(w:AH->Prop)(j:Bool)(σ:AH)(A:Ad)(D:Nat)(m:List (List Nat×Gf))(ks:List Nat)(v:AV)(r:AH):Prop:=
 ∃C C',Fr (TF L B A) σ (TF L B C) r/\C.a=A.a/\
  ((v=.none/\Fd F ks=true/\En L F base (q+1) B dx ask w j r C C' (D+1) (m++[(ks,.Fd)]))\/
   (∃p z,v=.ref z/\res (TF L B C) r z=some (.tup (j' (ks.filter p)))/\Fd F (ks.filter p)=false/\En L F base (q+1) B dx ask w j r C C' (D+1) (m++[(ks,.core (ks.filter p))])))
def HY(L:LA)(F:List (List (List Int)))(base q:Nat)(B dx ask:Addr)(r:AH->Prop)(j:Bool)(σ:AH)(A:Ad)(D:Nat)(m:List (List Nat×Gf))(ks:List Nat)(w:AH):Prop:=
 ∃C C',Fr (TF L B A) σ (TF L B C) w/\C.a=A.a/\En L F base (q+1) B dx ask r j w C C' (D+1) (m++[(ks,.lim)])
theorem En.step(I:∀σ j,Ext σ j->m σ->m j)(S:En L F base q B dx ask m w σ A C N E)(f:Fr (L.T A) σ (L.T D) j)(J:Eu L F base M j D C' G r):
  En L F base M B dx ask m w j D C' G r/\Fr (TF L B A) σ (TF L B D) j:=by
 have H:Fr (TF L B A) σ (TF L B D) j:=f.plus [B]
 exact⟨⟨J,f.keep _ _ S.hT S.F7,f.zero S.hT S.F7,I _ _ H.res S.ao⟩,H⟩
theorem En.ext(D:∀σ j,Ext σ j->m σ->m j)(S:En L F base q B dx ask m r σ A C E w)(e:Ext σ j):En L F base q B dx ask m r j A C E w/\Fr (TF L B A) σ (TF L B A) j:=
 have h:=S.s.ext e
 S.step D h.2 h.1
theorem uO(L:LA)(j:Addr)(A:Ad)(σ:AH):Ext (res (TF L j A) σ) (res (L.T A) σ):=λb o h=>by
 obtain⟨⟨m,q⟩,r⟩:=cV h
 exact cg (bT.mp m).2 q r
theorem En.fresh(S:En L F base q w dx ask r j σ A C B m)(hz:σ z=none):TF L w A z=0:=
 bT.mpr ⟨(λh=>by rw[Sx]at h;have:=S.F7;rw[<-h,hz]at this;cases this),S.s.fresh hz⟩
theorem sZ(p:Nat->Bool)(ks:List Nat):(j' ks).filter (λx=>decide (intOf x∈((ks.filter p).reverse.map λ(k:Nat)=>(k:Int))))=j' (ks.filter p):=by
 delta j'
 rw[Uo]
 congr 1
 apply UL
 intro k m
 show decide ((k:Int)∈_)=p k
 rw[TU]
 refine decide_eq_true_iff.trans ?_
 rw[Te]
 constructor
 ·rintro⟨j,q,e⟩
  have:j=k:=by omega
  subst this
  exact(SO.mp (List.mem_reverse.mp q)).2
 ·exact λh=>⟨k,List.mem_reverse.mpr (SO.mpr ⟨m,h⟩),rfl⟩
theorem fp(l:List Nat):j' l=g' (l.map λ(k:Nat)=>(k:Int)):=by delta j' g';rw[Td];rfl
theorem i2(hd:1<=d)(O:∀σ aa,Ext σ aa->B σ->B aa)(G:Fi (d-1) L F base ask B)(S:En L F base q E dx ask B D σ A C Y m)(ah:Y<1000000)(hq:q<=100000)(ai:m.length<=1000)(ab:Seq (res (TF L E A) σ) so ks)(aj:∀k∈ks,k<F.length)(al:ks.length<=50):
  D5 d (.ref 81) [.ref E,.ref so] (KI L F base q E dx ask B D σ A Y m ks) (HY L F base q E dx ask B D σ A Y m ks) σ:=by
 obtain⟨d,rfl⟩:∃e,d=e+1:=⟨d-1,by omega⟩
 have G:Fi d L F base ask B:=G
 refine et re (n:=3) rfl ?_
 intro RR
 have ac:Seq σ so ks:=ab.ext (e7 _ _)
 refine⟨rfl,?_⟩
 refine⟨rfl,(ad rfl) _ _ ⟨gR S.F7,ph S.F7 rfl rfl (ch ⟨rfl,ds (ad rfl) (b7 (ac.tuple (by show _<=1048576;omega) λsa ae=>b7 ?_))⟩)⟩⟩
 have x1:Ext σ (upd σ sa (.tup (j' ks))):=.new ae
 obtain⟨Z,f1⟩:=S.ext O x1
 have af:TF L E A sa=0:=S.fresh ae
 have J:res (TF L E A) (upd σ sa (.tup (j' ks))) sa=some (.tup (j' ks)):=cg (af) (bO _ _ _)
 have M:=ab.ext f1.res
 generalize upd σ sa (.tup (j' ks))=Q at x1 Z f1 J M⊢
 refine(G Q A C q Y m sa ks Z.s (O _ _ (uO L E A Q) Z.ao) ah hq ai (uO L E A Q _ _ J) aj al).mono (λv σ2 hv=>?_) λσ2 hv=>?_
 ·obtain⟨A2,C2,f2,I,hv⟩:=hv
  rcases hv with⟨z,z0,rfl,hz,aq,H,S2⟩|⟨p,z,zl,rfl,hz,am,H,S2⟩
  ·obtain⟨S3,f3⟩:=Z.step O f2 S2
   refine bU (w:=[.bool false,.ref z0]) (by delta itemsT;simp only[(ce hz).2]) ⟨rfl,?_⟩
   show ws d (HY L F base q E dx ask B D σ A Y m ks) fC true _ [some (.ref E),some (.ref so),some (.bool false),some (.ref z0),none] σ2
   exact fK (r:=false) (gY (ad rfl)) (u' _ _ ⟨A2,C2,f1.trans f3,I,.inl ⟨rfl,H,S3⟩⟩)
  ·obtain⟨S3,f3⟩:=Z.step O f2 S2
   refine bU (w:=[.bool true,.ref zl]) (by delta itemsT;simp only[(ce hz).2]) ⟨rfl,?_⟩
   show ws d (HY L F base q E dx ask B D σ A Y m ks) fC true _ [some (.ref E),some (.ref so),some (.bool true),some (.ref zl),none] σ2
   have ag:=(M.ext f3.res).ext (e7 _ _)
   have N:=(ce am).2
   rw[fp]at N
   refine fK (r:=true) (gY (ad rfl)) ⟨rfl,ch (eJ (ad rfl) ag.items (λx=>decide (intOf x∈((ks.filter p).reverse.map λ(k:Nat)=>(k:Int)))) (λx=>x) (λx hx=>?_) (λx hx j=>ad rfl _ _ ⟨rfl,Ext.refl _⟩) (by rw[bZ];show _<=1048576;omega) λz5 an=>b7 (fP (bO _ _ _) λz6 U=>?_))⟩
   ·refine Ef hx λk hk=>?_
    exact bR (ad rfl) (ad rfl) (xa (.inr N)) _ _ ⟨rfl,Ext.refl _⟩
   ·rw[UR,sZ]at U⊢
    obtain⟨S5,f5⟩:=S3.ext O (Ext.new (o:=.list (j' (ks.filter p))) an)
    obtain⟨S6,f6⟩:=S5.ext O (Ext.new (o:=.tup (j' (ks.filter p))) U)
    exact⟨A2,C2,((f1.trans f3).trans f5).trans f6,I,.inr ⟨p,z6,rfl,cg (S5.fresh U) (bO _ _ _),H,S6⟩⟩
 ·obtain⟨A2,C2,f2,I,S2⟩:=hv
  obtain⟨S3,f3⟩:=Z.step O f2 S2
  exact⟨A2,C2,f1.trans f3,I,S3⟩
end
end
section
section
variable {dx ask:Addr}
theorem AD{o C dx:Addr}(g:Em m i=some (.ref o))(e:σ o=some (.inst C dx j))(q:n<=j.length)(k:ws d Xp r false P m (upd σ o (.inst C dx (GC j n v)))):ws d Xp (.cons (.set (.attr (.var i) C n) (.D6 v)) r) false P m σ:=by
 show Ej (Em m i) (λw=>FG w C n v (λσ=>ws d Xp r false P m σ) σ)
 rw[g]
 show FG (.ref o) C n v (λσ=>ws d Xp r false P m σ) σ
 exact iD e q k
theorem En.set(H:∀σ B,Ext σ B->r σ->r B)(S:En L F base q m dx ask r E σ A C I w)(l:Bool):
  En L F base q m dx ask r l (upd σ m (.inst 103 dx [.ref ask,.int F.length,.bool l])) A C I w/\Fr (TF L m A) σ (TF L m A) (upd σ m (.inst 103 dx [.ref ask,.int F.length,.bool l])):=by
 have G:=bT.mp S.hT
 have x:Ext (res (L.T A) σ) (res (L.T A) (upd σ m (.inst 103 dx [.ref ask,.int F.length,.bool l]))):=yk S.F7
 have D:∀{y:Addr},y∈L.X->upd σ m (.inst 103 dx [.ref ask,.int F.length,.bool l]) y=σ y:=λh=>bP λq=>G.1 (by rw[<-q];exact h)
 have f:Fr (TF L m A) σ (TF L m A) (upd σ m (.inst 103 dx [.ref ask,.int F.length,.bool l])):=b8 (by show plus [m] (L.T A) m≠0;rw[mM Sy];decide)
 obtain⟨vs,J,M⟩:=S.s.ak
 exact⟨⟨⟨S.s.FO.off G.2,(D L.KZ).trans S.s.tp,x _ _ S.s.cl,(D L.K0).trans S.s.cs,S.s.fm.ext x,⟨vs,(D L.Lr).trans J,M.imp λj j h=>h.ext x⟩,S.s.x,(λp h=>by rw[D (L.K2 h)];exact S.s.xs p h),S.s.nx⟩,bO _ _ _,S.hT,H _ _ f.res S.ao⟩,f⟩
def LR(L:LA)(F:List (List (List Int)))(base q:Nat)(B dx ask:Addr)(m:AH->Prop)(r:Bool)(σ:AH)(A:Ad)(C:Nat)(j:List (List Nat×Gf))(ks:List Nat)(v:AV)(w:AH):Prop:=
 KI L F base q B dx ask m r σ A C j ks v w\/(v=.none/\HY L F base q B dx ask m false σ A C j ks w)
theorem qv(hd:2<=d)(Q:∀σ w,Ext σ w->j σ->j w)(B:Fi (d-2) L F base ask j)(S:En L F base q E dx ask j r σ A C G m)(H:G<1000000)(Y:q<=100000)(I:m.length<=1000)(J:Seq (res (TF L E A) σ) Z ks)(M:∀k∈ks,k<F.length)(N:ks.length<=50):
  D5 d (.ref 100) [.ref E,.ref Z] (LR L F base q E dx ask j r σ A G m ks) d' σ:=by
 obtain⟨d,rfl⟩:∃e,d=e+1:=⟨d-1,by omega⟩
 have D:Fi (d-1) L F base ask j:=by rw[show d+1-2=d-1 by omega]at B;exact B
 refine et tH (n:=0) rfl ?_
 intro RR
 refine⟨rfl,cD (ad rfl) S.F7 (cJ (ad rfl)) rfl ((i2 (by omega) Q D S H Y I J M N).mono (λv w h=> .inl h) λw h=>?_)⟩
 obtain⟨A2,C2,f2,O,U⟩:=h
 obtain⟨S3,f3⟩:=U.set Q false
 refine AD (o:=E) rfl U.F7 (show 2<=3 by decide) ?_
 show LR L F base q E dx ask j r σ A G m ks .none _
 exact .inr ⟨rfl,A2,C2,f2.trans f3,O,S3⟩
end
end
section
structure Lf where
 left:List Nat
 kept:List Nat
 lim:List Nat
def without(l:List Nat)(w:Nat):List Nat:=l.filter λk=>decide (k≠w)
def lfStep(s:Lf)(p:List Nat×Gf):Option Lf:=
 match s.left.filter λk=>decide (k∉p.1)with
 |[g]=>if g∈s.kept\/p.1≠without s.left g then none else
  match p.2 with
  | .lim=>some ⟨s.left,s.kept++[g],s.lim++[g]⟩
  | .Fd=>some ⟨s.left,s.kept++[g],s.lim⟩
  | .core l=>some ⟨l,s.kept,s.lim⟩
 |_=>none
def replay:List (List Nat×Gf)->Lf->Option Lf
 |[],s=>some s
 |p::r,s=>match lfStep s p with
  |some t=>replay r t
  |none=>none
theorem gS(r:List (List Nat×Gf)):∀(s t:Lf) (p:List Nat×Gf),replay r s=some t->replay (r++[p]) s=lfStep t p:=by
 induction r with
 |nil=>
  intro s t p h
  cases h
  show(match lfStep s p with
   |some t=>some t
   |none=>none)=_
  cases lfStep s p<;>rfl
 |cons x r ih=>
  intro s t p
  show(match lfStep s x with
   |some t=>replay r t
   |none=>none)=some t->(match lfStep s x with
   |some t=>replay (r++[p]) t
   |none=>none)=_
  cases lfStep s x with
  |none=>exact λh=>(by cases h)
  |some u=>exact ih u t p
theorem x9{l:List Nat}(j:l.Nodup)(m:w∈l):(l.filter λk=>decide (k∉without l w))=[w]:=by
 have e:(l.filter λk=>decide (k∉without l w))=l.filter λk=>k==w:=by
  apply UL
  intro k r
  rw[TU]
  refine decide_eq_true_iff.trans ?_
  unfold without
  rw[SO,beq_iff_eq]
  constructor
  ·intro h
   rcases Decidable.em (k=w)with q|q
   ·exact q
   ·exact absurd ⟨r,decide_eq_true q⟩ h
  ·rintro rfl ⟨_,h⟩
   exact(of_decide_eq_true h) rfl
 rw[e,List.filter_beq,j.count,if_pos m]
 rfl
theorem jw{s:Lf}(j:s.left.Nodup)(m:w∈s.left)(q:w∉s.kept)(a:Gf):lfStep s (without s.left w,a)=match a with
  | .lim=>some ⟨s.left,s.kept++[w],s.lim++[w]⟩
  | .Fd=>some ⟨s.left,s.kept++[w],s.lim⟩
  | .core l=>some ⟨l,s.kept,s.lim⟩:=by
 unfold lfStep
 simp only[x9 j m]
 rw[if_neg (by intro h;rcases h with h|h;exact q h;exact h rfl)]
theorem sr{a b:List Nat}(j:a.Nodup)(h:∀x∈a,x∈b):a.length<=b.length:=j.length_le_of_subset λx m=>h x m
structure HD (F:List (List (List Int))) (l0:List Nat) (more:List (List Nat×Gf)) (s:Lf) (least:Bool):Prop where
 run:replay more ⟨l0,[],[]⟩=some s
 nd:s.left.Nodup
 lt:∀k∈s.left,k<F.length
 no:Fd F s.left=false
 yes:∀k∈s.kept,k∉s.lim->Fd F (without s.left k)=true
 least:least=decide (s.lim=[])
 cl:∀p∈more,∀l,p.2=.core l->l.length<=F.length
section
variable {l0:List Nat} {more:List (List Nat×Gf)} {least:Bool}
theorem HD.start(m:l0.Nodup)(q:∀k∈l0,k<F.length)(r:Fd F l0=false):HD F l0 [] ⟨l0,[],[]⟩ true:=⟨rfl,m,q,r,(λj h=>(by cases h)),rfl,(λj h=>(by cases h))⟩
theorem HD.Ie(S:HD F l0 more s least)(h:∀l,p.2=.core l->l.length<=F.length):∀q∈more++[p],∀l,q.2=.core l->l.length<=F.length:=λq j=>by
 refine cx j (λh'=>?_) λh'=>?_
 ·exact S.cl q h'
 ·rw[Sx]at h';subst h';exact h
theorem HD.lim(S:HD F l0 more s least)(j:w∈s.left)(m:w∉s.kept):HD F l0 (more++[(without s.left w,.lim)]) ⟨s.left,s.kept++[w],s.lim++[w]⟩ false:=
 ⟨(gS _ _ _ _ S.run).trans (jw S.nd j m .lim),S.nd,S.lt,S.no,λk h h'=>by
  refine cx h (λh=>?_) λh=>?_
  ·exact S.yes k h λq=>h' (SN _ q)
  ·exact absurd (T7 _ h) h',(by symm;exact decide_eq_false (by simp)),S.Ie λl h=>(by cases h)⟩
theorem HD.Fd(S:HD F l0 more s least)(j:w∈s.left)(m:w∉s.kept)(q:Fd F (without s.left w)=true):HD F l0 (more++[(without s.left w,.Fd)]) ⟨s.left,s.kept++[w],s.lim⟩ least:=
 ⟨(gS _ _ _ _ S.run).trans (jw S.nd j m .Fd),S.nd,S.lt,S.no,λk h h'=>by
  refine cx h (λh=>?_) λh=>?_
  ·exact S.yes k h h'
  ·rw[Sx]at h;subst h;exact q,S.least,S.Ie λl h=>(by cases h)⟩
theorem HD.core(S:HD F l0 more s least)(m:w∈s.left)(q:w∉s.kept)(p:Nat->Bool)(r:Mine.Fd F ((without s.left w).filter p)=false):HD F l0 (more++[(without s.left w,.core ((without s.left w).filter p))]) ⟨(without s.left w).filter p,s.kept,s.lim⟩ least:=by
 have sub:∀k∈(without s.left w).filter p,k∈s.left:=λk h=>(SO.mp (SO.mp h).1).1
 refine⟨(gS _ _ _ _ S.run).trans (jw S.nd m q (.core _)),(S.nd.sublist TA).sublist TA,λk h=>S.lt k (sub k h),r,λk h h'=>?_,S.least,S.Ie λl h=>?_⟩
 ·refine qp (λj A=>?_) (S.yes k h h')
  obtain⟨B,C⟩:=SO.mp A
  exact SO.mpr ⟨sub j B,C⟩
 ·cases h
  have:=sr (b:=List.range F.length) ((S.nd.sublist TA).sublist TA) λx D=>Tl.mpr (S.lt x (sub x D))
  rw[Tj]at this;exact this
def Eg(s:Lf):List Nat:=s.left.filter λk=>decide (k∉s.kept)
theorem qy{s t:Lf}(m:w∈Eg s)(h:∀k,k∈Eg t->k∈Eg s/\k≠w)(r:t.left.Nodup)(hs:s.left.Nodup):(Eg t).length<(Eg s).length:=by
 have A:(Eg t).Nodup:=r.sublist TA
 have B:(w::Eg t).Nodup:=Tb.mpr ⟨λq=>(h w q).2 rfl,A⟩
 have:=sr B (b:=Eg s) λk j=>by
  refine dz j ?_ λj=>?_
  ·exact m
  ·exact(h k j).1
 rw[TK]at this;omega
end
end
section
section
variable {L:LA} {dx ask:Addr}
def LA.add(L:LA)(z:Addr)(o:AO):LA:={L with ex:=(z,o)::L.ex}
theorem gE(L:LA)(z:Addr)(o:AO)(b:Addr):b∈(L.add z o).X↔b=z\/b∈L.X:=by
 show b∈L.tp::L.cs::L.ak::z::L.ex.map (·.1)↔b=z\/b∈L.tp::L.cs::L.ak::L.ex.map (·.1)
 simp only[SH]
 generalize (b∈L.ex.map (·.1))=Q
 constructor
 ·rintro(h|h|h|h|h)<;>simp[h]
 ·rintro(h|h|h|h|h)<;>simp[h]
theorem oX(h:(L.add z o).T A b=0):L.T A b=0:=by
 have:=bT.mp h
 exact bT.mpr ⟨λq=>this.1 ((gE L z _ b).mpr (.inr q)),this.2⟩
theorem xm(L:LA)(z:Addr)(o:AO):Ext (res ((L.add z o).T A) σ) (res (L.T A) σ):=λb o' h=>by
 obtain⟨⟨j,m⟩,q⟩:=cV h
 exact cg (oX j) m q
theorem nP(L:LA)(z m:Addr)(o:AO):Ext (res (TF (L.add z o) m A) σ) (res (TF L m A) σ):=λb o' h=>by
 obtain⟨⟨j,q⟩,r⟩:=cV h
 have j:=bT.mp j
 exact cg (bT.mpr ⟨j.1,oX j.2⟩) q r
theorem zd(L:LA)(hz:σ z=none):Ext (res (L.T A) σ) (res ((L.add z o).T A) (upd σ z o)):=λb o' h=>by
 obtain⟨⟨j,m⟩,w⟩:=cV h
 have r:b≠z:=λq=>by rw[q,hz]at m;cases m
 have j:=bT.mp j
 exact cg (bT.mpr ⟨λq=>((gE L z _ b).mp q).elim r j.1,j.2⟩) ((bP r).trans m) w
theorem pL(L:LA)(r:Addr)(hz:σ z=none):Ext (res (TF L r A) σ) (res (TF (L.add z o) r A) (upd σ z o)):=λb o' h=>by
 obtain⟨⟨j,m⟩,C⟩:=cV h
 have w:b≠z:=λq=>by rw[q,hz]at m;cases m
 have j:=bT.mp j
 have B:=bT.mp j.2
 exact cg (bT.mpr ⟨j.1,bT.mpr ⟨λq=>((gE L z _ b).mp q).elim w B.1,B.2⟩⟩) ((bP w).trans m) C
theorem En.add(J:∀σ B,Ext σ B->m σ->m B)(S:En L F base q E dx ask m r σ A C M w)(hz:σ z=none):En (L.add z o) F base q E dx ask m r (upd σ z o) A C M w:=by
 have x:Ext σ (upd σ z o):=.new hz
 have e:Ext (res (L.T A) σ) (res ((L.add z o).T A) (upd σ z o)):=zd L hz
 obtain⟨vs,G,N⟩:=S.s.ak
 have H:E≠z:=λq=>by have:=S.F7;rw[q,hz]at this;cases this
 have I:=bT.mp S.hT
 refine⟨⟨S.s.FO.off (S.s.FO.rep.zT hz),x _ _ S.s.tp,e _ _ S.s.cl,x _ _ S.s.cs,S.s.fm.ext e,⟨vs,x _ _ G,N.imp λj j h=>h.ext e⟩,λb D=>?_,λb D=>?_,λb D=>?_⟩,x _ _ S.F7,bT.mpr ⟨λq=>((gE L z _ E).mp q).elim H I.1,I.2⟩,J _ _ (pL L E hz) S.ao⟩
 ·rcases(gE L z _ b).mp D with rfl|h
  ·exact S.s.FO.rep.zT hz
  ·exact S.s.x b h
 ·refine dz D ?_ λh=>?_
  ·exact bO _ _ _
  ·exact x _ _ (S.s.xs b h)
 ·refine dz D ?_ λh=>?_
  ·refine⟨λq=>?_,λq=>?_,λq=>?_⟩
   ·have q:z=L.tp:=q
    have:=S.s.tp;rw[<-q,hz]at this;cases this
   ·have q:z=L.cs:=q
    have:=S.s.cs;rw[<-q,hz]at this;cases this
   ·have q:z=L.ak:=q
    rw[<-q,hz]at G;cases G
  ·exact S.s.nx b h
theorem En.drop(G:∀σ B,Ext σ B->m σ->m B)(S:En (L.add z o) F base q E dx ask m r σ A C H w):En L F base q E dx ask m r σ A C H w:=by
 have e:Ext (res ((L.add z o).T A) σ) (res (L.T A) σ):=xm L z o
 obtain⟨vs,I,J⟩:=S.s.ak
 exact⟨⟨S.s.FO,S.s.tp,e _ _ S.s.cl,S.s.cs,S.s.fm.ext e,⟨vs,I,J.imp λj j h=>h.ext e⟩,λb D=>S.s.x b ((gE L z _ b).mpr (.inr D)),λb D=>S.s.xs b (Ss _ D),λb D=>S.s.nx b (Ss _ D)⟩,S.F7,oX S.hT,G _ _ (nP L z E o) S.ao⟩
theorem En.turn(M:∀σ D,Ext σ D->m σ->m D)(S:En (L.add z o) F base q r dx ask m w σ A C N B)(E:∀p∈L.ex,p.1≠z):
  En (L.add z o') F base q r dx ask m w (upd σ z o') A C N B/\Fr (TF (L.add z o) r A) σ (TF (L.add z o) r A) (upd σ z o'):=by
 have hz:(z,o)∈(L.add z o).ex:=Sy
 have G:=S.s.nx _ hz
 have H:=(L.add z o).ne (A:=A) ((L.add z o).K2 hz)
 have I:Fr ((L.add z o).T A) σ ((L.add z o).T A) (upd σ z o'):=b8 H
 have J:Fr (TF (L.add z o) r A) σ (TF (L.add z o) r A) (upd σ z o'):=I.plus [r]
 have e:=I.res
 have O:r≠z:=λq=>(bT.mp S.hT).1 (by rw[q];exact(L.add z o).K2 hz)
 obtain⟨vs,Q,U⟩:=S.s.ak
 refine⟨⟨⟨S.s.FO.off (S.s.x z ((L.add z o).K2 hz)),(bP (Ne.symm G.1)).trans S.s.tp,e _ _ S.s.cl,(bP (Ne.symm G.2.1)).trans S.s.cs,S.s.fm.ext e,⟨vs,(bP (Ne.symm G.2.2)).trans Q,U.imp λj j h=>h.ext e⟩,S.s.x,λp h=>?_,λp h=>?_⟩,(bP O).trans S.F7,S.hT,M _ _ J.res S.ao⟩,J⟩
 ·refine dz h ?_ λh=>?_
  ·exact bO _ _ _
  ·exact(bP (E p h)).trans (S.s.xs p (Ss _ h))
 ·refine dz h ?_ λh=>?_
  ·exact G
  ·exact S.s.nx p (Ss _ h)
end
end
section
section
variable {ks l0:List Nat} {dx ask:Addr}
theorem x6{o:Addr}(h:σ o=some (.tup xs))(q:Q (.ref o) σ):Ik .tuple [.ref o] Q σ:=zo h q
theorem Fr.Oi(f:Fr (TF (L.add z o) w A) σ (TF (L.add z o) w D) B)(hz:σ z=none):Fr (TF L w A) σ (TF L w D) B:=
 ⟨λb o' h e=>f.keep b o' (by
  have j:=bT.mp h
  have m:=bT.mp j.2
  exact bT.mpr ⟨j.1,bT.mpr ⟨λq=>((gE L z _ b).mp q).elim (λq=>by rw[q,hz]at e;cases e) m.1,m.2⟩⟩) e,λb h=>by
  by_cases C:b=z
  ·right;rw[C];exact hz
  ·refine(f.new b λq=>h ?_).imp (λq E=>q ?_) id
   ·have j:=bT.mp q
    exact bT.mpr ⟨j.1,oX j.2⟩
   ·have j:=bT.mp E
    have m:=bT.mp j.2
    exact bT.mpr ⟨j.1,bT.mpr ⟨λr=>((gE L z _ b).mp r).elim C m.1,m.2⟩⟩,f.there⟩
inductive KJ (L:LA) (F:List (List (List Int))) (base q:Nat) (fn dx ask:Addr) (Jk:AH->Prop) (σ:AH) (A:Ad) (sp:Nat) (asked:List (List Nat×Gf)) (l0:List Nat) (nd so:Addr) (k:Nat) (m:D7) (Eb:AH):Prop
 |mk (A' C' least more s lf wt v5 u6 u7) (h0:m=[some (.ref fn),some (.ref so),some (.ref lf),some (.ref nd),some (.ref wt),v5,u6,u7]) (h1:Fr (TF (L.add nd (.list [])) fn A) σ (TF (L.add nd (.list [])) fn A') Eb) (h2:A'.a=A.a) (h3:En (L.add nd (.list (j' s.kept))) F base (q+List.length (α:=List Nat×Gf) more) fn dx ask Jk least Eb A' C' (sp+more.length) (asked++more)) (h4:HD F l0 more s least) (h5:res (TF (L.add nd (.list [])) fn A') Eb lf=some (.tup (j' s.left))) (h6:Eb nd=some (.list (j' s.kept))) (h7:res (TF (L.add nd (.list [])) fn A') Eb wt=some (.list (j' (Eg s)))) (h8:k=(Eg s).length) (h9:more.length+(Eg s).length<=20) (Pl:s.left.length<=20) (P9:s.kept.length<=more.length)
inductive Oj (L:LA) (F:List (List (List Int))) (base q:Nat) (fn dx ask:Addr) (Jk:AH->Prop) (σ:AH) (A:Ad) (sp:Nat) (asked:List (List Nat×Gf)) (l0:List Nat) (v:AV) (Eb:AH):Prop
 |mk (A' C' least more s z) (h0:v=.ref z) (h1:Fr (TF L fn A) σ (TF L fn A') Eb) (h2:A'.a=A.a) (h3:En L F base (q+List.length (α:=List Nat×Gf) more) fn dx ask Jk least Eb A' C' (sp+more.length) (asked++more)) (h4:more.length<=20) (h5:HD F l0 more s least) (h6:Eg s=[]) (h7:res (TF L fn A') Eb z=some (.tup (j' s.left)))
theorem oz(l:List Nat)(w:Nat):((j' l).filter λx=> !(intOf x==(w:Int))).map (λx=>x)=j' (without l w):=by
 rw[UR]
 delta j' without
 rw[Uo]
 congr 1
 apply UL
 intro k _
 show(!((k:Int)==(w:Int)))=_
 by_cases h:k=w
 ·subst h;simp
 ·have:((k:Int)==(w:Int))=false:=by simp;omega
  rw[this];simp[h]
theorem rG(s:Lf):((j' s.left).filter λx=> !decide (intOf x∈s.kept.map λ(k:Nat)=>(k:Int))).map (λx=>x)=j' (Eg s):=by
 rw[UR]
 delta j' Eg
 rw[Uo]
 congr 1
 apply UL
 intro k _
 show(!decide ((k:Int)∈s.kept.map λ(k:Nat)=>(k:Int)))=_
 by_cases h:k∈s.kept
 ·rw[decide_eq_true (Te.mpr ⟨k,h,rfl⟩),decide_eq_false (by simpa using h)];rfl
 ·rw[decide_eq_false (λq=>by refine jL q λj m e=>?_;have:j=k:=(by omega);subst this;exact h m),decide_eq_true h];rfl
theorem js(ho:∀σ w,Ext σ w->B σ->B w){more:List (List Nat×Gf)}{Q wt:Addr}(f:Fr (TF (L.add G (.list [])) I A) σ (TF (L.add G (.list [])) I O) w)(ha:O.a=A.a)(S:En (L.add G (.list (j' s.kept))) F base (q+more.length) I dx ask B C w O C' (sp+more.length) (E++more))(H:HD F l0 more s C)(J:res (TF (L.add G (.list [])) I O) w Q=some (.tup (j' s.left)))(M:w G=some (.list (j' s.kept)))(Y:(Eg s).length<k)(hm:more.length+(Eg s).length<=20)(hl:s.left.length<=20)(U:s.kept.length<=more.length):
  ws d d' fc true ⟨λm w=>∃j,j<k/\KJ L F base q I dx ask B σ A sp E l0 G so j m w,P⟩ [some (.ref I),some (.ref so),some (.ref Q),some (.ref G),some (.ref wt),v5,u6,u7] w:=by
 refine cL ?_
 intro RR YY
 have N:=(ce J).2
 have D:=M
 rw[fp]at D
 refine cZ (eJ (ad rfl) (cT (.inr N)) (λx=> !decide (intOf x∈s.kept.map λ(k:Nat)=>(k:Int))) (λx=>x) (λx Z=>?_) (λx Z r=>ad rfl _ _ ⟨rfl,Ext.refl _⟩) (by rw[bZ];show _<=1048576;omega) λz hz=>c0 ?_)
 ·refine Ef Z λk Y=>?_
  exact bR (ad rfl) (ad rfl) (jU (.inl D)) _ _ ⟨rfl,Ext.refl _⟩
 rw[rG]
 have x:Ext w (upd w z (.list (j' (Eg s)))):=.new hz
 obtain⟨S2,f2⟩:=S.ext ho x
 exact⟨_,Y,O,C',C,more,s,Q,z,_,_,_,rfl,f.trans f2,ha,S2,H,f2.res _ _ J,x _ _ M,cg (S.fresh hz) (bO _ _ _),rfl,hm,hl,U⟩
end
end
section
section
variable {ks l0:List Nat} {dx ask:Addr}
theorem kr(ho:∀σ B,Ext σ B->C σ->C B)(M:∀p∈L.ex,p.1≠D){more:List (List Nat×Gf)}{lf wt:Addr}(f:Fr (TF (L.add D (.list [])) J A) σ (TF (L.add D (.list [])) J Q) B)(ha:Q.a=A.a)(S:En (L.add D (.list (j' s.kept))) F base (q+more.length) J dx ask C E B Q C' (sp+more.length) (G++more))(H:HD F l0 more ⟨s.left,s.kept++[w],N⟩ E)(hw:w∈Eg s)(O:s.left.Nodup)(Y:res (TF (L.add D (.list [])) J Q) B lf=some (.tup (j' s.left)))(I:∃r,res (TF (L.add D (.list [])) J Q) B wt=some (.list (j' (w::r))))(hk:(Eg s).length=k)(hm:more.length+(Eg s).length<=21)(hl:s.left.length<=20)(Z:s.kept.length+1<=more.length):
  ws d d' hJ true ⟨λm B=>ws d d' fc true ⟨λm B=>∃j,j<k/\KJ L F base q J dx ask C σ A sp G l0 D so j m B,P⟩ m B,P⟩ [some (.ref J),some (.ref so),some (.ref lf),some (.ref D),some (.ref wt),v5,u6,u7] B:=by
 refine cL ?_
 intro RR YY
 have aa:B D=some (.list (j' s.kept)):=S.s.xs (D,.list (j' s.kept)) Sy
 obtain⟨r,I⟩:=I
 refine dt (ys:=j' (s.kept++[w])) (ad rfl) (cA (ad rfl) u' (.inl (ce I).2) (cQ (n:=0) rfl)) aa (by simp[j']) (by rw[bZ];show _<1048576;omega) ?_
 obtain⟨S2,f2⟩:=S.turn ho (o':=.list (j' (s.kept++[w]))) M
 have ab:(Eg ⟨s.left,s.kept++[w],N⟩).length<(Eg s).length:=qy hw (λj hj=>by
  obtain⟨h1,U⟩:=SO.mp hj
  have U:j∉s.kept++[w]:=of_decide_eq_true U
  exact⟨SO.mpr ⟨h1,decide_eq_true λq=>U (SN _ q)⟩,λq=>U (by rw[q];simp)⟩) O O
 exact js ho (s:=⟨s.left,s.kept++[w],N⟩) (f.trans f2) ha S2 H (f2.res _ _ Y) (bO _ _ _) (by omega) (by omega) hl (by simp;exact Z)
theorem qY(hd:2<=d)(ho:∀σ E,Ext σ E->C σ->C E)(ae:∀o,Fi (d-2) (L.add Z o) F base ask C)(U:∀p∈L.ex,p.1≠Z)(hq:q<=90000)(ar:sp<=900000)(as:D.length<=900)(I:KJ L F base q fn dx ask C σ A sp D l0 Z so k m E)(hk:0<k):
  ws d d' kD true ⟨λm E=>∃j,j<k/\KJ L F base q fn dx ask C σ A sp D l0 Z so j m E,P⟩ m E:=by
 refine cL ?_
 intro RR YY
 obtain⟨A1,C1,al,more,s,lf,wt,v5,u6,u7,rfl,f,ha,S,H,af,au,aa,rfl,hm,hl,aw⟩:=I
 obtain⟨w,r,ag⟩:∃w r,Eg s=w::r:=by
  cases h:Eg s with
  |nil=>rw[h]at hk;exact absurd hk (T3 0)
  |cons w r=>exact⟨w,r,rfl⟩
 have hw:w∈Eg s:=by rw[ag];exact Sy
 obtain⟨ab,G⟩:=SO.mp hw
 have G:w∉s.kept:=of_decide_eq_true G
 have ah:=(ce af).2
 rw[ag]at aa
 refine cZ (gG (ad rfl) S.F7 rfl (fX (eJ (ad rfl) (cT (.inr ah)) (λx=> !(intOf x==(w:Int))) (λx=>x) (λx hx=>?_) (λx hx B=>ad rfl _ _ ⟨rfl,Ext.refl _⟩) (by rw[bZ];show _<=1048576;omega) λz hz=>?_)))
 ·refine Ef hx λj hj=>?_
  exact bR (ad rfl) (cA (ad rfl) u' (.inl (ce aa).2) (cQ (n:=0) rfl)) jV _ _ ⟨rfl,Ext.refl _⟩
 rw[oz]
 obtain⟨S1,f1⟩:=S.ext ho (Ext.new (o:=.list (j' (without s.left w))) hz)
 have ai:res (TF (L.add Z (.list [])) fn A1) (upd E z (.list (j' (without s.left w)))) z=some (.list (j' (without s.left w))):=cg (S.fresh hz) (bO _ _ _)
 have J:=f1.res _ _ af
 have M:=f1.res _ _ aa
 generalize upd E z (.list (j' (without s.left w)))=ax at S1 f1 ai J M⊢
 have aj:∀j∈without s.left w,j∈s.left:=λj h=>(SO.mp h).1
 have aq:(without s.left w).length<=s.left.length:=TG ..
 refine(qv hd ho (ae _) S1 (by omega) (by omega) (by rw[Sw];omega) (.inl ai) (λj h=>H.lt j (aj j h)) (by omega)).mono (λv O hv=>c0 ?_) λσ h=>h.elim
 have ac:∀{l:Bool} {A3:Ad} {C3:Cn} {O:AH} {x:List Nat×Gf},En (L.add Z (.list (j' s.kept))) F base (q+more.length+1) fn dx ask C l O A3 C3 (sp+more.length+1) (D++more++[x])->En (L.add Z (.list (j' s.kept))) F base (q+(more++[x]).length) fn dx ask C l O A3 C3 (sp+(more++[x]).length) (D++(more++[x])):=λ{l A3 C3 O x} h=>by
  rw[<-Va,Sw];exact h
 rcases hv with⟨A3,C3,Y,Q,⟨rfl,N,S3⟩|⟨p,z3,rfl,am,N,S3⟩⟩|⟨rfl,A3,C3,Y,Q,S3⟩
 ·refine dI (du (bR (ad rfl) u' d8) (by decide)) ?_
  exact kr ho U (f.trans (f1.trans Y)) (Q.trans ha) (ac S3) (H.Fd ab G N) hw H.nd (Y.res _ _ J) ⟨r,Y.res _ _ M⟩ rfl (by rw[Sw];simp;omega) hl (by rw[Sw];simp;omega)
 ·refine co (bR (ad rfl) u' d8) ?_
  rw[if_neg (by simp)]
  refine dd (ad rfl) ?_
  have Hc:=H.core ab G p N
  have an:(Eg ⟨(without s.left w).filter p,s.kept,s.lim⟩).length<(Eg s).length:=qy hw (λj hj=>by
   obtain⟨h1,h2⟩:=SO.mp hj
   obtain⟨h3,h4⟩:=SO.mp (SO.mp h1).1
   exact⟨SO.mpr ⟨h3,h2⟩,of_decide_eq_true h4⟩) Hc.nd H.nd
  have ay:((without s.left w).filter p).length<=(without s.left w).length:=TG ..
  exact js ho (s:=⟨(without s.left w).filter p,s.kept,s.lim⟩) (f.trans (f1.trans Y)) (Q.trans ha) (ac S3) Hc am (S3.s.xs (Z,.list (j' s.kept)) Sy) an (by rw[Sw];simp;omega) (by show((without s.left w).filter p).length<=20;omega) (by rw[Sw];show s.kept.length<=_;omega)
 ·refine dI (du (bR (ad rfl) u' d8) (by decide)) ?_
  exact kr ho U (f.trans (f1.trans Y)) (Q.trans ha) (ac S3) (H.lim ab G) hw H.nd (Y.res _ _ J) ⟨r,Y.res _ _ M⟩ rfl (by rw[Sw];simp;omega) hl (by rw[Sw];simp;omega)
end
end
section
section
variable {ks l0:List Nat} {dx ask:Addr}
theorem nF(l:List Nat):Eg ⟨l,[],[]⟩=l:=UD.mpr λj j=>by simp
theorem qS(hd:3<=d)(ho:∀σ ab,Ext σ ab->r σ->r ab)(ac:∀z o,Fi (d-3) (L.add z o) F base ask r)(hq:q<=90000)(al:sp<=900000)(am:B.length<=900)(S:En L F base q E dx ask r true σ A C sp B)(ae:res (TF L E A) σ D=some (.tup (j' l0)))(hn:l0.Nodup)(hl:∀k∈l0,k<F.length)(hc:Fd F l0=false)(an:l0.length<=20):D5 d (.ref 93) [.ref E,.ref D] (Oj L F base q E dx ask r σ A sp B l0) d' σ:=by
 obtain⟨d,rfl⟩:∃e,d=e+1:=⟨d-1,by omega⟩
 have Q:∀z o,Fi (d-2) (L.add z o) F base ask r:=λz o=>by have:=ac z o;rw[show d+1-3=d-2 by omega]at this;exact this
 refine et wE (n:=6) rfl ?_
 intro RR
 refine⟨rfl,dJ (ch ⟨rfl,ds (ad rfl) (b7 (x6 (ce ae).2 (ch (cR cm (SI _) λj G=>b7 ⟨show 2<=1048576 by decide,λzt U=>bU (w:=[AV.ref D,AV.ref j]) (by unfold itemsT;simp only[bO]) ⟨rfl,?_⟩⟩))))⟩)⟩
 have af:∀p∈L.ex,p.1≠j:=λp hp q=>by have:=S.s.xs p hp;rw[q,G]at this;cases this
 have S1:=S.add ho (o:=.list []) G
 have f1:Fr (TF (L.add j (.list [])) E A) σ (TF (L.add j (.list [])) E A) (upd σ j (.list [])):=cU G
 have M:res (TF (L.add j (.list [])) E A) (upd σ j (.list [])) D=some (.tup (j' l0)):=pL L E G _ _ ae
 have N:upd σ j (.list []) j=some (.list []):=bO _ _ _
 generalize upd σ j (.list [])=Y at S1 f1 M N U⊢
 obtain⟨S2,f2⟩:=S1.ext ho (Ext.new (o:=.tup [AV.ref D,AV.ref j]) U)
 have J:=f2.res _ _ M
 have O:upd Y zt (.tup [AV.ref D,AV.ref j]) j=some (.list []):=Ext.new U _ _ N
 show ws d d' kj true _ [some (.ref E),some (.ref D),some (.ref D),some (.ref j),none,none,none,none] (upd Y zt (.tup [AV.ref D,AV.ref j]))
 generalize upd Y zt (.tup [AV.ref D,AV.ref j])=σ2 at S2 f2 J O⊢
 refine cZ ⟨rfl,ds (ad rfl) (b7 (mP (.inr (ce J).2) λwt Z=>by
  refine c0 ?_
  obtain⟨S3,f3⟩:=S2.ext ho (Ext.new (o:=.list (j' l0)) Z)
  have ag:=f3.res _ _ J
  have ah:upd σ2 wt (.list (j' l0)) j=some (.list []):=Ext.new Z _ _ O
  have ai:res (TF (L.add j (.list [])) E A) (upd σ2 wt (.list (j' l0))) wt=some (.list (j' l0)):=cg (S2.fresh Z) (bO _ _ _)
  show ws d d' G1 true _ [some (.ref E),some (.ref D),some (.ref D),some (.ref j),some (.ref wt),none,none,none] (upd σ2 wt (.list (j' l0)))
  refine mF (KJ L F base q E dx ask r σ A sp B l0 j D) _ ⟨A,C,true,[],⟨l0,[],[]⟩,D,wt,_,_,_,rfl,(f1.trans f2).trans f3,rfl,by rw[Vp];exact S3,HD.start hn hl hc,ag,ah,by rw[nF];exact ai,rfl,by rw[nF];simp;omega,an,SR _⟩ ?_
  intro k m au I
  have I':=I
  obtain⟨A4,C4,aa,more,s,lf,aw,v5,u6,u7,rfl,f4,aq,S4,H,ar,as,aj,rfl,hm,ax,ay⟩:=I
  refine⟨decide (((Eg s).length:Int)>0),bR (cH (ad rfl) (.inl (ce aj).2) (k:=(Eg s).length) (by rw[bZ])) u' fE,λh=>?_,λh=>?_⟩
  ·exact qY (by omega) ho (Q j) af hq al am I' (by have:=of_decide_eq_true h;omega)
  ·have h0:(Eg s).length=0:=by have:=of_decide_eq_false h;omega
   exact cW (ad rfl) ⟨A4,C4,aa,more,s,lf,rfl,f4.Oi G,aq,S4.drop ho,by omega,H,UQ.mp h0,nP L j E _ _ _ ar⟩))⟩
end
end
section
section
variable {dx ask:Addr}
def KL(L:LA)(F:List (List (List Int)))(base q:Nat)(B dx ask:Addr)(w:AH->Prop)(σ:AH)(A:Ad)(D:Nat)(j:List (List Nat×Gf))(v:AV)(r:AH):Prop:=
 ∃C C',Fr (TF L B A) σ (TF L B C) r/\C.a=A.a/\
  ((v=.none/\Fd F (List.range F.length)=true/\En L F base (q+1) B dx ask w true r C C' (D+1) (j++[(List.range F.length,.Fd)]))\/
   (∃l0 m more s z,v=.ref z/\Fd F l0=false/\En L F base (q+1+List.length (α:=List Nat×Gf) more) B dx ask w m r C C' (D+1+more.length) (j++[(List.range F.length,.core l0)]++more)/\more.length<=20/\HD F l0 more s m/\Eg s=[]/\res (TF L B C) r z=some (.tup (j' s.left))/\(∀k∈l0,k<F.length)/\l0.length<=20))
theorem wK(hd:4<=d)(ho:∀σ M,Ext σ M->j σ->j M)(B:Fi (d-2) L F base ask j)(N:∀z o,Fi (d-4) (L.add z o) F base ask j)(hq:q<=80000)(ag:sp<=800000)(ah:m.length<=800)(hn:F.length<=20)(S:En L F base q E dx ask j aa σ A C sp m):
  D5 d (.ref 88) [.ref E] (KL L F base q E dx ask j σ A sp m) (HY L F base q E dx ask j true σ A sp m (List.range F.length)) σ:=by
 obtain⟨d,rfl⟩:∃e,d=e+1:=⟨d-1,by omega⟩
 have G:Fi (d-1) L F base ask j:=by rw[show d+1-2=d-1 by omega]at B;exact B
 have I:∀z o,Fi (d-3) (L.add z o) F base ask j:=λz o=>by have:=N z o;rw[show d+1-4=d-3 by omega]at this;exact this
 refine et Bc (n:=1) rfl ?_
 intro RR
 refine fw u' (ad rfl) S.F7 (show 2<=3 by decide) ?_
 obtain⟨O,f1⟩:=S.set ho true
 show ws d (HY L F base q E dx ask j true σ A sp m (List.range F.length)) HR true _ [some (.ref E),none] (upd σ E (.inst 103 dx [.ref ask,.int F.length,.bool true]))
 generalize upd σ E (.inst 103 dx [.ref ask,.int F.length,.bool true])=Q at O f1⊢
 refine cZ (gG (ad rfl) O.F7 rfl (fX (gf (bS (ad rfl) O.F7 rfl) (sm (by omega)) λzr U=>?_)))
 obtain⟨S2,f2⟩:=O.ext ho (Ext.new (o:=.EG 0 F.length) U)
 have Y:res (TF L E A) (upd Q zr (.EG 0 F.length)) zr=some (.EG 0 F.length):=cg (O.fresh U) (bO _ _ _)
 generalize upd Q zr (.EG 0 F.length)=σ2 at S2 f2 Y⊢
 refine(i2 (by omega) ho G S2 (by omega) (by omega) (by omega) (.inr ⟨F.length,Y,rfl⟩) (λk h=>Tl.mp h) (by rw[Tj];omega)).mono (λv ab Z=>c0 ?_) λab Z=>?_
 ·obtain⟨A3,C3,f3,D,⟨rfl,w,J⟩|⟨p,z,rfl,hz,w,J⟩⟩:=Z
  ·exact fK (r:=true) (du (bR (ad rfl) u' d8) (by decide)) (u' _ _ ⟨A3,C3,(f1.trans f2).trans f3,D,.inl ⟨rfl,w,J⟩⟩)
  ·refine fK (r:=false) (du (bR (ad rfl) u' d8) (by simp)) ?_
   rw[if_neg (by decide)]
   have hl:((List.range F.length).filter p).length<=20:=SJ (TG ..) (by rw[Tj];exact hn)
   refine cD (ad rfl) J.F7 (cJ (ad rfl)) rfl ((qS (by omega) ho I (by omega) (by omega) (by rw[Sw];simp;omega) J hz (List.nodup_range.sublist TA) (λk h=>Tl.mp (SO.mp h).1) w hl).mono (λv ai Z=>?_) λσ h=>h.elim)
   obtain⟨A4,C4,ac,more,s,z4,rfl,f4,ae,S4,hm,H,hw,af⟩:=Z
   exact⟨A4,C4,((f1.trans f2).trans f3).trans f4,ae.trans D,.inr ⟨_,ac,more,s,z4,rfl,w,S4,hm,H,hw,af,(λk h=>Tl.mp (SO.mp h).1),hl⟩⟩
 ·obtain⟨A3,C3,f3,D,J⟩:=Z
  exact⟨A3,C3,(f1.trans f2).trans f3,D,J⟩
end
end
theorem qG{j:Nat}(h:(j' l)[j]? =some v):∃x:Nat,l[j]? =some x/\v=.int x:=by
 unfold j' at h;rw[SG]at h
 obtain⟨x,e,q⟩:=T2.mp h
 exact⟨x,e,q.symm⟩
theorem ss{a b:List Nat}(h:σ x=some (.tup (j' a)))(g:σ y=some (.tup (j' b))):HE σ (n+1) (.ref x) (.ref y) (decide (a=b)):=
 DW (e:=λj=>decide (a[j]? =b[j]?)) h g (λj v u A B=>by
  obtain⟨i,e1,rfl⟩:=qG A
  obtain⟨k,C,rfl⟩:=qG B
  have:decide (a[j]? =b[j]?)=((i:Int)==(k:Int)):=by rw[e1,C,TU,decide_eq_true_iff,beq_iff_eq,Option.some.injEq,Int.ofNat_inj]
  rw[this];exact tQ) (by
  rw[bZ,bZ,TU,SF,Ti,beq_iff_eq,decide_eq_true_iff]
  refine⟨λ⟨D,w⟩=>UM λj=>?_,λe=>e▸⟨λj m=>decide_eq_true rfl,rfl⟩⟩
  by_cases r:j<a.length
  ·exact of_decide_eq_true (D j (Tl.mpr (by rw[<-w,Nat.min_self];exact r)))
  ·rw[Tq (T4 r),Tq (w▸T4 r)]) λq=>by
  subst q;rw[h]at g;injection g with g;injection g with g
  exact decide_eq_true (List.map_inj_right (λm m e=>by injection e with e;exact Int.ofNat_inj.mp e)|>.mp g)
theorem mI(h:σ x=some (.tup (j' a)))(g:σ y=some (.tup (j' b))):C1 σ .NotEq (.ref x) (.ref y) (!decide (a=b)):=λK p=>gq (ss h g) p
theorem gM:C1 σ .Eq (.str x) (.str y) (x==y):=λK p=>fy yB p
theorem jA(h:σ x=some (.tup xs)):C1 σ .Eq (.ref x) (.str y) false:=λK p=>fy (Do h) p
section
theorem td(h:lfStep s p=some t):∃g,(s.left.filter λk=>decide (k∉p.1))=[g]/\g∉s.kept/\p.1=without s.left g/\
  t=(match p.2 with
  | .lim=>⟨s.left,s.kept++[g],s.lim++[g]⟩
  | .Fd=>⟨s.left,s.kept++[g],s.lim⟩
  | .core l=>⟨l,s.kept,s.lim⟩):=by
 unfold lfStep at h
 generalize (s.left.filter λk=>decide (k∉p.1))=j at h
 cases j with
 |nil=>cases h
 |cons g r=>
  cases r with
  |cons x y=>cases h
  |nil=>
   have h:(if g∈s.kept\/p.1≠without s.left g then none else
    match p.2 with
    | .lim=>some ⟨s.left,s.kept++[g],s.lim++[g]⟩
    | .Fd=>some ⟨s.left,s.kept++[g],s.lim⟩
    | .core l=>some ⟨l,s.kept,s.lim⟩)=some t:=h
   by_cases q:g∈s.kept\/p.1≠without s.left g
   ·rw[if_pos q]at h;cases h
   ·rw[if_neg q]at h
    obtain⟨m,w⟩:=not_or.mp q
    refine⟨g,rfl,m,Decidable.not_not.mp w,?_⟩
    cases e:p.2<;>(rw[e]at h;exact(Option.some.inj h).symm)
theorem ER.get(H:ER R vs as):∀{k:Nat} {v:AV},vs[k]? =some v->∃a,as[k]? =some a/\R v a:=by
 induction H with
 |nil=>exact λh=>(by cases h)
 |cons x y ih=>
  intro k v h
  cases k with
  |zero=>cases h;exact⟨_,rfl,x⟩
  |succ k=>exact ih (k:=k) h
section
variable {more:List (List Nat×Gf)} {l0:List Nat}
theorem qI(l:List Nat)(k:Nat):decide ((k:Int)∈l.map λ(k:Nat)=>(k:Int))=decide (k∈l):=by
 rw[TU,decide_eq_true_iff,decide_eq_true_iff,Te]
 exact⟨λj=>(by obtain⟨a,h,e⟩:=j;have:a=k:=(by omega);rw[<-this];exact h),λh=>⟨k,h,rfl⟩⟩
theorem DD{k:Nat}(h:σ y=some (.list (j' l))\/σ y=some (.tup (j' l))):C1 σ .In (.int k) (.ref y) (decide (k∈l)):=by
 rw[fp]at h;rw[<-qI];exact xa h
theorem lj{k:Nat}(h:σ y=some (.list (j' l))\/σ y=some (.tup (j' l))):C1 σ .NotIn (.int k) (.ref y) (!decide (k∈l)):=by
 rw[fp]at h;rw[<-qI];exact jU h
theorem ly{cond:X}(g:E1 d σ m B (.ref y))(h:σ y=some (.list (j' l))\/σ y=some (.tup (j' l)))(p:Nat->Bool)(G:l.length<=50)(C:∀v:AV,Em (m.set j (some v)) j=some v)(D:∀k∈l,(ev d true cond d').t (m.set j (some (.int (k:Nat)))) (λb w=>b=p k/\Ext σ w) σ)(q:∀z,σ z=none->Q (.ref z) (upd σ z (.list (j' (l.filter p))))):(ev d true (.comp (.var j) j B cond) Xp).e m Q σ:=by
 refine eJ g (cT h) (λx=>p (intOf x).toNat) (λx=>x) (λx A=>?_) (λx A r=>ad (C _) _ _ ⟨rfl,Ext.refl _⟩) (by rw[bZ];show _<=1048576;omega) λz hz=>?_
 ·refine Ef A λk E=>?_
  exact D k E
 ·have:=jE (λx=>p x.toNat) l
  rw[this]
  exact q z hz
inductive KM (σ:AH) (ak z:Addr) (vs:List AV) (more:List (List Nat×Gf)) (s:Lf) (k:Nat) (m:D7) (Eb:AH):Prop
 |mk (lf kd ld t u4 u5 u6 u7 u8) (h0:m=[some (.ref ak),some (.ref lf),some (.ref kd),some (.ref ld),u4,u5,u6,u7,u8]) (h1:Ext σ Eb) (h2:σ kd=none) (h3:σ ld=none) (h4:kd≠ld) (h5:kd≠z) (h6:ld≠z) (h7:Eb z=some (.list vs)) (h8:σ lf=some (.tup (j' t.left))) (h9:Eb kd=some (.list (j' t.kept))) (Pl:Eb ld=some (.list (j' t.lim))) (P9:replay (more.drop k) t=some s) (Q2:t.left.length<=50) (Q5:t.kept.length<=k) (Q6:t.lim.length<=k) (RY:k<=more.length)
set_option tactic.hygienic true in
theorem wI(Pr:ER (Hb σ) vs more)(hb:∀p∈more,∀l,p.2=.core l->l.length<=50)(hm:more.length<=50){k:Nat}(I:KM σ ak z vs more s k m Eb)(hy:vs[k]? =some y):
  Ej (itemsT Eb y) λus=>us.length=2/\LK d true Xp [.var 4,.var 5] us (λm Eb=>ws d Xp gd true ⟨λm Eb=>KM σ ak z vs more s (k+1) m Eb,Q⟩ m Eb) m Eb:=by
 refine gl ?_
 intro RZ
 obtain⟨lf,kd,ld,t,u4,u5,u6,u7,u8,rfl,e,n1,n2,Lu,Mv,LQ,hz,Ps,Qa,Pt,Mx,Lw,Rb,Qb,R7⟩:=I
 obtain⟨p,hp,e0,sa,a,rfl,Rc,Rd,ha⟩:=Pr.get hy
 refine(?_:_->_) (Sp hp)
 intro Rf
 rw[jN hp]at Mx
 refine gl ?_
 intro R8
 have KN:=bQ hp
 obtain⟨t',Rg,Ig⟩:∃t',lfStep t p=some t'/\replay (more.drop (k+1)) t'=some s:=by
  have Mx:(match lfStep t p with
   |some t=>replay (more.drop (k+1)) t
   |none=>none)=some s:=Mx
  cases q:lfStep t p with
  |none=>rw[q]at Mx;cases Mx
  |some t'=>rw[q]at Mx;exact⟨t',rfl,Mx⟩
 obtain⟨g,hg,Rh,Ri,ht⟩:=td Rg
 refine bU (w:=[.ref sa,a]) (by unfold itemsT;simp only[e _ _ Rc]) ⟨rfl,?_⟩
 show ws d Xp gd true _ [some (.ref ak),some (.ref lf),some (.ref kd),some (.ref ld),some (.ref sa),some a,u6,u7,u8] Eb
 have Ol:=e _ _ Rd
 have Om:=e _ _ Ps
 refine cZ (ly (ad rfl) (.inr Om) (λk=>decide (k∉p.1)) Lw (λv=>rfl) (λk hk=>bR (ad rfl) (ad rfl) (lj (.inr Ol)) _ _ ⟨by rw[<-decide_not],Ext.refl _⟩) λzg Qc=>?_)
 have x1:Ext Eb (upd Eb zg (.list (j' (t.left.filter λk=>decide (k∉p.1))))):=.new Qc
 have Oo:upd Eb zg (.list (j' (t.left.filter λk=>decide (k∉p.1)))) zg=some (.list (j' (t.left.filter λk=>decide (k∉p.1)))):=bO _ _ _
 rw[hg]at x1 Oo⊢
 generalize upd Eb zg (.list (j' [g]))=HL at x1 Oo⊢
 refine(?_:zg≠ld->_) (λq=>by rw[<-q,Qc]at Pt;cases Pt)
 intro Rj
 have Qd:ix (j' [g]) 0=some (.int g):=rfl
 have Pu:∀{σ2:AH} {m:D7} {i:Nat},Em m i=some (.ref zg)->Ext HL σ2->E1 d σ2 m (.sub (.var i) (.D6 (.int 0))) (.int g):=λh x=>cA (ad h) u' (.inl (x _ _ Oo)) Qd
 show ws d Xp gC true _ [some (.ref ak),some (.ref lf),some (.ref kd),some (.ref ld),some (.ref sa),some a,some (.ref zg),u7,u8] HL
 refine fi (fs (bR (r:=false) (cH (ad rfl) (.inl Oo) (k:=1) rfl) u' jV) (fs (du (bR (Pu rfl (Ext.refl _)) (ad rfl) (DD (.inl (x1 _ _ Qa)))) (decide_eq_false Rh)) (fh ((ad rfl) _ _ ⟨rfl,ch (ly (ad rfl) (.inr (x1 _ _ Om)) (λk=>decide (k≠g)) Lw (λv=>rfl) (λk hk=>bR (ad rfl) (Pu rfl (Ext.refl _)) jV _ _ ⟨?_,Ext.refl _⟩) λz2 Rk=>b7 (fP (bO _ _ _) λz3 Rl=>?_))⟩))))
 ·rw[decide_not]
  congr 1
  rw[TU,beq_iff_eq,decide_eq_true_iff]
  omega
 have x2:Ext HL (upd (upd HL z2 (.list (j' (t.left.filter λk=>decide (k≠g))))) z3 (.tup (j' (t.left.filter λk=>decide (k≠g))))):=(Ext.new Rk).trans (.new Rl)
 have h3:upd (upd HL z2 (.list (j' (t.left.filter λk=>decide (k≠g))))) z3 (.tup (j' (t.left.filter λk=>decide (k≠g)))) z3=some (.tup (j' (t.left.filter λk=>decide (k≠g)))):=bO _ _ _
 generalize upd (upd HL z2 (.list (j' (t.left.filter λk=>decide (k≠g))))) z3 (.tup (j' (t.left.filter λk=>decide (k≠g))))=σ2 at x2 h3⊢
 have Oq:=x1.trans x2
 refine mI (Oq _ _ Ol) h3 _ ?_
 rw[show(!decide (p.1=t.left.filter λk=>decide (k≠g)))=false from congrArg not (decide_eq_true Ri),if_neg (by decide)]
 have ex:=e.trans Oq
 have My:=Oq _ _ Qa
 have Mz:=Oq _ _ Pt
 have MA:=Oq _ _ hz
 have Qf:∀{b:Addr},σ b=none->∀{o:AO},Ext σ (upd σ2 b o):=λh o=>λb' o' e'=>(bP λq=>by rw[q,h]at e';cases e').trans (ex _ _ e')
 show ws d Xp gN true _ [some (.ref ak),some (.ref lf),some (.ref kd),some (.ref ld),some (.ref sa),some a,some (.ref zg),u7,u8] σ2
 have gz:=Pu (σ2:=σ2) (m:=[some (.ref ak),some (.ref lf),some (.ref kd),some (.ref ld),some (.ref sa),some a,some (.ref zg),u7,u8]) (i:=6) rfl x2
 rw[ht]at Ig
 replace Ig:=Ig
 refine gl ?_
 intro Rm
 cases hq:p.2 with
 |lim=>
  rw[hq]at ha Ig
  have ha:a=.str "limit":=ha
  subst ha
  refine dI (du (bR (ad rfl) u' gM) rfl) ?_
  refine dt (ad rfl) gz Mz rfl (by rw[bZ];show _<1048576;omega) ?_
  show ws d Xp d1 true _ [some (.ref ak),some (.ref lf),some (.ref kd),some (.ref ld),some (.ref sa),some (.str "limit"),some (.ref zg),u7,u8] _
  refine dI (jX (du (bR (ad rfl) u' gM) (c:=true) rfl) (s:=true) λh=>(by cases h)) ?_
  refine dt (ad rfl) (cA (ad rfl) u' (.inl ((bP Rj).trans (x2 _ _ Oo))) Qd) ((bP Lu).trans My) rfl (by rw[bZ];show _<1048576;omega) ?_
  refine⟨lf,kd,ld,⟨t.left,t.kept++[g],t.lim++[g]⟩,_,_,_,_,_,rfl,?_,n1,n2,Lu,Mv,LQ,(bP (Ne.symm Mv)).trans ((bP (Ne.symm LQ)).trans MA),Ps,?_,?_,Ig,Lw,?_,?_,KN⟩
  ·exact λb' o' e'=>(bP λq=>by rw[q,n1]at e';cases e').trans (Qf n2 _ _ e')
  ·rw[bO];unfold j';rw[SX];rfl
  ·rw[bP (Ne.symm Lu),bO];unfold j';rw[SX];rfl
  ·show(t.kept++[g]).length<=_;rw[Sw];show _+1<=_;omega
  ·show(t.lim++[g]).length<=_;rw[Sw];show _+1<=_;omega
 |Fd=>
  rw[hq]at ha Ig
  have ha:a=.str "can":=ha
  subst ha
  refine iA (du (bR (ad rfl) u' gM) (by decide)) ?_
  show ws d Xp d1 true _ [some (.ref ak),some (.ref lf),some (.ref kd),some (.ref ld),some (.ref sa),some (.str "can"),some (.ref zg),u7,u8] _
  refine dI (jX (du (bR (ad rfl) u' gM) (c:=false) (by decide)) λ_=>du (bR (ad rfl) u' gM) (c:=true) rfl) ?_
  refine dt (ad rfl) gz My rfl (by rw[bZ];show _<1048576;omega) ?_
  refine⟨lf,kd,ld,⟨t.left,t.kept++[g],t.lim⟩,_,_,_,_,_,rfl,Qf n1,n1,n2,Lu,Mv,LQ,(bP (Ne.symm Mv)).trans MA,Ps,?_,(bP (Ne.symm Lu)).trans Mz,Ig,Lw,?_,Uw Qb,KN⟩
  ·rw[bO];unfold j';rw[SX];rfl
  ·show(t.kept++[g]).length<=_;rw[Sw];show _+1<=_;omega
 |core l=>
  rw[hq]at ha Ig
  obtain⟨b,rfl,Qg⟩:=ha
  have Pw:=ex _ _ Qg
  refine iA (bR (ad rfl) u' (jA Pw)) ?_
  show ws d Xp d1 true _ [some (.ref ak),some (.ref lf),some (.ref kd),some (.ref ld),some (.ref sa),some (.ref b),some (.ref zg),u7,u8] _
  refine co (jX (bR (ad rfl) u' (jA Pw)) λ_=>bR (ad rfl) u' (jA Pw)) ?_
  rw[if_neg (by decide)]
  refine dd (ad rfl) ?_
  exact⟨b,kd,ld,⟨l,t.kept,t.lim⟩,_,_,_,_,_,rfl,ex,n1,n2,Lu,Mv,LQ,MA,Qg,My,Mz,Ig,hb p Rf l hq,Uw Rb,Uw Qb,KN⟩
set_option tactic.hygienic true in
theorem vK(hd:1<=d){p0:List Nat}(U:σ ak=some (.list vs))(B:ER (Hb σ) vs ((p0,.core l0)::more))(ac:l0.length<=50)(hb:∀p∈more,∀l,p.2=.core l->l.length<=50)(hm:more.length<=50)(G:replay more ⟨l0,[],[]⟩=some s):
  D5 d (.ref 310) [.ref ak] (λv r=>∃z N j ld,v=.ref z/\Ext σ r/\r z=some (.tup [.ref N,.ref j,.ref ld])/\r N=some (.tup (j' s.left))/\r j=some (.list (j' s.kept))/\r ld=some (.list (j' s.lim))/\s.left.length<=50/\s.kept.length<=50/\s.lim.length<=50) d' σ:=by
 refine cw sX hd (n:=8) rfl ?_
 intro d hd RR
 refine gl ?_
 intro an
 cases B with
 |cons h0 B=>
 rename_i v0 vs
 refine wm ?_
 intro R9 M9 O9
 obtain⟨e0,s0,a0,rfl,ae,as,O,rfl,af⟩:=h0
 refine⟨rfl,dJ (ds (cA (cA (ad rfl) u' (.inl U) (cQ (n:=0) rfl)) u' (.inl ae) (cQ (n:=1) rfl)) (ch (cR cm (SI _) λj H=>ch (cR cm (SI _) λld A=>b7 ⟨show 3<=1048576 by decide,λQ E=>?_⟩))))⟩
 have J:j≠ld:=λq=>by rw[<-q,bO]at A;cases A
 refine(?_:j≠Q->_) (λq=>by rw[<-q,bP J,bO]at E;cases E)
 intro ag
 refine(?_:ld≠Q->_) (λq=>by rw[<-q,bO]at E;cases E)
 intro ah
 have n2:σ ld=none:=by rw[bP (Ne.symm J)]at A;exact A
 have x1:Ext σ (upd (upd (upd σ j (.list [])) ld (.list [])) Q (.tup [.ref O,.ref j,.ref ld])):=((Ext.new H).trans (.new A)).trans (.new E)
 have C:upd (upd (upd σ j (.list [])) ld (.list [])) Q (.tup [.ref O,.ref j,.ref ld]) j=some (.list []):=by rw[bP ag,bP J,bO]
 have D:upd (upd (upd σ j (.list [])) ld (.list [])) Q (.tup [.ref O,.ref j,.ref ld]) ld=some (.list []):=by rw[bP ah,bO]
 refine bU (w:=[.ref O,.ref j,.ref ld]) (by unfold itemsT;simp only[bO]) ⟨rfl,?_⟩
 generalize upd (upd (upd σ j (.list [])) ld (.list [])) Q (.tup [.ref O,.ref j,.ref ld])=au at x1 C D⊢
 refine⟨rfl,fS (ys:=vs) (ad rfl) u' u' (x1 _ _ U) (qP (n:=1)) λz hz=>?_⟩
 have Y:j≠z:=λq=>by rw[q,hz]at C;cases C
 have Z:ld≠z:=λq=>by rw[q,hz]at D;cases D
 refine(?_:_->_) (x1.trans (Ext.new (o:=.list vs) hz))
 intro x2
 refine bU (w:=vs) (by unfold itemsL;simp only[bO]) ⟨KM σ ak z vs more s,⟨O,j,ld,⟨l0,[],[]⟩,none,none,none,none,none,rfl,x2,H,n2,J,Y,Z,bO _ _ _,af,(bP Y).trans C,(bP Z).trans D,G,ac,SI _,SI _,SI _⟩,?_⟩
 intro k m r I
 refine⟨?_,λhk=>?_,λy hy=>wI B hb hm I hy⟩
 ·refine gl ?_
  intro aq
  obtain⟨N,j,ld,t,u4,u5,u6,u7,u8,rfl,e,n1,n2,ai,aj,al,aa,h⟩:=I
  exact eA (bO _ _ _) aa
 ·refine gl ?_
  intro ar
  obtain⟨N,j,ld,t,u4,u5,u6,u7,u8,rfl,e,n1,n2,ai,aj,al,aa,am,H,A,G,ab,aw,ax,ay⟩:=I
  rw[hk,B.len,Vi]at G
  obtain rfl:t=s:=Option.some.inj G
  show ws d d' jI true _ [some (.ref ak),some (.ref N),some (.ref j),some (.ref ld),u4,u5,u6,u7,u8] r
  refine gv (vs:=[.ref N,.ref j,.ref ld]) (fT (ad rfl) (dc (ad rfl) (ad rfl))) (show 3<=1048576 by decide) λzz M=>?_
  exact⟨zz,N,j,ld,rfl,e.trans (.new M),bO _ _ _,Ext.new M _ _ (e _ _ am),Ext.new M _ _ H,Ext.new M _ _ A,ab,by omega,by omega⟩
end
end
section
section
variable {A A' Ai:Ad} {L:LA} {dx ask:Addr} {K:Bool->AH->Prop}
theorem se(h:(ev d true x Xp).t m (λt σ=>if t then K true σ else(ev d true y Xp).t m K σ) σ):(ev d true (.or x y) Xp).t m K σ:=h
theorem xi(h:(ev d true x Xp).t m (λt σ=>if t then(ev d true y Xp).t m K σ else K false σ) σ):(ev d true (.and x y) Xp).t m K σ:=h
theorem Aw(h:(ev d true x Xp).e m (λv σ=>(ev d true y Xp).e m (λu σ=>E5 op v u (λr=>Q (.bool r) σ) σ) σ) σ):(ev d true (.cmp op x y) Xp).e m Q σ:=h
theorem B7(h:Q (.str (if k then "True" else "False")) σ):Ik .repr [.bool k] Q σ:=sv h
theorem lr(h:(ev d true (.call f as) Xp).e m (truth K) σ):(ev d true (.call f as) Xp).t m K σ:=h
theorem mA{b:Bool}(h:E1 d σ m x (.bool b))(j:b=true)(k:(ev d true y Xp).e m Q σ):(ev d true (.and x y) Xp).e m Q σ:=h Xp _ (by subst j;exact k)
theorem AF(h:σ z=some (.list xs))(q:σ r=some (.list [])):C1 σ .NotEq (.ref z) (.ref r) (!xs.isEmpty):=λK p=>by
 cases xs with
 |nil=>exact gq (tZ (e:=λm=>true) h q rfl (λj a b g=>by cases g) rfl λm=>rfl) p
 |cons x xs=>exact gq (yX h q λe=>by cases e) p
theorem Dv{x y:Str}:C1 σ .NotEq (.str x) (.str y) (!(x==y)):=λK p=>gq yB p
def LA.anew(L:LA)(j:Addr):LA:={L with ak:=j}
theorem pN(h:L.T A b=0)(j:b≠m):(L.anew m).T A b=0:=by
 have h:=bT.mp h
 refine bT.mpr ⟨λq=>h.1 ?_,h.2⟩
 refine dp q (λr=>?_) λq=>?_
 ·rw[r];exact L.KZ
 ·refine dp q (λr=>?_) λq=>?_
  ·rw[r];exact L.K0
  ·refine dp q (λr=>?_) λq=>?_
   ·exact absurd r j
   ·exact Ss _ (Ss _ (Ss _ q))
theorem En.anew(ho:∀σ N,Ext σ N->m σ->m N)(G:En L F base q D dx ask m B σ0 A C sp H)(O:σ0 j=none)(x0:Ext σ0 σ)(S:En L F base q D dx ask m B σ A C sp H)(h:σ j=some (.list [])):
  En (L.anew j) F base q D dx ask m B (upd σ L.cs (.D4 1 [.ref L.tp,.ref L.fm,.ref j,.ref A.a])) A C sp []/\
  ∀b o,b≠j->res (TF L D A) σ b=some o->res (TF (L.anew j) D A) (upd σ L.cs (.D4 1 [.ref L.tp,.ref L.fm,.ref j,.ref A.a])) b=some o:=by
 have Q:∀{b:Addr} {o:AO},σ0 b=some o->b≠j:=λh q=>by rw[q,O]at h;cases h
 have I:L.T A L.cs≠0:=L.ne L.K0
 have R0:∀b o,b≠j->res (L.T A) σ b=some o->res ((L.anew j).T A) (upd σ L.cs (.D4 1 [.ref L.tp,.ref L.fm,.ref j,.ref A.a])) b=some o:=λb o U h=>by
  obtain⟨⟨w,E⟩,J⟩:=cV h
  exact cg (pN w U) ((bP λr=>I (by rw[<-r];exact w)).trans E) J
 have R1:∀b o,b≠j->res (TF L D A) σ b=some o->res (TF (L.anew j) D A) (upd σ L.cs (.D4 1 [.ref L.tp,.ref L.fm,.ref j,.ref A.a])) b=some o:=λb o U h=>by
  obtain⟨⟨w,E⟩,J⟩:=cV h
  have w:=bT.mp w
  exact cg (bT.mpr ⟨w.1,pN w.2 U⟩) ((bP λr=>I (by rw[<-r];exact w.2)).trans E) J
 have X0:Ext (res (L.T A) σ0) (res ((L.anew j).T A) (upd σ L.cs (.D4 1 [.ref L.tp,.ref L.fm,.ref j,.ref A.a]))):=λb o h=>by
  obtain⟨⟨w,E⟩,J⟩:=cV h
  exact R0 b o (Q E) (cg w (x0 _ _ E) J)
 have X1:Ext (res (TF L D A) σ0) (res (TF (L.anew j) D A) (upd σ L.cs (.D4 1 [.ref L.tp,.ref L.fm,.ref j,.ref A.a]))):=λb o h=>by
  obtain⟨⟨w,E⟩,J⟩:=cV h
  exact R1 b o (Q E) (cg w (x0 _ _ E) J)
 have Y:D≠L.cs:=λq=>by have:=S.hT;rw[q]at this;exact I this
 have Z:j≠L.cs:=Ne.symm (Q G.s.cs)
 refine⟨⟨⟨S.s.FO.off (S.s.x _ L.K0),(bP S.s.Lu).trans S.s.tp,X0 _ _ G.s.cl,bO _ _ _,G.s.fm.ext X0,⟨[],(bP Z).trans h,.nil⟩,λb U=>?_,λp M=>(bP (S.s.nx p M).2.1).trans (S.s.xs p M),λp M=>⟨(S.s.nx p M).1,(S.s.nx p M).2.1,Q (G.s.xs p M)⟩⟩,(bP Y).trans S.F7,pN S.hT (Q G.F7),ho _ _ X1 G.ao⟩,R1⟩
 exact(L.anew j).GN (P:=λb=>A.T b=0) U (S.s.x _ L.KZ) (S.s.x _ L.K0) (G.s.FO.rep.zT O) (λp h=>S.s.x p.1 (L.K2 h))
inductive Lx (L:LA) (F:List (List (List Int))) (base q:Nat) (fn dx ask:Addr) (Jk:AH->Prop) (σ:AH) (A:Ad) (sp:Nat) (v:AV) (Eb:AH):Prop
 |mk (h0:v=.bool true) (za A' C' MB q' MY MC) (h1:q'<=q+21) (h2:MY<=sp+21) (h3:A'.a=A.a) (h4:Ext (res (TF L fn A) σ) (res (TF (L.anew za) fn A') Eb)) (h5:En (L.anew za) F base q' fn dx ask Jk MB Eb A' C' MY MC)
theorem yw{e s z y:Addr}(he:σ e=some (.list [.ref s,.str "limit"]))(hs:σ s=some (.tup (j' ks)))(hz:σ z=some (.list [.ref y,.str "limit"]))(w:σ y=some (.tup (j' ks))):HE σ (n+2) (.ref e) (.ref z) true:=
 tZ (e:=λm=>true) he hz rfl (λj a b q r=>by
  match j,q,r with
  |0,q,r=>
   cases q;cases r
   have:=ss (n:=n) hs w
   rw[decide_eq_true rfl]at this;exact this
  |1,q,r=>cases q;cases r;exact yB) rfl λm=>rfl
theorem Ba(C:σ L.cs=some (.D4 1 [.ref L.tp,.ref L.fm,.ref N,.ref A.a]))(D:σ N=some (.list [.ref e]))(he:σ e=some (.list [.ref sa,.str "limit"]))(hs:σ sa=some (.tup (j' ks)))(E:σ r=some (.tup (j' ks)))(k:∀w,Ext σ w->P (.bool true) w)(O:D7->AH->Prop):ws d Xp eS false ⟨O,P⟩ [some (.ref L.cs),some (.ref U),some (.ref r),Y,u4,u5,Z,u7,u8,u9,u10] σ:=by
 refine cL ?_
 intro RR YY
 refine wD C rfl (show 2<=1048576/\_ from⟨by decide,λq Q=>(show 1<=1048576/\_ from⟨by decide,λB I=>?_⟩)⟩)
 have x:Ext σ (upd (upd σ q (.list [.ref r,.str "limit"])) B (.list [.ref q])):=(Ext.new Q).trans (.new I)
 have J:upd (upd σ q (.list [.ref r,.str "limit"])) B (.list [.ref q]) B=some (.list [.ref q]):=bO _ _ _
 have M:upd (upd σ q (.list [.ref r,.str "limit"])) B (.list [.ref q]) q=some (.list [.ref r,.str "limit"]):=Ext.new I _ _ (bO _ _ _)
 generalize upd (upd σ q (.list [.ref r,.str "limit"])) B (.list [.ref q])=σ2 at x M J⊢
 exact fy (tZ (e:=λm=>true) (x _ _ D) J rfl (λj a b G H=>by
  match j,G,H with
  |0,G,H=>cases G;cases H;exact yw (x _ _ he) (x _ _ hs) M (x _ _ E)) rfl λm=>rfl) (k _ x)
end
end
section
section
variable {A A' Ai:Ad} {L:LA} {ks l0:List Nat} {dx ask:Addr} {more:List (List Nat×Gf)}
theorem y3(G:1<=d)(ok:FE F)(w:σ L.cs=some (.D4 1 [.ref L.tp,.ref L.fm,.ref B,.ref A.a]))(C:E2 σ L.fm F)(j:σ B=some (.list [.ref e]))(he:σ e=some (.list [.ref sa,.str "can"]))(D:σ H=some (.tup (j' (List.range F.length))))(E:σ I=some (.inst 103 dx [.ref ask,.int F.length,.bool true]))(J:F.length<=50)(M:Fd F (List.range F.length)=true)(k:∀q,Ext σ q->P (.bool true) q):ws d d' eX true ⟨O,P⟩ [some (.ref L.cs),some (.ref I),some (.ref H),some .none,some (.ref B),u5,Q,U,u8,u9,u10] σ:=by
 have e0:∀{m:D7},Em m 4=some (.ref B)->E1 d σ m (.sub (.sub (.var 4) (.D6 (.int 0))) (.D6 (.int 1))) (.str "can"):=λh=>cA (cA (ad h) u' (.inl j) (cQ (n:=0) rfl)) u' (.inl he) (cQ (n:=1) rfl)
 refine mA (eM (ad rfl) u' d8) (by decide) (mA (eM (cH (ad rfl) (.inl j) (k:=1) rfl) u' dD) rfl (mA (eM (e0 rfl) u' gM) rfl ?_))
 refine dq (cO rfl) (dc (ad rfl) (ad rfl)) ((iI G ok C w rfl (.inr D) (λk h=>Tl.mp h) (by rw[Tj];exact J)).mono (λv σ2 N=>?_) λσ h=>h.elim)
 obtain⟨rfl,x⟩:=N
 rw[M]
 exact eM (r:=true) (bS (ad rfl) (x _ _ E) rfl) u' (lE (k:=true) (l:=true)) _ _ (k _ x)
theorem rU{y r:S}{P:FP}(h:(ev d true x Xp).t m (λb σ=>if b then ws d Xp y true (MV d Xp r P) m σ else ws d Xp r true P m σ) σ):ws d Xp (.cons (.ite x y .nil) r) true P m σ:=h
theorem tE(Q:1<=d)(ok:FE F){ld:Addr}(C:σ L.cs=some (.D4 1 [.ref L.tp,.ref L.fm,.ref za,.ref A.a]))(D:E2 σ L.fm F)(hz:σ z=some (.tup (j' s.left)))(E:σ ld=some (.list (j' s.lim)))(M:s.left.length<=50)(H:HD F l0 more s G)(U:Eg s=[])(k:∀w,Ext σ w->P (.bool true) w):ws d d' eW true ⟨nx,P⟩ [some (.ref L.cs),some (.ref fn),some (.ref zt),some (.ref z),u4,u5,u6,some (.ref ld),u8,u9,u10] σ:=by
 have B:∀k∈s.left,k∈s.kept:=λk N=>by
  rcases Decidable.em (k∈s.kept)with h|h
  ·exact h
  ·have:k∈Eg s:=SO.mpr ⟨N,decide_eq_true h⟩
   rw[U]at this;cases this
 refine(show(ev d true (.HO (.var 9) 9 (.var 3) (.and (.cmp .NotIn (.var 9) (.var 7)) (.not (.call (.glob 9) (.cons (.var 0) (.cons (.comp (.var 10) 10 (.var 3) (.cmp .NotEq (.var 10) (.var 9))) .nil)))))) d').e _ (λv σ=>(ev d true (.lst .nil) d').e _ (λu σ=>E5 .Eq v u (λr=>P (.bool r) σ) σ) σ) σ from ?_)
 refine⟨rfl,(ad rfl) _ _ (bU (cT (.inr hz)) ⟨λm=>false,λx=>x,λx Y=>?_,(λx m h=>(by cases h)),by rw[bZ];show _<=1048576;omega,λz1 I=>?_⟩)⟩
 ·refine Ef Y λj Z=>?_
  refine xi (bR (ad rfl) (ad rfl) (lj (.inl E)) _ _ ?_)
  by_cases h:j∈s.lim
  ·rw[decide_eq_true h];exact⟨rfl,.refl _⟩
  ·rw[decide_eq_false h]
   show(ev d true (.call (.glob 9) (.cons (.var 0) (.cons (.comp (.var 10) 10 (.var 3) (.cmp .NotEq (.var 10) (.var 9))) .nil))) d').e _ _ σ
   refine⟨rfl,(cO rfl) _ _ (ds (ad rfl) (ch (ly (ad rfl) (.inr hz) (λk=>decide (k≠j)) M (λv=>rfl) (λk N=>bR (ad rfl) (ad rfl) jV _ _ ⟨?_,Ext.refl _⟩) λO q=>b7 ?_)))⟩
   ·rw[decide_not]
    congr 1
    rw[TU,beq_iff_eq,decide_eq_true_iff]
    omega
   ·have J:Ext σ (upd σ O (.list (j' (s.left.filter λk=>decide (k≠j))))):=.new q
    refine(iI Q ok (D.ext J) (J _ _ C) rfl (.inl (bO _ _ _)) (λk h=>H.lt k (SO.mp h).1) (SJ (TG ..) M)).mono (λv σ2 hv=>?_) λσ h=>h.elim
    obtain⟨rfl,x2⟩:=hv
    rw[show Fd F (s.left.filter λk=>decide (k≠j))=true from H.yes j (B j Z) h]
    exact⟨rfl,J.trans x2⟩
 ·rw[show((j' s.left).filter λm=>false)=[]from List.filter_eq_nil_iff.mpr λm m h=>(by cases h)]
  refine cR cm (SI _) λO q=>ir (Ext.new q _ _ (bO _ _ _)) (bO _ _ _) _ (k _ ((Ext.new I).trans (.new q)))
theorem vg(Q:1<=d)(ok:FE F){U Y ld:Addr}(q:σ L.cs=some (.D4 1 [.ref L.tp,.ref L.fm,.ref za,.ref A.a]))(r:E2 σ L.fm F)(I:σ fn=some (.inst 103 dx [.ref ask,.int F.length,.bool j]))(hz:σ z=some (.tup (j' s.left)))(w:σ U=some (.tup (j' s.left)))(J:σ Y=some (.list (j' s.kept)))(B:σ ld=some (.list (j' s.lim)))(M:s.left.length<=50)(H:HD F l0 more s j)(Z:Eg s=[])(k:∀m,Ext σ m->P (.bool true) m):ws d d' eV true ⟨nx,P⟩ [some (.ref L.cs),some (.ref fn),some (.ref zt),some (.ref z),u4,some (.ref U),some (.ref Y),some (.ref ld),u8,u9,u10] σ:=by
 refine rU (fs (du (bR (ad rfl) u' d8) (by simp)) (fs (du (bR (ad rfl) (ad rfl) (mI hz w)) (by simp)) (fh (ly (ad rfl) (.inr w) (λk=>decide (k∉s.kept)) M (λv=>rfl) (λk hk=>bR (ad rfl) (ad rfl) (lj (.inl J)) _ _ ⟨by rw[<-decide_not],Ext.refl _⟩) λz1 N=>cR cm (SI _) λz2 C=>?_))))
 have G:=(Ext.new (o:=.list (j' (s.left.filter λk=>decide (k∉s.kept)))) N).trans (.new (o:=.list []) C)
 have g1:=Ext.new (o:=.list []) C _ _ (bO σ z1 (.list (j' (s.left.filter λk=>decide (k∉s.kept)))))
 refine AF g1 (bO _ _ _) _ ?_
 generalize upd (upd σ z1 (.list (j' (s.left.filter λk=>decide (k∉s.kept))))) z2 (.list [])=σ2 at G⊢
 rw[show(s.left.filter λk=>decide (k∉s.kept))=[]from Z,if_neg (by decide)]
 refine rU (se (fh (BI (bS (ad rfl) (G _ _ I) rfl) _ _ ⟨rfl,ch (Aw ((ad rfl) _ _ (cR cm (SI _) λz3 D=>?_)))⟩)))
 refine ir (Ext.new D _ _ (G _ _ B)) (bO _ _ _) _ ?_
 have E:=G.trans (Ext.new (o:=.list []) D)
 generalize upd σ2 z3 (.list [])=aa at E⊢
 have O:j=(j' s.lim).isEmpty:=by
  rw[H.least];cases s.lim<;>rfl
 refine b7 (B7 (Dv _ ?_))
 rw[O,beq_self_eq_true,if_neg (by decide)]
 refine lr (dq (cO rfl) (dc (ad rfl) (ad rfl)) ((iI Q ok (r.ext E) (E _ _ q) rfl (.inr (E _ _ hz)) H.lt M).mono (λv ab hv=>?_) λσ h=>h.elim))
 obtain⟨rfl,x2⟩:=hv
 rw[H.no]
 have x:=E.trans x2
 exact tE Q ok (x _ _ q) (r.ext x) (x _ _ hz) (x _ _ B) M H Z λm x3=>k _ (x.trans x3)
theorem zO(O:1<=d)(ok:FE F)(r:σ L.cs=some (.D4 1 [.ref L.tp,.ref L.fm,.ref B,.ref A.a]))(C:E2 σ L.fm F)(D:σ Q=some (.inst 103 dx [.ref ask,.int F.length,.bool j]))(hz:σ z=some (.tup (j' s.left)))(E:σ B=some (.list vs)){p0:List Nat}(q:ER (Hb σ) vs ((p0,.core l0)::more))(G:l0.length<=50)(U:∀p∈more,∀l,p.2=.core l->l.length<=50)(Y:more.length<=50)(H:HD F l0 more s j)(Z:Eg s=[])(k:∀m,Ext σ m->P (.bool true) m):ws d d' dY true ⟨nx,P⟩ [some (.ref L.cs),some (.ref Q),some (.ref zt),some (.ref z),some (.ref B),u5,u6,u7,u8,u9,u10] σ:=by
 refine⟨rfl,dq (cO rfl) (cJ (ad rfl)) ((vK O E q G U Y H.run).mono (λv σ2 hv=>?_) λσ h=>h.elim)⟩
 obtain⟨z1,lf,kd,ld,rfl,x,I,J,M,N,hl,_,_⟩:=hv
 refine bU (w:=[.ref lf,.ref kd,.ref ld]) (by unfold itemsT;simp only[I]) ⟨rfl,?_⟩
 exact vg (u4:=some (.ref B)) (u8:=u8) (u9:=u9) (u10:=u10) O ok (x _ _ r) (C.ext x) (x _ _ D) (x _ _ hz) J M N hl H Z λm x'=>k _ (x.trans x')
end
end
section
section
variable {A A' Ai:Ad} {L:LA} {dx ask:Addr}
theorem ER.one(h:ER R vs [a]):∃v,vs=[v]/\R v a:=by
 cases h with|cons j m=>cases m;exact⟨_,rfl,j⟩
theorem ER.head(h:ER R vs (a::as)):∃v ws,vs=v::ws/\R v a:=by
 cases h with|cons j m=>exact⟨_,_,rfl,j⟩
theorem kz(Z:1<=d)(C:σ L.cs=some (.D4 1 [.ref L.tp,.ref L.fm,.ref B,.ref A.a]))(r:σ B=some (.list (.ref e::N)))(he:σ e=some (.list [.ref sa,a]))(D:σ sa=some (.tup (j' ks)))(E:σ G=some (.tup (j' ks)))(O:∀j,Ext σ j->C1 j .Eq a (.str "limit") false)(k:∀j,Ext σ j->ws d d' eY true ⟨Q,P⟩ [some (.ref L.cs),some (.ref I),some (.ref G),some q,some (.ref B),u5,J,M,u8,u9,u10] j):
  ws d d' dZ true ⟨Q,P⟩ [some (.ref L.cs),some (.ref I),some (.ref G),some q,u4,u5,J,M,u8,u9,u10] σ:=by
 refine cL ?_
 intro RR YY
 refine dd (d2 (ad rfl) C rfl) ?_
 show ws d d' EW true _ [some (.ref L.cs),some (.ref I),some (.ref G),some q,some (.ref B),u5,J,M,u8,u9,u10] σ
 refine fi (se (fh ((ad rfl) _ _ (cR cm (SI _) λU H=>?_))))
 have x:=Ext.new (o:=.list []) H
 refine ir (x _ _ r) (bO _ _ _) _ ?_
 generalize upd σ U (.list [])=σ2 at x⊢
 have e0:∀{m:D7} {i:Nat} {w:AV},Em m 4=some (.ref B)->([.ref sa,a]:List AV)[i]? =some w->E1 d σ2 m (.sub (.sub (.var 4) (.D6 (.int 0))) (.D6 (.int i))) w:=λh Y=>cA (cA (ad h) u' (.inl (x _ _ r)) (cQ (n:=0) rfl)) u' (.inl (x _ _ he)) (cQ Y)
 refine(show(ev d true (.or (.cmp .NotEq (.sub (.sub (.var 4) (.D6 (.int 0))) (.D6 (.int 0))) (.var 2)) (.cmp .Eq (.sub (.sub (.var 4) (.D6 (.int 0))) (.D6 (.int 1))) (.D6 (.str "limit")))) d').t _ _ σ2 from fs (du (bR (e0 (i:=0) rfl rfl) (ad rfl) (mI (x _ _ D) (x _ _ E))) (by simp)) (bR (e0 (i:=1) rfl rfl) u' (O _ x) _ _ ?_))
 exact k _ x
theorem Fi.le(h:Fi w L F base ask r)(B:w<=d):Fi d L F base ask r:=λσ A C q D m sa ks a b c e f g i j=>(h σ A C q D m sa ks a b c e f g i j).le B
theorem uA(J:1<=d)(ok:FE F)(hn:F.length<=20)(M:res (TF (L.anew N) I A) σ zt=some (.tup (j' (List.range F.length))))(hv:KL (L.anew N) F base q I dx ask O σ A sp [] v B)(k:∀A' C' C q' Q D σ2,q'<=q+21->Q<=sp+21->A'.a=A.a->Fr (TF (L.anew N) I A) σ (TF (L.anew N) I A') B->En (L.anew N) F base q' I dx ask O C B A' C' Q D->Ext B σ2->P (.bool true) σ2):
  ws d d' dZ true ⟨nx,P⟩ [some (.ref L.cs),some (.ref I),some (.ref zt),some v,u4,u5,u6,u7,u8,u9,u10] B:=by
 refine cL ?_
 intro RR YY
 obtain⟨A',C',f,ha,⟨rfl,U,r⟩|⟨l0,aa,more,s,z,rfl,U,r,hm,H,hw,hz,ab,ag⟩⟩:=hv
 ·obtain⟨vs,E,Y⟩:=r.s.ak
  obtain⟨v,rfl,e,sa,a,rfl,he,w,rfl⟩:=ER.one Y
  have he:=(ce he).2
  have w:=(ce w).2
  have m:=(ce (f.res _ _ M)).2
  refine kz (A:=A') J r.s.cs E he w m (λσ2 x=>by have:=@gM σ2 "can" "limit";exact this) λσ2 x=>?_
  refine dI (jX (s:=true) (du (bR (cA (cA (ad rfl) u' (.inl (x _ _ E)) (cQ (n:=0) rfl)) u' (.inl (x _ _ he)) (cQ (n:=1) rfl)) u' gM) (c:=true) rfl) λh=>(by cases h)) ?_
  exact y3 (L:=L) (A:=A') J ok (x _ _ r.s.cs) (((r.s.fm).ext (e7 _ _)).ext x) (x _ _ E) (x _ _ he) (x _ _ m) (x _ _ r.F7) (by omega) U λG x3=>k A' C' true _ _ _ G (by omega) (by omega) ha f r (x.trans x3)
 ·obtain⟨vs,E,Y⟩:=r.s.ak
  have ac:=Y
  obtain⟨v,ah,rfl,e,sa,a,rfl,he,w,b,rfl,Z⟩:=ER.head Y
  have he:=(ce he).2
  have w:=(ce w).2
  have Z:=(ce Z).2
  have m:=(ce (f.res _ _ M)).2
  refine kz (A:=A') J r.s.cs E he w m (λσ2 x=>jA (x _ _ Z)) λσ2 x=>?_
  have ae:Fd F (List.range F.length)=false:=by
   cases q:Fd F (List.range F.length)with
   |false=>rfl
   |true=>rw[qp (λk hk=>Tl.mpr (ab k hk)) q]at U;cases U
  refine fi (fs (bR (cA (cA (ad rfl) u' (.inl (x _ _ E)) (cQ (n:=0) rfl)) u' (.inl (x _ _ he)) (cQ (n:=1) rfl)) u' (jA (x _ _ Z))) (lr (dq (cO rfl) (dc (ad rfl) (ad rfl)) ((iI J ok (((r.s.fm).ext (e7 _ _)).ext x) (x _ _ r.s.cs) rfl (.inr (x _ _ m)) (λk h=>Tl.mp h) (by rw[Tj];omega)).mono (λv G hv=>?_) λσ h=>h.elim))))
  obtain⟨rfl,x3⟩:=hv
  rw[ae]
  have y:=x.trans x3
  show ws d d' dY true ⟨nx,P⟩ [some (.ref L.cs),some (.ref I),some (.ref zt),some (.ref z),some (.ref N),u5,u6,u7,u8,u9,u10] G
  exact zO (L:=L) (A:=A') (more:=more) J ok (y _ _ r.s.cs) (((r.s.fm).ext (e7 _ _)).ext y) (y _ _ r.F7) (y _ _ (ce hz).2) (y _ _ E) ((ac.imp λj j h=>(h.ext (e7 _ _)).ext y)) (by omega) (λp hp l hl=>SJ (H.cl p hp l hl) (by omega)) (by omega) H hw λaf x4=>k A' C' aa _ _ _ af (by omega) (by omega) ha f r (y.trans x4)
theorem sG(hd:6<=d)(G:∀σ Q,Ext σ Q->j σ->j Q)(H:∀m ex,Fi (d-5) {L with ak:=m,ex:=ex} F base ask j)(ok:FE F)(hq:q<=80000)(ac:sp<=800000)(hn:F.length<=20)(S:En L F base q U dx ask j ae σ A C sp af):
  D5 d (.ref 315) [.ref L.cs,.ref U] (Lx L F base q U dx ask j σ A sp) d' σ:=by
 obtain⟨d,rfl⟩:∃e,d=e+1:=⟨d-1,by omega⟩
 have ag:1<=d:=by omega
 refine et kg (n:=9) rfl ?_
 intro RR
 obtain⟨fr,f1,f2,f3⟩:=S.s.fm
 have Y:=(ce f1).2
 refine⟨rfl,dJ (ch (cR cm (SI _) λm B=>ch ?_))⟩
 obtain⟨S1,g1⟩:=S.ext G (Ext.new (o:=.list []) B)
 have x1:=Ext.new (o:=.list []) B
 have z1:=bO σ m (.list [])
 have t1:=S.fresh B
 generalize upd σ m (.list [])=Z at S1 g1 x1 z1⊢
 refine⟨rfl,ch (gf (l:=F.length) (cH (d2 (ad rfl) S1.s.cs rfl) (.inl (x1 _ _ Y)) (by rw[Su,f2])) (sm (by omega)) λzr J=>b7 (Seq.tuple (ks:=List.range F.length) (.inr ⟨F.length,bO _ _ _,rfl⟩) (by rw[Tj];show _<=1048576;omega) λI r=>b7 ⟨show 2<=1048576 by decide,λzz aa=>?_⟩))⟩
 obtain⟨S2,g2⟩:=S1.ext G (Ext.new (o:=.EG 0 F.length) J)
 obtain⟨S3,g3⟩:=S2.ext G (Ext.new (o:=.tup (j' (List.range F.length))) r)
 obtain⟨S4,g4⟩:=S3.ext G (Ext.new (o:=.tup [.ref m,.ref I]) aa)
 have x4:=((Ext.new (o:=.EG 0 F.length) J).trans (.new (o:=.tup (j' (List.range F.length))) r)).trans (.new (o:=.tup [.ref m,.ref I]) aa)
 have ah:I≠m:=λq=>by rw[q]at r;rw[Ext.new J _ _ z1]at r;cases r
 have ab:=g4.res _ _ (cg (S2.fresh r) (bO (upd Z zr (.EG 0 F.length)) I (.tup (j' (List.range F.length)))))
 refine bU (w:=[.ref m,.ref I]) (by unfold itemsT;simp only[bO]) ⟨rfl,?_⟩
 generalize upd (upd (upd Z zr (.EG 0 F.length)) I (.tup (j' (List.range F.length)))) zz (.tup [.ref m,.ref I])=M at S4 x4 ab⊢
 obtain⟨S5,R5⟩:=S.anew G B (x1.trans x4) S4 (x4 _ _ z1)
 refine yU (ad rfl) S4.s.cs (show 2<=4 by decide) ?_
 show ws d d' eU true _ [some (.ref L.cs),some (.ref U),some (.ref I),none,none,none,none,none,none,none,none] (upd M L.cs (.D4 1 [.ref L.tp,.ref L.fm,.ref m,.ref A.a]))
 have N:=R5 _ _ ah ab
 have X5:Ext (res (TF L U A) σ) (res (TF (L.anew m) U A) (upd M L.cs (.D4 1 [.ref L.tp,.ref L.fm,.ref m,.ref A.a]))):=λb o h=>by
  obtain⟨⟨h1,O⟩,h3⟩:=cV h
  exact R5 b o (λq=>by rw[q,B]at O;cases O) (cg h1 ((x1.trans x4) _ _ O) h3)
 generalize upd M L.cs (.D4 1 [.ref L.tp,.ref L.fm,.ref m,.ref A.a])=aq at S5 N X5⊢
 have ai:∀z o,Fi (d-4) ((L.anew m).add z o) F base ask j:=λz o=>H m ((z,o)::L.ex)
 have aj:Fi (d-2) (L.anew m) F base ask j:=(show Fi (d-4) (L.anew m) F base ask j from H m L.ex).le (by omega)
 refine⟨rfl,cD (ad rfl) S5.F7 cm rfl ((wK (by omega) G aj ai hq ac (SI _) hn S5).mono (λv al hv=>?_) λal hv=>?_)⟩
 ·exact uA ag ok hn N hv λA' C' D q' am E σ2 h1 O h3 h4 h5 h6=>by
   obtain⟨S7,g7⟩:=h5.ext G h6
   exact⟨rfl,m,A',C',D,q',am,E,h1,O,h3,(X5.trans h4.res).trans g7.res,S7⟩
 ·obtain⟨A',C',f,ha,S'⟩:=hv
  obtain⟨vs,h1,O⟩:=S'.s.ak
  obtain⟨v,rfl,e,sa,a,rfl,he,an,rfl⟩:=ER.one O
  exact Ba S'.s.cs h1 (ce he).2 (ce an).2 (ce (f.res _ _ N)).2 (λar x7=>by
   obtain⟨S7,g7⟩:=S'.ext G x7
   exact⟨rfl,m,A',C',true,q+1,sp+1,_,by omega,by omega,ha,(X5.trans f.res).trans g7.res,S7⟩) _
end
end
section
section
variable {tp cl:Addr} {sp:Nat}
theorem pt(h:(ev d true a Xp).e m (λv σ=>(ev d true b Xp).e m (λu σ=>GA op v u Q σ) σ) σ):(ev d true (.bin op a b) Xp).e m Q σ:=h
theorem pf(C:1<=d)(g:E1 d σ m D (.ref tp))(t:Fw σ tp cl A sp)(U:0<w)(hz:a+w<=1000)(h:∀k z,k<w->upd σ tp (.D4 0 [.ref cl,.int ((sp+1:Nat):Int)]) z=none->∃I:Nat->D7->AH->Prop,I 0 m (upd (upd σ tp (.D4 0 [.ref cl,.int ((sp+1:Nat):Int)])) z (.EG 0 ((a+k:Nat):Int)))/\
   ∀j m q,I j m q->q z=some (.EG 0 ((a+k:Nat):Int))/\(j=a+k->ws d Xp r true P m q)/\(j<a+k->ws d Xp y true ⟨λm σ=>I (j+1) m σ,P.rt⟩ (m.set n (some (.int j))) q)):
  ws d Xp (.cons (.fo n (.bf .range (.cons (.bin .Add (.D6 (.int a)) (.call (.glob 6) (.cons D (.cons (.D6 (.int w)) .nil)))) .nil)) y) r) true P m σ:=by
 refine eG ⟨rfl,ch (pt ((u') _ _ (dq (cO rfl) (dc g u') ((jo C t (w:=w) (by omega)).mono (λv q E=>?_) λσ h=>h.elim))))⟩
 obtain⟨k,rfl,Y,rfl⟩:=E
 obtain⟨k,rfl⟩:∃j:Nat,k=j:=⟨k.toNat,by omega⟩
 refine su ?_
 refine(show(ev d true .nil Xp).l _ _ _ from b7 ?_)
 refine nT (sm (n:=a+k) (by omega)) λz hz=>?_
 obtain⟨I,G,st⟩:=h k z (by omega) hz
 rw[show((a:Int)+k)=((a+k:Nat):Int) by omega]
 refine bU (w:=EK 0 ((a+k:Nat):Int)) (kR (bO _ _ _)) ⟨I,G,λj m q H=>?_⟩
 obtain⟨J,M,N⟩:=st j m q H
 refine⟨eA (bO _ _ _) J,λO=>M ?_,λu Q=>?_⟩
 ·rw[O];unfold EK;rw[Su,Tj];exact p9
 ·obtain⟨rfl,B⟩:=Mt Q
  exact N B
def KO(tp:Addr)(σ j:AH):Prop:=∀b o,b≠tp->σ b=some o->j b=some o
theorem KO.trans(h:KO tp σ j)(g:KO tp j σ2):KO tp σ σ2:=λb o m e=>g b o m (h b o m e)
theorem Ext.ex1(h:Ext σ m):KO tp σ m:=λb o j e=>h b o e
theorem KO.Lv:KO tp σ (upd σ tp o):=λb o' j e=>(bP j).trans e
theorem Fw.draw(t:Fw σ tp cl j sp)(h:sp+1<1000000):Fw (upd σ tp (.D4 0 [.ref cl,.int ((sp+1:Nat):Int)])) tp cl j (sp+1):=⟨bO _ _ _,(bP t.ne).trans t.cl,t.len,h⟩
theorem Fw.ext(t:Fw σ tp cl j sp)(h:Ext σ m):Fw m tp cl j sp:=⟨h _ _ t.tp,h _ _ t.cl,t.len,t.sp⟩
structure IQ (c:List Int):Prop where
 nd:c.Nodup
 lit:∀l∈c,1<=l.natAbs/\l.natAbs<=3
 neg:∀l∈c,-l∉c
def MD(f:List (List Int)):Prop:=1<=f.length/\f.length<=2/\∀c∈f,IQ c/\1<=c.length/\c.length<=2
theorem IQ.add(h:IQ c)(A:1<=l.natAbs/\l.natAbs<=3)(B:l∉c)(q: -l∉c):IQ (c++[l]):=by
 have cs:∀{x:Int},x∈c++[l]->x∈c\/x=l:=λh=>(Tv.mp h).imp id Sx.mp
 refine⟨Tn.mpr ⟨h.nd,(by simp),λa C b r=>?_⟩,λx m=>?_,λx m w=>?_⟩
 ·rw[Sx]at r;rintro rfl;subst r;exact B C
 ·rcases cs m with h'|rfl
  ·exact h.lit x h'
  ·exact A
 ·rcases cs m with h'|rfl
  ·rcases cs w with j|j
   ·exact h.neg x h' j
   ·exact q (by rw[<-j,TS];exact h')
  ·rcases cs w with j|j
   ·exact q j
   ·omega
structure IS (σ0 σ:AH) (a:Addr) (cr:List Addr) (f:List (List Int)):Prop where
 at_:σ a=some (.list (cr.map .ref))
 new:σ0 a=none
 len:cr.length=f.length
 Px:∀b∈cr,σ0 b=none/\b≠a
 cls:∀(j:Nat) (b:Addr) (c:List Int),cr[j]? =some b->f[j]? =some c->σ b=some (.list (g' c))
end
section
inductive KP (tp cl:Addr) (cells:List Int) (sp:Nat) (σ:AH) (fd sm zr:Addr) (u2:Option AV) (w:Nat) (k:Nat) (m:D7) (Eb:AH):Prop
 |mk (c u4 u5) (h0:m=[some (.ref tp),some (.ref fd),u2,some (.ref sm),u4,u5]) (h1:Fw Eb tp cl cells (sp+k)) (h2:(∀b o,b≠tp->b≠sm->σ b=some o->Eb b=some o)) (h3:Eb sm=some (.list (g' c))) (h4:Eb zr=some (.EG 0 (w:Nat))) (h5:IQ c) (h6:c.length<=k) (h7:(1<=k->1<=c.length)) (h8:k<=w)
theorem wF(hd:2<=d){fd sm J:Addr}{u2:Option AV}(H:sm≠B/\J≠B/\J≠sm/\D≠sm)(hs:E+10<1000000)(hw:w<=2)(Y:k<w)(I:KP B D C E σ fd sm J u2 w k m r):
  ws d d' fB true ⟨λm r=>KP B D C E σ fd sm J u2 w (k+1) m r,P⟩ (m.set 4 (some (.int k))) r:=by
 refine cL ?_
 intro RR YY
 obtain⟨c,u4,u5,rfl,t,e,O,Q,Z,aa,ab,ac⟩:=I
 refine cZ (dq (cO rfl) (cJ (ad rfl)) ((qF hd t).mono (λv σ2 hv=>c0 ?_) λσ h=>h.elim))
 obtain⟨l,rfl,hl,rfl⟩:=hv
 have G:=t.draw (by omega)
 have q:=(bP (σ:=r) (o:=.D4 0 [.ref D,.int ((E+k+1:Nat):Int)]) H.1).trans O
 have A:=(bP (σ:=r) (o:=.D4 0 [.ref D,.int ((E+k+1:Nat):Int)]) H.2.1).trans Q
 have U:∀b o,b≠B->b≠sm->σ b=some o->upd r B (.D4 0 [.ref D,.int ((E+k+1:Nat):Int)]) b=some o:=λb o M N h=>(bP M).trans (e b o M N h)
 generalize upd r B (.D4 0 [.ref D,.int ((E+k+1:Nat):Int)])=σ2 at G q A U⊢
 show ws d d' eq true _ [some (.ref B),some (.ref fd),u2,some (.ref sm),some (.int k),some (.int l)] σ2
 refine co (fY (bR (ad rfl) (ad rfl) (jU (.inl q))) λj=>bR (eP (ad rfl)) (ad rfl) (jU (.inl q))) ?_
 by_cases h:l∉c/\ -l∉c
 ·rw[if_pos (by simp[h.1,h.2])]
  refine dt (ys:=g' (c++[l])) (ad rfl) (ad rfl) q (by unfold g';rw[SX];rfl) (by rw[bX];show _<1048576;omega) ?_
  refine⟨c++[l],_,_,rfl,⟨(bP (Ne.symm H.1)).trans G.tp,(bP H.2.2.2).trans G.cl,G.len,G.sp⟩,λb o M N h=>(bP N).trans (U b o M N h),bO _ _ _,(bP H.2.2.1).trans A,Z.add hl h.1 h.2,?_,λj=>?_,Y⟩
  ·rw[Sw];show _+1<=_;omega
  ·rw[Sw];show _<=_+1;omega
 ·rw[if_neg (by simp only[SF,Vc,decide_eq_false_iff_not];exact h)]
  refine⟨c,_,_,rfl,G,U,q,A,Z,by omega,λj=>?_,Y⟩
  cases c with
  |nil=>exact absurd ⟨(λh=>(by cases h)),(λh=>(by cases h))⟩ h
  |cons x c=>rw[TK];omega
end
end
section
section
variable {f:List (List Int)}
theorem IS.add{sm:Addr}(h:IS σ0 σ fd B f)(hs:σ0 sm=none)(C:σ sm=none)(k:∀b o,σ b=some o->b≠fd->σ b=some o->(∃xs,o=.list xs)->r b=some o)(E:r fd=some (.list ((B++[sm]).map .ref)))(G:r sm=some (.list (g' c))):IS σ0 r fd (B++[sm]) (f++[c]):=by
 refine⟨E,h.new,by rw[Sw,Sw,h.len];rfl,λb m=>?_,λj b H m w=>?_⟩
 ·refine cx m (λh'=>?_) λh'=>?_
  ·exact h.Px b h'
  ·rw[Sx]at h';subst h'
   exact⟨hs,λq=>by rw[q,h.at_]at C;cases C⟩
 ·rcases Ul j B.length with A|A
  ·rw[SV A]at m
   rw[SV (by rw[<-h.len];exact A)]at w
   have D:=h.cls j b H m w
   exact k b _ D (h.Px b (Sp m)).2 D ⟨_,rfl⟩
  ·rw[SZ A]at m
   rw[SZ (by rw[<-h.len];exact A)]at w
   rw[<-h.len]at w
   generalize j-B.length=i at m w
   cases i with
   |zero=>cases m;cases w;exact G
   |succ i=>cases m
inductive ME (tp cl:Addr) (cells:List Int) (sp:Nat) (σ0:AH) (fd zr:Addr) (w:Nat) (k:Nat) (m:D7) (Eb:AH):Prop
 |mk (cr f MY u2 u3 u4 u5) (h0:m=[some (.ref tp),some (.ref fd),u2,u3,u4,u5]) (h1:Fw Eb tp cl cells MY) (h2:sp<=MY) (h3:MY<=sp+3*k) (h4:KO tp σ0 Eb) (h5:IS σ0 Eb fd cr f) (h6:List.length (α:=List Int) f=k) (h7:k<=w) (h8:(∀c∈f,IQ c/\1<=c.length/\c.length<=2)) (h9:Eb zr=some (.EG 0 (w:Nat)))
theorem xX(hd:2<=d){w k:Nat}(af:σ0 M≠none)(hs:sp+100<1000000)(hw:w<=2)(hk:k<w)(I:ME D M H sp σ0 fd zr w k m C):
  ws d d' gF true ⟨λm C=>ME D M H sp σ0 fd zr w (k+1) m C,P⟩ (m.set 2 (some (.int k))) C:=by
 refine cL ?_
 intro RR YY
 obtain⟨cr,f,J,u2,u3,u4,u5,rfl,t,l1,l2,e,N,ag,ax,hc,E⟩:=I
 refine cZ (cR cm (SI _) λsm B=>c0 ?_)
 have ah:σ0 sm=none:=by
  cases q:σ0 sm with
  |none=>rfl
  |some o=>
   have:sm≠D:=λr=>by rw[r,t.tp]at B;cases B
   rw[e sm o this q]at B;cases B
 have x1:=Ext.new (o:=.list []) B
 have t1:=t.ext x1
 have g1:=bO C sm (.list [])
 generalize upd C sm (.list [])=U at x1 t1 g1⊢
 have Z:sm≠D:=λq=>by rw[q,t1.tp]at g1;cases g1
 have aa:fd≠sm:=λq=>by rw[<-q,N.at_]at B;cases B
 have ab:fd≠D:=λq=>by have:=N.at_;rw[q,t.tp]at this;cases this
 have ai:zr≠sm:=λq=>by rw[<-q,E]at B;cases B
 have aj:zr≠D:=λq=>by rw[q,t.tp]at E;cases E
 have al:M≠sm:=λq=>by have:=t.cl;rw[q,B]at this;cases this
 refine pf (a:=1) (w:=2) (by omega) (ad rfl) t1 (by decide) (by decide) λj z hj hz=>?_
 have t2:=t1.draw (by omega)
 have g2:=(bP (σ:=U) (o:=.D4 0 [.ref M,.int ((J+1:Nat):Int)]) Z).trans g1
 have e2:KO D C (upd U D (.D4 0 [.ref M,.int ((J+1:Nat):Int)])):=x1.ex1.trans .Lv
 generalize upd U D (.D4 0 [.ref M,.int ((J+1:Nat):Int)])=σ2 at t2 g2 e2 hz⊢
 have t3:=t2.ext (Ext.new (o:=.EG 0 ((1+j:Nat):Int)) hz)
 have g3:=Ext.new (o:=.EG 0 ((1+j:Nat):Int)) hz _ _ g2
 have e3:=e2.trans (Ext.new (o:=.EG 0 ((1+j:Nat):Int)) hz).ex1
 have G:=bO σ2 z (.EG 0 ((1+j:Nat):Int))
 generalize upd σ2 z (.EG 0 ((1+j:Nat):Int))=am at t3 g3 e3 G⊢
 have an:z≠sm:=λq=>by rw[q,g3]at G;cases G
 have ac:z≠D:=λq=>by rw[q,t3.tp]at G;cases G
 refine⟨KP D M H (J+1) am fd sm z (some (.int k)) (1+j),⟨[],_,_,rfl,t3,λb o A A h=>h,g3,G,⟨.nil,(λA h=>(by cases h)),(λA h=>(by cases h))⟩,SR _,λh=>absurd h (by decide),SI _⟩,λi m ae I=>⟨?_,λhi=>?_,λhi=>wF hd ⟨Z,ac,an,al⟩ (by omega) (by omega) hi I⟩⟩
 ·obtain⟨c,u4,u5,rfl,t4,e4,O,Q,_⟩:=I;exact Q
 ·obtain⟨c,u4,u5,rfl,t4,e4,O,Q,aq,ay,ar,az⟩:=I
  have e5:∀b o,b≠D->b≠sm->C b=some o->ae b=some o:=λb o Y h2 h=>e4 b o Y h2 (e3 b o Y h)
  show ws d d' fq true _ [some (.ref D),some (.ref fd),some (.int k),some (.ref sm),u4,u5] ae
  refine dt (ys:=(cr++[sm]).map .ref) (ad rfl) (ad rfl) (e5 _ _ ab aa N.at_) (by rw[SX];rfl) (by rw[Su,N.len];show _<1048576;omega) ?_
  have as:D≠fd:=Ne.symm ab
  have au:M≠fd:=λq=>af (by rw[q];exact N.new)
  refine⟨cr++[sm],f++[c],J+1+i,_,_,_,_,rfl,⟨(bP as).trans t4.tp,(bP au).trans t4.cl,t4.len,t4.sp⟩,by omega,by omega,λb o Y h=>?_,N.add ah B (λb o h Y A h2=>?_) (bO _ _ _) ((bP (Ne.symm aa)).trans O),by rw[Sw,ag];rfl,hk,λc' aw=>?_,(bP (λq=>?_)).trans (e5 _ _ aj ai E)⟩
  ·have h':=e b o Y h
   exact(bP λq=>by rw[q,N.new]at h;cases h).trans (e5 b o Y (λq=>by rw[q,B]at h';cases h') h')
  ·obtain⟨xs,rfl⟩:=h2
   exact(bP Y).trans (e5 b _ (λq=>by rw[q,t.tp]at h;cases h) (λq=>by rw[q,B]at h;cases h) h)
  ·refine cx aw (λh=>?_) λh=>?_
   ·exact hc c' h
   ·rw[Sx]at h;subst h;exact⟨aq,ar (by omega),by omega⟩
  ·rw[q,N.at_]at E;cases E
def JS(r A:Addr)(j:List Int)(w:Nat)(σ:AH)(v:AV)(m:AH):Prop:=
 ∃a B f q,v=.ref a/\Fw m r A j q/\w<=q/\q<=w+7/\KO r σ m/\IS σ m a B f/\MD f
theorem pS(hd:3<=d)(t:Fw σ B E A D)(hs:D+200<1000000):D5 d (.ref 295) [.ref B] (JS B E A D σ) d' σ:=by
 refine cw oH hd (n:=5) rfl ?_
 intro d hd RR
 refine cZ (cR cm (SI _) λfd G=>c0 ?_)
 have Q:=Ext.new (o:=.list []) G
 have N:=t.ext Q
 have O:=bO σ fd (.list [])
 generalize upd σ fd (.list [])=C at Q N O⊢
 have U:fd≠B:=λq=>by rw[q,N.tp]at O;cases O
 refine pf (a:=1) (w:=2) (by omega) (ad rfl) N (by decide) (by decide) λj z hj hz=>?_
 have t2:=N.draw (by omega)
 have g2:=(bP (σ:=C) (o:=.D4 0 [.ref E,.int ((D+1:Nat):Int)]) U).trans O
 have e2:KO B σ (upd C B (.D4 0 [.ref E,.int ((D+1:Nat):Int)])):=Q.ex1.trans .Lv
 generalize upd C B (.D4 0 [.ref E,.int ((D+1:Nat):Int)])=σ2 at t2 g2 e2 hz⊢
 have t3:=t2.ext (Ext.new (o:=.EG 0 ((1+j:Nat):Int)) hz)
 have g3:=Ext.new (o:=.EG 0 ((1+j:Nat):Int)) hz _ _ g2
 have e3:=e2.trans (Ext.new (o:=.EG 0 ((1+j:Nat):Int)) hz).ex1
 have H:=bO σ2 z (.EG 0 ((1+j:Nat):Int))
 generalize upd σ2 z (.EG 0 ((1+j:Nat):Int))=aa at t3 g3 e3 H⊢
 refine⟨ME B E A (D+1) σ fd z (1+j),⟨[],[],_,_,_,_,_,rfl,t3,SR _,SR _,e3,⟨g3,G,rfl,(λr h=>(by cases h)),λj b c h=>(by cases h)⟩,rfl,SI _,(λr h=>(by cases h)),H⟩,λi m ab I=>⟨?_,λhi=>?_,λhi=>xX (by omega) (by rw[t.cl];simp) (by omega) (by omega) hi I⟩⟩
 ·obtain⟨cr,f,J,u2,u3,u4,u5,rfl,t4,l1,l2,e,hF,Y,Z,hc,M⟩:=I;exact M
 ·obtain⟨cr,f,J,u2,u3,u4,u5,rfl,t4,l1,l2,e,hF,Y,Z,hc,M⟩:=I
  exact ad rfl _ _ ⟨fd,cr,f,J,rfl,t4,by omega,by omega,e,hF,by omega,by omega,hc⟩
end
end
def EA(σ:AH)(x C j:Addr):AH:=upd (upd σ x (.inst C j [])) j (.part x)
theorem pX(L:w' prog w c σ s)(C:Addr):
  w' prog w c (EA σ (s.heap.objs.size+1) C s.heap.objs.size) {s with heap:=(s.heap.push emptyDict).push (instObj C s.heap.objs.size),toks:=tk}/\Kp c σ s (EA σ (s.heap.objs.size+1) C s.heap.objs.size) {s with heap:=(s.heap.push emptyDict).push (instObj C s.heap.objs.size),toks:=tk}:=by
 have k:∀b o,s.heap.get? b=some o->((s.heap.push emptyDict).push (instObj C s.heap.objs.size)).get? b=some o:=λb o e=>Sq _ (Sq _ e)
 have A:s.heap.get? s.heap.objs.size=none:=bW _
 have B:s.heap.get? (s.heap.objs.size+1)=none:=Tx (Us _)
 have I:s.heap.objs.size≠s.heap.objs.size+1:=by omega
 have e0:((s.heap.push emptyDict).push (instObj C s.heap.objs.size)).get? s.heap.objs.size=some emptyDict:=by heap_get
 have e1:((s.heap.push emptyDict).push (instObj C s.heap.objs.size)).get? (s.heap.objs.size+1)=some (instObj C s.heap.objs.size):=by heap_get
 have J:=bV L A
 have M:=bV L B
 have m:∀b o,EA σ (s.heap.objs.size+1) C s.heap.objs.size b=some o->(b=s.heap.objs.size/\o=.part (s.heap.objs.size+1))\/(b=s.heap.objs.size+1/\o=.inst C s.heap.objs.size [])\/(b≠s.heap.objs.size/\b≠s.heap.objs.size+1/\σ b=some o):=λb o e=>by
  unfold EA at e
  by_cases q:b=s.heap.objs.size
  ·subst q;rw[bO]at e;cases e;exact .inl ⟨rfl,rfl⟩
  ·rw[bP q]at e
   by_cases E:b=s.heap.objs.size+1
   ·subst E;rw[bO]at e;cases e;exact .inr (.inl ⟨rfl,rfl⟩)
   ·rw[bP E]at e;exact .inr (.inr ⟨q,E,e⟩)
 have G:((s.heap.push emptyDict).push (instObj C s.heap.objs.size)).DictOf (PySem.strKind prog w) s.heap.objs.size []:=by
  obtain⟨o,es,N,O,r⟩:=fM (prog:=prog) (w:=w) s.heap (PySem.strKind prog w)
  exact⟨o,es,N,Sq _ O,r⟩
 generalize (s.heap.push emptyDict).push (instObj C s.heap.objs.size)=h' at k e0 e1 G⊢
 have H:Kp c σ s (EA σ (s.heap.objs.size+1) C s.heap.objs.size) {s with heap:=h',toks:=tk}:=by
  refine⟨λb ob Y e=>⟨ob.slots,k b ob e,λj=>rfl⟩,λb h=>?_,λb o h=>?_⟩
  ·unfold Ee at h
   cases q:EA σ (s.heap.objs.size+1) C s.heap.objs.size b with
   |none=>rw[q]at h;cases h
   |some o=>
    rcases m b o q with⟨rfl,_⟩|⟨rfl,_⟩|⟨_,_,e⟩
    ·exact .inr A
    ·exact .inr B
    ·left;unfold Ee;rw[e];rw[q]at h;exact h
  ·rcases m b o h with⟨rfl,_⟩|⟨rfl,_⟩|⟨_,_,e⟩
   ·exact .inr A
   ·exact .inr B
   ·left;rw[e];simp
 refine⟨L.step H (λb o e=>?_) (λb D Q U e=>?_) rfl rfl,H⟩
 ·rcases m b o e with⟨rfl,rfl⟩|⟨rfl,rfl⟩|⟨_,_,e⟩
  ·exact⟨_,e0⟩
  ·exact⟨e1,[],G,rfl,rfl⟩
  ·exact(L.own b o e).kept k
 ·rcases m b _ e with⟨_,q⟩|⟨rfl,q⟩|⟨_,_,e⟩
  ·cases q
  ·cases q;unfold EA;exact bO _ _ _
  ·have:=L.parts b D Q U e
   unfold EA
   rw[bP (λq=>by rw[q,J]at this;cases this),bP (λq=>by rw[q,M]at this;cases this)];exact this
theorem qf(I:∀P,makesIn (K P) C=true)(J:∀P,findIn (K P) (.ref C) "__init__"=some (some (.ref f)))(q:∀P,typeIn (K P) (.ref f)=some (.type "function"))(M:∀P,keepIn (K P) (.ref C)=true)(h:∀x B,σ x=none->σ B=none->x≠B->D5 d (.ref f) (.ref x::args) (λv j=>v=.none/\Q (.ref x) j) Xp (EA σ x C B)):D5 (d+1) (.ref C) args Q Xp σ:=by
 refine⟨λprog w c s N L q=>?_,λprog w c A s N vs R L D E=>?_⟩
 ·cases cv q;exact j7 L (M _)
 ·cases cv D
  have X:=L.says.1
  have O:s.heap.get? s.heap.objs.size=none:=bW _
  have U:s.heap.get? (s.heap.objs.size+1)=none:=Tx (Us _)
  obtain⟨Y,H⟩:=pX (tk:=s.toks) L C
  have Z:=h (s.heap.objs.size+1) s.heap.objs.size (bV L U) (bV L O) (Nat.succ_ne_self _)
  obtain⟨hh,g,dr,t,os⟩:=s
  refine make_core (makes_of X (I _)) (looks_findIn X (J _)) (λm=>bind_fn X m (q _)) (.inl rfl) ?_
  refine codeAny_mono (Z.2 prog w c (A.under (.builtin "type.__call__" ⟨.ref C::vs,[]⟩)) _ (.ref f) (.ref (hh.objs.size+1)::vs) ⟨R.stack,R.calm,by have:=R.depth;show A.depth+1+d<_;omega,by have:=R.units;show A.units+1+6*d+100<_;omega⟩ Y rfl (by rw[<-E];rfl)) λr s' G=>?_
  cases r with
  |ok f=>
   cases f with
   |ret v=>
    obtain⟨j,L2,k2,h2,h3⟩:=G
    exact⟨fR h2,j,L2,H.trans k2,h3⟩
   |_=>exact G
  |error e=>exact EX.trans L H G
def E6(C n:Nat)(x:X)(r:S):S:=.cons (.set (.attr (.var 0) C n) x) r
def sB:S:=E6 103 0 (.var 1) (E6 103 1 (.var 2) (E6 103 2 (.D6 (.bool true)) .nil))
def tK:Fn:=⟨76,D3 5 0,"CoreFinder.__init__",(.str (Str.ofString "relfinder.cores") 250),75,["self","ask","many"],[(0,"self",true),(1,"ask",true),(2,"many",true)],sB⟩
theorem q4:tK.Ok:=⟨λj=>rfl,λj=>rfl,(by intro vs h;obtain⟨m,q,r,rfl⟩:=JH h;rfl),by decide+kernel⟩
def vW:S:=E6 272 0 .Fy (E6 272 1 .Fy (E6 272 2 .Fy (E6 272 3 (.lst .nil) (E6 272 4 (.lst .nil) (E6 272 5 (.D6 (.int 0)) (E6 272 6 .Fy .nil))))))
def vl:Fn:=⟨128,D3 10 0,"Values.__init__",(.str (Str.ofString "relfinder.solver") 312),127,["self"],[(0,"self",true)],vW⟩
theorem tV:vl.Ok:=⟨λj=>rfl,λj=>rfl,(by intro vs h;obtain⟨m,rfl⟩:=I0 h;rfl),by decide+kernel⟩
def uJ:S:=.cons (.ex (.D3 (.var 0) 272 3 (.cons (.var 3) .nil))) .nil
def lS:S:=.cons (.fo 3 (.var 1) uJ) .nil
def gk:S:=E6 272 7 (.lst .nil) (E6 272 8 .Fy (E6 272 9 (.Gl (.var 4) (.D6 (.int 0)) 4 (.bf .range (.cons (.D6 (.int 1)) (.cons (.bin .Add (.var 2) (.D6 (.int 1))) .nil)))) (E6 272 10 (.D6 (.int 1)) (E6 272 11 (.lst .nil) (E6 272 12 (.D6 (.bool false)) (E6 272 13 (.tup .nil) (E6 272 14 (.D6 (.int 0)) (E6 272 15 (.D6 (.int 0)) lS))))))))
abbrev OJ:Tab:=[(0,"self",true),(1,"clauses",true),(2,"many",true),(3,"clause",true)]
theorem Al:∃p0 p1 p2 p4 p5 j,Eh (D3 11 0)=.Expr (.Call (.Attribute (.Call (.Name "super" p0) [] [] p1) "__init__" p2) [] [] p4) p5::j/\(p2.endLine==p4.line)=true/\j=(Eh (D3 11 0)).tail:=⟨_,_,_,_,_,_,rfl,rfl,rfl⟩
theorem Dn:(F2 gk).l (z' (D3 11 0)).names OJ (Eh (D3 11 0)).tail=true:=by decide+kernel
abbrev F1:FuncData:=fnX (He (D3 11 0)) (Str.ofString "Search.__init__") (E7 (D3 11 0)) (Eh (D3 11 0)) (z' (D3 11 0)) [((Str.ofString "__class__"),160)] .none .none .none (.str (Str.ofString "relfinder.solver") 312) none (.ref 169) (.ref 165)
theorem qM:(z' (D3 11 0)).names.lookup ("super":Str)=some .globalImplicit/\(z' (D3 11 0)).names.lookup ("__class__":Str)=some .free/\(z' (D3 11 0)).names.lookup ("self":Str)=some .local/\(z' (D3 11 0)).names.lookup ("clauses":Str)=some .local/\(z' (D3 11 0)).names.lookup ("many":Str)=some .local/\(z' (D3 11 0)).kind=.function/\
  (z' (D3 11 0)).isCoroutine=false/\(z' (D3 11 0)).isGenerator=false/\(∀x∈(z' (D3 11 0)).names,x.2≠.cell)/\(∀x∈(z' (D3 11 0)).names,x.2=.free->x.1=("__class__":Str))/\OJ.Pairwise (λs t=>s.1≠t.1/\s.2.1≠t.2.1):=by decide+kernel
theorem AW:∃ar,(F1.params.posonlyargs++F1.params.args).head? =some ar/\ar.arg=("self":Str):=⟨_,rfl,rfl⟩
theorem Aa(a b c:Value):bindArgs F1 ⟨[a,b,c],[]⟩=pure [(("self":Str),a),(("clauses":Str),b),(("many":Str),c)]:=rfl
theorem DK(P:Params):(K P).lookup 170=some ⟨.type "function",none,.func F1,#[]⟩:=rfl
theorem xN(L:w' prog w c σ s)(j:h₁.Ns s.heap.objs.size λy=>([(("self":Str),a),(("clauses":Str),b),(("many":Str),e)]:List (Str×Value)).reverse.lookup y)(q:∀b o,s.heap.get? b=some o->h₁.get? b=some o):
  Entry c σ s (callEnv F1 s.heap.objs.size 170) (z' (D3 11 0)).names OJ [some (av a),some (av b),some (av e),none,none] h₁:=by
 obtain⟨M,N,G,H,I,J,O,Q,A,B,C⟩:=qM
 refine⟨rfl,J,rfl,rfl,rfl,rfl,q,⟨_,j⟩,λx b m=>absurd rfl (A _ (cG m)),λx m=>?_,λx b m=>absurd rfl (A _ (cG m)),λt ht v r=>?_,C⟩
 ·cases D:(z' (D3 11 0)).names.lookup x with
  |none=>rw[D]at m;cases m
  |some k=>
   rw[D]at m
   have E:=cG D
   cases k<;>first|exact absurd rfl (A _ E)|(have:=B _ E rfl;exact⟨160,by rw[show x=("__class__":Str)from this];rfl⟩)|cases m
 ·simp only[SH,Ta,or_false]at ht
  rcases ht with rfl|rfl|rfl|rfl
  ·cases r;exact .loc G _ _ j rfl rfl
  ·cases r;exact .loc H _ _ j rfl rfl
  ·cases r;exact .loc I _ _ j rfl rfl
  ·cases r
set_option tactic.hygienic true in
theorem y9(hx:σ x=some (.inst 272 dx []))(hs:D5 d (.ref 128) [.ref x] (λj E=>ws d Xp gk true ⟨λj σ=>Q .none σ,Q⟩ [some (.ref x),some ae,some vn,none,none] E) d' σ):D5 (d+1) (.ref 170) [.ref x,ae,vn] Q Xp σ:=by
 refine⟨λprog w c s fv L I=>?_,λprog w c A s fv vs R L I J=>?_⟩
 ·cases cv I;exact j7 L rfl
 ·refine wc ?_
  intro W3 Q3
  cases cv I
  have hl:vs.length=3:=by rw[<-Su (f:=av),J];rfl
  obtain⟨a,b,e,rfl⟩:=JH hl
  simp only[TM,U6,List.cons.injEq,and_true]at J
  obtain⟨h1,h2,h3⟩:=J
  cases cv h1
  subst h2 h3
  obtain⟨n1,n2,n3,n4,n5,n6,n7,n8,n9,an,aq⟩:=qM
  obtain⟨ar,a1,a2⟩:=AW
  have Z:=L.says.1 170 _ (DK w.params)
  refine(?_:_->_) (L.says.2.1 (169,Str.ofString "Search.__init__") (by decide+kernel))
  intro CA
  have M:A.depth<recursionLimit:=by have:=R.depth;omega
  refine ks_codeAny_call_defAt (fd:=F1) (body:=Eh (D3 11 0)) M Z rfl L.gt.nolimit CA.rec rfl (.of_eq (Aa _ _ _)) n9 (λy hy=>?_) (λh₁ aa H=>?_) n7 n8 n6
  ·simp only[SH,Ta,or_false]at hy
   rcases hy with rfl|rfl|rfl
   ·exact n3
   ·exact n4
   ·exact n5
  have G:=xN L aa H
  have L1:=G.live (tk:=s.toks+3) L
  obtain⟨p0,p1,p2,p4,p5,am,hb,af,N⟩:=Al
  rw[hb]
  have hA:(A.deeper (callEnv F1 s.heap.objs.size 170)).frames=some (callEnv F1 s.heap.objs.size 170::c.D1::c.outer):=by
   show A.frames.map (_:: ·)=_
   rw[R.stack];rfl
  have he:D' w (FX c (callEnv F1 s.heap.objs.size 170) s.heap.objs.size) (A.deeper (callEnv F1 s.heap.objs.size 170)) true d (callEnv F1 s.heap.objs.size 170) (z' (D3 11 0)).names:=
   ⟨G.names,G.kind,G.glob,G.blt,G.frame,hA,λj=>R.calm,by have:=R.depth;show A.depth+1+d<_;omega,PT R.units,G.ex⟩
  have ab:=L1.own x _ hx
  refine ks_wpAt_execs_cons (ks_wpAt_Expr_any (ks_wpAt_MethodCall (he:=lx af rfl) (lG (ar:=ar) (P:=w.params) (x:=x) (C:=272) (D:=272) n1 n2 (by rw[a2];exact n3) n6 rfl rfl rfl rfl (H _ _ Z) rfl a1 (L1.says.2.1 (169,Str.ofString "Search.__init__") (by decide+kernel)) L1.os.2 L1.gt L1.says.1 (by kernel_rfl) (by decide) ⟨_,L1.says.1 160 _ rfl,rfl⟩ (L1.says.1 272 _ rfl) rfl aa (by rw[a2];rfl) ab.1 rfl (λc q=>(by cases q)) (by kernel_rfl) λm ag O=>?_)))
  obtain⟨L2,k2⟩:=ci (tk:=s.toks+3) L1 O
  have ah:x≠272:=λq=>by
   have h6:=ab.1
   rw[q,L1.says.1 272 _ rfl]at h6;cases h6
  have ai:clsIn (K w.params) 272=some {name:=(Str.ofString "Search"),bases:=[(.ref 152)],mro:=[(.ref 272),(.ref 152),(.type "object")],ns:=271,qualname:=(Str.ofString "Search"),hasDict:=true,slotNames:=[],subclasses:=[],abstract:=false,collection:=none,hasDel:=false}:=rfl
  refine ks_wpAny_getMethod_super (K:=K w.params) ag (pE L2.says 272) ((looks_clsIn L2.says.1 ai).andThen .now) rfl L2.says.1 (show alongIn (K w.params) "__init__" [.ref 152,.type "object"]=some (some (.ref 128)) by kernel_rfl) (L2.says.1 128 _ rfl) rfl ah (by decide) ?_
  refine wl ?_
  intro as au aw
  have U:(m.push {cls:=.type "method",data:=.fields #[.ref 128,.ref x]}).get? m.objs.size=some {cls:=.type "method",data:=.fields #[.ref 128,.ref x]}:=U7 rfl rfl
  obtain⟨L3,k3⟩:=ci (h':=m.push {cls:=.type "method",data:=.fields #[.ref 128,.ref x]}) (tk:=s.toks+3+1) L2 λb o q=>Sq _ q
  generalize m.push {cls:=.type "method",data:=.fields #[.ref 128,.ref x]}=ac at U L3 k3⊢
  refine callWith_of (P:=MethP (K w.params) m.objs.size 128 (.ref x)) rfl (keeps_M (by kernel_rfl)) (evalArgs_nil3 ⟨⟨U,L3.says.1⟩,wpAny_call (ks_codeAny_call_bound U (codeAny_mono (hs.2 prog w (FX c (callEnv F1 s.heap.objs.size 170) s.heap.objs.size) (A.deeper (callEnv F1 s.heap.objs.size 170)) _ (.ref 128) [.ref x] he.room L3 rfl rfl) λr s4 Y=>?_))⟩)
  have kk:Kp (FX c (callEnv F1 s.heap.objs.size 170) s.heap.objs.size) σ {s with heap:=h₁,toks:=s.toks+3} σ {s with heap:=ac,toks:=s.toks+3+1}:=k2.trans k3
  cases r with
  |error e=>
   obtain⟨a,E,B,_,hX,_⟩:=Y
   exact hX.elim
  |ok fl=>
   cases fl with
   |ret v=>
    obtain⟨aj,L4,k4,hw⟩:=Y
    refine(?_:_->_) (((G.vs L).kept L1 (G.MU L) (kk.trans k4)))
    intro al
    refine _root_.PySem.wpAt_of_wpAny ?_
    rw[N]
    refine Sz ((EZ gk).2 (z' (D3 11 0)).names OJ _ prog w (FX c (callEnv F1 s.heap.objs.size 170) s.heap.objs.size) (A.deeper (callEnv F1 s.heap.objs.size 170)) true d _ aj s4 Xp _ Dn he (G.MU L) al L4 hw) (λf s' I=>?_) λev s' hx=>G.left L hA (FC.trans (kk.trans k4).kq hx) λax h=>h
    cases f with
    |next=>
     obtain⟨E,m',L',k',_,h'⟩:=I
     obtain⟨L5,k5⟩:=G.back L L' ((kk.trans k4).kq.trans k')
     exact⟨E,L5,k5,h'⟩
    |ret v=>
     refine gl ?_
     intro ay
     obtain⟨E,L',k',h'⟩:=I
     obtain⟨L5,k5⟩:=G.back L L' ((kk.trans k4).kq.trans k')
     exact⟨E,L5,k5,h'⟩
    |_=>exact I.elim
   |_=>exact Y.elim
section
section
variable {e:X}
structure Mk (σ0:AH) (C x dx:Addr) (fl:List AV) (zs:List (Addr×AO)) (σ:AH):Prop where
 inst:σ x=some (.inst C dx fl)
 HM:∀p∈zs,σ p.1=some p.2/\σ0 p.1=none
 nd:(x::zs.map (·.1)).Nodup
 new:σ0 x=none
 ext:Ext σ0 σ
theorem Mk.start(q:σ0 x=none)(w:σ0 m=none)(r:x≠m):Mk σ0 C x m [] [] (EA σ0 x C m):=
 ⟨by unfold EA;rw[bP r,bO],(λj h=>(by cases h)),by simp,q,(Ext.new q).trans (.new (by rw[bP (Ne.symm r)];exact w))⟩
theorem Mk.val(M:Mk σ0 C x m r zs σ)(v:AV):Mk σ0 C x m (r++[v]) zs (upd σ x (.inst C m (r++[v]))):=
 ⟨bO _ _ _,λp j=>⟨(bP λq=>(Tb.mp M.nd).1 (by rw[<-q];exact SY j)).trans (M.HM p j).1,(M.HM p j).2⟩,M.nd,M.new,λb o h=>(bP λq=>by rw[q,M.new]at h;cases h).trans (M.ext b o h)⟩
theorem Mk.grow(M:Mk σ0 C x w A zs σ)(hz:σ z=none):Mk σ0 C x w A ((z,o)::zs) (upd σ z o):=by
 have m:x≠z:=λq=>by rw[<-q,M.inst]at hz;cases hz
 have B:z∉zs.map (·.1):=λh=>by
  obtain⟨p,j,rfl⟩:=Te.mp h
  rw[(M.HM p j).1]at hz;cases hz
 refine⟨(bP m).trans M.inst,λp j=>?_,?_,M.new,M.ext.trans (.new hz)⟩
 ·refine dz j ?_ λj=>?_
  ·refine⟨bO _ _ _,?_⟩
   cases q:σ0 z with
   |none=>rfl
   |some o'=>rw[M.ext _ _ q]at hz;cases hz
  ·exact⟨Ext.new hz _ _ (M.HM p j).1,(M.HM p j).2⟩
 ·rw[TM,Tb,Tb]
  have r:=Tb.mp M.nd
  exact⟨λq=>(SH.mp q).elim m r.1,B,r.2⟩
theorem kY(j:List AV)(v:AV):GC j j.length v=j++[v]:=by
 unfold GC;simp
theorem gJ(M:Mk σ0 C x w q zs σ)(A:q.length=n)(g:Em m 0=some (.ref x))(h:E1 d σ m e v)(k:∀j,Mk σ0 C x w (q++[v]) zs j->ws d Xp r true P m j):ws d Xp (E6 C n e r) true P m σ:=by
 subst A
 refine fw h (ad g) M.inst (SR _) ?_
 rw[kY];exact k _ (M.val v)
theorem lD(M:Mk σ0 C x A q zs σ)(B:q.length=n)(g:Em m 0=some (.ref x))(h:∀Q:EO,(∀z,σ z=none->Q (.ref z) (upd σ z o))->(ev d true e Xp).e m Q σ)(k:∀z j,Mk σ0 C x A (q++[.ref z]) ((z,o)::zs) j->ws d Xp r true P m j):ws d Xp (E6 C n e r) true P m σ:=by
 subst B
 refine cZ (h _ λz hz=>?_)
 have w:=M.grow (o:=o) hz
 refine gc (ad g) w.inst (SR _) ?_
 rw[kY];exact k z _ (w.val _)
theorem ms(M:Mk σ0 C x A q zs σ)(B:q.length=n)(g:Em m 0=some (.ref x))(h:∀Q:EO,(∀z ob,σ z=none->Q (.ref z) (upd σ z (.D0 kvs ob)))->(ev d true e Xp).e m Q σ)(k:∀z ob j,Mk σ0 C x A (q++[.ref z]) ((z,.D0 kvs ob)::zs) j->ws d Xp r true P m j):ws d Xp (E6 C n e r) true P m σ:=by
 subst B
 refine cZ (h _ λz ob hz=>?_)
 have w:=M.grow (o:=.D0 kvs ob) hz
 refine gc (ad g) w.inst (SR _) ?_
 rw[kY];exact k z ob _ (w.val _)
theorem oY:∀Q:EO,(∀z,σ z=none->Q (.ref z) (upd σ z (.list [])))->(ev d true (.lst .nil) Xp).e m Q σ:=λQ q=>cR cm (SI _) q
theorem jP:∀Q:EO,(∀z ob,σ z=none->Q (.ref z) (upd σ z (.D0 [] ob)))->(ev d true .Fy Xp).e m Q σ:=λQ q=>λz ob hz=>q z ob hz
theorem oM(m:1<=d)(M:Mk σ0 103 x q [] [] σ):D5 d (.ref 76) [.ref x,a,.int k] (λv j=>v=.none/\Mk σ0 103 x q [a,.int k,.bool true] [] j) d' σ:=by
 refine cw q4 m (n:=0) rfl ?_
 intro d m D
 refine gJ M rfl rfl (ad rfl) λr w=>gJ w rfl rfl (ad rfl) λσ2 A=>gJ A rfl rfl u' λB C=>⟨rfl,C⟩
def Ot(σ0:AH)(x q:Addr)(j:AH):Prop:=∃kn ht cs m bg lk o1 o2 o3 o4,Mk σ0 272 x q [.ref kn,.ref ht,.ref cs,.ref m,.ref bg,.int 0,.ref lk] [(lk,.D0 [] o4),(bg,.list []),(m,.list []),(cs,.D0 [] o3),(ht,.D0 [] o2),(kn,.D0 [] o1)] j
theorem pd(m:1<=d)(M:Mk σ0 272 x q [] [] σ):D5 d (.ref 128) [.ref x] (λv j=>Ot σ0 x q j) d' σ:=by
 refine cw tV m (n:=0) rfl ?_
 intro d m w
 refine ms M rfl rfl jP λkn o1 A M=>ms M rfl rfl jP λht o2 B M=>ms M rfl rfl jP λcs o3 C M=>lD M rfl rfl oY λr D M=>lD M rfl rfl oY λbg E M=>gJ M rfl rfl u' λG M=>ms M rfl rfl jP λlk o4 H M=>?_
 exact⟨kn,ht,cs,r,bg,lk,o1,o2,o3,o4,M⟩
def Gw(N:Nat):List (Int×AV):=GS [] ((EK 1 (N+1)).map λx=>(intOf x,AV.int 0))
theorem CK{N:Nat}{ht:E1 d σ m (.var 2) (.int N)}(D:N<=8)(C:∀v:AV,Em (m.set 4 (some v)) 4=some v):∀Q:EO,(∀z,σ z=none->∀r ob,upd σ z (.EG 1 (N+1)) r=none->Q (.ref r) (upd (upd σ z (.EG 1 (N+1))) r (.D0 (Gw N) ob)))->
  (ev d true (.Gl (.var 4) (.D6 (.int 0)) 4 (.bf .range (.cons (.D6 (.int 1)) (.cons (.bin .Add (.var 2) (.D6 (.int 1))) .nil)))) Xp).e m Q σ:=λQ q=>by
 refine⟨rfl,qE u' (dE ht u') ⟨by unfold small;simp only[big];omega,by unfold small;simp only[big];omega⟩ λz hz=>?_⟩
 refine bU (w:=EK 1 (N+1)) (kR (bO _ _ _)) ⟨intOf,λj=> .int 0,λy A=>?_,λy A=>u' _ _ ⟨rfl,.refl _⟩,?_,λr ob B=>q z hz r ob B⟩
 ·unfold EK at A
  refine Ef A λk j=>?_
  exact ad (C _) _ _ ⟨rfl,.refl _⟩
 ·unfold EK
  rw[Su,Tj]
  show _<=1048576;omega
end
end
section
section
variable {e:X}
theorem Mk.skip(M:Mk σ0 C x m q zs σ)(hz:σ z=none):Mk σ0 C x m q zs (upd σ z o):=
 ⟨Ext.new hz _ _ M.inst,λp j=>⟨Ext.new hz _ _ (M.HM p j).1,(M.HM p j).2⟩,M.nd,M.new,M.ext.trans (.new hz)⟩
theorem DJ{l:List (Addr×Nat)}(m:(l.map (·.1)).Nodup)(j:(b,k)∈l):l.lookup b=some k:=by
 induction l with
 |nil=>cases j
 |cons p l ih=>
  have m:=Tb.mp m
  rw[TJ]
  refine(SH.mp j).elim (λe=>?_) λj=>?_
  ·subst e;rw[beq_self_eq_true]
  ·rw[beq_eq_false_iff_ne.mpr λq=>m.1 (Te.mpr ⟨_,j,q⟩)];exact ih m.2 j
def GO(l:List (Addr×Nat))(b:Addr):Nat:=(l.lookup b).getD 0
theorem yj{l:List (Addr×Nat)}(j:(l.map (·.1)).Nodup)(h:(b,k)∈l):GO l b=k:=by unfold GO;rw[DJ j h];rfl
theorem sz(h:GO l b≠0):b∈l.map (·.1):=by
 unfold GO at h
 cases q:l.lookup b with
 |none=>rewrite[q]at h;exact absurd rfl h
 |some k=>exact SY (f:=(·.1)) (LD q)
def Ou:Bool:=(List.range 9).all λN=>decide (((Gw N).map (·.1)).Nodup)&&(Gw N).all (λp=>decide (1<=p.1/\p.1<=(N:Nat)))&&(List.range 9).all λk=>decide (1<=k/\k<=N->lk (Gw N) (k:Nat)=some (.int 0))
theorem xx:Ou=true:=by decide+kernel
theorem xB(j:N<=8):E0 N (Gw N)/\∀v:Int,1<=v->v<=N->∃i,lk (Gw N) v=some (.int i):=by
 have h:=Ti.mp xx N (Tl.mpr (by omega))
 simp only[SF,decide_eq_true_eq,Ti]at h
 refine⟨⟨h.1.1,h.1.2⟩,λv m q=>⟨0,?_⟩⟩
 have:=h.2 v.toNat (Tl.mpr (by omega)) ⟨by omega,by omega⟩
 rw[show((v.toNat:Nat):Int)=v by omega]at this
 exact this
def C0(N:Nat):Cn:=⟨[],[],[],[],Gw N,[],[],0,[],λj=>[],[],1,false,[],0,0⟩
theorem Hd{b k i:Nat}(j:(l.map (·.1)).Nodup)(h:l[i]? =some (b,k)):GO l b=k:=yj j (Sp h)
theorem Mk.at(M:Mk σ0 C x j m zs σ){i:Nat}(h:zs[i]? =some (b,o)):σ b=some o:=(M.HM _ (Sp h)).1
theorem Mk.old(M:Mk σ0 C x m r zs σ)(h:c∈x::zs.map (·.1)):σ c≠none/\σ0 c=none:=by
 refine dz h ?_ λh=>?_
 ·exact⟨λq=>(by rw[M.inst]at q;cases q),M.new⟩
 ·refine Ef h λp j=>?_
  exact⟨λq=>(by rw[(M.HM p j).1]at q;cases q),(M.HM p j).2⟩
theorem Cc{N:Nat}{kn ht cs q bg lk w wt he lg bl:Addr}{o1 o2 o3 o4 o5 o6:Obj}(B:N<=8)(M:Mk σ0 272 x E [.ref kn,.ref ht,.ref cs,.ref q,.ref bg,.int 0,.ref lk,.ref w,.ref wt,.ref he,.int 1,.ref lg,.bool false,.ref bl,.int 0,.int 0] [(bl,.tup []),(lg,.list []),(he,.D0 (Gw N) o6),(wt,.D0 [] o5),(w,.list []),(lk,.D0 [] o4),(bg,.list []),(q,.list []),(cs,.D0 [] o3),(ht,.D0 [] o2),(kn,.D0 [] o1)] σ):
  ∃A:Ad,A.a=x/\OI N A σ (C0 N)/\∀b,A.T b≠0->σ0 b=none:=by
 have m:E0 N ([]:List (Int×AV)):=⟨.nil,(λj h=>(by cases h))⟩
 have C:=xB B
 have T:Ko ⟨x,E,kn,ht,cs,q,bg,lk,w,wt,he,lg,bl,[],[],GO [(x,1),(bl,14),(lg,11),(he,10),(wt,9),(w,8),(lk,7),(bg,6),(q,5),(cs,4),(ht,3),(kn,2)]⟩:=
  ⟨Hd M.nd (i:=0) rfl,Hd M.nd (i:=11) rfl,Hd M.nd (i:=10) rfl,Hd M.nd (i:=9) rfl,Hd M.nd (i:=8) rfl,Hd M.nd (i:=7) rfl,Hd M.nd (i:=6) rfl,Hd M.nd (i:=5) rfl,Hd M.nd (i:=4) rfl,Hd M.nd (i:=3) rfl,Hd M.nd (i:=2) rfl,(λj h=>(by cases h)),(λj h=>((Tw h).elim)),Hd M.nd (i:=1) rfl,.nil,.nil,.nil⟩
 have D:∀{α:Type} {n:Nat} {x:α},([]:List α)[n]? ≠some x:=λh=>(by cases h)
 have R:D8 σ _ (C0 N):=⟨T,λc G=>(M.old (sz G)).1,M.inst,⟨o1,M.at (i:=10) rfl⟩,⟨o2,M.at (i:=9) rfl⟩,⟨o3,M.at (i:=8) rfl⟩,M.at (i:=7) rfl,M.at (i:=6) rfl,⟨o4,M.at (i:=5) rfl⟩,M.at (i:=4) rfl,⟨o5,M.at (i:=3) rfl⟩,⟨o6,M.at (i:=2) rfl⟩,M.at (i:=1) rfl,M.at (i:=0) rfl,rfl,(λn b r h=>absurd h D),(λj h=>((Tw h).elim)),λj j=>rfl⟩
 exact⟨_,rfl,⟨R,⟨λv j=>rfl,(λj h=>nomatch h),(λj h=>nomatch h),m,m,m,m,C.1,C.2,(λv u h=>(by cases h)),(λj h=>(by cases h)),.nil,B⟩,(λj h=>(by cases h)),rfl,rfl,rfl,⟨(λn r l h=>absurd h D),(λl n h=>h.elim (λh=>(by cases h)) λh=>nomatch h.2),λl=> .nil,.nil,(λj h=>((Tw h).elim))⟩,(λj h=>(by cases h))⟩,λb H=>(M.old (sz H)).2⟩
end
end
section
section
variable {cr:List Addr}
def Fj(σ0:AH)(x:Addr)(N:Nat)(j:List (List Int))(k:Nat)(σ:AH):Prop:=
 ∃A C,A.a=x/\OI N A σ C/\Ext σ0 σ/\(∀b,A.T b≠0->σ0 b=none)/\C.rows.length=k/\(∀(i:Nat) (r L:List Int),C.rows[i]? =some r->j[i]? =some L->∀y,y∈r↔y∈L)/\C.lg=[]/\C.limit=0/\C.seen=0
theorem vd(hd:2<=d)(J:σ0 cl=some (.list (cr.map .ref)))(H:cr.length=E.length)(hL:∀(j:Nat) (b:Addr) (L:List Int),cr[j]? =some b->E[j]? =some L->σ0 b=some (.tup (g' L)))(ok:∀L∈E,EB N L)(hn:E.length<=100)(S0:Fj σ0 x N E 0 σ)(k:∀D,Fj σ0 x N E E.length D->Q .none D):ws d Xp lS true ⟨λB σ=>Q .none σ,Q⟩ [some (.ref x),some (.ref cl),some (.int N),u3,u4] σ:=by
 refine cL ?_
 intro RR YY
 have e0:Ext σ0 σ:=by obtain⟨A,C,_,_,e,_⟩:=S0;exact e
 refine eG ((ad rfl) _ _ (bU (w:=cr.map .ref) (cT (.inl (e0 _ _ J))) ⟨λk m D=>Fj σ0 x N E k D/\∃u3 u4,m=[some (.ref x),some (.ref cl),some (.int N),u3,u4],⟨S0,_,_,rfl⟩,?_⟩))
 rintro j m D ⟨S1,u3,u4,rfl⟩
 have ae:=S1
 obtain⟨A,C,ha,R,e1,hT,af,M,ag,aa,O⟩:=S1
 refine⟨(e1 _ _ J).trans (e0 _ _ J).symm,λhj=>?_,λy hy=>?_⟩
 ·rw[Su,H]at hj
  exact k _ (by rw[<-hj];exact ae)
 ·obtain⟨b,hb,rfl⟩:∃b,cr[j]? =some b/\y=.ref b:=by
   rw[SG]at hy
   cases q:cr[j]? with
   |none=>rw[q]at hy;cases hy
   |some b=>rw[q]at hy;cases hy;exact⟨b,rfl,rfl⟩
  have ah:j<E.length:=by rw[<-H];exact bQ hb
  obtain⟨L,U⟩:∃L,E[j]? =some L:=⟨_,SA ah⟩
  have Y:=hL j b L hb U
  have ai:A.T b=0:=by
   cases q:A.T b with
   |zero=>rfl
   |succ n=>rw[hT b (by rw[q];exact Ub n)]at Y;cases Y
  subst ha
  refine cN (cD (ad rfl) R.rep.inst (cJ (ad rfl)) rfl ((mX hd R (by omega) (.inr (e1 _ _ Y)) ai (ok L (Sp U))).mono (λv σ2 hv=>⟨by rw[hv.1];trivial,?_⟩) λσ h=>h.elim))
  obtain⟨_,A2,C2,ys,f,aj,R2,ab,al,ac,Z,G⟩:=hv
  refine⟨⟨A2,C2,aj,R2,λc o h=>f.keep c o ?_ (e1 _ _ h),λc hc=>?_,by rw[ab,Sw,af];rfl,λi r L' I h2=>?_,ac.trans ag,Z.trans aa,G.trans O⟩,_,_,rfl⟩
  ·cases q:A.T c with
   |zero=>rfl
   |succ n=>rw[hT c (by rw[q];exact Ub n)]at h;cases h
  ·rcases f.new c hc with h|h
   ·exact hT c h
   ·cases q:σ0 c with
    |none=>rfl
    |some o=>rw[e1 _ _ q]at h;cases h
  ·rw[ab]at I
   rcases Ul i C.rows.length with hi|hi
   ·rw[SV hi]at I
    exact M i r L' I h2
   ·rw[SZ hi]at I
    have:i-C.rows.length=0:=by
     rcases Nat.eq_zero_or_pos (i-C.rows.length)with q|q
     ·exact q
     ·rw[Tq (by show 1<=_;omega)]at I;cases I
    rw[this]at I
    cases I
    rw[show i=j by omega,U]at h2
    cases h2
    exact al
theorem rd(hd:4<=d)(O:N<=8)(E:σ Z=some (.list (cr.map .ref)))(D:cr.length=B.length)(hL:∀(j:Nat) (b:Addr) (L:List Int),cr[j]? =some b->B[j]? =some L->σ b=some (.tup (g' L)))(ok:∀L∈B,EB N L)(hn:B.length<=100):
  D5 d (.ref 272) [.ref Z,.int N] (λv w=>∃x,v=.ref x/\Fj σ x N B B.length w) d' σ:=by
 obtain⟨d,rfl⟩:∃e,d=e+2:=⟨d-2,(Nat.sub_add_cancel (SJ (by decide) (show 4<=d by assumption))).symm⟩
 refine qf (C:=272) (f:=170) (λP=>by kernel_rfl) (λP=>by kernel_rfl) (λP=>rfl) (λP=>rfl) λx dx hx G H=>?_
 have U:=Mk.start (C:=272) hx G H
 refine y9 U.inst ((pd (by omega) U).mono (λm aa hv=>?_) λσ h=>h.elim)
 obtain⟨kn,ht,cs,ro,bg,lk,o1,o2,o3,o4,M⟩:=hv
 refine lD M rfl rfl oY λrs s1 M=>ms M rfl rfl jP λwt o5 s2 M=>?_
 refine cZ (CK (ht:=ad rfl) O (λv=>rfl) _ λzr I he o6 J=>?_)
 have Y:=(M.skip (o:=.EG 1 (N+1)) I).grow (o:=.D0 (Gw N) o6) J
 refine gc (ad rfl) Y.inst (show 9<=9 by decide) ?_
 have M:=Y.val (.ref he)
 refine gJ M rfl rfl u' λs3 M=>lD M rfl rfl oY λlg s4 M=>gJ M rfl rfl u' λs5 M=>lD M rfl rfl (λQ q=>gv cm (SI _) q) λbl s6 M=>gJ M rfl rfl u' λs7 M=>gJ M rfl rfl u' λs8 M=>?_
 obtain⟨A,ha,R,hT⟩:=Cc O M
 refine vd (d:=d) (σ0:=σ) (Q:=λv w=>v=.none/\∃y,AV.ref x=.ref y/\Fj σ y N B B.length w) (by omega) E D hL ok hn ⟨A,C0 N,ha,R,M.ext,hT,rfl,(λi r L h=>by cases i<;>cases h),rfl,rfl,rfl⟩ λw h=>⟨rfl,x,rfl,h⟩
end
end
def Ei(i:Nat):Stmt:=((Eh (top 20))[i]?).getD (.Pass ⟨0,0,0,0⟩)
def tL:S:=.cons (.ret (.call (.glob 10) (.cons (.var 1) (.cons (.var 0) .nil)))) .nil
set_option tactic.hygienic true in
abbrev MF:Tab:=[(0,"some",true),(1,"case",false)]
set_option tactic.hygienic true in
abbrev Fb(cc m:Addr)(doc pm j:Value):FuncData:=fnX "_law_ask" "law.<locals>._law_ask" (E7 (Ei 6)) (Eh (Ei 6)) (z' (Ei 6)) [(("case":Str),cc)] .none .none doc pm none (.ref m) j
theorem BS:(F2 tL).l (z' (Ei 6)).names MF (Eh (Ei 6))=true:=by decide+kernel
set_option tactic.hygienic true in
theorem wn:(z' (Ei 6)).names.lookup ("some":Str)=some .local/\(z' (Ei 6)).names.lookup ("case":Str)=some .free/\(z' (Ei 6)).kind=.function/\(z' (Ei 6)).isCoroutine=false/\(z' (Ei 6)).isGenerator=false/\(∀x∈(z' (Ei 6)).names,x.2≠.cell)/\(∀x∈(z' (Ei 6)).names,x.2=.free->x.1=("case":Str))/\MF.Pairwise (λs t=>s.1≠t.1/\s.2.1≠t.2.1):=by decide+kernel
theorem w7(cc m:Addr)(doc pm j a:Value):bindArgs (Fb cc m doc pm j) ⟨[a],[]⟩=pure [(("some":Str),a)]:=rfl
def Gd(cs ask:Addr)(σ:AH):Prop:=∃cc q r j vs t doc pm m,σ ask=some (.obj {cls:=.type "function",data:=.func (Fb cc q doc pm m)})/\(σ cc=some (.obj j)/\j.data=.cell (some (.ref cs)))/\σ q=some (.obj r)/\r.data=.fields vs/\vs[1]? =some (.str "law.<locals>._law_ask" t)
theorem Gd.ext{cs ask:Addr}(e:Ext σ j)(h:Gd cs ask σ):Gd cs ask j:=(by obtain⟨cc,w,A,m,vs,t,doc,pm,q,B,r,C,D⟩:=h;exact⟨cc,w,A,m,vs,t,doc,pm,q,e _ _ B,⟨e _ _ r.1,r.2⟩,e _ _ C,D⟩)
set_option tactic.hygienic true in
theorem yx{cs ask:Addr}(ho:Gd cs ask σ)(hw:ws d Xp tL true ⟨λj σ=>Q .none σ,Q⟩ [some sa,some (.ref cs)] σ):D5 (d+1) (.ref ask) [sa] Q Xp σ:=by
 obtain⟨cc,E,oc,I,vt,tk,doc,pm,r,o1,⟨o2,J⟩,o3,o4,o5⟩:=ho
 obtain⟨Y,n2,Z,n4,n5,H,n7,n8⟩:=wn
 refine⟨λprog w c s fv L M=>?_,λprog w c A s fv vs R L M B=>?_⟩
 ·cases cv M
  exact keeps_F _ ⟨_,_,_,_,L.own _ _ o1⟩
 ·cases cv M
  have hl:vs.length=1:=by rw[<-Su (f:=av),B];rfl
  obtain⟨a,rfl⟩:=I0 hl
  simp only[TM,U6,List.cons.injEq,and_true]at B
  subst B
  have N:s.heap.get? ask=some {cls:=.type "function",data:=.func (Fb cc E doc pm r)}:=L.own _ _ o1
  have C:s.heap.get? cc=some I:=L.own _ _ o2
  have O:s.heap.CodeRec (.ref E) "law.<locals>._law_ask":=⟨E,oc,vt,tk,rfl,L.own _ _ o3,o4,o5⟩
  have D:A.depth<recursionLimit:=by have:=R.depth;omega
  refine ks_codeAny_call_defAt (fd:=Fb cc E doc pm r) (body:=Eh (Ei 6)) D N rfl L.gt.nolimit O rfl (.of_eq (w7 _ _ _ _ _ _)) H (λy hy=>?_) (λh₁ G m=>?_) n4 n5 Z
  ·rw[Sx]at hy;subst hy;exact Y
  have en:Entry c σ s (callEnv (Fb cc E doc pm r) s.heap.objs.size ask) (z' (Ei 6)).names MF [some (av a),some (.ref cs)] h₁:=by
   refine⟨rfl,Z,rfl,rfl,rfl,rfl,m,⟨_,G⟩,λx b q=>absurd rfl (H _ (cG q)),λx q=>?_,λx b q=>absurd rfl (H _ (cG q)),λt ht v hv=>?_,n8⟩
   ·cases U:(z' (Ei 6)).names.lookup x with
    |none=>rw[U]at q;cases q
    |some k=>
     rw[U]at q
     have hm:=cG U
     cases k<;>first|exact absurd rfl (H _ hm)|(have:=n7 _ hm rfl;exact⟨cc,by rw[show x=("case":Str)from this];rfl⟩)|cases q
   ·simp only[SH,Ta,or_false]at ht
    rcases ht with rfl|rfl
    ·cases hv;exact .loc Y _ _ G rfl rfl
    ·cases hv
     refine .cell (.inr n2) cc (.ref cs) rfl ⟨_,m _ _ C,J⟩ rfl ?_
     rw[Ep o2];rfl
  exact _root_.PySem.wpAt_of_wpAny (en.run (tk:=s.toks+1) (EZ tL).2 BS L R hw)
theorem wQ(I:6<=d){ask:Addr}(ok:FE F)(E:L.cells.length<=1000):Fi d L F base ask (Gd L.cs ask):=by
 intro σ A C q J j sa ks S G m H r w B D
 obtain⟨d,rfl⟩:∃e,d=e+1:=⟨d-1,by omega⟩
 refine yx (G.ext (e7 _ _)) ?_
 exact dq (cO rfl) (dc (ad rfl) (ad rfl)) (uk (by omega) S ok E m H r w B D)
theorem KQ{B:List Addr}(L:w' prog w c σ s)(fo:Hj c ks T)(aa:VS c ks T m σ s.heap)(U:∀b∈B,s.heap.get? b=none)(fr:∀b∈B,r b=none)(A:w' prog w c r N)(k:Kq c ks T σ s r N)(vs:VS c ks T m' r N.heap)(D:∀b o,b∉B->N.heap.get? b=some o->h'.get? b=some o)(ab:∀b∈B,∀u,¬N.heap.IsCell b u):
  w' prog w c r {N with heap:=h',toks:=tk}/\Kq c ks T σ s r {N with heap:=h',toks:=tk}/\VS c ks T m' r h':=by
 have nf:∀I∈B,∀b' o,r b'=some o->I∉foot b' o:=λI j b' o e G=>by
  cases o with
  |inst C dx fl=>
   simp[foot]at G
   rcases G with rfl|rfl
   ·rw[fr _ j]at e;cases e
   ·have:=A.parts _ _ _ _ e;rw[fr _ j]at this;cases this
  |_=>simp[foot]at G;subst G;rw[fr _ j]at e;cases e
 have nm:∀I∈B,¬Ey c ks T I:=λI j G=>by
  obtain⟨o,e⟩:=d7 L fo aa G
  rw[U _ j]at e;cases e
 have ff:∀I∈B,I∉D2 c:=λI j=>(cM L (U _ j)).2.1
 have fb:∀I∈B,c.base.get? I=none:=λI j=>(cM L (U _ j)).1
 have nL:c.D1.locals∉B:=λh=>nm _ h (fo.loc▸.inl rfl)
 refine⟨⟨A.ok,λb o e=>D b o (λq=>by rw[fb _ q]at e;cases e) (A.stays b o e),e9 A.frames λb E o e=>⟨o,D b o (λq=>ff _ q E) e,rfl⟩,?_,λa o e=>?_,A.parts,A.apart,A.off,A.gens,A.os⟩,⟨λb ob G e=>?_,k.fresh,k.GR⟩,⟨⟨vs.vr.loc,?_,λt ht v hv=>?_⟩,vs.free,λt ht h1 h2 b h3=>?_⟩⟩
 ·obtain⟨mc,h⟩:=A.ns
  exact⟨mc,df h λo e=>⟨o.slots,D _ o (λq=>ff _ q A.Gz) e⟩⟩
 ·refine(A.own a o e).congr λb E=>?_
  obtain⟨ob,Y⟩:=(A.own a o e).there b E
  exact(D b ob (λq=>nf b q a o e E) Y).trans Y.symm
 ·obtain⟨Q,Y,h'⟩:=k.keep b ob G e
  exact⟨Q,D b Q (λq=>by rw[U _ q]at e;cases e) Y,h'⟩
 ·obtain⟨mc,hn⟩:=vs.vr.ns
  exact⟨mc,df hn λo e=>⟨o.slots,D _ o nL e⟩⟩
 ·cases vs.vr.var t ht v hv with
  |loc H ac u2 ae J M=>exact .loc H ac u2 (df ae λo e=>⟨o.slots,D _ o nL e⟩) J M
  |cell H a2 u2 af J M ag=>
   obtain⟨O,Z,ed⟩:=J
   exact .cell H a2 u2 af ⟨O,D a2 O (λq=>ab _ q _ ⟨O,Z,ed⟩) Z,ed⟩ M ag
 ·obtain⟨u,O,Z,ed⟩:=vs.cell t ht h1 h2 b h3
  exact⟨u,O,D b O (λq=>nm _ q (.inr ⟨t,ht,h1,h2,h3⟩)) Z,ed⟩
def KR(d:Nat)(Xp:AH->Prop)(i j:Nat)(b:S)(Q:FP)(m:D7)(v:AV)(r:AH):Prop:=
 ∃l xs,v=.ref l/\r l=some (.list xs)/\∃I:Nat->D7->AH->Prop,I 0 m r/\∀k w q,I k w q->q l=some (.list xs)/\(k=xs.length->Q.nx w q)/\
  ∀y,xs[k]? =some y->LK d true Xp [.var i,.var j] [.int k,y] (λm σ=>ws d Xp b true ⟨λm σ=>I (k+1) m σ,Q.rt⟩ m σ) w q
theorem lc(k:Kq c ks T σ s j A)(r:σ I=none)(m:I∉D2 c)(B:¬Ey c ks T I)(e:s.heap.get? I=some o):A.heap.get? I=some o/\j I=none:=by
 refine⟨?_,?_⟩
 ·obtain⟨C,w,h'⟩:=k.keep I o (cj r) e
  obtain⟨E,rfl,D⟩:=h' B
  rw[D m]at w;exact w
 ·cases q:j I with
  |none=>rfl
  |some o'=>
   rcases k.GR I o' q with h|h
   ·exact absurd r h
   ·rw[e]at h;cases h
set_option tactic.hygienic true in
theorem wx(an:HI ks T [.var i,.var j] es=true)(hg:IW ks "enumerate"=true)(aO:(ck x).e ks T aq=true)(ax:(F2 b).l ks T body=true)(M:SB b)(he:D' w c A true d c.D1 ks)(fo:Hj c ks T)(vs:VS c ks T m σ s.heap)(L:w' prog w c σ s)(aP:(ev d true x Xp).e m (KR d Xp i j b Q m) σ):
  wpAny (model prog w) A (exec (.For (.Tuple es kk np) (.Call (.Name "enumerate" br) [aq] [] cp) body [] p) c.D1) (EI prog w c ks T σ s Q) (FC prog w c ks T Xp σ s) s:=by
 have ay:(ck (.cons x .nil)).l ks T [aq]=true:=by
  show((ck x).e ks T aq&&true)=true
  rw[aO];rfl
 have aQ:∀e G,EX prog w c Xp σ s e G->FC prog w c ks T Xp σ s e G:=λe G h=>⟨σ,s,L,.refl ..,h⟩
 refine wpAny_For (Sz (E:=EX prog w c Xp σ s) (Q:=λxv az=>wpAny (model prog w) A (pyIter xv) (λit C=>codeAny (model prog w) A (.forLoop (.Tuple es kk np) it body [] c.D1) (λr G=>match r with| .ok f=>EI prog w c ks T σ s Q f G| .error e=>cameBackBy (model prog w) A c.D1 (FC prog w c ks T Xp σ s) e G) C) (FC prog w c ks T Xp σ s) az)
  (wpAny_Call_Name_kw (f9 he L hg (by kernel_rfl) boot_enumerate (by decide) (d6 ay ((sound (.cons x .nil)).l.at (Q:=NV (KR d Xp i j b Q m)) ay he L (.refl ..) vs.vr L aP λus Y C Z k2 v2 hq=>⟨⟨.machine,.inr (.inl rfl),Looks.of_pure rfl⟩,?_⟩)))) (λB B z=>z) aQ) (λB=>rfl)
 refine wl ?_
 intro W9 Q9 E9
 obtain⟨u,rfl,hq⟩:=lP hq
 refine gl ?_
 intro bt
 obtain⟨l,xs,aR,aA,I,h0,hI⟩:=hq
 cases cv aR
 obtain⟨va,n,N,bc,hsz⟩:=Z.own _ _ aA
 refine call_enumerate_list (l:=l) (items:=va) ⟨_,N,rfl,n,rfl⟩ λh' aB al be am=>?_
 have aa:=vs.kept L fo k2
 obtain⟨L3,k3⟩:=ci (tk:=C.toks) Z am
 refine(?_:_->_) (aa.kept Z fo k3)
 intro aS
 have f0:C.heap.get? C.heap.objs.size=none:=bW _
 have f1:C.heap.get? (C.heap.objs.size+1)=none:=Tx (Us _)
 have ab:∀b∈[C.heap.objs.size+1,C.heap.objs.size],C.heap.get? b=none:=λb M=>by
  simp only[SH,Ta,or_false]at M
  rcases M with rfl|rfl<;>assumption
 have aC:∀b∈[C.heap.objs.size+1,C.heap.objs.size],l≠b:=λb M q=>by rw[q,ab b M]at N;cases N
 have ag:=(k2.kq (ks:=ks) (T:=T))
 have Wk:=λva=>WalksT.enumerate (prog:=prog) (w:=w) (he.calm rfl) (C.heap.objs.size+1) C.heap.objs.size l (Nat.succ_ne_self _) (aC _ (by simp)) (aC _ (by simp)) va
 refine(Wk va).self 0 _ _ _ ⟨⟨_,aB⟩,al,⟨_,am _ _ N,rfl,n,rfl⟩⟩ ?_
 refine wc ?_
 intro bu bv
 have ar:∀{D:AH},D (C.heap.objs.size+1)=none->D C.heap.objs.size=none->∀b∈[C.heap.objs.size+1,C.heap.objs.size],D b=none:=λh1 h2 b M=>by
  simp only[SH,Ta,or_false]at M
  rcases M with rfl|rfl<;>assumption
 refine wc ?_
 intro bw bx
 have O:∀{h:Heap} {k:Nat},(∃d0:Array Value,h.get? (C.heap.objs.size+1)=some {cls:=.type "enumerate",dict:=none,data:=.fields d0,slots:=#[]})->h.IsListIter C.heap.objs.size l k->∀b∈[C.heap.objs.size+1,C.heap.objs.size],∀u,¬h.IsCell b u:=λh1 h2 b M u hc=>by
  obtain⟨o,e,hd⟩:=hc
  simp only[SH,Ta,or_false]at M
  rcases M with rfl|rfl
  ·obtain⟨d0,h1⟩:=h1;rw[e]at h1;cases h1;cases hd
  ·obtain⟨o',e',_,h2⟩:=h2;rw[e]at e';cases e';rw[hd]at h2;cases h2
 refine wc ?_
 intro bz bA
 have ac:∀b∈[C.heap.objs.size+1,C.heap.objs.size],¬Ey c ks T b:=λb M hm=>by
  obtain⟨o,e⟩:=d7 Z fo aa hm
  rw[ab b M]at e;cases e
 refine codeAny_forLoop_any (λn G=>∃k m' D,n=xs.length+1-k/\k<=xs.length/\w' prog w c D G/\Kq c ks T Y C D G/\VS c ks T m' D G.heap/\I k m' D/\(∃ah,IsEnum G.heap (C.heap.objs.size+1) C.heap.objs.size k ah)/\G.heap.IsListIter C.heap.objs.size l k/\D (C.heap.objs.size+1)=none/\D C.heap.objs.size=none) ?_ (xs.length+1)
  ⟨0,m,Y,rfl,SI _,L3,k3.kq,aS,h0,⟨_,aB⟩,al,bV Z f1,bV Z f0⟩
 rintro n' G ⟨k,m',D,rfl,hk,L',k',v',aT,as,au,ai,aj⟩
 refine gl ?_
 intro bB
 obtain⟨aU,aD,aw⟩:=hI k m' D aT
 obtain⟨vb,nb,aE,aF,bC⟩:=L'.own _ _ aU
 have aV:vb.size=xs.length:=by rw[<-Tz,<-Su (f:=av),aF]
 have aG:=O (by obtain⟨ah,h⟩:=as;exact⟨_,h⟩) au
 by_cases aW:k<xs.length
 ·refine(Wk vb).item k G _ _ (by omega) ⟨as,au,⟨_,aE,rfl,nb,rfl⟩⟩ λTt bh h2 tk aX bD aY U H=>?_
  refine gl ?_
  intro bE
  obtain⟨tt,y,hy,rfl⟩:=aX
  obtain⟨L4,k4,v4⟩:=KQ (tk:=tk) Z fo aa ab (ar ai aj) L' k' v' H aG
  have ex:∀e J,FC prog w c ks T Xp D {G with heap:=h2,toks:=tk} e J->notedBy (model prog w) A c.D1 (λe G=>cameBackBy (model prog w) A c.D1 (FC prog w c ks T Xp σ s) e G) e J:=
   λe J hx=>IL he.stack (hx.trans (ag.trans k4))
  refine(Wk vb).go es kk np k Tt _ _ _ U λh3 aH ae=>?_
  refine wl ?_
  intro bF bG bH
  obtain⟨af,aJ,_⟩:=aH
  refine(?_:_->_) (O (by obtain⟨⟨y',ho⟩,_⟩:=U;exact⟨_,ho⟩) U.2.1)
  intro aK
  obtain⟨L5,k5,v5⟩:=KQ (tk:=tk) Z fo aa ab (ar ai aj) L4 k4 v4 ae aK
  have aL:h3.IsTuple Tt #[.int k tt,y]:=by
   obtain⟨o,e,hr⟩:=aY
   exact⟨o,ae _ _ ((Wk vb).apart k Tt h2 U) e,hr⟩
  refine wl ?_
  intro bI bJ bK
  have ex5:∀e J,FC prog w c ks T Xp D {G with heap:=h3,toks:=tk} e J->notedBy (model prog w) A c.D1 (λe G=>cameBackBy (model prog w) A c.D1 (FC prog w c ks T Xp σ s) e G) e J:=
   λe J hx=>IL he.stack (hx.trans (ag.trans k5))
  rw[arm_assign_Tuple]
  refine So (wpAny_standAt ?_)
  unfold unpack
  rw[iT (c:=c) _ _ an]
  have aZ:(es.map λe=>(false,assign e c.D1)).findIdx? (·.1)=none:=by
   rw[UJ];intro x hx;refine Ef hx λe B=>?_;rfl
  rw[aZ]
  refine(?_:es.length=2->_) (li _ es an)
  intro a0
  have aM:(es.map λe=>(false,assign e c.D1)).length=(#[.int k tt,y]:Array Value).size:=by rw[Su,a0];rfl
  rw[aM]
  refine So (SK (wpAny_unpackItems_tuple (he.calm rfl) aL λh4 a5=>?_))
  obtain⟨L6,k6⟩:=ci (tk:=tk) (h':=h4) L5 λb o e=>a5 b o (Tu (TQ e)) e
  rw[Td]
  have a6:xs[k]? =some (av y):=by rw[<-aF,SG,Ux,hy];rfl
  refine Sz (Mm (σ:=D) (s:={G with heap:=h3,toks:=tk}) [.var i,.var j] es [.int k tt,y] an he fo k6.kq (v5.kept L5 fo k6) L6 (aw _ a6)) (λB s7 h7=>?_) ex5
  refine gl ?_
  intro bi
  obtain⟨a7,m7,L7,k7,v7,a8⟩:=h7
  refine Sz (M ks T body prog w c A true d _ a7 s7 Xp _ ax he fo v7 L7 a8) (λf s8 h8=>?_) λe s8 hx=>ex5 _ _ (hx.trans k7)
  cases f with
  |next=>
   refine gl ?_
   intro bj
   obtain⟨a9,m8,L8,k8,v8,ba⟩:=h8
   have kk:=k7.trans k8
   obtain⟨ah,af⟩:=af
   obtain⟨e1,e2⟩:=lc kk ai (cM Z f1).2.1 (ac _ (by simp)) af
   obtain⟨oI,eI,bb⟩:=aJ
   obtain⟨e3,e4⟩:=lc kk aj (cM Z f0).2.1 (ac _ (by simp)) eI
   exact⟨xs.length+1-(k+1),by omega,k+1,m8,a9,rfl,aW,L8,k5.trans kk,v8,ba,⟨ah,e1⟩,⟨oI,e3,bb⟩,e2,e4⟩
  |ret v=>exact EI.trans (f:=.ret v) (ag.trans (k5.trans k7)) h8
  |_=>exact h8.elim
 ·refine wl ?_
  intro bL bM bN
  have aN:k=xs.length:=by omega
  refine(Wk vb).done G _ _ (by rw[aV,<-aN];exact⟨as,au,⟨_,aE,rfl,nb,rfl⟩⟩) λh2 tk H=>?_
  refine wl ?_
  intro bn bp bq
  obtain⟨L4,k4,v4⟩:=KQ (tk:=tk) Z fo aa ab (ar ai aj) L' k' v' H aG
  exact wpAny_execs_nil ⟨D,m',L4,ag.trans k4,v4,aD aN⟩
def xs(l:List X):X:=l.foldr .cons .nil
def MG(l:List Int):X:=xs (l.map λi=> .D6 (.int i))
def BT:S:=.set (.var 1) (.Gj 0 (xs [.ite (.cmp .Gt (.bf .len (xs [.var 0])) (.D6 (.int 0))) (.bf .list (xs [.slice (.var 0) (.D6 .none) (.D6 (.int 40))])) (.lst (MG [0,0,0,0,0,0,1,0,0,2,0,5,0])),.D6 (.int 0)]))
def CM:S:=.set (.var 2) (.Gj 1 (xs [.var 1,.lst .nil,.lst .nil]))
def Br:S:=.cons (.ex (.bm .Ed (.key (.var 2) 1 1) (.cons (.call (.glob 8) (.cons (.var 1) .nil)) .nil))) .nil
def yT:S:=.fo 3 (.bf .range (.cons (.bin .Add (.D6 (.int 3)) (.call (.glob 6) (.cons (.var 1) (.cons (.D6 (.int 3)) .nil)))) .nil)) Br
def DO:S:=.set (.var 4) (.lst .nil)
def Cd:S:=.cons (.ex (.bm .Ed (.var 4) (.cons (.bin .Add (.bf .tuple (.cons (.GU (.var 7)) .nil)) (.tup (.cons (.bin .Sub (.neg (.D6 (.int 4))) (.var 5)) .nil))) .nil))) .nil
def ym:S:=.cons (.fo 7 (.var 6) Cd) .nil
def Cf:S:=.set (.key (.var 2) 1 3) (.call (.glob 5) (xs [.var 4,.bin .Add (.D6 (.int 3)) (.bf .len (xs [.key (.var 2) 1 1]))]))
def Ch:S:=.set (.var 8) (.call (.glob 1) (xs [.var 9,.bf .len (xs [.key (.var 2) 1 1])]))
def CF:S:=.cons (.ite (.not (.call (.glob 12) (xs [.var 2,.var 8]))) (.cons (.ret (.D6 (.bool false))) .nil) .nil) .nil
def yF:S:=.fo 3 (.bf .range (.cons (.D6 (.int 3)) .nil)) CF
def DN:S:=.ret (.D6 (.bool true))
set_option tactic.hygienic true in
abbrev IT:Tab:=[(0,"script",true),(1,"tape",true),(2,"case",true),(3,"lap",true),(4,"clauses",true),(5,"k",true),(6,"formula",true),(7,"some",true)]
set_option tactic.hygienic true in
abbrev JT:Tab:=[(2,"case",false),(3,"lap",true),(8,"finder",true),(9,"_law_ask",true)]
abbrev E3:Ks:=(z' (top 20)).names
theorem vU:(F2 BT).s E3 IT (Ei 0)=true/\(F2 CM).s E3 IT (Ei 1)=true/\(F2 yT).s E3 IT (Ei 2)=true/\(F2 DO).s E3 IT (Ei 3)=true/\(F2 Cf).s E3 IT (Ei 5)=true/\(F2 Ch).s E3 JT (Ei 7)=true/\(F2 yF).s E3 JT (Ei 8)=true/\(F2 DN).s E3 JT (Ei 9)=true:=by
 refine⟨?_,?_,?_,?_,?_,?_,?_,?_⟩<;>decide+kernel
theorem xJ:∃es q r m j w body p,Ei 4=.For (.Tuple es q r) (.Call (.Name "enumerate" m) [j] [] w) body [] p/\HI E3 IT [.var 5,.var 6] es=true/\IW E3 "enumerate"=true/\(ck (.key (.var 2) 1 1)).e E3 IT j=true/\(F2 ym).l E3 IT body=true:=by
 refine⟨_,_,_,_,_,_,_,_,rfl,?_,?_,?_,?_⟩<;>decide+kernel
theorem yr:Eh (top 20)=[Ei 0,Ei 1,Ei 2,Ei 3,Ei 4,Ei 5,Ei 6,Ei 7,Ei 8,Ei 9]:=rfl
section
structure LS (F:List (List (List Int))) (Ls:List (List Int)):Prop where
 a:∀L∈Ls,∃(k:Nat) (f:List (List Int)) (c:List Int),F[k]? =some f/\c∈f/\∀y,y∈L↔y∈c++[-(4+k:Int)]
 b:∀(k:Nat) (f:List (List Int)),F[k]? =some f->∀c∈f,∃L∈Ls,∀y,y∈L↔y∈c++[-(4+k:Int)]
section
variable {Ls:List (List Int)}
theorem uT(h:∀y,y∈r↔y∈j)(hs:sat m r):sat m j:=by
 obtain⟨l,q,w⟩:=hs
 exact⟨l,(h l).mp q,w⟩
theorem up(S:Fj σ0 x (3+F.length) Ls Ls.length σ)(N:LS F Ls)(hn:Ls.length<=100):∃A C,A.a=x/\FA (3+F.length) Ls.length 0 (FN F) A σ C/\Ext σ0 σ/\(∀b,A.T b≠0->σ0 b=none):=by
 obtain⟨A,C,U,R,e,Y,w,q,I,O,B⟩:=S
 refine⟨A,C,U,⟨R.rep,R.inv,R.wk,?_,R.ref,?_⟩,e,Y⟩
 ·rw[B]
  refine⟨?_,R.HC,?_,?_,by omega,by omega⟩
  ·rw[R.tr,R.bg]
   refine⟨⟨.nil,(λm h=>(by cases h)),SR _,(λi e h=>by cases i<;>cases h),(λi e n h=>by cases i<;>cases h),(λi e h=>by cases i<;>cases h)⟩,.nil,(λm h=>(by cases h)),R.G3,λβ=>⟨λJ=>⟨λr G=>?_,λl Q=>?_⟩,λJ k f Z c hc=>?_⟩,λj b h=>by cases j<;>cases h⟩
   ·obtain⟨i,E⟩:=SQ.mp G
    have D:i<Ls.length:=by rw[<-w];exact bQ E
    obtain⟨L,H⟩:∃L,Ls[i]? =some L:=⟨_,SA D⟩
    obtain⟨k,f,c,h1,h2,M⟩:=N.a L (Sp H)
    exact uT (λy=>(M y).symm.trans (q i r L E H y).symm) (J k f h1 c h2)
   ·rw[List.take_nil]at Q;cases Q
   ·obtain⟨L,H,M⟩:=N.b k f Z c hc
    obtain⟨i,E⟩:=SQ.mp H
    have D:i<C.rows.length:=by rw[w];exact bQ E
    obtain⟨r,G⟩:∃r,C.rows[i]? =some r:=⟨_,SA D⟩
    exact uT (λy=>(q i r L G E y).trans (M y)) (J.1 r (Sp G))
  ·rw[R.tr]
   intro n r x y _ _ p e hp
   cases p<;>cases hp
  ·unfold News
   rw[List.drop_eq_nil_of_le (by omega)];exact .nil
 ·rw[I]
  unfold FF
  rw[w]
  show 0+_<=0+(_+_)
  omega
end
end
theorem Cg{xs:List AV}(g:E1 d σ m a (.ref b))(h:σ b=some (.obj o))(j:Hk o xs):E1 d σ m (.bf .len (.cons a .nil)) (.int xs.length):=λXp Q p=>⟨rfl,g Xp _ (vQ (.inr (.inr ⟨o,h,j⟩)) p)⟩
theorem yd{xs ys:List AV}{lo j:X}(g:E1 d σ m a (.ref b))(gl:E1 d σ m lo l)(r:E1 d σ m j h)(e:σ b=some (.obj o))(w:Hk o xs)(A:JA xs l h ys)(q:∀z,σ z=none->Q (.ref z) (upd σ z (.list ys))):(ev d true (.slice a lo j) Xp).e m Q σ:=
 g Xp _ (gl Xp _ (r Xp _ (A (.inr ⟨o,e,w⟩) q)))
theorem Bg{xs:List AV}(h:σ b=some (.list xs))(q:∀z,σ z=none->Q (.ref z) (upd σ z (.list xs))):Ik .list [.ref b] Q σ:=mP (.inl h) q
theorem uv:∀l:List Int,L1 d σ m (MG l) (g' l)
 |[]=>cm
 |i::l=>fT u' (uv l)
theorem r7(h:(ev d true as Xp).l m (λvs σ=>∀z,σ z=none->Q (.ref z) (upd σ z (.D4 j vs))) σ):(ev d true (.Gj j as) Xp).e m Q σ:=h
theorem Py(hs:σ M=some (.obj o))(H:Hk o (g' vs))(g:Em m 0=some (.ref M))(k:∀(D B:Addr) (j:List Int) (C:AH),σ D=none->σ B=none->j.length<=40->Ext σ C->Fw C D B j 0->P.nx (m.set 1 (some (.ref D))) C):ws d Xp BT true P m σ:=by
 have fin:∀(B:Addr) (j:List Int) (w:AH),σ B=none->j.length<=40->Ext σ w->w B=some (.list (g' j))->(ev d true (xs [.D6 (.int 0)]) Xp).l m (λvs σ2=>∀z,σ2 z=none->wt d true Xp (.var 1) (.ref z) P.nx m (upd σ2 z (.D4 0 (.ref B::vs)))) w:=λB j w E N e G=>by
  refine ds u' (b7 λz hz=>?_)
  refine c0 (k z B j _ ?_ E N (e.trans (.new hz)) ⟨bO _ _ _,Ext.new hz _ _ G,by omega,by decide⟩)
  cases q:σ z with
  |none=>rfl
  |some o=>rw[e _ _ q]at hz;cases hz
 refine(show(ev d true (.Gj 0 (xs [.ite (.cmp .Gt (.bf .len (xs [.var 0])) (.D6 (.int 0))) (.bf .list (xs [.slice (.var 0) (.D6 .none) (.D6 (.int 40))])) (.lst (MG [0,0,0,0,0,0,1,0,0,2,0,5,0])),.D6 (.int 0)])) Xp).e m (λv σ=>wt d true Xp (.var 1) v P.nx m σ) σ from r7 (ch (fK (r:=decide (((g' vs).length:Int)>0)) (bR (Cg (ad g) hs H) u' fE) ?_)))
 by_cases I:((g' vs).length:Int)>0
 ·rw[if_pos (by rw[decide_eq_true I])]
  refine⟨rfl,ch (yd (ad g) u' u' hs H (lM (n:=40)) λz hz=>b7 (Bg (bO _ _ _) λJ A=>?_))⟩
  have he:(g' vs).take 40=g' (vs.take 40):=by unfold g';rw[List.map_take]
  rw[he]at A⊢
  refine fin J (vs.take 40) _ ?_ (by rw[Tf];omega) ((Ext.new hz).trans (.new A)) (bO _ _ _)
  cases q:σ J with
  |none=>rfl
  |some o=>rw[Ext.new hz _ _ q]at A;cases A
 ·rw[if_neg (by rw[decide_eq_false I];decide)]
  exact cR (uv _) (by decide) λz hz=>fin z _ _ hz (by decide) (.new hz) (bO _ _ _)
theorem Pz(g:Em m 1=some (.ref G))(k:∀(cs A ak:Addr) (r:AH),Ext σ r->σ cs=none->σ A=none->σ ak=none->cs≠A->cs≠ak->A≠ak->r cs=some (.D4 1 [.ref G,.ref A,.ref ak])->r A=some (.list [])->r ak=some (.list [])->P.nx (m.set 2 (some (.ref cs))) r):ws d Xp CM true P m σ:=by
 refine(show(ev d true (.Gj 1 (xs [.var 1,.lst .nil,.lst .nil])) Xp).e m (λv σ=>wt d true Xp (.var 2) v P.nx m σ) σ from r7 (ds (ad g) (ch (cR cm (SI _) λA B=>ch (cR cm (SI _) λak w=>b7 λcs j=>c0 ?_)))))
 have C:A≠ak:=λq=>by rw[<-q,bO]at w;cases w
 have D:cs≠ak:=λq=>by rw[q,bO]at j;cases j
 have E:cs≠A:=λq=>by rw[q,bP C,bO]at j;cases j
 rw[bP (Ne.symm C)]at w
 rw[bP D,bP E]at j
 refine k cs A ak _ (((Ext.new B).trans (.new (by rw[bP (Ne.symm C)];exact w))).trans (.new (by rw[bP D,bP E];exact j))) j B w E D C (bO _ _ _) ?_ ?_
 ·rw[bP (Ne.symm E),bP C,bO]
 ·rw[bP (Ne.symm D),bO]
section
section
variable {X:List Addr}
structure Ly (X:List Addr) (σ:AH) (fm:Addr) (fr:List Addr) (F:List (List (List Int))):Prop where
 at_:σ fm=some (.list (fr.map .ref))
 len:fr.length=F.length
 f:∀(i:Nat) (a:Addr) (f:List (List Int)),fr[i]? =some a->F[i]? =some f->a∉X/\∃cr:List Addr,(∀b∈cr,b∉X)/\σ a=some (.list (cr.map .ref))/\cr.length=f.length/\∀(j:Nat) (b:Addr) (c:List Int),cr[j]? =some b->f[j]? =some c->σ b=some (.list (g' c))
theorem Ly.add(S:Ly X σ I B F){r:List Addr}{f:List (List Int)}(C:m I=some (.list ((B++[a]).map .ref)))(k:∀b o,b∉X->σ b=some o->m b=some o)(N:a∉X)(D:∀b∈r,b∉X)(E:m a=some (.list (r.map .ref)))(G:r.length=f.length)(H:∀(j:Nat) (b:Addr) (c:List Int),r[j]? =some b->f[j]? =some c->m b=some (.list (g' c))):Ly X m I (B++[a]) (F++[f]):=by
 refine⟨C,by rw[Sw,Sw,S.len];rfl,λi b g q w=>?_⟩
 rcases Ul i B.length with A|A
 ·rw[SV A]at q
  rw[SV (by rw[<-S.len];exact A)]at w
  obtain⟨J,r,M,E,G,H⟩:=S.f i b g q w
  exact⟨J,r,M,k _ _ J E,G,λj b c q O=>k _ _ (M b (Sp q)) (H j b c q O)⟩
 ·rw[SZ A]at q
  rw[SZ (by rw[<-S.len];exact A),<-S.len]at w
  generalize i-B.length=n at q w
  cases n with
  |zero=>cases q;cases w;exact⟨N,r,D,E,G,H⟩
  |succ n=>cases q
structure Ih (tp cl cs fm ak:Addr) (cells:List Int) (σ:AH) (fr:List Addr) (F:List (List (List Int))) (sp:Nat):Prop where
 t:Fw σ tp cl cells sp
 Iz:σ cs=some (.D4 1 [.ref tp,.ref fm,.ref ak])
 LU:σ ak=some (.list [])
 IZ:Ly [tp,cs,fm,ak] σ fm fr F
 ok:∀f∈F,MD f
 n1:fm≠cs/\fm≠ak/\fm≠tp
 n2:cl∉[tp,cs,fm,ak]/\cs≠ak/\ak≠tp/\cs≠tp
def MH(v:Option AV)(A:D7)(q B cs C ak:Addr)(j:List Int)(z:Addr)(w:Nat)(k:Nat)(m:D7)(σ:AH):Prop:=
 ∃D E F r,m=v::some (.ref q)::some (.ref cs)::D::A/\Ih q B cs C ak j σ E F r/\F.length=k/\r<=1+7*k/\σ z=some (.EG 0 (w:Nat))/\k<=w
theorem uD(hd:3<=d){us:D7}{z:Addr}(hw:w<=5)(hk:k<w)(I:MH v us D cl cs B ak C z w k m σ):
  ws d d' Br true ⟨λm σ=>MH v us D cl cs B ak C z w (k+1) m σ,P⟩ (m.set 3 (some (.int k))) σ:=by
 refine cL ?_
 intro RR YY
 obtain⟨u3,O,F,sp,rfl,S,hl,aa,hz,ab⟩:=I
 have A:=S.IZ.at_
 refine cN (fG (d2 (ad rfl) S.Iz rfl) (ec A) (ch (dq (cO rfl) (cJ (ad rfl)) ((pS hd S.t (by omega)).mono (λv σ2 hv=>?_) λσ h=>h.elim))))
 obtain⟨a,cr,f,Q,rfl,N,l1,l2,e,E,U⟩:=hv
 have G:=e _ _ S.n1.2.2 A
 have H:∀b∈[D,cs,B,ak],σ b≠none:=λb r=>by
  simp only[SH,Ta,or_false]at r
  rcases r with rfl|rfl|rfl|rfl
  ·rw[S.t.tp];simp
  ·rw[S.Iz];simp
  ·rw[A];simp
  ·rw[S.LU];simp
 have J:a∉[D,cs,B,ak]:=λh=>H a h E.new
 have M:∀b∈cr,b∉[D,cs,B,ak]:=λb r h=>H b h (E.Px b r).1
 have Y:a≠B:=λq=>J (by rw[q];simp)
 refine b7 (ej (ys:=(O++[a]).map .ref) G (by rw[SX];rfl) (by rw[Su,S.IZ.len];show _<1048576;omega) ⟨trivial,?_⟩)
 have nz:z≠B:=λq=>by rw[q,A]at hz;cases hz
 have Z:z≠D:=λq=>by rw[q,S.t.tp]at hz;cases hz
 have kk:∀b o,b∉[D,cs,B,ak]->σ b=some o->upd σ2 B (.list ((O++[a]).map .ref)) b=some o:=λb o r h=>by
  simp only[SH,Ta,or_false,not_or]at r
  exact(bP r.2.2.1).trans (e b o r.1 h)
 refine⟨_,O++[a],F++[f],Q,rfl,⟨⟨(bP (Ne.symm S.n1.2.2)).trans N.tp,(bP λq=>S.n2.1 (by rw[q];simp)).trans N.cl,N.len,N.sp⟩,(bP (Ne.symm S.n1.1)).trans (e _ _ S.n2.2.2.2 S.Iz),(bP (Ne.symm S.n1.2.1)).trans (e _ _ S.n2.2.2.1 S.LU),S.IZ.add (bO _ _ _) kk J M ((bP Y).trans E.at_) E.len (λj b c r hc=>(bP λq=>M b (Sp r) (by rw[q];simp)).trans (E.cls j b c r hc)),λg hg=>?_,S.n1,S.n2⟩,by rw[Sw,hl];rfl,by omega,(bP nz).trans (e _ _ Z hz),hk⟩
 refine cx hg (λh=>?_) λh=>?_
 ·exact S.ok g h
 ·rw[Sx]at h;subst h;exact U
theorem PA(hd:3<=d)(S:Ih B D cs Q ak r σ [] [] 0)(k:∀C J F E G,Ih B D cs Q ak r G J F E->3<=F.length->F.length<=5->E<=50->P.nx (v::some (.ref B)::some (.ref cs)::C::U) G):
  ws d d' yT true P (v::some (.ref B)::some (.ref cs)::C::U) σ:=by
 refine(show ws d d' (.cons yT .nil) true P _ σ from pf (a:=3) (w:=3) (by omega) (ad rfl) S.t (by decide) (by decide) λj z hj hz=>?_)
 have t1:=S.t.draw (by decide)
 have A:∀b o,b≠B->σ b=some o->upd (upd σ B (.D4 0 [.ref D,.int ((0+1:Nat):Int)])) z (.EG 0 ((3+j:Nat):Int)) b=some o:=λb o hb h=>Ext.new hz _ _ ((bP hb).trans h)
 have Y:=t1.ext (Ext.new (o:=.EG 0 ((3+j:Nat):Int)) hz)
 have H:=bO (upd σ B (.D4 0 [.ref D,.int ((0+1:Nat):Int)])) z (.EG 0 ((3+j:Nat):Int))
 generalize upd (upd σ B (.D4 0 [.ref D,.int ((0+1:Nat):Int)])) z (.EG 0 ((3+j:Nat):Int))=σ2 at Y A H⊢
 refine⟨MH v U B D cs Q ak r z (3+j),⟨C,[],[],1,rfl,⟨Y,A _ _ S.n2.2.2.2 S.Iz,A _ _ S.n2.2.2.1 S.LU,⟨A _ _ S.n1.2.2 S.IZ.at_,rfl,λi a f h=>(by cases h)⟩,(λq h=>(by cases h)),S.n1,S.n2⟩,rfl,SR _,H,SI _⟩,λi m M I=>⟨?_,λZ=>?_,λZ=>uD hd (by omega) Z I⟩⟩
 ·obtain⟨C,J,F,E,rfl,S,hl,N,hz,O⟩:=I;exact hz
 ·obtain⟨C,J,F,E,rfl,S,hl,N,hz,O⟩:=I
  exact k C J F E M S (by omega) (by omega) (by omega)
end
end
section
section
variable {d N:Nat}
structure JE (G:Nat->List Int->Prop) (N:Nat) (Ls:List (List Int)):Prop where
 a:∀L∈Ls,∃(k:Nat) (c:List Int),G k c/\∀y,y∈L↔y∈c++[-(4+k:Int)]
 b:∀(k:Nat) (c:List Int),G k c->∃L∈Ls,∀y,y∈L↔y∈c++[-(4+k:Int)]
 ok:∀L∈Ls,EB N L
theorem JE.imp(S:JE G N j)(h:∀k c,G k c↔m k c):JE m N j:=
 ⟨λL q=>(by obtain⟨k,c,r,w⟩:=S.a L q;exact⟨k,c,(h k c).mp r,w⟩),λk c A=>S.b k c ((h k c).mpr A),S.ok⟩
theorem JE.add(S:JE G N B){k:Nat}(A:∀y,y∈L↔y∈c++[-(4+k:Int)])(ok:EB N L):JE (λm q=>G m q\/(m=k/\q=c)) N (B++[L]):=by
 refine⟨λj h=>?_,λm q h=>?_,λj h=>?_⟩
 ·refine cx h (λh=>?_) λh=>?_
  ·obtain⟨k,c,r,w⟩:=S.a j h;exact⟨k,c,.inl r,w⟩
  ·rw[Sx]at h;subst h;exact⟨k,c,.inr ⟨rfl,rfl⟩,A⟩
 ·rcases h with h|⟨rfl,rfl⟩
  ·obtain⟨j,r,w⟩:=S.b m q h;exact⟨j,SN _ r,w⟩
  ·exact⟨L,T7 _ (TL _),A⟩
 ·refine cx h (λh=>?_) λh=>?_
  ·exact S.ok j h
  ·rw[Sx]at h;subst h;exact ok
theorem wR(r:IQ c)(D:1<=c.length)(p:q.Perm c)(B:k+1+3<=N):EB N (q++[-4-(k:Int)]):=by
 have j:∀l∈q,1<=l.natAbs/\l.natAbs<=3:=λl m=>r.lit l (p.mem_iff.mp m)
 have cs:∀{x:Int},x∈q++[-4-(k:Int)]->x∈q\/x= -4-(k:Int):=λh=>(Tv.mp h).imp id Sx.mp
 refine⟨by rw[Sw,p.length_eq];show 2<=_+1;omega,Tn.mpr ⟨p.nodup_iff.mpr r.nd,by simp,λa C b w=>?_⟩,λl m=>?_,λl m A=>?_⟩
 ·rw[Sx]at w;rintro rfl
  have:=j a C;subst w;exact OM this.2
 ·rcases cs m with h|rfl
  ·have:=j l h;omega
  ·exact Qn B
 ·rcases cs m with h|rfl
  ·rcases cs A with h'|h'
   ·exact r.neg l (p.mem_iff.mp h) (p.mem_iff.mp h')
   ·have:=j l h;exact OM (by rw[<-h',S9];exact this.2)
  ·rcases cs A with h'|h'
   ·have:=j _ h';exact OM (S9 _▸this.2)
   ·omega
structure GP (σ0 σ:AH) (kl:Addr) (cr:List Addr) (Ls:List (List Int)):Prop where
 at_:σ kl=some (.list (cr.map .ref))
 len:cr.length=Ls.length
 c:∀(j:Nat) (b:Addr) (L:List Int),cr[j]? =some b->Ls[j]? =some L->b≠kl/\σ b=some (.tup (g' L))
 keep:∀b o,b≠kl->σ0 b=some o->σ b=some o
theorem GP.ext(S:GP σ0 σ kl q r)(e:Ext σ m):GP σ0 m kl q r:=⟨e _ _ S.at_,S.len,λj b L w A=>(by obtain⟨h,g⟩:=S.c j b L w A;exact⟨h,e _ _ g⟩),λb o B h=>e _ _ (S.keep b o B h)⟩
theorem GP.add(S:GP σ0 σ kl w C)(hz:z≠kl)(h:σ z=some (.tup (g' L))):GP σ0 (upd σ kl (.list ((w++[z]).map .ref))) kl (w++[z]) (C++[L]):=by
 refine⟨bO _ _ _,by rw[Sw,Sw,S.len];rfl,λj b D m q=>?_,λb o A h=>(bP A).trans (S.keep b o A h)⟩
 rcases Ul j w.length with r|r
 ·rw[SV r]at m
  rw[SV (by rw[<-S.len];exact r)]at q
  obtain⟨B,E⟩:=S.c j b D m q
  exact⟨B,(bP B).trans E⟩
 ·rw[SZ r]at m
  rw[SZ (by rw[<-S.len];exact r),<-S.len]at q
  generalize j-w.length=n at m q
  cases n with
  |zero=>cases m;cases q;exact⟨hz,(bP hz).trans h⟩
  |succ n=>cases m
theorem wz{k:Nat}{b:Addr}(g4:Em m 4=some (.ref kl))(g5:Em m 5=some (.int k))(g7:Em m 7=some (.ref b))(S:GP σ0 σ kl cr J)(C:JE G N J)(hb:σ b=some (.list (g' c)))(hc:IQ c/\1<=c.length/\c.length<=2)(hk:k+1+3<=N)(hl:J.length<=100)(kk:∀z A L,GP σ0 A kl (cr++[z]) (J++[L])->JE (λk' r=>G k' r\/(k'=k/\r=c)) N (J++[L])->P.nx m A):ws d d' Cd true P m σ:=by
 refine cN (fG (ad g4) (ec S.at_) (ch (pt ⟨rfl,ch (show(ev d true (.GU (.var 7)) d').e m _ σ from⟨rfl,(ad g7) _ _ (bU (cT (.inl hb)) ⟨⟨λx hx=>?_,by rw[bX];omega⟩,λys hp hs M O=>b7 (fP (bO _ _ _) λQ U=>?_)⟩)⟩)⟩)))
 ·refine Ef hx λy j=>?_;trivial
 obtain⟨r,rfl,w⟩:=gj hp
 have x1:Ext σ (upd (upd σ M (.list (g' r))) Q (.tup (g' r))):=(Ext.new O).trans (.new U)
 have h2:=bO (upd σ M (.list (g' r))) Q (.tup (g' r))
 generalize upd (upd σ M (.list (g' r))) Q (.tup (g' r))=B at x1 h2⊢
 refine gv (vs:=g' [-4-(k:Int)]) (cJ (ee (eP u') (ad g5))) (show 1<=1048576 by decide) λz3 D=>?_
 have Y:=x1.trans (Ext.new (o:=.tup (g' [-4-(k:Int)])) D)
 have E:=Ext.new (o:=.tup (g' [-4-(k:Int)])) D _ _ h2
 have h3:=bO B z3 (.tup (g' [-4-(k:Int)]))
 generalize upd B z3 (.tup (g' [-4-(k:Int)]))=σ2 at Y E h3⊢
 have H:r.length=c.length:=w.length_eq
 refine CH E h3 (λq=>?_) (λq=>by cases q) (by rw[bX,H];show _+1<=1048576;omega) λz hz=>?_
 ·have:=bX r;rw[q]at this;simp at this;omega
 have he:g' r++g' [-4-(k:Int)]=g' (r++[-4-(k:Int)]):=by unfold g';rw[SX]
 rw[he]at*
 have x3:=Y.trans (Ext.new (o:=.tup (g' (r++[-4-(k:Int)]))) hz)
 have Z:=S.ext x3
 have I:=bO σ2 z (.tup (g' (r++[-4-(k:Int)])))
 have aa:z≠kl:=λq=>by rw[q]at hz;rw[Y _ _ S.at_]at hz;cases hz
 generalize upd σ2 z (.tup (g' (r++[-4-(k:Int)])))=ab at Z I⊢
 refine b7 (ej (ys:=(cr++[z]).map .ref) Z.at_ (by rw[SX];rfl) (by rw[Su,S.len];show _<1048576;omega) ⟨trivial,kk z _ _ (Z.add aa I) (C.add (λy=>?_) (wR hc.1 hc.2.1 w hk))⟩)
 rw[Tv,Tv,w.mem_iff,show(-4-(k:Int))= -(4+k) by omega]
end
end
section
section
variable {us:D7}
def Gk(F:List (List (List Int)))(k:Nat)(j:Nat)(c:List Int):Prop:=j<k/\∃f,F[j]? =some f/\c∈f
def Rn(v q:Option AV)(us:D7)(r cs kl:Addr)(F:List (List (List Int)))(σ0:AH)(k:Nat)(m:D7)(σ:AH):Prop:=
 ∃u5 w A B j,m=v::some (.ref r)::some (.ref cs)::q::some (.ref kl)::u5::w::A::us/\GP σ0 σ kl B j/\JE (Gk F k) (3+F.length) j/\j.length<=2*k/\k<=F.length
def Ro(v w:Option AV)(us:D7)(A cs kl a:Addr)(F:List (List (List Int)))(f:List (List Int))(σ0:AH)(k:Nat)(j:Nat)(m:D7)(σ:AH):Prop:=
 ∃B C q,m=v::some (.ref A)::some (.ref cs)::w::some (.ref kl)::some (.int k)::some (.ref a)::B::us/\GP σ0 σ kl C q/\JE (λr c=>Gk F k r c\/(r=k/\c∈f.take j)) (3+F.length) q/\q.length<=2*k+j/\j<=f.length
theorem PB(S:Ih tp cl cs fm ak af σ0 fr F sp)(B:σ0 kl=none)(hF:F.length<=5)(hm:∀u5 U G cr O J,GP σ0 J kl cr O->JE (Gk F F.length) (3+F.length) O->O.length<=10->Q.nx (v::some (.ref tp)::some (.ref cs)::u3::some (.ref kl)::u5::U::G::us) J):
  KR d d' 5 6 ym Q (v::some (.ref tp)::some (.ref cs)::u3::some (.ref kl)::u5::U::G::us) (.ref fm) (upd σ0 kl (.list [])):=by
 have Y:∀{b:Addr} {o:AO},σ0 b=some o->b≠kl:=λh q=>by rw[q,B]at h;cases h
 refine⟨fm,fr.map .ref,rfl,(bP (Y S.IZ.at_)).trans S.IZ.at_,Rn v u3 us tp cs kl F σ0,⟨u5,U,G,[],[],rfl,⟨bO _ _ _,rfl,(λj b L h=>(by cases h)),λb o hb h=>(bP hb).trans h⟩,⟨(λm h=>(by cases h)),(λk' c h=>absurd h.1 (UC _)),(λm h=>(by cases h))⟩,SI _,SI _⟩,?_⟩
 rintro k m1 Z ⟨u5,U,G,cr,O,rfl,H,C,hl,hk⟩
 refine⟨H.keep _ _ (Y S.IZ.at_) S.IZ.at_,λB=>?_,λy A=>?_⟩
 ·rw[Su,S.IZ.len]at B
  subst B
  exact hm u5 U G cr O Z H C (by omega)
 ·obtain⟨a,ha,rfl⟩:∃a,fr[k]? =some a/\y=.ref a:=by
   rw[SG]at A
   cases q:fr[k]? with
   |none=>rw[q]at A;cases A
   |some a=>rw[q]at A;cases A;exact⟨a,rfl,rfl⟩
  refine wm ?_
  intro aj al am
  have aa:k<F.length:=by rw[<-S.IZ.len];exact bQ ha
  obtain⟨f,hf⟩:∃f,F[k]? =some f:=⟨_,SA aa⟩
  obtain⟨_,cf,_,D,h4,h5⟩:=S.IZ.f k a f ha hf
  have M:=S.ok f (Sp hf)
  have ab:Z a=some (.list (cf.map .ref)):=H.keep _ _ (Y D) D
  refine eG ((ad rfl) _ _ (bU (w:=cf.map .ref) (cT (.inl ab)) ⟨Ro v u3 us tp cs kl a F f σ0 k,⟨G,cr,O,rfl,H,C.imp λk' c=>⟨.inl,λh=>h.elim id λh=>by rw[Ua]at h;exact absurd h.2 (λh=>(by cases h))⟩,by omega,SI _⟩,?_⟩))
  rintro j m2 σ2 ⟨G,ag,ah,rfl,H2,C2,an,hj⟩
  have ai:σ2 a=some (.list (cf.map .ref)):=H2.keep _ _ (Y D) D
  refine⟨ai.trans ab.symm,λE=>?_,λy A=>?_⟩
  ·rw[Su,h4]at E
   replace E:=E
   refine⟨_,_,G,ag,ah,rfl,H2,C2.imp λk' c=>?_,by have:=M.2.1;omega,aa⟩
   rw[E,SW]
   constructor
   ·rintro(⟨I,g,r,D⟩|⟨rfl,h⟩)
    ·exact⟨by omega,g,r,D⟩
    ·exact⟨Um _,f,hf,h⟩
   ·rintro⟨I,g,r,D⟩
    by_cases q:k'=k
    ·subst q;rw[hf]at r;cases r;exact .inr ⟨rfl,D⟩
    ·exact .inl ⟨by omega,g,r,D⟩
  ·obtain⟨b,hb,rfl⟩:∃b,cf[j]? =some b/\y=.ref b:=by
    rw[SG]at A
    cases q:cf[j]? with
    |none=>rw[q]at A;cases A
    |some b=>rw[q]at A;cases A;exact⟨b,rfl,rfl⟩
   refine wm ?_
   intro aq ar as
   have ac:j<f.length:=by rw[<-h4];exact bQ hb
   obtain⟨c,hc⟩:∃c,f[j]? =some c:=⟨_,SA ac⟩
   have ae:=h5 j b c hb hc
   refine wz (kl:=kl) (σ0:=σ0) (N:=3+F.length) (k:=k) (c:=c) rfl rfl rfl H2 C2 (H2.keep _ _ (Y ae) ae) (M.2.2 c (Sp hc)) (by omega) (by have:=M.2.1;omega) λz J L H3 C3=>?_
   refine⟨_,_,_,rfl,H3,C3.imp λk' c'=>?_,by rw[Sw];show _+1<=_;omega,ac⟩
   rw[lu hc,Tv,Sx]
   constructor
   ·rintro((h|⟨I,r⟩)|⟨I,r⟩)
    ·exact .inl h
    ·exact .inr ⟨I,.inl r⟩
    ·exact .inr ⟨I,.inr r⟩
   ·rintro(h|⟨I,r|r⟩)
    ·exact .inl (.inl h)
    ·exact .inl (.inr ⟨I,r⟩)
    ·exact .inr ⟨I,r⟩
end
end
section
section
variable {us:D7}
theorem BO(h:∀f∈F,MD f)(q:F.length<=5):FE F:=
 ⟨by omega,λf j=>by have:=(h f j).2.1;omega,λf j c m=>by have:=((h f j).2.2 c m).2.2;omega,λf j c m=>((h f j).2.2 c m).1.lit⟩
theorem Bu(C:JE (Gk F F.length) (3+F.length) m):LS F m:=
 ⟨λL q=>by obtain⟨k,c,⟨_,f,r,w⟩,A⟩:=C.a L q;exact⟨k,f,c,r,w,A⟩,λk f j c B=>C.b k c ⟨bQ j,f,j,B⟩⟩
theorem PC(hd:4<=d)(S:Ih D cl cs I ak w σ0 fr F sp)(aa:σ0 kl=none)(hF:F.length<=5)(H:GP σ0 σ kl cr Ls)(C:JE (Gk F F.length) (3+F.length) Ls)(hl:Ls.length<=10)(Y:Em m 2=some (.ref cs))(g4:Em m 4=some (.ref kl))(k:∀A C J,Eu ⟨D,cl,cs,I,ak,w,[]⟩ F Ls.length 0 J A C sp []->Q.nx m J):ws d d' Cf true Q m σ:=by
 have nk:∀{b:Addr} {o:AO},σ0 b=some o->b≠kl:=λh q=>by rw[q,aa]at h;cases h
 have K:∀{b:Addr} {o:AO},σ0 b=some o->σ b=some o:=λh=>H.keep _ _ (nk h) h
 have M:E1 d σ m (.bin .Add (.D6 (.int 3)) (.bf .len (xs [.key (.var 2) 1 1]))) (.int ((3+F.length:Nat):Int)):=dK (dE u' (cH (d2 (ad Y) (K S.Iz) rfl) (.inl (K S.IZ.at_)) (k:=F.length) (by rw[Su,S.IZ.len]))) (by omega)
 refine(show(ev d true (.call (.glob 5) (xs [.var 4,.bin .Add (.D6 (.int 3)) (.bf .len (xs [.key (.var 2) 1 1]))])) d').e m (λv σ=>wt d true d' (.key (.var 2) 1 3) v Q.nx m σ) σ from ?_)
 refine dq (cO rfl) (dc (ad g4) M) ((rd hd (by omega) H.at_ H.len (λj b L G N=>(H.c j b L G N).2) C.ok (by omega)).mono (λv E hv=>?_) λσ h=>h.elim)
 obtain⟨x,rfl,hS⟩:=hv
 obtain⟨A,Cn,ha,R,e,hT⟩:=up hS (Bu C) (by omega)
 subst ha
 have K1:∀{b:Addr} {o:AO},σ0 b=some o->E b=some o:=λh=>e _ _ (K h)
 have O:∀{b:Addr} {o:AO},σ0 b=some o->A.T b=0:=λ{b o} h=>by
  cases q:A.T b with
  |zero=>rfl
  |succ n=>have:=hT b (by rw[q];exact Ub n);rw[K h]at this;cases this
 refine yU (ad Y) (K1 S.Iz) (show 3<=3 by decide) (k A Cn _ ?_)
 have U:∀{b:Addr} {o:AO},b≠cs->σ0 b=some o->upd E cs (.D4 1 [.ref D,.ref I,.ref ak,.ref A.a]) b=some o:=λB h=>(bP B).trans (K1 h)
 have Z:∀{b:Addr} {o:AO},b∉[D,cs,ak]->σ0 b=some o->plain o=true->res (LA.T ⟨D,cl,cs,I,ak,w,[]⟩ A) (upd E cs (.D4 1 [.ref D,.ref I,.ref ak,.ref A.a])) b=some o:=λ{b o} B h hp=>by
  refine cg (bT.mpr ⟨B,O h⟩) (U (λq=>B (by rw[q];simp)) h) hp
 have hX:∀{b:Addr},b∉[D,cs,I,ak]->b∉[D,cs,ak]:=λh q=>h (by
  simp only[SH,Ta,or_false]at q⊢
  rcases q with q|q|q
  ·exact .inl q
  ·exact .inr (.inl q)
  ·exact .inr (.inr (.inr q)))
 refine⟨R.off (O S.Iz),U (Ne.symm S.n2.2.2.2) S.t.tp,Z (hX S.n2.1) S.t.cl rfl,bO _ _ _,⟨fr,Z (λq=>?_) S.IZ.at_ rfl,S.IZ.len,λi a f G N=>?_⟩,⟨[],U (Ne.symm S.n2.2.1) S.LU,.nil⟩,λb B=>?_,(λr h=>(by cases h)),(λr h=>(by cases h))⟩
 ·simp only[SH,Ta,or_false]at q
  rcases q with q|q|q
  ·exact S.n1.2.2 q
  ·exact S.n1.1 q
  ·exact S.n1.2.1 q
 ·obtain⟨g1,cf,Y,g3,g4,g5⟩:=S.IZ.f i a f G N
  exact⟨cf,Z (hX g1) g3 rfl,g4,λj b c G N=>Z (hX (Y b (Sp G))) (g5 j b c G N) rfl⟩
 ·have B:b∈[D,cs,ak]:=B
  simp only[SH,Ta,or_false]at B
  rcases B with rfl|rfl|rfl
  ·exact O S.t.tp
  ·exact O S.Iz
  ·exact O S.LU
theorem PD(hd:2<=d){ask:Addr}(S:Eu L F base 0 σ A C I [])(J:Gd L.cs ask (res (L.T A) σ))(N:Em m 2=some (.ref L.cs))(O:Em m 9=some (.ref ask))(k:∀r w j,En L F base 0 r w ask (Gd L.cs ask) true j A C I []->Q.nx (m.set 8 (some (.ref r))) j):ws d d' Ch true Q m σ:=by
 obtain⟨d,rfl⟩:∃e,d=e+1:=⟨d-1,by omega⟩
 obtain⟨fr,U,Y,f3⟩:=S.fm
 refine(show(ev (d+1) true (.call (.glob 1) (xs [.var 9,.bf .len (xs [.key (.var 2) 1 1])])) d').e m (λv σ=>wt (d+1) true d' (.var 8) v Q.nx m σ) σ from ?_)
 refine dq (cO rfl) (dc (ad O) (cH (d2 (ad N) S.cs rfl) (.inl (ce U).2) (k:=F.length) (by rw[Su,Y]))) ((qf (C:=103) (f:=76) (Q:=λv j=>∃r w,v=.ref r/\Mk σ 103 r w [.ref ask,.int F.length,.bool true] [] j) (λP=>by kernel_rfl) (λP=>by kernel_rfl) (λP=>rfl) (λP=>rfl) λx w Z B D=>(oM (by omega) (Mk.start Z B D)).mono (λv j h=>⟨h.1,x,w,rfl,h.2⟩) λσ h=>h).mono (λv E hv=>?_) λσ h=>h.elim)
 obtain⟨r,w,rfl,M⟩:=hv
 refine c0 (k r w E ?_)
 obtain⟨S1,f⟩:=S.ext M.ext
 have G:A.T r=0:=S.FO.rep.zT M.new
 have hT:L.T A r=0:=bT.mpr ⟨λh=>L.GN (P:=λb=>b≠r) h (λq=>by have:=S.tp;rw[q,M.new]at this;cases this) (λq=>by have:=S.cs;rw[q,M.new]at this;cases this) (λq=>by obtain⟨vs,h,_⟩:=S.ak;rw[q,M.new]at h;cases h) (λp hp q=>by have:=S.xs p hp;rw[q,M.new]at this;cases this) rfl,G⟩
 refine⟨S1,M.inst,hT,J.ext λb o h=>?_⟩
 obtain⟨⟨h1,H⟩,h3⟩:=cV h
 refine cg (bT.mpr ⟨λq=>?_,h1⟩) (M.ext _ _ H) h3
 rw[Sx]at q;rw[q,M.new]at H;cases H
end
end
section
section
variable {fn dx ask:Addr}
def MI(E G:Option AV)(H vs:D7)(L:LA)(F:List (List (List Int)))(base:Nat)(fn dx ask z:Addr)(j:Nat)(m:D7)(σ:AH):Prop:=
 ∃I B A C r q D w,m=E::G::some (.ref L.cs)::I::H/\En (L.anew B) F base q fn dx ask (Gd L.cs ask) r σ A C D w/\q<=21*j/\D<=50+21*j/\res (TF (L.anew B) fn A) σ z=some (.EG 0 3)/\j<=3
theorem PE(hd:11<=d)(S:En L F base 0 fn dx ask (Gd L.cs ask) true σ A C sp [])(ok:FE F)(hF:F.length<=5)(aj:sp<=50)(Z:L.cells.length<=1000)(hg:Em (J::M::some (.ref L.cs)::G::N) 8=some (.ref fn))(aa:∀G,Em (J::M::some (.ref L.cs)::G::N) 8=some (.ref fn))(k:∀G B,Q.nx (J::M::some (.ref L.cs)::G::N) B):ws d d' yF true Q (J::M::some (.ref L.cs)::G::N) σ:=by
 have ho:∀σ B,Ext σ B->Gd L.cs ask σ->Gd L.cs ask B:=λr r e h=>h.ext e
 refine(show ws d d' (.cons yF .nil) true Q _ σ from eG (gf u' (sm (by omega)) λz hz=>?_))
 obtain⟨S1,f1⟩:=S.ext ho (Ext.new (o:=.EG 0 3) hz)
 have O:res (TF L fn A) (upd σ z (.EG 0 3)) z=some (.EG 0 3):=cg (S.fresh hz) (bO _ _ _)
 have H:=bO σ z (.EG 0 3)
 generalize upd σ z (.EG 0 3)=al at S1 O H⊢
 refine bU (w:=EK 0 3) (kR H) ⟨MI J M N [] L F base fn dx ask z,⟨G,L.ak,A,C,true,0,sp,[],rfl,S1,SI _,by omega,O,SI _⟩,?_⟩
 rintro j m σ2 ⟨G,za,A2,C2,ab,q,am,ac,rfl,S2,hq,ai,U,hj⟩
 refine⟨(ce U).2.trans H.symm,λr=>k G σ2,λy hy=>?_⟩
 have ae:j<3:=by
  have:=bQ hy
  simpa[EK]using this
 have Y:∀I ex,Fi (d-5) {L.anew za with ak:=I,ex:=ex} F base ask (Gd L.cs ask):=λI ex=>wQ (Nat.le_sub_of_add_le (show 6+5<=d by assumption)) (L:={L.anew za with ak:=I,ex:=ex}) ok Z
 show ws d d' CF true _ (J::M::some (.ref L.cs)::some y::N) σ2
 have af:E1 d σ2 (J::M::some (.ref L.cs)::some y::N) (.var 8) (.ref fn):=ad (aa (some y))
 refine fi (show(ev d true (.call (.glob 12) (Mine.xs [.var 2,.var 8])) d').t _ _ σ2 from lr (dq (cO rfl) (dc (ad rfl) af) ((sG (L:=L.anew za) (by omega) ho Y ok (by omega) (by omega) (by omega) S2).mono (λv an hv=>?_) λσ h=>h.elim)))
 obtain⟨rfl,ag,A3,C3,D,q3,ah,E,h1,h2,_,e3,S3⟩:=hv
 exact⟨some y,ag,A3,C3,D,q3,ah,E,rfl,S3,by omega,by omega,e3 _ _ U,ae⟩
end
end
set_option tactic.hygienic true in
theorem xP(h:env.cells.lookup ("case":Str)=some cc):closureFor (z' (Ei 6)) env=pure [(("case":Str),cc)]:=by
 unfold closureFor
 have:(z' (Ei 6)).names=[(("some":Str),.local),(("case":Str),.free),(("_law_told":Str),.globalImplicit)]:=by rfl
 rw[this]
 simp[cellOf,h]
abbrev Ge(h:Heap):Heap:=hideAll h [317]
theorem eQ(e:h.get? b=some o)(j:b≠317):(Ge h).get? b=some o:=hideAll_get _ e (by simpa using j)
theorem fA(x:h.Ns a j)(m:a≠317):(Ge h).Ns a j:=(by obtain⟨o,es,q,e,r⟩:=x;exact⟨o,es,q,eQ e m,r⟩)
theorem qZ(S:G5 w h):G5 w (Ge h):=by
 obtain⟨X,C,⟨o,r⟩,A,B,D⟩:=S
 have E:317∉I1:=by decide
 have G:317∉codes.map (·.1):=by decide+kernel
 refine⟨λb o e=>eQ (X b o e) λq=>?_,λc m=>?_,⟨o,eQ r (by decide)⟩,A,fA B (by decide),D⟩
 ·have j:b∈(K w.params).map (·.1):=Te.mpr ⟨_,mem_of_lookupK e,rfl⟩
  rw[<-nK,q]at j;exact E j
 ·obtain⟨o,vs,t,H,j⟩:=C c m
  exact⟨o,vs,t,eQ H λq=>G (by rw[<-q];exact SY (f:=(·.1)) m),j⟩
theorem vT(G:GT h):GT (Ge h):=by
 obtain⟨⟨mg,j,m,q,w⟩,A,a,r⟩:=G
 exact⟨⟨mg,j,fA m (by decide),fA q (by decide),w⟩,A,fA a (by decide),r⟩
theorem w'.more(L:w' prog w c σ s)(m:σ b=none)(h:s.heap.get? b=some o)(r:b∉D2 c):w' prog w c (upd σ b (.obj o)) s:=by
 refine⟨L.ok,L.stays,L.frames,L.ns,λa o' e=>?_,L.parts.upd (o:=.obj o) (λq e=>by rw[m]at e;cases e) rfl,λa j=>?_,λa h=>?_,L.gens,L.os⟩
 ·refine jC e ?_ λq e=>?_
  ·exact h
  ·exact L.own a o' e
 ·by_cases q:a=b
  ·subst q;rw[Ep (bO _ _ _)]at j;cases j
  ·unfold Ee at j;rw[bP q]at j;exact L.apart a j
 ·by_cases q:a=b
  ·subst q;exact r
  ·rw[bP q]at h;exact L.off a h
theorem tn:∃pos,Ei 6=.FunctionDef "_law_ask" (E7 (Ei 6)) (Eh (Ei 6)) [] none [] (z' (Ei 6)) none "_law_ask" pos:=⟨_,rfl⟩
set_option tactic.hygienic true in
theorem zI(L:w' prog w c σ s)(hg:s.heap.Ns mainGlobals mg)(N:s.heap.BuiltinsAt mg 317)(C:c.D1.globals=mainGlobals)(r:c.D1.code=.ref 321)(O:c.D1.cells.lookup ("case":Str)=some cc)(hq:qualnameIn c.D1 "_law_ask" "_law_ask"="law.<locals>._law_ask")(hC:CodeHd s.heap 321 317)(hP:s.heap.get? 317=some (tabObj #[]))(B:c.base.get? 317=none)(U:317∉D2 c)(D:∀b o,σ b=some o->317∉foot b o)(h:∀f q doc pm m J vs t h' tk,w' prog w c σ {s with heap:=h',toks:=tk}->(∀b o,b≠317->s.heap.get? b=some o->h'.get? b=some o)->(∃ps,h'.get? 317=some (tabObj ps))->h'.get? f=some {cls:=.type "function",data:=.func (Fb cc q doc pm m)}->s.heap.get? f=none->h'.get? q=some J->s.heap.get? q=none->f≠q->J.data=.fields vs->vs[1]? =some (.str "law.<locals>._law_ask" t)->
   wpAny M A (storeName c.D1 "_law_ask" (.ref f)) (λj Y=>Q .next Y) E {s with heap:=h',toks:=tk}):wpAny M A (exec (Ei 6) c.D1) Q E s:=by
 obtain⟨pos,hd⟩:=tn
 rw[hd]
 refine nestDef_K rfl rfl rfl ?_
 rw[hq]
 refine makeFunction_K (xP O) C hg r hC hP trivial rfl (by decide) N λq m doc h' tk hx G H I Z=>?_
 have k1:∀b o,b≠317->s.heap.get? b=some o->(h'.push (fnMade "_law_ask" "law.<locals>._law_ask" (E7 (Ei 6)) (Eh (Ei 6)) (z' (Ei 6)) [(("case":Str),cc)] doc ((mg "__name__").getD .none) q m)).get? b=some o:=λb o N e=>Sq _ (hx b o N e)
 obtain⟨c2,J,vs,t,aa,e1,e2,e3⟩:=I
 cases aa
 have ab:s.heap.get? q=none:=Tx G
 have ac:s.heap.get? h'.objs.size=none:=Tx (SJ G (TH H))
 exact h h'.objs.size q doc _ m J vs t _ tk (gD L B U D k1) k1 ⟨_,Sq _ Z⟩ (SM _ rfl) ac (Sq _ e1) ab (Uk H) e2 e3
theorem ud(h:FC prog w c ks T d' σ s e A):False:=by
 obtain⟨j,m,_,_,a,q,B,_,r,_⟩:=h
 exact r
set_option tactic.hygienic true in
theorem eh{st:Stmt}(H:SS x)(D:(F2 x).s ks T st=true)(he:D' w c A true d c.D1 ks)(I:Hj c ks T)(vs:VS c ks T m σ s.heap)(L:w' prog w c σ s)(J:ws d d' x true ⟨P,λj j=>False⟩ m σ)(k:∀q C r,w' prog w c q r->Kq c ks T σ s q r->VS c ks T C q r.heap->P C q->wpAny (model prog w) A (execs B c.D1) Q E r):wpAny (model prog w) A (execs (st::B) c.D1) Q E s:=by
 refine wpAny_execs_cons (Sz (H ks T st prog w c A true d m σ s d' _ D he I vs L J) (λf r G=>?_) λe r h=>(ud h).elim)
 cases f with
 |next=>obtain⟨q,C,M,N,O,U⟩:=G;exact k q C r M N O U
 |ret v=>obtain⟨_,_,_,h⟩:=G;exact h.elim
 |_=>exact G.elim
structure Tab0 (c:Cx) (σ:AH) (s:Shared) (o:Obj):Prop where
 at_:s.heap.get? 317=some o
 no:σ 317=none
theorem Tab0.foot(t:Tab0 c σ s o)(L:w' prog w c σ s):∀b o,σ b=some o->317∉foot b o:=λb o e j=>by
 cases o with
 |inst C m q=>
  simp[Mine.foot]at j
  rcases j with rfl|rfl
  ·rw[t.no]at e;cases e
  ·have:=L.parts _ _ _ _ e;rw[t.no]at this;cases this
 |_=>simp[Mine.foot]at j;subst j;rw[t.no]at e;cases e
def Ov(s:Shared)(r:Result)(j:Shared):Prop:=r=.ok (.ret (.bool true))/\(∀b o,b≠317->s.heap.get? b=some o->j.heap.get? b=some o)/\(∃m,j.heap.get? 317=some (tabObj m))/\j.os=s.os/\j.gens=#[]
abbrev IU(pm doc:Value):FuncData:=fnX "law" "law" (E7 (top 20)) (Eh (top 20)) (z' (top 20)) [] .none .none doc pm none (.ref 321) .none
theorem ya(pm doc a:Value):bindArgs (IU pm doc) ⟨[a],[]⟩=pure [(("script":Str),a)]:=rfl
set_option tactic.hygienic true in
theorem dl:E3.lookup ("script":Str)=some .local/\E3.lookup ("case":Str)=some .cell/\E3.lookup ("lap":Str)=some .local/\E3.lookup ("finder":Str)=some .local/\E3.lookup ("_law_ask":Str)=some .local/\(∀y∈E3,y.2≠.free)/\(z' (top 20)).isCoroutine=false/\(z' (top 20)).isGenerator=false/\(z' (top 20)).kind=.function/\IT.Pairwise (λs t=>s.1≠t.1/\s.2.1≠t.2.1)/\JT.Pairwise (λs t=>s.1≠t.1/\s.2.1≠t.2.1)/\G6 E3 JT 9 "_law_ask"=true:=by
 refine⟨?_,?_,?_,?_,?_,?_,?_,?_,?_,?_,?_,?_⟩<;>decide+kernel
structure JF (prog:Program) (w:World) (s:Shared) (mg:Str->Option Value) (pm doc:Value):Prop where
 pg:Pg prog
 says:G5 w s.heap
 gt:GT s.heap
 g:s.heap.Ns mainGlobals mg
 b:s.heap.BuiltinsAt mg 317
 hd:CodeHd s.heap 321 317
 tab:s.heap.get? 317=some (tabObj #[])
 fn:∃o,s.heap.get? 322=some o/\o.data=.func (IU pm doc)
 PF:s.heap.CodeRec (.ref 321) "law"
 gens:s.gens=#[]
abbrev FQ(pm doc:Value)(s:Shared):Env:=callEnvC (IU pm doc) s.heap.objs.size 322
abbrev EF(pm doc:Value)(s:Shared):Cx:=⟨s.heap.objs.size,FQ pm doc s,[],Ge s.heap,s.os⟩
def only(j:Addr)(o:Obj):AH:=λb=>if b=j then some (.obj o)else none
theorem eD(h:only j o b=some o'):b=j/\o'=.obj o:=by
 unfold only at h;split at h
 ·exact⟨‹_›,by cases h;rfl⟩
 ·cases h
theorem pe(b:Addr):Ee (only j o) b=false:=by
 unfold Ee
 cases q:only j o b with
 |none=>rfl
 |some o'=>rw[(eD q).2];rfl
set_option tactic.hygienic true in
theorem Gx(h:E3.lookup x=some .cell):x="case":=by
 have:∀y∈E3,y.2=.cell->y.1=("case":Str):=by decide+kernel
 exact this _ (cG h) rfl
structure Fl (c:Cx) (h:Heap) (cc:Addr):Prop where
 nm:c.D1.scope.names=E3
 kd:c.D1.scope.kind=.function
 gl:c.D1.globals=mainGlobals
 bl:c.D1.builtins=builtinsNs
 fr:c.D1.frame=some c.L
 loc:c.D1.locals=c.L
 out:c.outer=[]
 code:c.D1.code=.ref 321
 cq:c.D1.cells.lookup ("case":Str)=some cc
 one:∀y,c.D1.cells.lookup y=some cc->y="case"
 base:c.base.get? cc=none
 lt:c.L<cc
 is:∃u,h.IsCell cc u
theorem Fl.ne(F:Fl c h cc):cc≠c.L:=Uk F.lt
theorem Fl.addr(F:Fl c h cc):D2 c=[c.L]:=by
 unfold D2;rw[F.out];simp[F.fr]
theorem Fl.G7(F:Fl c h cc)(m:Ey c E3 T b):b=c.L\/b=cc:=by
 rcases m with h|⟨t,ht,r,q,j⟩
 ·exact .inl h
 ·right;rw[Gx q,F.cq]at j;cases j;rfl
theorem Fl.MU(F:Fl c h cc)(q:T.Pairwise λs t=>s.1≠t.1/\s.2.1≠t.2.1):Hj c E3 T:=by
 refine⟨F.loc,q,λb r j=>?_,λt ht B w b m y A=>?_⟩
 ·have:=(F.G7 r).resolve_left j
  subst this
  exact⟨F.base,by rw[F.addr];simpa using F.ne⟩
 ·rw[Gx w]at m⊢
  rw[F.cq]at m;cases m;exact F.one y A
theorem Fl.env(F:Fl c h cc)(r:A.frames=some [c.D1])(B:A.handled=none)(C:A.depth+d<recursionLimit)(D:A.units+6*d+100<cLine):D' w c A true d c.D1 E3:=by
 refine⟨F.nm,F.kd,F.gl,F.bl,F.fr,by rw[F.out];exact r,λj=>B,C,D,λx m=>?_⟩
 cases q:E3.lookup x with
 |none=>rw[q]at m;cases m
 |some k=>
  rw[q]at m
  cases k<;>first|exact⟨cc,by rw[Gx q];exact F.cq⟩|exact absurd rfl (dl.2.2.2.2.2.1 _ (cG q))|cases m
set_option tactic.hygienic true in
theorem Cz(P:JF prog w s mg pm doc)(hs:s.heap.get? r=some o)(N:mL "script"=some (.ref r))(ns:h₁.Ns s.heap.objs.size mL)(A:∀b o,s.heap.get? b=some o->h₁.get? b=some o)(B:∀x b,(FQ pm doc s).cells.lookup x=some b->h₁.IsCell b ((bindC (FQ pm doc s).kindOf [(("script":Str),.ref r)] λj=>none) x))(D:∀x b,(x,b)∈(FQ pm doc s).cells->∀y,(y,b)∈(FQ pm doc s).cells->y=x)(E:∀x b,(x,b)∈(FQ pm doc s).cells->s.heap.objs.size<b):
  ∃cc,Fl (EF pm doc s) h₁ cc/\w' prog w (EF pm doc s) (only r o) {s with heap:=h₁,toks:=tk}/\VS (EF pm doc s) E3 IT (some (.ref r)::List.replicate 9 none) (only r o) h₁:=by
 obtain⟨cc,m⟩:=fZ E3 (s.heap.objs.size+1) [] (cG dl.2.1)
 have m:(FQ pm doc s).cells.lookup ("case":Str)=some cc:=m
 have G:=E _ _ (mem_of_lookup m)
 have O:s.heap.get? cc=none:=Tx (TH G)
 have I:∀b,s.heap.get? b=none->(Ge s.heap).get? b=none:=λb h=>by
  cases q:(Ge s.heap).get? b with
  |none=>rfl
  |some o=>rw[of_hideAll _ q]at h;cases h
 have F:Fl (EF pm doc s) h₁ cc:=⟨rfl,rfl,rfl,rfl,rfl,rfl,rfl,rfl,m,λy Q=>D _ _ (mem_of_lookup m) y (mem_of_lookup Q),I _ O,G,⟨_,B _ _ m⟩⟩
 have H:r<s.heap.objs.size:=TQ hs
 refine⟨cc,F,⟨⟨qZ P.says,vT P.gt,rfl,rfl⟩,λb o e=>A b o (of_hideAll _ e),⟨(λh=>(by cases h)),⟨s.heap.objs.size,?_⟩,trivial⟩,⟨mL,ns⟩,λa o' e=>?_,λa C dx fl e=>?_,λa h=>?_,λa h=>?_,P.gens,rfl,P.pg⟩,⟨⟨pe _,⟨mL,ns⟩,λt ht v J=>?_⟩,λb U=>?_,λt ht h1 Y b M=>?_⟩⟩
 ·obtain⟨o,es,ep,Z,hd,_⟩:=ns
  exact⟨o,rfl,I _ (dF s),Z,λvs q=>by rw[hd]at q;cases q⟩
 ·obtain⟨rfl,rfl⟩:=eD e;exact A _ _ hs
 ·cases(eD e).2
 ·rw[pe]at h;cases h
 ·cases q:only r o a with
  |none=>exact absurd q h
  |some o'=>obtain⟨rfl,_⟩:=eD q;rw[F.addr];simp only[Sx];exact Tu H
 ·have:t=(0,("script":Str),true)/\v=.ref r:=by
   simp only[SH,Ta,or_false]at ht
   rcases ht with rfl|rfl|rfl|rfl|rfl|rfl|rfl|rfl
   ·cases J;exact⟨rfl,rfl⟩
   all_goals cases J
  obtain⟨rfl,rfl⟩:=this
  exact .loc dl.1 mL (.ref r) ns N rfl
 ·cases q:only r o b with
  |none=>rfl
  |some o'=>
   obtain⟨rfl,_⟩:=eD q
   rcases F.G7 U with h|h
   ·exact absurd h (Tu H)
   ·exact absurd (h▸H:cc<s.heap.objs.size) (Nat.not_lt_of_gt G)
 ·rw[Gx Y,show(EF pm doc s).D1.cells.lookup ("case":Str)=some cc from m]at M;cases M;exact⟨_,B _ _ m⟩
section
section
variable {prog:Program} {w:World} {σ Eb:AH} {s IK s':Shared} {A:Around} {m:D7} {mg:Str->Option Value} {pm doc:Value} {c:Cx} {ks:Ks} {T:Tab} {sl:Addr}
set_option tactic.hygienic true in
theorem zU{st:Stmt}{q:List Stmt}{P:D7->AH->Prop}{Q:Flow->Shared->Prop}{E:Value->Shared->Prop}(h:wpAny (model prog w) A (exec st c.D1) (EI prog w c ks T σ s ⟨P,λj j=>False⟩) (FC prog w c ks T d' σ s) s)(k:∀Eb r s',w' prog w c Eb s'->Kq c ks T σ s Eb s'->VS c ks T r Eb s'.heap->P r Eb->wpAny (model prog w) A (execs q c.D1) Q E s'):wpAny (model prog w) A (execs (st::q) c.D1) Q E s:=by
 refine wpAny_execs_cons (Sz h (λf s' B=>?_) λe s' h=>(ud h).elim)
 cases f with
 |next=>obtain⟨Eb,r,C,D,G,H⟩:=B;exact k Eb r s' C D G H
 |ret v=>obtain⟨_,_,_,h⟩:=B;exact h.elim
 |_=>exact B.elim
abbrev mL(sl j:Addr)(cs q kl u5 r B:Option AV):D7:=[some (.ref sl),some (.ref j),cs,q,kl,u5,r,B,none,none]
inductive Rp (sl:Addr) (m:D7) (σ:AH):Prop
 |mk (tp cl cells) (h0:m=mL sl tp none none none none none none) (h1:Fw σ tp cl cells 0) (h2:cells.length<=40)
inductive Rq (sl:Addr) (m:D7) (σ:AH):Prop
 |mk (tp cl cs fm ak cells) (h0:m=mL sl tp (some (.ref cs)) none none none none none) (h1:Ih tp cl cs fm ak cells σ [] [] 0) (h2:cells.length<=40)
inductive Rr (sl:Addr) (m:D7) (σ:AH):Prop
 |mk (tp cl cs fm ak cells u3 fr F sp) (h0:m=mL sl tp (some (.ref cs)) u3 none none none none) (h1:Ih tp cl cs fm ak cells σ fr F sp) (h2:cells.length<=40) (h3:F.length<=5) (h4:sp<=50)
inductive Rt (sl:Addr) (m:D7) (σ:AH):Prop
 |mk (tp cl cs fm ak cells u3 fr F sp kl σ0) (h0:m=mL sl tp (some (.ref cs)) u3 (some (.ref kl)) none none none) (h1:Ih tp cl cs fm ak cells σ0 fr F sp) (h2:cells.length<=40) (h3:F.length<=5) (h4:sp<=50) (h5:σ0 kl=none) (h6:σ=upd σ0 kl (.list []))
inductive Ru (sl:Addr) (m:D7) (σ:AH):Prop
 |mk (tp cl cs fm ak cells u3 u5 u6 u7 fr F sp kl σ0 cr Ls) (h0:m=mL sl tp (some (.ref cs)) u3 (some (.ref kl)) u5 u6 u7) (h1:Ih tp cl cs fm ak cells σ0 fr F sp) (h2:cells.length<=40) (h3:F.length<=5) (h4:sp<=50) (h5:σ0 kl=none) (h6:GP σ0 σ kl cr Ls) (h7:JE (Gk F F.length) (3+F.length) Ls) (h8:Ls.length<=10)
inductive Qh (sl:Addr) (m:D7) (σ:AH):Prop
 |mk (tp cl cs fm ak cells u3 u5 u6 u7 F sp kl A C base) (h0:m=mL sl tp (some (.ref cs)) u3 (some (.ref kl)) u5 u6 u7) (h1:Eu ⟨tp,cl,cs,fm,ak,cells,[]⟩ F base 0 σ A C sp []) (h2:cells.length<=40) (h3:F.length<=5) (h4:sp<=50) (h5:FE F)
set_option maxHeartbeats 2000000 in
theorem wX{d:Nat}(hd:12<=d)(he:D' w c A true d c.D1 E3)(fo:Hj c E3 IT){o:Obj}{vs:List Int}(Rv:σ sl=some (.obj o))(ho:Hk o (g' vs))(V:VS c E3 IT (some (.ref sl)::List.replicate 9 none) σ s.heap)(L:w' prog w c σ s){Q:Flow->Shared->Prop}{E:Value->Shared->Prop}{rest:List Stmt}(k:∀Eb m' s',w' prog w c Eb s'->Kq c E3 IT σ s Eb s'->VS c E3 IT m' Eb s'.heap->Qh sl m' Eb->wpAny (model prog w) A (execs rest c.D1) Q E s'):wpAny (model prog w) A (execs (Ei 0::Ei 1::Ei 2::Ei 3::Ei 4::Ei 5::rest) c.D1) Q E s:=by
 obtain⟨q0,q1,q2,q3,q5,_⟩:=vU
 refine eh (P:=Rp sl) (EZ BT).1 q0 he fo V L (Py Rv ho rfl λtp cl cells Eb h1 h2 h3 _ t=>⟨tp,cl,cells,rfl,t,h3⟩) λHL m1 s1 L1 k1 V1 h=>?_
 obtain⟨tp,cl,cells,rfl,t,hc⟩:=h
 refine eh (P:=Rq sl) (EZ CM).1 q1 he fo V1 L1 (Pz rfl λcs fm ak Eb e Iz Qi LU n1 n2 n3 PG PH PI=>⟨tp,cl,cs,fm,ak,cells,rfl,?_,hc⟩) λσ2 m2 s2 L2 k2 V2 h=>?_
 ·have nn:∀{a b:Addr} {o:AO},HL a=none->HL b=some o->b≠a:=λh1 h2 q=>by rw[q,h1]at h2;cases h2
  refine⟨t.ext e,PG,PI,⟨PH,rfl,λi a f h=>(by cases h)⟩,(λ_ h=>(by cases h)),⟨Ne.symm n1,n3,Ne.symm (nn Qi t.tp)⟩,λq=>?_,n2,Ne.symm (nn LU t.tp),Ne.symm (nn Iz t.tp)⟩
  simp only[SH,Ta,or_false]at q
  rcases q with q|q|q|q
  ·have:=t.cl;rw[q,t.tp]at this;cases this
  ·exact nn Iz t.cl q
  ·exact nn Qi t.cl q
  ·exact nn LU t.cl q
 obtain⟨tp,cl,cs,fm,ak,cells,rfl,S,hc⟩:=h
 refine eh (P:=Rr sl) (EZ yT).1 q2 he fo V2 L2 (PA (by omega) S λu3 fr F sp Eb S h1 h2 h3=>⟨tp,cl,cs,fm,ak,cells,u3,fr,F,sp,rfl,S,hc,h2,h3⟩) λOK m3 s3 L3 k3 V3 h=>?_
 obtain⟨tp,cl,cs,fm,ak,cells,u3,fr,F,sp,rfl,S,hc,hF,MJ⟩:=h
 refine eh (P:=Rt sl) (EZ DO).1 q3 he fo V3 L3 (show(ev d true (.lst .nil) d').e _ (λv σ=>wt d true d' (.var 4) v _ _ σ) _ from cR cm (SI _) λkl KN=>c0 ⟨tp,cl,cs,fm,ak,cells,u3,fr,F,sp,kl,OK,rfl,S,hc,hF,MJ,KN,rfl⟩) λR' m4 s4 L4 k4 V4 h=>?_
 obtain⟨tp,cl,cs,fm,ak,cells,u3,fr,F,sp,kl,σ0,rfl,S,hc,hF,MJ,KN,rfl⟩:=h
 have Rw:cs≠kl:=λq=>by have:=S.Iz;rw[q,KN]at this;cases this
 obtain⟨es,kk,np,Sa,Sb,cp,body,p,e4,g1,g2,g3,g4⟩:=xJ
 rw[e4]
 refine zU (P:=Ru sl) (wx g1 g2 g3 g4 (EZ ym).2 he fo V4 L4 ((d2 (ad rfl) ((bP Rw).trans S.Iz) rfl) _ _ (PB S KN hF λu5 u6 u7 cr Ls Eb H C hl=>⟨tp,cl,cs,fm,ak,cells,u3,u5,u6,u7,fr,F,sp,kl,σ0,cr,Ls,rfl,S,hc,hF,MJ,KN,H,C,hl⟩))) λRx m5 s5 L5 k5 V5 h=>?_
 obtain⟨tp,cl,cs,fm,ak,cells,u3,u5,u6,u7,fr,F,sp,kl,σ0,cr,Ls,rfl,S,hc,hF,MJ,KN,H,C,hl⟩:=h
 refine eh (P:=Qh sl) (EZ Cf).1 q5 he fo V5 L5 (PC (by omega) S KN hF H C hl rfl rfl λA C Eb S'=>⟨tp,cl,cs,fm,ak,cells,u3,u5,u6,u7,F,sp,kl,A,C,_,rfl,S',hc,hF,MJ,BO S.ok hF⟩) λRy m6 s6 L6 k6 V6 h=>?_
 exact k Ry m6 s6 L6 (k1.trans (k2.trans (k3.trans (k4.trans (k5.trans k6))))) V6 h
end
end
section
section
variable {s IK s':Shared}
set_option tactic.hygienic true in
theorem VS.turn(V:VS c E3 IT m σ s.heap)(r:Em m 8=none/\Em m 9=none):VS c E3 JT m σ s.heap:=by
 refine⟨⟨V.vr.loc,V.vr.ns,λt ht v j=>?_⟩,λb B=>V.free b ?_,λt ht w q=>?_⟩
 ·simp only[SH,Ta,or_false]at ht
  rcases ht with rfl|rfl|rfl|rfl
  ·exact V.vr.var (2,"case",true) (by simp) v j
  ·exact V.vr.var (3,"lap",true) (by simp) v j
  ·rw[show Em m 8=none from r.1]at j;cases j
  ·rw[show Em m 9=none from r.2]at j;cases j
 ·rcases B with h|⟨t,ht,w,q,A⟩
  ·exact .inl h
  ·refine .inr ⟨(2,"case",true),by simp,rfl,dl.2.1,?_⟩
   rw[Gx q]at A;exact A
 ·have:=Gx q
  simp only[SH,Ta,or_false]at ht
  rcases ht with rfl|rfl|rfl|rfl
  ·cases w
  all_goals exact absurd this (by decide+kernel)
inductive Rz (m:D7) (σ:AH):Prop
 |mk (v0 v1 cs u3 us A C L F base sp fn dx ask) (h0:m=v0::v1::some (.ref cs)::u3::us) (h1:L.cs=cs) (h2:En L F base 0 fn dx ask (Gd L.cs ask) true σ A C sp []) (h3:L.cells.length<=40) (h4:F.length<=5) (h5:sp<=50) (h6:FE F) (h7:∀u3,Em (v0::v1::some (.ref cs)::u3::us) 8=some (.ref fn))
set_option tactic.hygienic true in
theorem wO(hd:12<=d)(he:D' w c A true d c.D1 E3)(H:Hj c E3 JT)(V:VS c E3 JT m σ s.heap)(L:w' prog w c σ s){ask:Addr}(S:Eu q F base 0 σ Y C I [])(ao:Gd q.cs ask (res (q.T Y) σ))(Z:q.cells.length<=40)(J:F.length<=5)(r:I<=50)(ok:FE F)(hm:m=M::N::some (.ref q.cs)::D::O)(g9:Em m 9=some (.ref ask))(G:∀D x,Em ((M::N::some (.ref q.cs)::D::O).set 8 (some x)) 8=some x):wpAny (model prog w) A (execs [Ei 7,Ei 8,Ei 9] c.D1) (λf s'=>f=.ret (.bool true)/\∃B,w' prog w c B s'/\Kq c E3 JT σ s B s') E s:=by
 subst hm
 obtain⟨_,_,_,_,_,q7,q8,q9⟩:=vU
 refine eh (P:=Rz) (EZ Ch).1 q7 he H V L (PD (by omega) S ao rfl g9 λQ dx B S'=>⟨M,N,q.cs,D,O.set 4 (some (.ref Q)),Y,C,q,F,base,I,Q,dx,ask,rfl,rfl,S',Z,J,r,ok,λu=>G u _⟩) λaa m1 s1 L1 k1 V1 h=>?_
 obtain⟨M,N,cs,D,O,A2,C2,q,F,base,I,Q,dx,ask,rfl,rfl,S,Z,J,r,ok,G⟩:=h
 refine eh (P:=λj j=>True) (EZ yF).1 q8 he H V1 L1 (PE (by omega) S ok J r (by omega) (G _) G λj j=>trivial) λσ2 m2 s2 L2 k2 V2 j=>?_
 refine wpAny_execs_cons (Sz ((EZ DN).1 E3 JT (Ei 9) prog w c A true d m2 σ2 s2 d' ⟨λj j=>False,λv j=>v=.bool true⟩ q9 he H V2 L2 (show(ev d true (.D6 (.bool true)) d').e _ _ _ from rfl)) (λf s3 h=>?_) λe s' h=>(ud h).elim)
 cases f with
 |next=>obtain⟨_,_,_,_,_,h⟩:=h;exact h.elim
 |ret v=>obtain⟨U,L3,k3,h⟩:=h;rw[dX h];exact⟨rfl,U,L3,k1.trans (k2.trans k3)⟩
 |_=>exact h.elim
end
end
section
section
variable {prog:Program} {w:World} {σ Eb:AH} {s IK s':Shared} {A:Around} {m:D7} {mg:Str->Option Value} {pm doc:Value} {c:Cx} {ks:Ks} {T:Tab} {sl:Addr}
theorem G'{o:Obj}{b:Addr}(L:w' prog w c σ s)(q:∃h cc,Fl c h cc/\b≠c.L/\b≠cc)(k:Kq c E3 T σ s Eb s')(r:σ b=none)(e:s.heap.get? b=some o):s'.heap.get? b=some o/\Eb b=none:=by
 obtain⟨h,cc,F,j,B⟩:=q
 exact lc k r (by rw[F.addr];simpa using j) (λC=>(F.G7 C).elim j B) e
set_option maxHeartbeats 4000000 in
theorem AR(P:JF prog w s mg pm doc){o:Obj}{vs:List Int}(hs:s.heap.get? sl=some o)(ho:Hk o (g' vs))(hf:A.frames=some [])(hc:A.handled=none)(hd:A.depth+21<recursionLimit)(hu:A.units+300<cLine):
  codeAny (model prog w) A (.call (.ref 322) ⟨[.ref sl],[]⟩) (Ov s) s:=by
 obtain⟨of,RA,PJ⟩:=P.fn
 refine codeAny_call_cells (fd:=IU pm doc) (body:=Eh (top 20)) (by omega) RA PJ P.gt.nolimit P.PF rfl (ya ..) rfl (λx hx=>?_) (λIK x=>?_)
 ·rw[Sx]at hx;subst hx;exact .inl dl.1
 obtain⟨⟨⟨h₁,tk,rfl⟩,ns,keep,fresh⟩,cell,apart,above⟩:=x
 obtain⟨cc,F,L0,V0⟩:=(Cz P hs (tk:=tk) (nX dl.1 _ _ (by simp) (TL _)) ns keep cell (λx b hx y hy=>name_of_addr apart hy hx) above)
 have PK:(IT.Pairwise λs t=>s.1≠t.1/\s.2.1≠t.2.1)/\(JT.Pairwise λs t=>s.1≠t.1/\s.2.1≠t.2.1)/\G6 E3 JT 9 "_law_ask"=true:=dl.2.2.2.2.2.2.2.2.2
 have he:D' w (EF pm doc s) (A.deeper (FQ pm doc s)) true 12 (EF pm doc s).D1 E3:=F.env (by show A.frames.map _=_;rw[hf];rfl) hc (by show A.depth+1+12<_;omega) (by show A.units+3+6*12+100<_;omega)
 have Ow:317<(EF pm doc s).L:=TQ P.tab
 have ha:(317:Addr)≠(EF pm doc s).L/\(317:Addr)≠cc:=⟨Tu Ow,λq=>by have:=F.lt;rw[<-q]at this;exact absurd Ow (Nat.lt_asymm this)⟩
 have KS:∀{Eb s'},w' prog w (EF pm doc s) Eb s'->∀b o,b≠317->s.heap.get? b=some o->s'.heap.get? b=some o:=λL b o hb e=>L.stays _ _ (eQ e hb)
 have n0:only sl o 317=none:=by
  cases q:only sl o 317 with
  |none=>rfl
  |some o'=>
   obtain⟨rfl,_⟩:=eD q
   rw[P.tab]at hs;cases hs;obtain⟨_,_,h,_⟩:=ho;cases h
 rw[yr]
 refine wX (SR _) he (F.MU PK.1) (by unfold only;rw[if_pos rfl]) ho V0 L0 λHL m1 s1 L1 k1 V1 h=>?_
 obtain⟨tp,cl,cs,fm,ak,cells,u3,u5,u6,u7,Fs,sp,kl,A1,C,base,rfl,S,RB,hF,MJ,ok⟩:=h
 obtain⟨t1,n1⟩:=G' L0 ⟨_,_,F,ha⟩ k1 n0 (keep _ _ P.tab)
 have tb:Tab0 (EF pm doc s) HL s1 (tabObj #[]):=⟨t1,n1⟩
 have RC:317∉D2 (EF pm doc s):=by rw[F.addr];simpa using ha.1
 obtain⟨o21,RD,RE,tf,fl,tg,RF,tx,tt,RG,RH⟩:=P.hd
 obtain⟨bm,ob,b1,b2,b3,b4,b5,b6⟩:=P.b
 refine wpAny_execs_cons (zI L1 (mg:=mg) ((fA P.g (by decide)).keeps L1.stays) ⟨bm,ob,b1,b2,b3,b4,KS L1 _ _ b4 b5,b6⟩ F.gl F.code F.cq rfl ?_ tb.at_ (hideAll_none _ (by simp)) RC (tb.foot L1) λf c' Ii Lz LB oc OE t h' Se L2 k2 hP RI F7 RJ LC PL RK RL=>?_)
 ·exact⟨o21,RD,RE,tf,fl,tg,RF,tx,tt,KS L1 _ _ (by decide) RG,RH⟩
 have O5:∃JU,s1.heap.get? cc=some JU/\JU.data=.cell (some (.ref cs)):=by
  cases V1.vr.var (2,"case",true) (by simp) (.ref cs) rfl with
  |loc hk=>rw[show(EF pm doc s).D1.kindOf ("case":Str)=E3.lookup ("case":Str)from rfl,dl.2.1]at hk;cases hk
  |cell hk a u h1 h2 h3 h4=>
   rw[F.cq]at h1;cases h1
   obtain⟨JU,e1,e2⟩:=h2
   rw[cv h3]at e2
   exact⟨JU,e1,e2⟩
 obtain⟨JU,PM,RM⟩:=O5
 have m0:Ey (EF pm doc s) E3 IT cc:=.inr ⟨(2,"case",true),by simp,rfl,dl.2.1,F.cq⟩
 have z0:=V1.free _ m0
 have zf:=bV L1 F7
 have zc:=bV L1 LC
 have RN:∃o,s1.heap.get? (EF pm doc s).L=some o:=iF L1.ns.choose_spec
 obtain⟨oL,eL⟩:=RN
 have Ox:f≠(EF pm doc s).L/\f≠cc:=⟨(λq=>by rw[q]at F7;rw[eL]at F7;cases F7),(λq=>by rw[q]at F7;rw[PM]at F7;cases F7)⟩
 have Oy:c'≠(EF pm doc s).L/\c'≠cc:=⟨(λq=>by rw[q]at LC;rw[eL]at LC;cases LC),(λq=>by rw[q]at LC;rw[PM]at LC;cases LC)⟩
 have L3:=((L2.more zf RI (by rw[F.addr];simpa using Ox.1)).more ((bP (Ne.symm PL)).trans zc) RJ (by rw[F.addr];simpa using Oy.1)).more (b:=cc) ((bP (Ne.symm Oy.2)).trans ((bP (Ne.symm Ox.2)).trans z0)) (k2 _ _ (Ne.symm ha.2) PM) (by rw[F.addr];simpa using F.ne)
 have X:Ext HL (upd (upd (upd HL f (.obj {cls:=.type "function",data:=.func (Fb cc c' Ii Lz LB)})) c' (.obj oc)) cc (.obj JU)):=((Ext.new zf).trans (.new ((bP (Ne.symm PL)).trans zc))).trans (.new ((bP (Ne.symm Oy.2)).trans ((bP (Ne.symm Ox.2)).trans z0)))
 have g1:=bO (upd (upd HL f (.obj {cls:=.type "function",data:=.func (Fb cc c' Ii Lz LB)})) c' (.obj oc)) cc (.obj JU)
 have g2:upd (upd (upd HL f (.obj {cls:=.type "function",data:=.func (Fb cc c' Ii Lz LB)})) c' (.obj oc)) cc (.obj JU) c'=some (.obj oc):=(bP Oy.2).trans (bO _ _ _)
 have g3:upd (upd (upd HL f (.obj {cls:=.type "function",data:=.func (Fb cc c' Ii Lz LB)})) c' (.obj oc)) cc (.obj JU) f=some (.obj {cls:=.type "function",data:=.func (Fb cc c' Ii Lz LB)}):=(bP Ox.2).trans ((bP PL).trans (bO _ _ _))
 have n3:upd (upd (upd HL f (.obj {cls:=.type "function",data:=.func (Fb cc c' Ii Lz LB)})) c' (.obj oc)) cc (.obj JU) 317=none:=by
  rw[bP ha.2,bP (λq=>by rw[q]at t1;rw[t1]at LC;cases LC),bP (λq=>by rw[q]at t1;rw[t1]at F7;cases F7)];exact n1
 have zz:upd (upd (upd HL f (.obj {cls:=.type "function",data:=.func (Fb cc c' Ii Lz LB)})) c' (.obj oc)) cc (.obj JU) (EF pm doc s).L=none:=by
  rw[bP (Ne.symm F.ne),bP (Ne.symm Oy.1),bP (Ne.symm Ox.1)];exact V1.free _ (.inl rfl)
 generalize upd (upd (upd HL f (.obj {cls:=.type "function",data:=.func (Fb cc c' Ii Lz LB)})) c' (.obj oc)) cc (.obj JU)=OK at L3 X g1 g2 g3 n3 zz
 obtain⟨S3,_⟩:=S.ext X
 have T0:∀{b},HL b=none->LA.T ⟨tp,cl,cs,fm,ak,cells,[]⟩ A1 b=0:=λh=>S.fresh h
 have ao:Gd cs f (res (LA.T ⟨tp,cl,cs,fm,ak,cells,[]⟩ A1) OK):=⟨cc,c',oc,JU,OE,t,Ii,Lz,LB,cg (T0 zf) g3,⟨cg (T0 z0) g1,RM⟩,cg (T0 zc) g2,RK,RL⟩
 have V3:VS (EF pm doc s) E3 JT (mL sl tp (some (.ref cs)) u3 (some (.ref kl)) u5 u6 u7) OK h':=by
  have V2:=VS.turn V1 ⟨rfl,rfl⟩
  obtain⟨mc,RO⟩:=L1.ns
  have kk:∀b o,b≠317->s1.heap.get? b=some o->h'.get? b=some o:=k2
  have KT:∀{mc:Str->Option Value},s1.heap.Ns (EF pm doc s).L mc->h'.Ns (EF pm doc s).L mc:=λhn=>df hn λo e=>⟨o.slots,kk _ _ (Ne.symm ha.1) e⟩
  refine⟨⟨cj zz,⟨mc,KT RO⟩,λt ht v hv=>?_⟩,λb hb=>?_,λt ht h1 h2=>absurd (Gx h2) ?_⟩
  ·cases V2.vr.var t ht v hv with
   |loc hk mc u hn hx hv=>exact .loc hk mc u (KT hn) hx hv
   |cell hk a u h1 h2 h3 h4=>
    obtain⟨oa,ea,da⟩:=h2
    have na:a≠317:=λq=>by rw[q,t1]at ea;cases ea;cases da
    refine .cell hk a u h1 ⟨oa,kk _ _ na ea,da⟩ h3 ?_
    cases q:HL a with
    |some oo=>rw[Ep q]at h4;rw[Ep (X _ _ q)];exact h4
    |none=>
     have:t.2.1="case":=Gx (by
      rcases hk with hk|hk
      ·exact hk
      ·exact absurd rfl (dl.2.2.2.2.2.1 _ (cG hk)))
     rw[this,F.cq]at h1;cases h1
     rw[Ep g1];rfl
  ·rcases hb with rfl|⟨t,ht,h1,h2,_⟩
   ·exact zz
   ·have:=Gx h2
    simp only[SH,Ta,or_false]at ht
    rcases ht with rfl|rfl|rfl|rfl
    ·cases h1
    all_goals exact absurd this (by decide+kernel)
  ·simp only[SH,Ta,or_false]at ht
   rcases ht with rfl|rfl|rfl|rfl
   ·cases h1
   all_goals decide+kernel
 have LJ:=F.MU PK.2.1
 refine GK PK.2.2 he LJ V3 L3 λs4 L4 k4 V4=>?_
 obtain⟨ps,hP⟩:=hP
 obtain⟨t4,n4⟩:=G' L3 ⟨_,_,F,ha⟩ k4 n3 hP
 refine Sz (wO (SR _) he LJ V4 L4 S3 ao RB hF MJ ok rfl rfl (λ_ _=>rfl) (E:=λ_ _=>False)) (λfl s5 h=>?_) λ_ _ h=>h.elim
 obtain⟨rfl,Rx,L5,k5⟩:=h
 obtain⟨t5,n5⟩:=G' L4 ⟨_,_,F,ha⟩ k5 n4 t4
 exact⟨rfl,KS L5,⟨ps,t5⟩,L5.os.1,L5.gens⟩
end
end
section
section
variable {mg mb:Str->Option Value}
theorem Bp(O:Pg prog)(G:Ground q loose E XP w H mg mb s.heap)(Y:GQ.says w s.heap)(I:s.heap.get? a=some o)(r:o.data=.func {IU pm doc with code:=cd})(A:s.heap.CodeRec cd "law")(B:mg "law"=some (.ref a))(Q:s.gens=#[]):
  a=322/\JF prog w s mg pm doc:=by
 obtain⟨S,J,U,⟨o',Z,e1,M,C⟩,m,e4,e5⟩:=Y
 have T:=G.T
 have ha:a=322:=by
  have:=vG T.g e4 "law"
  rw[B,e5]at this;cases this;rfl
 subst ha
 rw[I]at e1;cases e1
 rw[r]at M;cases M
 have C:cd=.ref 321:=C
 subst C
 obtain⟨bm,ob,b1,b2,j,N,b5,D⟩:=T.bmain
 refine⟨rfl,O,S,⟨⟨mg,mb,T.g,T.b,T.builtins⟩,T.nolimit⟩,T.g,⟨bm,ob,b1,b2,λq=>?_,λq=>?_,j,N,b5,D⟩,U,J,⟨o,I,r⟩,A,Q⟩
 ·obtain⟨o,es,ep,e,r,_⟩:=T.g
  rw[q,e]at j;cases j;rw[r]at D;cases D
 ·rw[q,J]at j;cases j;cases N
end
theorem yh(m:∀a x,A.raises a x=false)(C:A.post args (.bool true) args=true)(D:TabsAt [(321,317)] s.heap)(h:codeAny (model prog w) callerA cd (Ov s) s):codeAny (model prog w) callerA cd (GoodWG A M B args s) s:=by
 refine kn_post D m (codeAny_mono h λr N g=>?_)
 obtain⟨rfl,E,G,H,I⟩:=g
 exact⟨⟨.inl ⟨_,_,[],rfl,m args,ReadsW.bool true,C,λj=>⟨T5,λj J=>(by cases J)⟩⟩,λb o e=>E b o (λq=>by
  have:(hideAll s.heap [317]).get? b=none:=hideAll_none _ (by rw[q];exact .head _)
  have e:(hideAll s.heap [317]).get? b=some o:=e
  rw[this]at e;cases e) (of_hideAll _ e),H,I⟩,G,trivial⟩
theorem xF(P:JF prog w s mg pm doc):TabsAt [(321,317)] s.heap:=λq j=>by
 rw[Sx]at j;subst j;exact⟨P.hd,P.tab⟩
theorem zJ{xs:List Int}(h:IntsAre vs xs):vs.map av=g' xs:=by
 induction h with
 |nil=>rfl
 |cons n t r ih=>rw[TM,ih];rfl
theorem uW{xs:List Int}(j:o.cls=.type "list")(m:o.data=.seq vs.toArray n)(q:IntsAre vs xs)(r:xs.length<=63):Hk o (g' xs):=
 ⟨vs.toArray,n,m,j,zJ q,by rw[bX];show _<=1048576;omega⟩
end
end
end Mine
end
set_option tactic.hygienic true
open PySem PySem.W PySem.Calls PyProof.Rows PySem.SeqAt
set_option maxRecDepth 100000 in
set_option maxHeartbeats 0 in
theorem PySem.Challenge.cw_nz0393_01_holds : PySem.Challenge.rw_nz0393_01.Holds := by
  w_on
  refine holds_law Mine.NM fun NM => ?_
  refine holds_open (q := Mine.view) (loose := []) (Xt := fun s => xlAt Mine.view [] s && recOk (RowW.records PySem.Challenge.rw_nz0393_01.row.toRowW) s) (XP := XL Mine.view []) (Yf := Hook.obs Mine.GQ) (Ya := Hook.val Mine.GQ) (YP := Hook.says Mine.GQ) (N := 4662) Mine.NL (Hook.of Mine.GQ) (Hook.keeps Mine.GQ) (fun s e => xl_of s (Bool.and_eq_true_iff.mp e).1) XL.keeps (by rfl) (by rfl) (by rfl) (fun s e => recFacts_of (Bool.and_eq_true_iff.mp e).2) (by rfl) (by first | assumption | decide +kernel) (by decide +kernel) ⟨rfl, rfl, rfl, rfl, rfl, by decide +kernel⟩ ?hw ?hc
  case hw => w_witness2
  case hc =>
    intro w RP IK mg mb G Y a o pm cd doc dV kV ho hd Qj hD Qk hg args vals as PN PO RQ RS RT
    have RU : dV = .none := hD.pos.elim (fun h => h.2) fun h => absurd rfl h.1
    have RV : kV = .none := hD.kw.elim (fun h => h.2) fun h => absurd rfl h.1
    subst RU RV
    obtain ⟨rfl, P⟩ := Mine.Bp (pm := pm) (cd := cd) (doc := doc) ⟨rfl, rfl⟩ G Y ho hd Qj Qk hg
    clear Qj ho hd hD Qk
    wrow_args PN PO RQ RS RT
    rename_i xs hs Sf Sg Sh Si Sj Sk l Sl Sm hL ra w1 r0 hI hr hc Sn
    obtain ⟨o', e1, e2, n, e3⟩ := hL
    have hp : PySem.Challenge.rw_nz0393_01.row.toRowW.claim.post [ofPy (PyData.list (List.map PyData.int xs))] (.bool true) [ofPy (PyData.list (List.map PyData.int xs))] = true := by first | rfl | wrow_post
    exact wpAny_call (codeAny_mono (Mine.yh (fun _ _ => rfl) hp (Mine.xF P) (Mine.AR P e1 (Mine.uW e2 e3 hI (by omega)) rfl rfl (by decide +kernel) (by decide +kernel))) fun r s' h => by
      have := h.1
      cases r with
      | ok f => cases f with
        | ret v => exact h
        | _ => rcases this with ⟨_, _, _, q, _⟩ | ⟨_, _, _, q, _⟩ <;> cases q
      | error e => exact h)
