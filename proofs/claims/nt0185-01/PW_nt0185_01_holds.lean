import PyProof.Rows.All
import PyProof.FactsAll.list
import PyProof.SliceList
import PyProof.CompMap
import PyProof.MeetsSeq
import PyProof.EnumFor
import PyProof.EnumStmt
import PyProof.EnumMake
import PyProof.EqAt
import PyProof.IsRules
import PyProof.FactsAll.range_iterator_1
import PyProof.RangeIter
import PyProof.WalksMore
import PyProof.RangeFor
import PyProof.Rows.RuleN_abs
import PyProof.SliceMore
import PyProof.Rows.SeqMore
import Wide.FinOn
import OpenK.AllK
import Wide.All
import PySem.Challenge.RW_nt0185_01
open PySem PySem.W PySem.Calls PyProof.Rows
set_option Elab.async false
set_option linter.all false
set_option maxRecDepth 100000
set_option maxHeartbeats 8000000
namespace Mine
inductive E2 {α β : Type} (p : α → β → Prop) : Prop | mk (a : α) (b : β) (x : p a b)
inductive E3 {α β γ : Type} (p : α → β → γ → Prop) : Prop | mk (a : α) (b : β) (c : γ) (x : p a b c)
inductive E4 {α β γ δ : Type} (p : α → β → γ → δ → Prop) : Prop | mk (a : α) (b : β) (c : γ) (d : δ) (x : p a b c d)
inductive E5 {α β γ δ ε : Type} (p : α → β → γ → δ → ε → Prop) : Prop | mk (a : α) (b : β) (c : γ) (d : δ) (e : ε) (x : p a b c d e)
inductive E6 {α β γ δ ε ζ : Type} (p : α → β → γ → δ → ε → ζ → Prop) : Prop | mk (a : α) (b : β) (c : γ) (d : δ) (e : ε) (f : ζ) (x : p a b c d e f)
inductive E7 {α β γ δ ε ζ η : Type} (p : α → β → γ → δ → ε → ζ → η → Prop) : Prop | mk (a : α) (b : β) (c : γ) (d : δ) (e : ε) (f : ζ) (g : η) (x : p a b c d e f g)
inductive E8 {α β γ δ ε ζ η θ : Type} (p : α → β → γ → δ → ε → ζ → η → θ → Prop) : Prop | mk (a : α) (b : β) (c : γ) (d : δ) (e : ε) (f : ζ) (g : η) (h : θ) (x : p a b c d e f g h)
inductive E9 {α β γ δ ε ζ η θ ι : Type} (p : α → β → γ → δ → ε → ζ → η → θ → ι → Prop) : Prop | mk (a : α) (b : β) (c : γ) (d : δ) (e : ε) (f : ζ) (g : η) (h : θ) (i : ι) (x : p a b c d e f g h i)
inductive E10 {α β γ δ ε ζ η θ ι κ : Type} (p : α → β → γ → δ → ε → ζ → η → θ → ι → κ → Prop) : Prop | mk (a : α) (b : β) (c : γ) (d : δ) (e : ε) (f : ζ) (g : η) (h : θ) (i : ι) (j : κ) (x : p a b c d e f g h i j)
inductive E11 {α β γ δ ε ζ η θ ι κ μ : Type} (p : α → β → γ → δ → ε → ζ → η → θ → ι → κ → μ → Prop) : Prop | mk (a : α) (b : β) (c : γ) (d : δ) (e : ε) (f : ζ) (g : η) (h : θ) (i : ι) (j : κ) (k : μ) (x : p a b c d e f g h i j k)
inductive E12 {α β γ δ ε ζ η θ ι κ μ ν : Type} (p : α → β → γ → δ → ε → ζ → η → θ → ι → κ → μ → ν → Prop) : Prop | mk (a : α) (b : β) (c : γ) (d : δ) (e : ε) (f : ζ) (g : η) (h : θ) (i : ι) (j : κ) (k : μ) (l : ν) (x : p a b c d e f g h i j k l)
inductive A3 (a b c : Prop) : Prop | mk (x0 : a) (x1 : b) (x2 : c)
inductive A4 (a b c d : Prop) : Prop | mk (x0 : a) (x1 : b) (x2 : c) (x3 : d)
inductive A5 (a b c d e : Prop) : Prop | mk (x0 : a) (x1 : b) (x2 : c) (x3 : d) (x4 : e)
inductive A6 (a b c d e f : Prop) : Prop | mk (x0 : a) (x1 : b) (x2 : c) (x3 : d) (x4 : e) (x5 : f)
inductive A7 (a b c d e f g : Prop) : Prop | mk (x0 : a) (x1 : b) (x2 : c) (x3 : d) (x4 : e) (x5 : f) (x6 : g)
inductive A8 (a b c d e f g h : Prop) : Prop | mk (x0 : a) (x1 : b) (x2 : c) (x3 : d) (x4 : e) (x5 : f) (x6 : g) (x7 : h)
inductive A9 (a b c d e f g h i : Prop) : Prop | mk (x0 : a) (x1 : b) (x2 : c) (x3 : d) (x4 : e) (x5 : f) (x6 : g) (x7 : h) (x8 : i)
theorem hide {G : Prop} (k : ∀ X : Prop, (G → X) → X) : G := k G id
theorem lt1 {d K k N : Nat} (h : d + K < N) (e : Nat.ble k K = true) : d + k < N := Nat.lt_of_le_of_lt (Nat.add_le_add_left (Nat.le_of_ble_eq_true e) d) h
theorem lt2 {d K j k N : Nat} (h : d + K < N) (e : Nat.ble (j + k) K = true) : d + j + k < N := by rw [Nat.add_assoc]; exact lt1 h e
theorem lt3 {d K i j k N : Nat} (h : d + K < N) (e : Nat.ble (i + j + k) K = true) : d + i + j + k < N := by rw [Nat.add_assoc, Nat.add_assoc, ← Nat.add_assoc i]; exact lt1 h e
theorem lt0 {d K N : Nat} (h : d + K < N) : d < N := Nat.lt_of_le_of_lt (Nat.le_add_right d K) h
theorem lt4 {d A K k N : Nat} (h : d + A + K < N) (e : Nat.ble k K = true) : d + k < N := Nat.lt_of_le_of_lt (Nat.add_le_add (Nat.le_add_right d A) (Nat.le_of_ble_eq_true e)) h
@[elab_as_elim] theorem rwl {α : Sort u} {a b : α} {p : α → Prop} (e : a = b) (h : p b) : p a := e ▸ h
theorem al1 {α : Type} {Q : α → Prop} {a : α} (x : Q a := by assumption) : ∀ p ∈ [a], Q p := fun Z h => by
  cases h with
  | head => exact x
  | tail _ h => cases h
theorem alc {α : Type} {Q : α → Prop} {a : α} {l : List α} (x : Q a) (t : ∀ p ∈ l, Q p) : ∀ p ∈ a :: l, Q p := fun Z h => by
  cases h with
  | head => exact x
  | tail _ h => exact t _ h
theorem al2 {α : Type} {Q : α → Prop} {a b : α} (x : Q a := by assumption) (y : Q b := by assumption) : ∀ p ∈ [a, b], Q p := alc x (al1 y)
theorem al3 {α : Type} {Q : α → Prop} {a b c : α} (x : Q a := by assumption) (y : Q b := by assumption) (z : Q c := by assumption) : ∀ p ∈ [a, b, c], Q p := alc x (al2 y z)
theorem al4 {α : Type} {Q : α → Prop} {a b c d : α} (x : Q a := by assumption) (y : Q b := by assumption) (z : Q c := by assumption) (u : Q d := by assumption) : ∀ p ∈ [a, b, c, d], Q p := alc x (al3 y z u)
theorem len1 {α : Type} {l : List α} (h : l.length = 1) : ∃ a, l = [a] := match l, h with | [a], _ => ⟨a, rfl⟩
theorem len2 {α : Type} {l : List α} (h : l.length = 2) : E2 fun a b => l = [a, b] := match l, h with | [a, b], _ => ⟨a, b, rfl⟩
theorem len3 {α : Type} {l : List α} (h : l.length = 3) : E3 fun a b c => l = [a, b, c] := match l, h with | [a, b, c], _ => ⟨a, b, c, rfl⟩
theorem cs3 {α : Type} {l : List α} (h : 0 < l.length) (k : l.length ≤ 3) : (∃ a, l = [a]) ∨ (E2 fun a b => l = [a, b]) ∨ E3 fun a b c => l = [a, b, c] := match l, h, k with
  | [a], _, _ => .inl ⟨a, rfl⟩
  | [a, b], _, _ => .inr (.inl ⟨a, b, rfl⟩)
  | [a, b, c], _, _ => .inr (.inr ⟨a, b, c, rfl⟩)
local macro_rules
  | `(tactic| rewrite [$e:term]) => `(tactic| first | refine rwl $e ?_ | refine rwl ($e ..) ?_)
  | `(tactic| rewrite [← $e:term]) => `(tactic| first | refine rwl (Eq.symm $e) ?_ | refine rwl (Eq.symm ($e ..)) ?_)
  | `(tactic| rewrite [$r:rwRule, $rs:rwRule,*]) => `(tactic| (rewrite [$r]; rewrite [$rs,*]))
  | `(tactic| rw [$rs:rwRule,*]) => `(tactic| (rewrite [$rs,*]; try with_reducible rfl))
local macro_rules | `(tactic| omega) => `(tactic| first | exact Nat.le_add_left _ _ | exact Nat.add_right_comm _ _ _ | (refine lt1 (by assumption) ?_; exact rfl) | (refine lt4 (by assumption) ?_; exact rfl) | (refine lt2 (by assumption) ?_; exact rfl) | (refine lt3 (by assumption) ?_; exact rfl) | (refine lt0 (by assumption)) | lia)
def tmTab : String := "ρ|.ref $0 #981 + @1
ε|$0 #981 + $1 true <3
φ|$0 #981 + $1 false <3
σ|some $0 #981 + $1 true <3 @1
εε|$0 #981 + $1 + $2 true <3
φφ|$0 #981 + $1 + $2 false <3
σσ|some $0 #981 + $1 + $2 true <3 @1
κC|.call .ref $0 @1 $1 [0 <2 @2
ρC|.req .call $0 $1 [0 <2 @2 d0 $2 + u0 $3 + true $4 $5 @6
ρB|.req .builtin $0 $1 [0 <2 @2 d0 $2 + u0 $3 + true $4 $5 @6
ρD|.req .call .builtin $0 @1 $1 [0 <2 @2 d0 $2 + u0 $3 + true $4 $5 @6
ρE|.req .call .ref $0 @1 $1 [0 <2 @2 d0 $2 + u0 $3 + true $4 $5 @6
δP|.dep d0 $0 + $1 @2
τB|TB P z tk d0 u0 ξ @6 *
τC|TC P z tk d0 u0 ξ @6 *
τH|TH P z tk d0 u0 ξ @6 *
ρR|topRun treeTable pw w #11 some .ref #6 @1 @1 @5 *
ρS|PySem.W.Fast.tw10110043849684766642 PySem.W.Fast.tw14364793385576792824 pw w #11 some .ref #6 @1 @1 #1 @6 *
ξi|.int ξ $0 @1 !i #0 @1 ξ $0 @1 !n #50 @1 @2
ξs|.str ξ $0 @1 !s #0 @1 ξ $0 @1 !n #50 @1 @2
ξb|.bool ξ $0 @1 !b #0 @1 @1
ξr|.ref ξ $0 @1 !n #2 @1 #981 + @1
ξa|.ref ξ $0 @1 !n #0 @1 #981 + $1 + @1
ξz|ξ $0 @1 !n #0 @1 #981 + $1 +
ξy|ξ $0 @1 !n #0 @1 #981 +
ξt|ξ $0 @1 !n #1 @1 #2050 + $1 +
ξu|ξ $0 @1 !n #1 @1 #2050 +
ρz|.ref z #981 + $0 + @1
ζz|z #981 + $0 +
τt|tk #2050 + $0 +
γA|.req .builtin \"proto.getattr_hooked\" .ref $0 #981 + @1 .str $1 $2 @2 [2 [0 <2 @2 d0 $3 + u0 $4 + true [0 $5 @6
κκ|\"node\" ju .ref nd #981 + @1 <3 \"change\" jo .ref m #981 + @1 <3 \"done\" jx .ref dl #981 + @1 <3 \"waiting\" jt .ref wl #981 + @1 <3 $0 : : : :
κw|\"here\" kF .ref a #981 + @1 <3 \"is_left\" kl lo <3 \"parts\" kD po <3 \"part\" kY pa <3 \"first\" ja fi <3 \"fresh\" jb .ref fq #981 + @1 <3 [6
ρF|.fin .ok .ret $0 @1 @1 $1 $2 $3 @4
νF|.fin .ok .next @1 $0 $1 $2 @4
ςσ|some $0 $1 true <3 @1
σt|sto s₀ $0 $1 #2050 + @3
ψ|$0 #981 +
γH|.builtin \"proto.getattr_hooked\" .ref $0 #981 + @1 .str $1 tn @2 [2 [0 <2 @2
εn|l #981 + lstO vs el @2 true <3 st #981 + lstO .int a ta @2 .int b tb @2 .ref w @1 [3 est @2 true <3 q #981 + lstO ks eq @2 true <3 fr #981 + $0 true <3 fr #981 + #1 + celO .ref l #981 + @1 @1 true <3 fr #981 + #2 + celO .ref st #981 + @1 @1 true <3 fr #981 + #3 + celO .ref q #981 + @1 @1 true <3 fr #981 + #4 + celO .int deep tdeep @2 @1 true <3 [8
χK|Cs w s₀ F .call .ref $0 @1 $1 [0 <2 @2 d0 u0 $2 @7
χM|Cs w s₀ F .call .ref m #981 + @1 .ref a #981 + @1 [1 [0 <2 @2 d0 u0 $0 @7
φf|&
φe|=
τ|tk #2050 +
ζ|z #981 +
μ1|.tail _ .head _ @1 @2
μ2|.tail _ .tail _ .head _ @1 @2 @2
μ3|.tail _ .tail _ .tail _ .head _ @1 @2 @2 @2
σ0|shown .head _ @1 @1
σ1|shown .tail _ .head _ @1 @2 @1
σ2|shown .tail _ .tail _ .head _ @1 @2 @2 @1
η27|envF #27 #0 #424 #423 \"are_same_list.<locals>.\" fr #981 + @6
η28|envF #28 #0 #431 #430 \"rebuilt.<locals>.\" fr #981 + @6
η49|envF #49 #0 #865 #864 \"op_of.<locals>.\" fr #981 + @6
η56|envF #56 #0 #912 #911 \"_law_draw.<locals>.\" fr #981 + @6
η66|envF #66 #0 #974 #973 \"_law_due_of.<locals>.\" fr #981 + @6
η67|envF #67 #0 #979 #978 \"law.<locals>.\" fr #981 + @6
ηN|envN fr #981 + @1
σL|lstO .int a ta @2 .int b tb @2 .ref w @1 [3 est @2
βF|.bool false @1
βT|.bool true @1
ν3|_ _ _ [3
ν4|_ _ _ _ [4
ν5|_ _ _ _ _ [5
ν6|_ _ _ _ _ _ [6
ν7|_ _ _ _ _ _ _ [7
ν8|_ _ _ _ _ _ _ _ [8
ν9|_ _ _ _ _ _ _ _ _ [9
ν10|_ _ _ _ _ _ _ _ _ _ [10
ν11|_ _ _ _ _ _ _ _ _ _ _ [11
ν12|_ _ _ _ _ _ _ _ _ _ _ _ [12
ν13|_ _ _ _ _ _ _ _ _ _ _ _ _ [13"
def tmStep (xs : Array Lean.Syntax) (st : List Lean.Syntax) (w : String) : List Lean.Syntax :=
  let s := (w.drop 1).toString
  let k := s.toNat?.getD 0
  let at_ (x : String) : Lean.Syntax := Lean.mkAtom x
  let com (l : List Lean.Syntax) : Lean.Syntax := Lean.mkNullNode (l.foldl (fun a x => if a.isEmpty then #[x] else (a.push (at_ ",")).push x) #[])
  let nod (n : Lean.Name) (a : Array Lean.Syntax) : Lean.Syntax := Lean.Syntax.node .none n a
  let app (f : Lean.Syntax) (a : List Lean.Syntax) : Lean.Syntax := if a.isEmpty then f else nod `Lean.Parser.Term.app #[f, Lean.mkNullNode a.toArray]
  let dot (n : String) : Lean.Syntax := nod `Lean.Parser.Term.dotIdent #[at_ ".", Lean.mkIdent (Lean.Name.mkSimple n)]
  let lst (l : List Lean.Syntax) : Lean.Syntax := nod `«term[_]» #[at_ "[", com l, at_ "]"]
  match w.front, st with
  | '$', _ => (xs[k]?.getD .missing) :: st
  | '#', _ => Lean.Syntax.mkNumLit s :: st
  | '"', _ => Lean.Syntax.mkStrLit (s.dropEnd 1).toString :: st
  | '.', _ => dot s :: st
  | '_', _ => nod `Lean.Parser.Term.hole #[at_ "_"] :: st
  | '+', b :: a :: r => nod `«term_+_» #[a, at_ "+", b] :: r
  | ':', b :: a :: r => app (Lean.mkIdent `List.cons) [a, b] :: r
  | '!', e :: r => nod `Lean.Parser.Term.proj #[e, at_ ".", Lean.mkIdent (Lean.Name.mkSimple s)] :: r
  | '@', _ => let a := (st.take k).reverse; match st.drop k with
    | f :: r => app f a :: r
    | [] => st
  | '<', _ => nod `Lean.Parser.Term.anonymousCtor #[at_ "⟨", com (st.take k).reverse, at_ "⟩"] :: st.drop k
  | '[', _ => lst (st.take k).reverse :: st.drop k
  | '*', f :: r => app f xs.toList :: r
  | '&', _ => xs.foldr (fun x a => app (dot "cons") [x, a]) (dot "nil") :: st
  | '=', _ => lst (List.replicate ((xs[0]?.bind Lean.Syntax.isNatLit?).getD 0) (lst []) ++ (xs.toList.drop 1)) :: st
  | _, _ => Lean.mkIdent w.toName :: st
def tmOf (x : Lean.Name) (xs : Array Lean.Syntax) : Option Lean.Syntax := do
  let n := x.toString
  guard (n.length ≤ 3)
  let l ← (tmTab.splitOn "\n").find? fun l => l.startsWith (n ++ "|")
  (((l.drop (n.length + 1)).toString.splitOn " ").foldl (tmStep xs) []).head?
local macro_rules
  | `($f:ident $x*) => match tmOf f.getId (x.map (·.raw)) with
    | some s => return s
    | none => Lean.Macro.throwUnsupported
local macro_rules
  | `($f:ident) => match tmOf f.getId #[] with
    | some s => return s
    | none => Lean.Macro.throwUnsupported
set_option hygiene false
local macro_rules | `(κR) => `(by kernel_rfl)
local macro_rules | `(ω) => `((by omega))
local macro_rules | `(δ) => `((by decide))
local macro_rules | `(ωa) => `((by show d0 + 1 < 1000; omega))
local macro_rules | `(ωb) => `((by show d0 + 2 < 1000; omega))
local macro_rules | `(ωp) => `((by intro p hp; cases hp))
local macro_rules
  | `(hC $n $a $k $l $q) => `(∀ F', F.le F' → Cs w s₀ F' (.call (.ref $n) ⟨$a, []⟩) (d0 + $k) (u0 + $l) $q)
  | `(lΛ $f $t $k) => `($f hb hw (sp := []) rfl (by decide) D (fun ξ => $t) $k)
  | `(ωX $r $u $n) => `(fun x M Z Z => ⟨.ok (.ret $r), $u, $n, x.n 0 + 981, x.n 1 + 2050⟩)
local macro_rules | `(tactic| simp only [μμ] at $h:ident) => `(tactic| simp only [List.mem_cons, List.not_mem_nil, or_false] at $h:ident)
set_option hygiene true
noncomputable abbrev iT (a b : Value) : Obj := { cls := .type "list_iterator", data := .fields #[a, b] }
noncomputable abbrev mT (a b : Value) : Obj := { cls := .type "method", data := .fields #[a, b] }
noncomputable abbrev iσ (a b : Value) : Obj := { cls := .type "tuple_iterator", data := .fields #[a, b] }
noncomputable abbrev δr (P : Params) (l kA : Nat) (m : Int) (kH tm : Nat) : Obj := { cls := .type "frame", data := .dict #[⟨PyData.keyHash P "_law_deck", .str "_law_deck" kA, .ref (l + 981)⟩, ⟨PyData.keyHash P "_law_many", .str "_law_many" kH, .int m tm⟩] 2 }
noncomputable abbrev pw : Program := PySem.Challenge.pw_nt0185_01
noncomputable def stAt (k : Nat) : Stmt := (pw.main.body[k]?).getD (.Pass ⟨0, 0, 0, 0⟩)
noncomputable def fAt (k j : Nat) : Stmt := match stAt k with
  | .ClassDef _ _ _ b _ _ _ _ _ _ _ => (b[j]?).getD (.Pass ⟨0, 0, 0, 0⟩)
  | s => s
noncomputable def fPar : Stmt → Arguments
  | .FunctionDef _ a _ _ _ _ _ _ _ _ => a
  | _ => { posonlyargs := [], args := [], vararg := none, kwonlyargs := [], kw_defaults := [], kwarg := none, defaults := [] }
noncomputable def fBody : Stmt → List Stmt
  | .FunctionDef _ _ b _ _ _ _ _ _ _ => b
  | _ => []
noncomputable def fScope : Stmt → Scope
  | .FunctionDef _ _ _ _ _ _ s _ _ _ => s
  | _ => default
noncomputable def tp (vs : List Value) : Obj := { cls := .type "tuple", data := .seq vs.toArray 0 }
noncomputable def tr (n : PySem.Str) (t : Nat) (a b c : Int) : Obj := tp [.str n t, .int a (t + 1), .int b (t + 2), .int c (t + 3)]
noncomputable def ts (n : PySem.Str) (t : Nat) (a b c : Int) : Obj := tp [.str n t, .int a (t + 1), .int b (t + 3), .int c (t + 4)]
noncomputable def fi (vs : List Value) : Obj := { cls := .none, data := .fields vs.toArray }
noncomputable def jI (k : Int) : Value := .int k 0
noncomputable def jR (k : Nat) : Value := .ref k
noncomputable def de (P : Params) (n : PySem.Str) (t : Nat) (v : Value) : DictEntry := ⟨PyData.keyHash P n, .str n t, v⟩
noncomputable def dr (P : Params) (n : PySem.Str) (t k : Nat) : DictEntry := ⟨PyData.keyHash P n, .str n t, .ref k⟩
noncomputable def db (P : Params) (n : String) (t : Nat) : DictEntry := ⟨PyData.keyHash P n, .str n t, .builtin n⟩
noncomputable def dt (P : Params) (n : String) (t : Nat) : DictEntry := ⟨PyData.keyHash P n, .str n t, .type n⟩
noncomputable def di (es : Array DictEntry) (n : Nat) : Obj := { cls := .type "dict", data := .dict es n }
noncomputable def co (n q : PySem.Str) (t : Nat) (l a d : Int) (v : Nat) (b : Bool) (k : Int) (c : Nat) (x y z w : Value) (u : Nat) : Obj := { cls := .type "code", data := .fields #[.str n t, .str q (t + 1), .str "/claim/cut.py" (t + 2), .int l 0, .int a 0, .int 0 0, .int 0 0, .int d 0, .ref v, .bool b, .int k 0, .ref c, x, y, z, w, .int u 0, .int l 0, .str "/claim/cut.py" (u + 1)] }
noncomputable def fg (n q : PySem.Str) (k j g : Nat) (m c : Value) : Data := .func { name := n, qualname := q, params := fPar (fAt k j), body := .stmts (fBody (fAt k j)), scope := fScope (fAt k j), globals := g, closure := [], defaults := .none, kwdefaults := .none, doc := .none, pyModule := m, annotations := none, code := c, closureTuple := .none, builtins := 0 }
noncomputable def fn (n q : PySem.Str) (k j : Nat) : Obj := { cls := .none, data := fg n q k j 0 .none .none }
noncomputable def ff (n q : PySem.Str) (k j : Nat) (m : PySem.Str) (t c : Nat) : Obj := { cls := .type "function", data := fg n q k j 3 (.str m t) (.ref c) }
noncomputable def ty (n : PySem.Str) (b m : List Value) (s : Nat) (c : List Value) (l : Array (Option Value)) : Obj := { cls := .type "type", data := .cls { name := n, bases := b, mro := m, ns := s, qualname := n, hasDict := true, slotNames := [], subclasses := c, abstract := false, collection := none, hasDel := false }, slots := l }
noncomputable def gs (t k : Nat) : Obj := { cls := .type "getset_descriptor", data := .fields #[.str "__dict__" t, .ref k, .builtin "function.__dict__", .builtin "function.__dict__#set"] }
noncomputable def bm : Obj := { cls := .type "builtin_function_or_method", data := .fields #[.builtin "type.__prepare__", .type "type"] }
noncomputable def su (k : Nat) : Obj := { cls := .type "super", data := .fields #[.ref k, .ref k, .ref k] }
noncomputable def fm (c l : Nat) (m : PySem.Str) (t : Nat) : Obj := { cls := .type "frame", slots := #[some (.ref c), some (.ref 3), some (.ref l), none, some (.str m t), none, some (.ref 0)] }
noncomputable def ib (k : Nat) : Obj := { cls := .type "builtin_function_or_method", data := .fields #[.builtin "object.__init_subclass__", .ref k] }
noncomputable def gw (t k : Nat) : Obj := { cls := .type "getset_descriptor", data := .fields #[.str "__weakref__" t, .ref k, .builtin "ExceptionGroup.__weakref__", .none] }
noncomputable def cf (n q : PySem.Str) (t : Nat) (l a d : Int) (v u : Nat) : Obj := co n q t l a d v true 181 (v + 1) .none (.ref (v + 2)) (.ref (v + 3)) (.ref (v + 4)) u
noncomputable def cn (n : PySem.Str) (t : Nat) (l : Int) (v u : Nat) : Obj := co n n t l 0 0 v false 181 (v + 1) .none .none .none .none u
noncomputable def fC (n q : PySem.Str) (k j c : Nat) : Obj := ff n q k j "scheme.core" 194 c
noncomputable def fD (n q : PySem.Str) (k j c : Nat) : Obj := ff n q k j "scheme.data" 769 c
noncomputable def fL (n q : PySem.Str) (k j c : Nat) : Obj := ff n q k j "law_nt0185_01" 1962 c
noncomputable def tq (n : PySem.Str) (s x a b : Nat) : Obj := ty n [.ref 45] [.ref s, .ref 45, .type "object"] (s - 1) [] #[some (.ref x), none, some (.str n a), some (.str n b), some (.builtin "object.__new__"), some βT]
noncomputable def td (n : PySem.Str) (s : Nat) (c : List Value) (a b : Nat) : Obj := ty n [.type "object"] [.ref s, .type "object"] (s - 1) c #[none, none, some (.str n a), some (.str n b), some (.builtin "object.__new__"), some βT]
section
variable (P : Params)
noncomputable def o3 := di #[de P "__name__" 165 (.str "law_nt0185_01" 1962), de P "__doc__" 166 .none, de P "__package__" 167 .none, de P "__loader__" 168 (.builtin "__main__.__loader__#opaque"), de P "__spec__" 169 .none, dr P "__annotations__" 170 6, dr P "__builtins__" 171 4, de P "__file__" 173 (.str "/claim/cut.py" 172), de P "__cached__" 174 .none, dr P "_wall" 193 21, de P "CONST" 197 (.int 0 196), de P "LOCAL" 199 (.int 1 198), de P "GLOBAL" 201 (.int 2 200), de P "SET_LOCAL" 203 (.int 3 202), de P "SET_GLOBAL" 205 (.int 4 204), de P "DEFINE" 207 (.int 5 206), de P "IF" 209 (.int 6 208), de P "LAMBDA" 211 (.int 7 210), de P "CALL" 213 (.int 8 212), de P "SEQ" 215 (.int 9 214), de P "PRIM" 217 (.int 10 216), de P "FIX" 219 (.int 11 218), dr P "Node" 257 45, dr P "Const" 283 66, dr P "Local" 309 85, dr P "Global" 335 104, dr P "SetLocal" 378 137, dr P "SetGlobal" 421 170, dr P "Define" 464 203, dr P "If" 509 236, dr P "Lambda" 571 283, dr P "Call" 614 316, dr P "Seq" 655 349, dr P "Prim" 698 382, dr P "Fix" 743 415, dr P "are_same_list" 752 424, dr P "rebuilt" 768 431, dr P "Special" 799 448, dr P "EMPTY" 805 454, dr P "UNSPECIFIED" 811 457, dr P "EOF" 817 460, dr P "Symbol" 848 478, dr P "Pair" 879 499, dr P "Char" 908 520, dr P "Text" 937 541, dr P "Vector" 966 562, dr P "Box" 995 583, dr P "Promise" 1026 604, dr P "PortRef" 1055 625, dr P "Procedure" 1084 646, dr P "kind_word" 1091 657, dr P "ATOMS" 1100 658, dr P "is_atom" 1107 665, dr P "PRIM_ROWS" 1898 858, dr P "op_of" 1907 865, dr P "effects_of" 1914 872, de P "NO_EFFECT" 1918 (.int 2 1917), dr P "Folding" 1953 894, dr P "folded" 1961 905, dr P "_law_draw" 1972 912, dr P "_law_deck_of" 1978 917, dr P "_law_one" 1986 924, dr P "_law_new" 1994 931, dr P "_law_words" 2000 938, dr P "_law_is_plain" 2007 945, dr P "_law_fold" 2016 952, dr P "_law_plain" 2025 959, dr P "_law_node_of" 2031 964, dr P "_law_told" 2037 969, dr P "_law_due_of" 2043 974, dr P "law" 2049 979] 71
noncomputable def o12 := fi [.int 1 0, .int 0 0, .ref 20, .int 17 0, .int 0 0, .ref 27, .int 25 0, .int 0 0, .ref 55, .int 30 0, .int 0 0, .ref 74, .int 35 0, .int 0 0, .ref 93, .int 40 0, .int 0 0, .ref 112, .int 52 0, .int 0 0, .ref 145, .int 64 0, .int 0 0, .ref 178, .int 76 0, .int 0 0, .ref 211, .int 89 0, .int 0 0, .ref 244, .int 109 0, .int 0 0, .ref 291, .int 121 0, .int 0 0, .ref 324, .int 132 0, .int 0 0, .ref 357, .int 144 0, .int 0 0, .ref 390, .int 157 0, .int 0 0, .ref 423, .int 164 0, .int 0 0, .ref 430, .int 183 0, .int 0 0, .ref 437, .int 190 0, .int 0 0, .ref 467, .int 195 0, .int 0 0, .ref 488, .int 200 0, .int 0 0, .ref 509, .int 204 0, .int 0 0, .ref 530, .int 208 0, .int 0 0, .ref 551, .int 212 0, .int 0 0, .ref 572, .int 216 0, .int 0 0, .ref 593, .int 221 0, .int 0 0, .ref 614, .int 225 0, .int 0 0, .ref 635, .int 229 0, .int 0 0, .ref 656, .int 253 0, .int 0 0, .ref 664, .int 257 0, .int 0 0, .ref 864, .int 262 0, .int 0 0, .ref 871, .int 266 0, .int 0 0, .ref 878, .int 279 0, .int 0 0, .ref 904, .int 282 0, .int 0 0, .ref 911, .int 290 0, .int 0 0, .ref 916, .int 292 0, .int 0 0, .ref 923, .int 294 0, .int 0 0, .ref 930, .int 297 0, .int 0 0, .ref 937, .int 299 0, .int 0 0, .ref 944, .int 301 0, .int 0 0, .ref 951, .int 314 0, .int 0 0, .ref 958, .int 323 0, .int 0 0, .ref 963, .int 343 0, .int 0 0, .ref 968, .int 358 0, .int 0 0, .ref 973, .int 367 0, .int 0 0, .ref 978]
end
noncomputable def nl (o : Obj) : BT := .node o .nil .nil
noncomputable def bt (P : Params) : BT := .node (di #[de P "__name__" 1 (.str "builtins" 160), de P "__doc__" 2 (.builtin "builtins.__doc__:str#opaque"), de P "__package__" 3 (.builtin "builtins.__package__:str#opaque"), de P "__loader__" 4 (.builtin "builtins.__loader__:shared#opaque"), de P "__spec__" 5 (.builtin "builtins.__spec__#opaque"), db P "__build_class__" 6, db P "__import__" 7, db P "abs" 8, db P "all" 9, db P "any" 10, db P "ascii" 11, db P "bin" 12, db P "breakpoint" 13, db P "callable" 14, db P "chr" 15, db P "compile" 16, db P "delattr" 17, db P "dir" 18, db P "divmod" 19, db P "eval" 20, db P "exec" 21, db P "format" 22, db P "getattr" 23, db P "globals" 24, db P "hasattr" 25, db P "hash" 26, db P "hex" 27, db P "id" 28, db P "input" 29, db P "isinstance" 30, db P "issubclass" 31, db P "iter" 32, db P "aiter" 33, db P "len" 34, db P "locals" 35, db P "max" 36, db P "min" 37, db P "next" 38, db P "anext" 39, db P "oct" 40, db P "ord" 41, db P "pow" 42, db P "print" 43, db P "repr" 44, db P "round" 45, db P "setattr" 46, db P "sorted" 47, db P "sum" 48, db P "vars" 49, de P "None" 50 .none, de P "Ellipsis" 51 .ellipsis, de P "NotImplemented" 52 .notImplemented, de P "False" 53 βF, de P "True" 54 βT, dt P "bool" 55, dt P "memoryview" 56, dt P "bytearray" 57, dt P "bytes" 58, dt P "classmethod" 59, dt P "complex" 60, dt P "dict" 61, dt P "enumerate" 62, dt P "filter" 63, dt P "float" 64, dt P "frozenset" 65, dt P "property" 66, dt P "int" 67, dt P "list" 68, dt P "map" 69, dt P "object" 70, dt P "range" 71, dt P "reversed" 72, dt P "set" 73, dt P "slice" 74, dt P "staticmethod" 75, dt P "str" 76, dt P "super" 77, dt P "tuple" 78, dt P "type" 79, dt P "zip" 80, de P "__debug__" 81 βT, dt P "BaseException" 82, dt P "BaseExceptionGroup" 83, dt P "Exception" 84, dt P "GeneratorExit" 85, dt P "KeyboardInterrupt" 86, dt P "SystemExit" 87, dt P "ArithmeticError" 88, dt P "AssertionError" 89, dt P "AttributeError" 90, dt P "BufferError" 91, dt P "EOFError" 92, dt P "ImportError" 93, dt P "LookupError" 94, dt P "MemoryError" 95, dt P "NameError" 96, dt P "OSError" 97, dt P "ReferenceError" 98, dt P "RuntimeError" 99, dt P "StopAsyncIteration" 100, dt P "StopIteration" 101, dt P "SyntaxError" 102, dt P "SystemError" 103, dt P "TypeError" 104, dt P "ValueError" 105, dt P "Warning" 106, dt P "FloatingPointError" 107, dt P "OverflowError" 108, dt P "ZeroDivisionError" 109, dt P "BytesWarning" 110, dt P "DeprecationWarning" 111, dt P "EncodingWarning" 112, dt P "FutureWarning" 113, dt P "ImportWarning" 114, dt P "PendingDeprecationWarning" 115, dt P "ResourceWarning" 116, dt P "RuntimeWarning" 117, dt P "SyntaxWarning" 118, dt P "UnicodeWarning" 119, dt P "UserWarning" 120, dt P "BlockingIOError" 121, dt P "ChildProcessError" 122, dt P "ConnectionError" 123, dt P "FileExistsError" 124, dt P "FileNotFoundError" 125, dt P "InterruptedError" 126, dt P "IsADirectoryError" 127, dt P "NotADirectoryError" 128, dt P "PermissionError" 129, dt P "ProcessLookupError" 130, dt P "TimeoutError" 131, dt P "IndentationError" 132, dt P "_IncompleteInputError" 133, dt P "IndexError" 134, dt P "KeyError" 135, dt P "ModuleNotFoundError" 136, dt P "NotImplementedError" 137, dt P "PythonFinalizationError" 138, dt P "RecursionError" 139, dt P "UnboundLocalError" 140, dt P "UnicodeError" 141, dt P "BrokenPipeError" 142, dt P "ConnectionAbortedError" 143, dt P "ConnectionRefusedError" 144, dt P "ConnectionResetError" 145, dt P "TabError" 146, dt P "UnicodeDecodeError" 147, dt P "UnicodeEncodeError" 148, dt P "UnicodeTranslateError" 149, dt P "ExceptionGroup" 150, de P "EnvironmentError" 151 (.type "OSError"), de P "IOError" 152 (.type "OSError"), db P "open" 153, de P "quit" 154 (.builtin "builtins.quit#opaque"), de P "exit" 155 (.builtin "builtins.exit#opaque"), de P "copyright" 156 (.builtin "builtins.copyright#opaque"), de P "credits" 157 (.builtin "builtins.credits#opaque"), de P "license" 158 (.builtin "builtins.license#opaque"), de P "help" 159 (.builtin "builtins.help#opaque")] 159) (.node (di #[dr P "builtins" 162 4, dr P "__main__" 163 5] 2) (.node (o3 P) (.node (tp []) (.node (tp []) (.node (tp [.str "self" 238]) (.node (fC "__init__" "Const.__init__" 15 1 62) (.node (fC "parts" "SetLocal.parts" 18 2 126) (.node (tp [.str "self" 537]) (nl (tp [])) (nl (tr "round" 1531 1 1 1))) (.node (su 382) (nl (tp [.str "self" 1071, .str "title" 1072])) (nl (gs 1947 894)))) (.node (fn "parts" "Define.parts" 20 2) (.node (tp [.ref 45]) (nl (fi [])) (nl (tr "current-output-port" 1789 0 0 2))) (.node (di #[de P "__module__" 778 (.str "scheme.data" 769), de P "__firstlineno__" 782 (.int 183 781), dr P "__init__" 790 445, dr P "__static_attributes__" 792 446, dr P "__dict__" 794 449, dr P "__weakref__" 796 450, de P "__doc__" 797 .none] 4) (nl (tr "cdaaar" 1258 1 1 1)) (nl (fL "_law_plain" "_law_plain" 63 0 958))))) (.node (tp []) (.node (cf "parts" "SetGlobal.parts" 401 59 1 3 154 405) (.node bm (nl (gw 933 541)) (nl (tr "char-upcase" 1659 1 1 1))) (.node (tq "Fix" 415 385 699 707) (nl (tr "eqv?" 1130 2 2 0)) (nl (tp [.str "_law_state" 1990, .str "_law_at" 1991])))) (.node (tp []) (.node (ib 349) (nl (su 604)) (nl (fn "op_of" "op_of" 49 0))) (.node (gs 842 478) (nl (tr "real?" 1390 1 1 0)) .nil)))) (.node (gw 253 45) (.node (tp []) (.node (tp []) (.node (fn "binders" "Lambda.binders" 22 4) (nl (di #[de P "__module__" 916 (.str "scheme.data" 769), de P "__qualname__" 918 (.str "Text" 917), de P "__firstlineno__" 920 (.int 204 919), dr P "__init__" 928 538, dr P "__static_attributes__" 930 539] 5)) (nl (tr "char?" 1595 1 1 0))) (.node (tp []) (nl (fn "kind_word" "kind_word" 43 0)) (nl (cf "_law_draw" "_law_draw" 1964 282 2 3 906 1970)))) (.node bm (.node (tp [.str "self" 639]) (nl (tp [])) (nl (tr "display" 1853 1 2 2))) (.node bm (nl (tr "memq" 1325 2 2 1)) (nl (tp []))))) (.node (fi [.int 43 0, .int 4 0, .ref 119, .int 47 0, .int 4 0, .ref 126, .int 50 0, .int 4 0, .ref 133]) (.node (di #[de P "__module__" 429 (.str "scheme.core" 194), de P "__qualname__" 431 (.str "Define" 430), de P "__firstlineno__" 433 (.int 64 432), de P "kind" 434 (.int 5 206), dr P "__init__" 443 186, dr P "parts" 450 193, dr P "with_parts" 458 200, dr P "__static_attributes__" 461 201] 8) (.node (tp []) (nl (fD "__init__" "Vector.__init__" 38 0 558)) (nl (tr "string<=?" 1724 2 2 1))) (.node (fC "rebuilt" "rebuilt" 28 0 430) (nl (tr "caaar" 1194 1 1 1)) (nl (fn "_law_is_plain" "_law_is_plain" 61 0)))) (.node (tp [.ref 45]) (.node (fi []) (nl (tp [.str "number" 1047])) (nl (fm 878 875 "scheme.folding" 1915))) (.node (cf "__init__" "Pair.__init__" 861 197 3 3 490 867) (nl (ts "min" 1460 1 (-1) 1)) .nil))))) (.node bm (.node (tp []) (.node (di #[de P "__module__" 291 (.str "scheme.core" 194), de P "__qualname__" 293 (.str "Local" 292), de P "__firstlineno__" 295 (.int 30 294), de P "kind" 296 (.int 1 198), dr P "__init__" 304 82, dr P "__static_attributes__" 306 83] 6) (.node (tp [.str "number" 373, .str "value" 374]) (.node (tp []) (nl (di #[de P "__module__" 887 (.str "scheme.data" 769), de P "__firstlineno__" 891 (.int 200 890), dr P "__init__" 899 517, dr P "__static_attributes__" 901 518, dr P "__dict__" 903 521, dr P "__weakref__" 905 522, de P "__doc__" 906 .none] 4)) (nl (tr "acos" 1563 1 1 1))) (.node (fm 390 387 "scheme.core" 194) (nl (gs 1078 646)) (nl (fn "folded" "folded" 54 0)))) (.node (cf "with_parts" "Define.with_parts" 451 74 2 3 194 456) (.node (fi []) (nl (td "Box" 583 [] 967 975)) (nl (tr "close-input-port" 1821 1 1 2))) (.node ({ cls := .type "frame", data := .dict #[⟨PyData.keyHash P "self", .str "self" 801, .ref 454⟩, ⟨PyData.keyHash P "title", .str "title" 802, .str "empty" 800⟩] 2 }) (nl (tr "list?" 1290 1 1 1)) (nl (fn "_law_told" "_law_told" 65 0))))) (.node (di #[de P "__module__" 317 (.str "scheme.core" 194), de P "__firstlineno__" 321 (.int 35 320), de P "kind" 322 (.int 2 200), dr P "__init__" 330 101, dr P "__static_attributes__" 332 102, de P "__doc__" 333 .none] 2) (.node (fC "with_parts" "SetGlobal.with_parts" 19 3 166) (.node (tp [.str "self" 588, .str "operator" 589, .str "operands" 590]) (nl (cn "Vector" 940 208 549 943)) (nl (tr "make-string" 1691 1 2 1))) (.node (cf "are_same_list" "are_same_list" 744 157 2 3 418 750) (nl (tr "set-car!" 1162 2 2 2)) (nl (tp [])))) (.node (fn "with_parts" "If.with_parts" 21 3) (.node (tp []) (nl (fm 614 611 "scheme.data" 769)) (nl (cf "effects_of" "effects_of" 1908 262 1 3 866 1912))) (.node (fi [.int 197 0, .int 4 0, .ref 495]) (nl (ts "<=" 1425 2 (-1) 1)) .nil)))) (.node (cn "Const" 260 25 53 263) (.node (ib 85) (.node (fn "__init__" "SetGlobal.__init__" 19 1) (.node (cf "takes" "Lambda.takes" 556 107 2 3 274 561) (nl (tp [])) (nl (tr "char-ci>?" 1627 2 2 1))) (.node (fi []) (nl (fn "is_atom" "is_atom" 46 0)) (nl (fi [])))) (.node (tp [.str "self" 481, .str "test" 482, .str "yes" 483, .str "no" 484]) (.node (tp []) (nl (fn "__init__" "Promise.__init__" 40 0)) (nl (tr "%promise-content" 1886 1 1 1))) (.node (tp [.str "self" 833, .str "number" 834, .str "text" 835]) (nl (tr "vector-ref" 1358 2 2 1)) .nil))) (.node (cf "__init__" "SetLocal.__init__" 349 43 3 3 114 355) (.node (tp []) (.node (fn "with_parts" "Call.with_parts" 23 3) (nl (tp [])) (nl (ts "string-append" 1756 0 (-1) 1))) (.node (tp []) (nl (tr "caaaar" 1226 1 1 1)) (nl (cf "_law_fold" "_law_fold" 2008 301 2 3 946 2014)))) (.node (fi []) (.node (tp [.str "self" 688, .str "parts" 689]) (nl bm) (nl (tp []))) (.node (ib 499) (nl (tr "modulo" 1497 2 2 1)) .nil)))))) (.node (tp []) (.node (fn "_wall" "_wall" 0 0) (.node (fC "parts" "Node.parts" 14 1 34) (.node (su 66) (.node (tp []) (.node (fC "parts" "Lambda.parts" 22 2 258) (nl (fn "__init__" "Char.__init__" 36 0)) (nl (tr "cos" 1547 1 1 1))) (.node (di #[de P "__module__" 706 (.str "scheme.core" 194), de P "__qualname__" 708 (.str "Fix" 707), de P "__firstlineno__" 710 (.int 144 709), de P "kind" 711 (.int 11 218), dr P "__init__" 721 398, dr P "parts" 728 405, dr P "with_parts" 736 412, dr P "__static_attributes__" 740 413] 8) (nl (fD "__init__" "Procedure.__init__" 42 0 642)) (nl (tp [])))) (.node (fi []) (.node (fi [.int 124 0, .int 4 0, .ref 331, .int 127 0, .int 4 0, .ref 338, .int 130 0, .int 4 0, .ref 345]) (nl (cf "__init__" "Box.__init__" 979 214 2 3 574 984)) (nl (tr "open-output-file" 1805 1 1 2))) (.node (su 448) (nl (tr "cddaar" 1274 1 1 1)) (nl (co "_law_node_of" "_law_node_of" 2026 323 4 3 960 true 181 961 .none .none .none (.ref 962) 2029))))) (.node (fn "__init__" "Global.__init__" 17 1) (.node (tp [.str "self" 411, .str "parts" 412]) (.node (cn "Call" 574 109 289 577) (nl bm) (nl (tr "symbol?" 1675 1 1 0))) (.node (fi []) (nl (tr "cons" 1146 2 2 0)) (nl (fL "_law_new" "_law_new" 59 0 930)))) (.node (tp []) (.node (tp []) (nl (di #[de P "__module__" 1034 (.str "scheme.data" 769), de P "__qualname__" 1036 (.str "PortRef" 1035), de P "__firstlineno__" 1038 (.int 221 1037), dr P "__init__" 1046 622, dr P "__static_attributes__" 1048 623] 5)) (nl (fi []))) (.node (tp []) (nl (tr "inexact?" 1406 1 1 1)) .nil)))) (.node bm (.node (tp [.str "number" 305]) (.node (tp []) (.node (fi []) (nl (fm 530 527 "scheme.data" 769)) (nl (tr "char<=?" 1611 2 2 1))) (.node (fn "parts" "Fix.parts" 26 2) (nl (tp [])) (nl (fn "_law_deck_of" "_law_deck_of" 57 0)))) (.node (cn "If" 467 76 209 470) (.node (fC "parts" "Seq.parts" 24 2 338) (nl (tp [])) (nl (ts "error" 1869 1 (-1) 2))) (.node (cn "Symbol" 820 190 465 823) (nl (tr "vector?" 1341 1 1 0)) (nl (fL "law" "law" 67 0 978))))) (.node (fi []) (.node (fm 178 175 "scheme.core" 194) (.node (tp []) (nl (gs 960 562)) (nl (tr "string-ci>?" 1740 2 2 1))) (.node (tp []) (nl (tr "cdaar" 1210 1 1 1)) (nl (fi [])))) (.node (fi [.int 92 0, .int 4 0, .ref 251, .int 98 0, .int 4 0, .ref 258, .int 101 0, .int 4 0, .ref 265, .int 104 0, .int 4 0, .ref 272, .int 107 0, .int 4 0, .ref 279]) (.node (cf "parts" "Prim.parts" 678 139 1 3 366 682) (nl (gw 1051 625)) (nl (tp []))) (.node (td "Pair" 499 [] 849 857) (nl (ts "/" 1480 1 (-1) 1)) .nil))))) (.node (cn "Node" 222 17 25 225) (.node (tp []) (.node (fm 74 71 "scheme.core" 194) (.node (ib 137) (.node (tp []) (nl (su 520)) (nl (tr "exact->inexact" 1579 1 1 1))) (.node (tp []) (nl (tp [])) (nl (fi [])))) (.node (tq "Define" 203 173 422 430) (.node (cf "__init__" "Seq.__init__" 628 124 2 3 326 633) (nl (ib 583)) (nl (tr "peek-char" 1837 0 1 2))) (.node (di #[de P "title" 816 (.str "eof" 812)] 1) (nl (ts "%append" 1308 0 (-1) 1)) (nl (fi []))))) (.node (tp [.ref 45]) (.node (su 170) (.node (fC "__init__" "Call.__init__" 23 1 298) (nl (tp [.str "self" 953, .str "things" 954])) (nl (tr "string-set!" 1708 3 3 2))) (.node (tp [.str "node" 756, .str "change" 757, .str "done" 758, .str "waiting" 759, .str "here" 760, .str "is_left" 761, .str "parts" 762, .str "part" 763, .str "first" 764, .str "fresh" 765]) (nl (tr "caar" 1178 1 1 1)) (nl (tp [])))) (.node (di #[de P "__module__" 472 (.str "scheme.core" 194), de P "__firstlineno__" 476 (.int 76 475), de P "kind" 477 (.int 6 208), dr P "__init__" 487 219, dr P "parts" 494 226, dr P "with_parts" 502 233, dr P "__static_attributes__" 506 234, de P "__doc__" 507 .none] 2) (.node (fn "__init__" "Prim.__init__" 25 1) (nl (tp [])) (nl (di #[de P "__module__" 1926 (.str "scheme.folding" 1915), de P "__qualname__" 1928 (.str "Folding" 1927), de P "__firstlineno__" 1930 (.int 266 1929), dr P "__init__" 1938 886, dr P "turned" 1944 891, dr P "__static_attributes__" 1946 892] 6))) (.node (fi []) (nl (tr "negative?" 1443 1 1 1)) .nil)))) (.node (tp [.str "self" 274, .str "value" 275]) (.node (tp []) (.node (fi []) (.node (tq "Lambda" 283 239 510 518) (nl (tp [.str "codes" 929])) (nl (tr "char-numeric?" 1643 1 1 1))) (.node (cf "with_parts" "Fix.with_parts" 729 155 2 3 406 734) (nl (tr "%unbox" 1114 1 1 2)) (nl (cf "_law_one" "_law_one" 1979 292 2 3 918 1984)))) (.node (fC "__init__" "If.__init__" 21 1 218) (.node (tp [.str "items" 651]) (nl (di #[de P "__module__" 1003 (.str "scheme.data" 769), de P "__firstlineno__" 1007 (.int 216 1006), dr P "__init__" 1016 601, dr P "__static_attributes__" 1019 602, dr P "__dict__" 1021 605, dr P "__weakref__" 1023 606, de P "__doc__" 1024 .none] 4)) (nl (tp []))) (.node (fD "__init__" "Symbol.__init__" 34 0 474) (nl (tr "%list->vector" 1374 1 1 1)) .nil))) (.node (tp [.str "self" 361]) (.node (tp []) (.node (di #[de P "__module__" 579 (.str "scheme.core" 194), de P "__firstlineno__" 583 (.int 109 582), de P "kind" 584 (.int 8 212), dr P "__init__" 593 299, dr P "parts" 600 306, dr P "with_parts" 608 313, dr P "__static_attributes__" 611 314, de P "__doc__" 612 .none] 2) (nl (fi [.int 214 0, .int 4 0, .ref 579])) (nl (tr "string-fill!" 1773 2 2 2))) (.node (fn "__init__" "Special.__init__" 30 0) (nl (tr "cadaar" 1242 1 1 1)) (nl (tp [.str "_law_value" 2020, .str "_law_special" 2021, .str "_law_text" 2022])))) (.node (cf "__init__" "Lambda.__init__" 523 92 5 3 246 531) (.node (fC "with_parts" "Prim.with_parts" 25 3 378) (nl (cn "Procedure" 1058 225 633 1061)) (nl (ff "turned" "Folding.turned" 53 1 "scheme.folding" 1915 890))) (.node (tp []) (nl (tr "denominator" 1515 1 1 1)) .nil))))))) (.node ({ cls := .type "module", dict := some 3 }) (.node (co "<module>" "<module>" 176 1 0 0 7 false 175 8 .none .none .none .none 179) (.node (tp [.str "k" 190]) (.node (fn "parts" "Node.parts" 14 1) (.node (di #[de P "__module__" 265 (.str "scheme.core" 194), de P "__firstlineno__" 269 (.int 25 268), de P "kind" 270 (.int 0 196), dr P "__init__" 278 63, dr P "__static_attributes__" 280 64, de P "__doc__" 281 .none] 2) (.node (fi []) (.node (fn "parts" "Lambda.parts" 22 2) (nl (tp [.str "self" 895, .str "code" 896])) (nl (tr "exp" 1539 1 1 1))) (.node (tp [.ref 45]) (nl (fn "__init__" "Procedure.__init__" 42 0)) (nl (su 894)))) (.node (fC "parts" "Define.parts" 20 2 192) (.node (di #[de P "__module__" 622 (.str "scheme.core" 194), de P "__qualname__" 624 (.str "Seq" 623), de P "__firstlineno__" 626 (.int 121 625), de P "kind" 627 (.int 9 214), dr P "__init__" 635 332, dr P "parts" 642 339, dr P "with_parts" 650 346, dr P "__static_attributes__" 652 347] 8) (nl (tp [])) (nl (tr "%set-current-output!" 1797 1 1 2))) (.node (gs 793 448) (nl (tr "cdadar" 1266 1 1 1)) (nl (fi []))))) (.node (tp [.str "self" 326, .str "symbol" 327]) (.node (tp []) (.node (tp []) (nl (ib 541)) (nl (tr "char->integer" 1667 1 1 1))) (.node (ib 415) (nl (tr "boolean?" 1138 1 1 0)) (nl (fn "_law_new" "_law_new" 59 0)))) (.node (cf "parts" "If.parts" 488 84 1 3 220 492) (.node bm (nl (tp [])) (nl (ff "op_of" "op_of" 49 0 "scheme.primnames" 1108 864))) (.node (su 478) (nl (tr "integer?" 1398 1 1 0)) .nil)))) (.node (ib 45) (.node (cf "__init__" "Local.__init__" 297 33 2 3 76 302) (.node (cn "SetGlobal" 381 52 143 384) (.node (fC "binders" "Lambda.binders" 22 4 272) (nl (fi [.int 206 0, .int 4 0, .ref 537])) (nl (tr "char<?" 1603 2 2 1))) (.node (tp [.str "self" 725]) (nl (fD "kind_word" "kind_word" 43 0 656)) (nl (tp [])))) (.node (tp []) (.node (fn "parts" "Seq.parts" 24 2) (nl (cn "Promise" 998 216 591 1001)) (nl (tr "write-char" 1861 1 2 2))) (.node (tp []) (nl (tr "assq" 1333 2 2 1)) (nl (fn "law" "law" 67 0))))) (.node (fm 112 109 "scheme.core" 194) (.node (fi [.int 67 0, .int 4 0, .ref 185, .int 71 0, .int 4 0, .ref 192, .int 74 0, .int 4 0, .ref 199]) (.node (cf "parts" "Call.parts" 594 116 1 3 300 598) (nl (di #[de P "__module__" 945 (.str "scheme.data" 769), de P "__firstlineno__" 949 (.int 208 948), dr P "__init__" 957 559, dr P "__static_attributes__" 959 560, dr P "__dict__" 961 563, dr P "__weakref__" 963 564, de P "__doc__" 964 .none] 4)) (nl (tr "string-ci=?" 1732 2 2 1))) (.node bm (nl (tr "cadar" 1202 1 1 1)) (nl (fL "_law_is_plain" "_law_is_plain" 61 0 944)))) (.node (di #[de P "__module__" 517 (.str "scheme.core" 194), de P "__qualname__" 519 (.str "Lambda" 518), de P "__firstlineno__" 521 (.int 89 520), de P "kind" 522 (.int 7 210), dr P "__init__" 533 252, dr P "parts" 540 259, dr P "with_parts" 548 266, dr P "binders" 555 273, dr P "takes" 563 280, dr P "__static_attributes__" 568 281] 10) (.node (tp []) (nl (td "PortRef" 625 [] 1027 1035)) (nl (fi []))) (.node (tp [.str "car" 870, .str "cdr" 871]) (nl (ts "*" 1470 0 (-1) 1)) .nil))))) (.node (tp []) (.node (cf "with_parts" "Node.with_parts" 242 23 2 3 36 247) (.node (fi [.int 33 0, .int 4 0, .ref 81]) (.node (tq "SetLocal" 137 107 336 344) (.node (cf "with_parts" "Lambda.with_parts" 541 101 2 3 260 546) (nl (gs 902 520)) (nl (tr "atan" 1571 1 2 1))) (.node (fi []) (nl (su 646)) (nl (ff "folded" "folded" 54 0 "scheme.folding" 1915 904)))) (.node (tp [.str "symbol" 459, .str "value" 460]) (.node (tp []) (nl (gw 991 583)) (nl (tr "read" 1829 0 1 2))) (.node ({ cls := .ref 448, dict := some 456 }) (nl (tr "length" 1299 1 1 1)) (nl (fL "_law_told" "_law_told" 65 0 968))))) (.node (su 104) (.node (di #[de P "__module__" 386 (.str "scheme.core" 194), de P "__firstlineno__" 390 (.int 52 389), de P "kind" 391 (.int 4 204), dr P "__init__" 400 153, dr P "parts" 407 160, dr P "with_parts" 415 167, dr P "__static_attributes__" 418 168, de P "__doc__" 419 .none] 2) (.node (fn "__init__" "Call.__init__" 23 1) (nl (tp [])) (nl (tr "string-length" 1700 1 1 1))) (.node (tp []) (nl (tr "pair?" 1170 1 1 0)) (nl (cf "_law_words" "_law_words" 1995 297 0 3 932 1998)))) (.node (fC "with_parts" "If.with_parts" 21 3 232) (.node (tp [.str "self" 672, .str "op" 673, .str "operands" 674]) (nl (fi [])) (nl (tp []))) (.node (fm 488 485 "scheme.data" 769) (nl (tr "zero?" 1435 1 1 1)) .nil)))) (.node (tp []) (.node bm (.node (fC "__init__" "SetGlobal.__init__" 19 1 152) (.node (tp [.str "body" 564, .str "label" 565, .str "params" 566, .str "rest" 567]) (nl (cf "__init__" "Text.__init__" 921 206 2 3 532 926)) (nl (tr "char-ci>=?" 1635 2 2 1))) (.node (tp []) (nl (ff "is_atom" "is_atom" 46 0 "scheme.corelike" 1092 664)) (nl (tp [])))) (.node (fn "__init__" "If.__init__" 21 1) (.node (cf "with_parts" "Seq.with_parts" 643 130 2 3 340 648) (nl (fD "__init__" "Promise.__init__" 40 0 600)) (nl (tr "%memv" 1894 2 2 1))) (.node (fn "__init__" "Symbol.__init__" 34 0) (nl (tr "vector->list" 1366 1 1 1)) .nil))) (.node (tp []) (.node (cf "__init__" "Define.__init__" 435 67 3 3 180 441) (.node (fC "with_parts" "Call.with_parts" 23 3 312) (nl (di #[de P "__module__" 974 (.str "scheme.data" 769), de P "__qualname__" 976 (.str "Box" 975), de P "__firstlineno__" 978 (.int 212 977), dr P "__init__" 986 580, dr P "__static_attributes__" 988 581] 5)) (nl (tr "list->string" 1765 1 1 1))) (.node (tp [.str "self" 786, .str "title" 787]) (nl (tr "caadar" 1234 1 1 1)) (nl (tp [])))) (.node (tp []) (.node (fn "with_parts" "Prim.with_parts" 25 3) (nl (tp [])) (nl (fn "turned" "Folding.turned" 53 1))) (.node bm (nl (ts "lcm" 1506 0 (-1) 1)) .nil)))))) (.node (cn "<module>" 182 1 11 185) (.node (ff "_wall" "_wall" 0 0 "__main__" 164 20) (.node (fi []) (.node (tp [.ref 45]) (.node (cf "with_parts" "SetLocal.with_parts" 365 50 2 3 128 370) (.node (fi []) (nl (fD "__init__" "Char.__init__" 36 0 516)) (nl (tr "log" 1555 1 1 1))) (.node (fi [.int 147 0, .int 4 0, .ref 397, .int 152 0, .int 4 0, .ref 404, .int 155 0, .int 4 0, .ref 411]) (nl (di #[de P "__module__" 1063 (.str "scheme.data" 769), de P "__firstlineno__" 1067 (.int 225 1066), dr P "__init__" 1075 643, dr P "__static_attributes__" 1077 644, dr P "__dict__" 1079 647, dr P "__weakref__" 1081 648, de P "__doc__" 1082 .none] 4)) (nl (tp [.str "node" 1957, .str "fold" 1958])))) (.node (tp []) (.node (fm 324 321 "scheme.core" 194) (nl (tp [.str "content" 987])) (nl (tr "open-output-string" 1813 0 0 2))) (.node (di #[de P "title" 804 (.str "empty" 800)] 1) (nl (tr "cdddar" 1282 1 1 1)) (nl (tp []))))) (.node (fC "__init__" "Global.__init__" 17 1 100) (.node (fn "with_parts" "SetGlobal.with_parts" 19 3) (.node (tp []) (nl (tp [])) (nl (tr "string->symbol" 1683 1 1 1))) (.node (tp []) (nl (tr "car" 1154 1 1 1)) (nl (fi [])))) (.node (tp [.str "self" 498, .str "parts" 499]) (.node (cn "Prim" 658 132 355 661) (nl (fi [.int 223 0, .int 4 0, .ref 621])) (nl (tp []))) (.node (di #[de P "__module__" 856 (.str "scheme.data" 769), de P "__qualname__" 858 (.str "Pair" 857), de P "__firstlineno__" 860 (.int 195 859), dr P "__init__" 869 496, dr P "__static_attributes__" 872 497] 5) (nl (ts "<" 1415 2 (-1) 1)) .nil)))) (.node (tp []) (.node (tq "Local" 85 69 284 292) (.node (tp [.str "self" 395, .str "symbol" 396, .str "value" 397]) (.node (tp []) (nl (fi [])) (nl (tr "char-ci=?" 1619 2 2 1))) (.node (fC "parts" "Fix.parts" 26 2 404) (nl (tp [.str "datum" 1104])) (nl (fL "_law_deck_of" "_law_deck_of" 57 0 916)))) (.node (tp []) (.node (fi []) (nl (tp [.str "self" 1011, .str "is_done" 1012, .str "content" 1013])) (nl (tr "%promise?" 1878 1 1 0))) (.node (tp []) (nl (ts "vector" 1349 0 (-1) 0)) .nil))) (.node (tp []) (.node (fi []) (.node (tp [.str "self" 604, .str "parts" 605]) (nl (su 562)) (nl (tr "string-ci>=?" 1748 2 2 1))) (.node (cn "Special" 773 183 435 776) (nl (tr "cddar" 1218 1 1 1)) (nl (tp [])))) (.node (fm 244 241 "scheme.core" 194) (.node (tp []) (nl (ib 625)) (nl (cf "__init__" "Folding.__init__" 1931 268 2 3 880 1936))) (.node (gw 875 499) (nl (tr "quotient" 1489 2 2 1)) .nil))))) (.node (tp []) (.node (ty "Node" [.type "object"] [.ref 45, .type "object"] 44 [.ref 66, .ref 85, .ref 104, .ref 137, .ref 170, .ref 203, .ref 236, .ref 283, .ref 316, .ref 349, .ref 382, .ref 415] #[none, none, some (.str "Node" 220), some (.str "Node" 228), some (.builtin "object.__new__"), some βT]) (.node (fi []) (.node bm (.node (tp [.str "self" 552]) (nl (tp [])) (nl (tr "number->string" 1587 1 2 1))) (.node (cf "__init__" "Fix.__init__" 712 147 4 3 392 719) (nl (tp [.str "datum" 1088])) (nl (tp [])))) (.node (ib 203) (.node (tp []) (nl bm) (nl (tr "eof-object?" 1845 1 1 0))) (.node ({ cls := .type "frame", data := .dict #[⟨PyData.keyHash P "self", .str "self" 813, .ref 460⟩, ⟨PyData.keyHash P "title", .str "title" 814, .str "eof" 812⟩] 2 }) (nl (tr "list-tail" 1317 2 2 1)) (nl (co "_law_due_of" "_law_due_of" 2038 358 1 3 970 true 181 971 .none .none .none (.ref 972) 2041))))) (.node (di #[de P "__module__" 343 (.str "scheme.core" 194), de P "__qualname__" 345 (.str "SetLocal" 344), de P "__firstlineno__" 347 (.int 40 346), de P "kind" 348 (.int 3 202), dr P "__init__" 357 120, dr P "parts" 364 127, dr P "with_parts" 372 134, dr P "__static_attributes__" 375 135] 8) (.node (tp [.ref 45]) (.node (fi []) (nl (fn "__init__" "Vector.__init__" 38 0)) (nl (tr "string<?" 1716 2 2 1))) (.node (fn "rebuilt" "rebuilt" 28 0) (nl (tr "cdar" 1186 1 1 1)) (nl (tp [.str "_law_value" 2004])))) (.node (su 236) (.node (fC "__init__" "Prim.__init__" 25 1 364) (nl (cf "__init__" "PortRef.__init__" 1039 223 2 3 616 1044)) (nl (fi [.int 268 0, .int 4 0, .ref 885, .int 271 0, .int 4 0, .ref 890]))) (.node (tp []) (nl (tr "even?" 1451 1 1 1)) .nil)))) (.node (fn "__init__" "Const.__init__" 15 1) (.node (cn "Global" 312 35 91 315) (.node (tp []) (.node (ib 283) (nl (td "Text" 541 [] 909 917)) (nl (tr "char-upper-case?" 1651 1 1 1))) (.node (tp [.str "body" 737, .str "lambdas" 738, .str "numbers" 739]) (nl (tr "%unassigned?" 1122 1 1 0)) (nl (tp [])))) (.node (fi []) (.node (tq "Seq" 349 319 615 623) (nl (gs 1020 604)) (nl (tp [.str "name" 1902, .str "place" 1903, .str "row" 1904]))) (.node (di #[de P "__module__" 825 (.str "scheme.data" 769), de P "__firstlineno__" 829 (.int 190 828), dr P "__init__" 838 475, dr P "__static_attributes__" 841 476, dr P "__dict__" 843 479, dr P "__weakref__" 845 480, de P "__doc__" 846 .none] 4) (nl (tr "number?" 1382 1 1 0)) .nil))) (.node (fn "parts" "SetLocal.parts" 18 2) (.node (tp [.str "self" 447]) (.node (su 316) (nl (fm 572 569 "scheme.data" 769)) (nl (tr "output-port?" 1781 1 1 0))) (.node (fD "__init__" "Special.__init__" 30 0 444) (nl (tr "caddar" 1250 1 1 1)) (nl (fn "_law_plain" "_law_plain" 63 0)))) (.node (tp []) (.node (di #[de P "__module__" 663 (.str "scheme.core" 194), de P "__firstlineno__" 667 (.int 132 666), de P "kind" 668 (.int 10 216), dr P "__init__" 677 365, dr P "parts" 684 372, dr P "with_parts" 692 379, dr P "__static_attributes__" 695 380, de P "__doc__" 696 .none] 2) (nl (tp [])) (nl (di #[de P "__module__" 1926 (.str "scheme.folding" 1915), de P "__firstlineno__" 1930 (.int 266 1929), dr P "__init__" 1938 886, dr P "turned" 1944 891, dr P "__static_attributes__" 1946 892, dr P "__dict__" 1948 895, dr P "__weakref__" 1950 896, de P "__doc__" 1951 .none] 4))) (.node (cn "Char" 882 200 507 885) (nl (tr "ceiling" 1523 1 1 1)) .nil)))))))) (.node ({ cls := .none, data := .dict #[] 0 }) (.node ({ cls := .type "module", dict := some 0 }) (.node (fi []) (.node (fi []) (.node (tp []) (.node (tp [.str "value" 279]) (.node (tp []) (.node (tp []) (nl (fi [])) (nl (tr "rationalize" 1535 2 2 1))) (.node (ib 382) (nl (tp [])) (nl (gw 1949 894)))) (.node (cf "parts" "Define.parts" 444 71 1 3 187 448) (.node bm (nl (tp [.str "self" 982, .str "content" 983])) (nl (tr "%set-current-input!" 1793 1 1 2))) (.node (td "Special" 448 [] 771 779) (nl (tr "cdaadr" 1262 1 1 1)) (nl (tp []))))) (.node (fi []) (.node (fC "parts" "SetGlobal.parts" 19 2 159) (.node (di #[de P "__module__" 579 (.str "scheme.core" 194), de P "__qualname__" 581 (.str "Call" 580), de P "__firstlineno__" 583 (.int 109 582), de P "kind" 584 (.int 8 212), dr P "__init__" 593 299, dr P "parts" 600 306, dr P "with_parts" 608 313, dr P "__static_attributes__" 611 314] 8) (nl (su 541)) (nl (tr "char-downcase" 1663 1 1 1))) (.node (su 415) (nl (tr "equal?" 1134 2 2 1)) (nl (tp [])))) (.node (fn "parts" "If.parts" 21 2) (.node (tp [.ref 45]) (nl (ib 604)) (nl (cf "op_of" "op_of" 1899 257 1 3 859 1905))) (.node (gw 844 478) (nl (tr "rational?" 1394 1 1 0)) .nil)))) (.node (su 45) (.node (fn "__init__" "Local.__init__" 16 1) (.node (fi [.int 55 0, .int 4 0, .ref 152, .int 59 0, .int 4 0, .ref 159, .int 62 0, .int 4 0, .ref 166]) (.node (cf "binders" "Lambda.binders" 549 104 1 3 267 553) (nl (tp [])) (nl (tr "char=?" 1599 2 2 1))) (.node (fi []) (nl (cf "kind_word" "kind_word" 1085 229 1 3 651 1089)) (nl (fL "_law_draw" "_law_draw" 56 0 911)))) (.node (di #[de P "__module__" 472 (.str "scheme.core" 194), de P "__qualname__" 474 (.str "If" 473), de P "__firstlineno__" 476 (.int 76 475), de P "kind" 477 (.int 6 208), dr P "__init__" 487 219, dr P "parts" 494 226, dr P "with_parts" 502 233, dr P "__static_attributes__" 506 234] 8) (.node (tp []) (nl (fi [.int 218 0, .int 4 0, .ref 600])) (nl (tr "newline" 1857 0 1 2))) (.node (di #[de P "__module__" 825 (.str "scheme.data" 769), de P "__qualname__" 827 (.str "Symbol" 826), de P "__firstlineno__" 829 (.int 190 828), dr P "__init__" 838 475, dr P "__static_attributes__" 841 476] 5) (nl (tr "memv" 1329 2 2 1)) (nl (fi []))))) (.node (cn "SetLocal" 338 40 110 341) (.node (tp []) (.node (fn "parts" "Call.parts" 23 2) (nl (tp [.str "things" 958])) (nl (tr "string>=?" 1728 2 2 1))) (.node (tp []) (nl (tr "caadr" 1198 1 1 1)) (nl (cf "_law_is_plain" "_law_is_plain" 2001 299 1 3 939 2005)))) (.node bm (.node (tp [.str "self" 681]) (nl (di #[de P "__module__" 1034 (.str "scheme.data" 769), de P "__firstlineno__" 1038 (.int 221 1037), dr P "__init__" 1046 622, dr P "__static_attributes__" 1048 623, dr P "__dict__" 1050 626, dr P "__weakref__" 1052 627, de P "__doc__" 1053 .none] 4)) (nl (tp []))) (.node (fD "__init__" "Pair.__init__" 35 0 495) (nl (ts "+" 1465 0 (-1) 1)) .nil))))) (.node (di #[de P "__module__" 227 (.str "scheme.core" 194), de P "__qualname__" 229 (.str "Node" 228), de P "__firstlineno__" 231 (.int 17 230), de P "kind" 234 (.int (-1) 233), dr P "parts" 241 35, dr P "with_parts" 249 42, dr P "__static_attributes__" 250 43] 7) (.node (fn "with_parts" "Node.with_parts" 14 2) (.node (tp []) (.node (di #[de P "__module__" 343 (.str "scheme.core" 194), de P "__firstlineno__" 347 (.int 40 346), de P "kind" 348 (.int 3 202), dr P "__init__" 357 120, dr P "parts" 364 127, dr P "with_parts" 372 134, dr P "__static_attributes__" 375 135, de P "__doc__" 376 .none] 2) (.node (fn "with_parts" "Lambda.with_parts" 22 3) (nl (td "Char" 520 [] 880 888)) (nl (tr "sqrt" 1567 1 1 1))) (.node (tp []) (nl (gw 1080 646)) (nl (cf "folded" "folded" 1954 279 2 3 899 1959)))) (.node (fC "with_parts" "Define.with_parts" 20 3 199) (.node (tp [.str "self" 631, .str "items" 632]) (nl (gs 989 583)) (nl (tr "close-output-port" 1825 1 1 2))) (.node (di #[de P "title" 810 (.str "unspecified" 806)] 1) (nl (ts "list" 1294 0 (-1) 0)) (nl (co "_law_told" "_law_told" 2032 343 1 3 965 true 181 966 .none .none .none (.ref 967) 2035))))) (.node (tq "Global" 104 88 310 318) (.node (tp [.str "symbol" 416, .str "value" 417]) (.node (tp []) (nl (fm 551 548 "scheme.data" 769)) (nl (ts "string" 1695 0 (-1) 1))) (.node (fC "are_same_list" "are_same_list" 27 0 423) (nl (tr "set-cdr!" 1166 2 2 2)) (nl (fn "_law_words" "_law_words" 60 0)))) (.node (cf "with_parts" "If.with_parts" 495 87 2 3 227 500) (.node (fi []) (nl (tp [])) (nl (ff "effects_of" "effects_of" 50 0 "scheme.primnames" 1108 871))) (.node (cn "Pair" 851 195 486 854) (nl (ts ">=" 1430 2 (-1) 1)) .nil)))) (.node (fm 55 52 "scheme.core" 194) (.node (tp [.ref 45]) (.node (cf "__init__" "SetGlobal.__init__" 392 55 3 3 147 398) (.node (fC "takes" "Lambda.takes" 22 5 279) (nl (fn "__init__" "Text.__init__" 37 0)) (nl (tr "char-ci<=?" 1631 2 2 1))) (.node (tp [.str "self" 732, .str "parts" 733]) (nl (cf "is_atom" "is_atom" 1101 253 1 3 659 1105)) (nl (tp [.str "_law_deck" 1982, .str "_law_items" 1983])))) (.node (tp []) (.node (fn "with_parts" "Seq.with_parts" 24 3) (nl (cf "__init__" "Promise.__init__" 1008 218 3 3 595 1014)) (nl (tr "%settle!" 1890 2 2 2))) (.node (tp []) (nl (tr "vector-set!" 1362 3 3 2)) .nil))) (.node (fC "__init__" "SetLocal.__init__" 18 1 119) (.node (fn "__init__" "Define.__init__" 20 1) (.node (cf "with_parts" "Call.with_parts" 601 119 2 3 307 606) (nl bm) (nl (tr "string->list" 1761 1 1 1))) (.node (fi []) (nl (tr "caaadr" 1230 1 1 1)) (nl (fL "_law_fold" "_law_fold" 62 0 951)))) (.node (tp [.str "self" 526, .str "label" 527, .str "params" 528, .str "rest" 529, .str "body" 530]) (.node (tp []) (nl (di #[de P "__module__" 1063 (.str "scheme.data" 769), de P "__qualname__" 1065 (.str "Procedure" 1064), de P "__firstlineno__" 1067 (.int 225 1066), dr P "__init__" 1075 643, dr P "__static_attributes__" 1077 644] 5)) (nl (fi []))) (.node (tp []) (nl (ts "gcd" 1501 0 (-1) 1)) .nil)))))) (.node o12 (.node (cf "_wall" "_wall" 187 1 1 3 15 191) (.node (tp []) (.node (ib 66) (.node (fn "with_parts" "SetLocal.with_parts" 18 3) (.node (tp []) (nl (cf "__init__" "Char.__init__" 892 202 2 3 511 897)) (nl (tr "tan" 1551 1 1 1))) (.node (tp []) (nl (tp [.str "title" 1076])) (nl (fi [])))) (.node (tp [.str "self" 454, .str "parts" 455]) (.node (cn "Seq" 617 121 322 620) (nl (fD "__init__" "Box.__init__" 39 0 579)) (nl (tr "open-input-string" 1809 1 1 2))) (.node (ib 448) (nl (tr "cddadr" 1278 1 1 1)) (nl (fL "_law_node_of" "_law_node_of" 64 0 963))))) (.node (cf "__init__" "Global.__init__" 323 38 2 3 95 328) (.node (tp []) (.node (fm 291 288 "scheme.core" 194) (nl (di #[de P "__module__" 945 (.str "scheme.data" 769), de P "__qualname__" 947 (.str "Vector" 946), de P "__firstlineno__" 949 (.int 208 948), dr P "__init__" 957 559, dr P "__static_attributes__" 959 560] 5)) (nl (tr "symbol->string" 1679 1 1 1))) (.node (tp [.str "ones" 747, .str "others" 748, .str "at" 749]) (nl (tr "%cons" 1150 2 2 0)) (nl (tp [])))) (.node (fi []) (.node (fi [.int 135 0, .int 4 0, .ref 364, .int 139 0, .int 4 0, .ref 371, .int 142 0, .int 4 0, .ref 378]) (nl (tp [])) (nl (tp [.str "op" 1911]))) (.node bm (nl (ts "=" 1410 2 (-1) 1)) .nil)))) (.node (di #[de P "__module__" 265 (.str "scheme.core" 194), de P "__qualname__" 267 (.str "Const" 266), de P "__firstlineno__" 269 (.int 25 268), de P "kind" 270 (.int 0 196), dr P "__init__" 278 63, dr P "__static_attributes__" 280 64] 6) (.node (di #[de P "__module__" 291 (.str "scheme.core" 194), de P "__firstlineno__" 295 (.int 30 294), de P "kind" 296 (.int 1 198), dr P "__init__" 304 82, dr P "__static_attributes__" 306 83, de P "__doc__" 307 .none] 2) (.node (fi []) (.node (tp [.str "self" 559, .str "many" 560]) (nl (tp [])) (nl (tr "char>=?" 1615 2 2 1))) (.node (cf "parts" "Fix.parts" 722 152 1 3 399 726) (nl (fi [])) (nl (co "_law_deck_of" "_law_deck_of" 1973 290 1 3 913 true 181 914 .none .none .none (.ref 915) 1976)))) (.node (fm 211 208 "scheme.core" 194) (.node (tp []) (nl (fi [])) (nl (tr "%make-promise" 1874 1 1 1))) (.node (fm 467 464 "scheme.data" 769) (nl (tr "make-vector" 1345 1 2 1)) .nil))) (.node (tp [.str "self" 352, .str "number" 353, .str "value" 354]) (.node (tp []) (.node (fi []) (nl (gw 962 562)) (nl (tr "string-ci<=?" 1744 2 2 1))) (.node (fi [.int 185 0, .int 4 0, .ref 444]) (nl (tr "cdadr" 1214 1 1 1)) (nl (tp [.str "_law_op" 2011, .str "_law_values" 2012, .str "_law_word" 2013])))) (.node (cn "Lambda" 512 89 242 515) (.node (fC "parts" "Prim.parts" 25 2 371) (nl (su 625)) (nl (fn "__init__" "Folding.__init__" 53 0))) (.node (gs 873 499) (nl (tr "abs" 1485 1 1 1)) .nil))))) (.node (fm 27 24 "scheme.core" 194) (.node (di #[de P "__module__" 227 (.str "scheme.core" 194), de P "__firstlineno__" 231 (.int 17 230), de P "kind" 234 (.int (-1) 233), dr P "parts" 241 35, dr P "with_parts" 249 42, dr P "__static_attributes__" 250 43, dr P "__dict__" 252 46, dr P "__weakref__" 254 47, de P "__doc__" 255 .none] 4) (.node (tp []) (.node (tp [.ref 45]) (.node (fi []) (nl (ib 520)) (nl (tr "inexact->exact" 1583 1 1 1))) (.node (fn "__init__" "Fix.__init__" 26 1) (nl (fi [])) (nl (tp [.str "_law_deck" 1967, .str "_law_many" 1968, .str "_law_found" 1969])))) (.node (su 203) (.node (fC "__init__" "Seq.__init__" 24 1 331) (nl (tp [])) (nl (tr "char-ready?" 1841 0 1 2))) (.node ({ cls := .ref 448, dict := some 459 }) (nl (tr "reverse" 1313 1 1 1)) (nl (fn "_law_due_of" "_law_due_of" 66 0))))) (.node bm (.node (ib 170) (.node (tp []) (nl (tp [])) (nl (tr "string=?" 1712 2 2 1))) (.node (tp []) (nl (tr "cadr" 1182 1 1 1)) (nl (fi [])))) (.node (tq "If" 236 206 465 473) (.node (cf "__init__" "Prim.__init__" 669 135 3 3 359 675) (nl (fn "__init__" "PortRef.__init__" 41 0)) (nl (tp []))) (.node (tp [.str "self" 864, .str "car" 865, .str "cdr" 866]) (nl (tr "odd?" 1447 1 1 1)) .nil)))) (.node (tp []) (.node (fi [.int 38 0, .int 4 0, .ref 100]) (.node (tp [.str "self" 404]) (.node (su 283) (nl (di #[de P "__module__" 916 (.str "scheme.data" 769), de P "__firstlineno__" 920 (.int 204 919), dr P "__init__" 928 538, dr P "__static_attributes__" 930 539, dr P "__dict__" 932 542, dr P "__weakref__" 934 543, de P "__doc__" 935 .none] 4)) (nl (tr "char-whitespace?" 1647 1 1 1))) (.node (fC "with_parts" "Fix.with_parts" 26 3 411) (nl (tr "%set-box!" 1118 2 2 2)) (nl (fL "_law_one" "_law_one" 58 0 923)))) (.node (tp []) (.node (di #[de P "__module__" 622 (.str "scheme.core" 194), de P "__firstlineno__" 626 (.int 121 625), de P "kind" 627 (.int 9 214), dr P "__init__" 635 332, dr P "parts" 642 339, dr P "with_parts" 650 346, dr P "__static_attributes__" 652 347, de P "__doc__" 653 .none] 2) (nl (td "Promise" 604 [] 996 1004)) (nl (fi []))) (.node (tp [.str "number" 839, .str "text" 840]) (nl (tr "vector-fill!" 1378 2 2 2)) .nil))) (.node (tp []) (.node (fi []) (.node (tq "Call" 316 286 572 580) (nl (cn "Box" 969 212 570 972)) (nl (tr "input-port?" 1777 1 1 0))) (.node (cf "__init__" "Special.__init__" 783 185 2 3 439 788) (nl (tr "cadadr" 1246 1 1 1)) (nl (tp [])))) (.node (fC "__init__" "Lambda.__init__" 22 1 251) (.node (tp [.str "op" 693, .str "operands" 694]) (nl (fm 635 632 "scheme.data" 769)) (nl (tp [.str "fold" 1945]))) (.node (fi [.int 202 0, .int 4 0, .ref 516]) (nl (tr "floor" 1519 1 1 1)) .nil))))))) (.node (di #[] 0) (.node (fm 9 3 "__main__" 164) (.node (tp []) (.node (cf "parts" "Node.parts" 235 20 1 3 29 239) (.node (tq "Const" 66 50 258 266) (.node (tp [.str "self" 368, .str "parts" 369]) (.node (cf "parts" "Lambda.parts" 534 98 1 3 253 538) (nl (tp [])) (nl (tr "sin" 1543 1 1 1))) (.node bm (nl (cf "__init__" "Procedure.__init__" 1068 227 2 3 637 1073)) (nl (ib 894)))) (.node (tp []) (.node (tp []) (nl (fn "__init__" "Box.__init__" 39 0)) (nl (tr "open-input-file" 1801 1 1 2))) (.node (gw 795 448) (nl (tr "cdaddr" 1270 1 1 1)) (nl (fn "_law_node_of" "_law_node_of" 64 0))))) (.node (tp []) (.node (fi []) (.node (fi [.int 112 0, .int 4 0, .ref 298, .int 116 0, .int 4 0, .ref 305, .int 119 0, .int 4 0, .ref 312]) (nl (tp [])) (nl (tr "integer->char" 1671 1 1 1))) (.node (tp []) (nl (tr "not" 1142 1 1 0)) (nl (cf "_law_new" "_law_new" 1987 294 2 3 925 1992)))) (.node (fC "parts" "If.parts" 21 2 225) (.node (di #[de P "__module__" 663 (.str "scheme.core" 194), de P "__qualname__" 665 (.str "Prim" 664), de P "__firstlineno__" 667 (.int 132 666), de P "kind" 668 (.int 10 216), dr P "__init__" 677 365, dr P "parts" 684 372, dr P "with_parts" 692 379, dr P "__static_attributes__" 695 380] 8) (nl bm) (nl (tp []))) (.node (ib 478) (nl (tr "exact?" 1402 1 1 1)) .nil)))) (.node (tp [.ref 45]) (.node (fC "__init__" "Local.__init__" 16 1 81) (.node (fm 145 142 "scheme.core" 194) (.node (tp []) (nl (cn "Text" 911 204 528 914)) (nl (tr "char>?" 1607 2 2 1))) (.node (tp []) (nl (tp [.str "boolean" 1094, .str "number" 1095, .str "symbol" 1096, .str "char" 1097, .str "empty" 1098, .str "unspecified" 1099])) (nl (fi [])))) (.node (fi [.int 79 0, .int 4 0, .ref 218, .int 84 0, .int 4 0, .ref 225, .int 87 0, .int 4 0, .ref 232]) (.node (cf "parts" "Seq.parts" 636 127 1 3 333 640) (nl (fm 593 590 "scheme.data" 769)) (nl (tr "procedure?" 1865 1 1 0))) (.node (fi [.int 192 0, .int 4 0, .ref 474]) (nl (tr "assv" 1337 2 2 1)) (nl (co "law" "law" 2044 367 1 3 975 true 181 976 .none .none .none (.ref 977) 2047))))) (.node (tp []) (.node (cn "Define" 424 64 176 427) (.node (fC "parts" "Call.parts" 23 2 305) (nl (td "Vector" 562 [] 938 946)) (nl (tr "string-ci<?" 1736 2 2 1))) (.node (di #[de P "__module__" 778 (.str "scheme.data" 769), de P "__qualname__" 780 (.str "Special" 779), de P "__firstlineno__" 782 (.int 183 781), dr P "__init__" 790 445, dr P "__static_attributes__" 792 446] 5) (nl (tr "caddr" 1206 1 1 1)) (nl (tp [])))) (.node (tp []) (.node (fn "parts" "Prim.parts" 25 2) (nl (gs 1049 625)) (nl (tp [.str "self" 1934, .str "fold" 1935]))) (.node (di #[de P "__module__" 856 (.str "scheme.data" 769), de P "__firstlineno__" 860 (.int 195 859), dr P "__init__" 869 496, dr P "__static_attributes__" 872 497, dr P "__dict__" 874 500, dr P "__weakref__" 876 501, de P "__doc__" 877 .none] 4) (nl (ts "-" 1475 1 (-1) 1)) .nil))))) (.node (fi [.int 20 0, .int 4 0, .ref 34, .int 23 0, .int 4 0, .ref 41]) (.node (fC "with_parts" "Node.with_parts" 14 2 41) (.node (cn "Local" 286 30 72 289) (.node (su 137) (.node (fC "with_parts" "Lambda.with_parts" 22 3 265) (nl (gw 904 520)) (nl (tr "expt" 1575 2 2 1))) (.node (tp [.str "self" 715, .str "numbers" 716, .str "lambdas" 717, .str "body" 718]) (nl (ib 646)) (nl (tp [])))) (.node (di #[de P "__module__" 429 (.str "scheme.core" 194), de P "__firstlineno__" 433 (.int 64 432), de P "kind" 434 (.int 5 206), dr P "__init__" 443 186, dr P "parts" 450 193, dr P "with_parts" 458 200, dr P "__static_attributes__" 461 201, de P "__doc__" 462 .none] 2) (.node (fn "__init__" "Seq.__init__" 24 1) (nl (su 583)) (nl (tr "read-char" 1833 0 1 2))) (.node ({ cls := .type "frame", data := .dict #[⟨PyData.keyHash P "self", .str "self" 807, .ref 457⟩, ⟨PyData.keyHash P "title", .str "title" 808, .str "unspecified" 806⟩] 2 }) (nl (ts "append" 1303 0 (-1) 1)) (nl (tp []))))) (.node (ib 104) (.node (tq "SetGlobal" 170 140 379 387) (.node (cf "__init__" "Call.__init__" 585 112 3 3 293 591) (nl (fi [])) (nl (tr "string-ref" 1704 2 2 1))) (.node (fi []) (nl (tr "null?" 1174 1 1 0)) (nl (fL "_law_words" "_law_words" 60 0 937)))) (.node (tp [.str "no" 503, .str "test" 504, .str "yes" 505]) (.node (tp []) (nl (tp [.str "self" 1042, .str "number" 1043])) (nl bm)) (.node (tp []) (nl (tr "positive?" 1439 1 1 1)) .nil)))) (.node (fi []) (.node (di #[de P "__module__" 317 (.str "scheme.core" 194), de P "__qualname__" 319 (.str "Global" 318), de P "__firstlineno__" 321 (.int 35 320), de P "kind" 322 (.int 2 200), dr P "__init__" 330 101, dr P "__static_attributes__" 332 102] 6) (.node (tp []) (.node (di #[de P "__module__" 517 (.str "scheme.core" 194), de P "__firstlineno__" 521 (.int 89 520), de P "kind" 522 (.int 7 210), dr P "__init__" 533 252, dr P "parts" 540 259, dr P "with_parts" 548 266, dr P "binders" 555 273, dr P "takes" 563 280, dr P "__static_attributes__" 568 281, de P "__doc__" 569 .none] 2) (nl (fD "__init__" "Text.__init__" 37 0 537)) (nl (tr "char-alphabetic?" 1639 1 1 1))) (.node (fn "with_parts" "Fix.with_parts" 26 3) (nl (tr "%box" 1110 1 1 2)) (nl (fn "_law_one" "_law_one" 58 0)))) (.node (cf "__init__" "If.__init__" 478 79 4 3 213 485) (.node (fC "with_parts" "Seq.with_parts" 24 3 345) (nl (tp [.str "content" 1017, .str "is_done" 1018])) (nl (tp [.ref 666, .ref 667, .ref 668, .ref 669, .ref 670, .ref 671, .ref 672, .ref 673, .ref 674, .ref 675, .ref 676, .ref 677, .ref 678, .ref 679, .ref 680, .ref 681, .ref 682, .ref 683, .ref 684, .ref 685, .ref 686, .ref 687, .ref 688, .ref 689, .ref 690, .ref 691, .ref 692, .ref 693, .ref 694, .ref 695, .ref 696, .ref 697, .ref 698, .ref 699, .ref 700, .ref 701, .ref 702, .ref 703, .ref 704, .ref 705, .ref 706, .ref 707, .ref 708, .ref 709, .ref 710, .ref 711, .ref 712, .ref 713, .ref 714, .ref 715, .ref 716, .ref 717, .ref 718, .ref 719, .ref 720, .ref 721, .ref 722, .ref 723, .ref 724, .ref 725, .ref 726, .ref 727, .ref 728, .ref 729, .ref 730, .ref 731, .ref 732, .ref 733, .ref 734, .ref 735, .ref 736, .ref 737, .ref 738, .ref 739, .ref 740, .ref 741, .ref 742, .ref 743, .ref 744, .ref 745, .ref 746, .ref 747, .ref 748, .ref 749, .ref 750, .ref 751, .ref 752, .ref 753, .ref 754, .ref 755, .ref 756, .ref 757, .ref 758, .ref 759, .ref 760, .ref 761, .ref 762, .ref 763, .ref 764, .ref 765, .ref 766, .ref 767, .ref 768, .ref 769, .ref 770, .ref 771, .ref 772, .ref 773, .ref 774, .ref 775, .ref 776, .ref 777, .ref 778, .ref 779, .ref 780, .ref 781, .ref 782, .ref 783, .ref 784, .ref 785, .ref 786, .ref 787, .ref 788, .ref 789, .ref 790, .ref 791, .ref 792, .ref 793, .ref 794, .ref 795, .ref 796, .ref 797, .ref 798, .ref 799, .ref 800, .ref 801, .ref 802, .ref 803, .ref 804, .ref 805, .ref 806, .ref 807, .ref 808, .ref 809, .ref 810, .ref 811, .ref 812, .ref 813, .ref 814, .ref 815, .ref 816, .ref 817, .ref 818, .ref 819, .ref 820, .ref 821, .ref 822, .ref 823, .ref 824, .ref 825, .ref 826, .ref 827, .ref 828, .ref 829, .ref 830, .ref 831, .ref 832, .ref 833, .ref 834, .ref 835, .ref 836, .ref 837, .ref 838, .ref 839, .ref 840, .ref 841, .ref 842, .ref 843, .ref 844, .ref 845, .ref 846, .ref 847, .ref 848, .ref 849, .ref 850, .ref 851, .ref 852, .ref 853, .ref 854, .ref 855, .ref 856, .ref 857]))) (.node (cf "__init__" "Symbol.__init__" 830 192 3 3 469 836) (nl (tr "list->vector" 1370 1 1 1)) .nil))) (.node (fi []) (.node (fC "__init__" "Define.__init__" 20 1 185) (.node (tp [.str "operands" 609, .str "operator" 610]) (nl (tp [])) (nl (tr "string-copy" 1769 1 1 1))) (.node (tp []) (nl (tr "caaddr" 1238 1 1 1)) (nl (fi [])))) (.node (fn "__init__" "Lambda.__init__" 22 1) (.node (cf "with_parts" "Prim.with_parts" 685 142 2 3 373 690) (nl (fi [.int 227 0, .int 4 0, .ref 642])) (nl (co "turned" "Folding.turned" 1939 271 2 3 887 true 181 888 .none .none .none (.ref 889) 1942))) (.node (di #[de P "__module__" 887 (.str "scheme.data" 769), de P "__qualname__" 889 (.str "Char" 888), de P "__firstlineno__" 891 (.int 200 890), dr P "__init__" 899 517, dr P "__static_attributes__" 901 518] 5) (nl (tr "numerator" 1511 1 1 1)) .nil)))))) (.node (fm 13 3 "__main__" 164) (.node (tp []) (.node (tp [.str "self" 245, .str "parts" 246]) (.node bm (.node (fC "with_parts" "SetLocal.with_parts" 18 3 133) (.node (tp [.str "self" 544, .str "parts" 545]) (nl (tp [.str "code" 900])) (nl (tr "asin" 1559 1 1 1))) (.node (cn "Fix" 701 144 388 704) (nl (td "Procedure" 646 [] 1056 1064)) (nl (tp [])))) (.node (fn "with_parts" "Define.with_parts" 20 3) (.node (tp []) (nl (di #[de P "__module__" 974 (.str "scheme.data" 769), de P "__firstlineno__" 978 (.int 212 977), dr P "__init__" 986 580, dr P "__static_attributes__" 988 581, dr P "__dict__" 990 584, dr P "__weakref__" 992 585, de P "__doc__" 993 .none] 4)) (nl (tr "get-output-string" 1817 1 1 2))) (.node ({ cls := .ref 448, dict := some 453 }) (nl (tr "cddddr" 1286 1 1 1)) (nl (fi []))))) (.node (tp [.str "symbol" 331]) (.node (cf "with_parts" "SetGlobal.with_parts" 408 62 2 3 161 413) (.node (fi []) (nl (fi [.int 210 0, .int 4 0, .ref 558])) (nl (tr "string?" 1687 1 1 0))) (.node (fn "are_same_list" "are_same_list" 27 0) (nl (tr "cdr" 1158 1 1 1)) (nl (tp [])))) (.node (tp []) (.node (fm 357 354 "scheme.core" 194) (nl (cn "PortRef" 1029 221 612 1032)) (nl (fn "effects_of" "effects_of" 50 0))) (.node (tp []) (nl (ts ">" 1420 2 (-1) 1)) .nil)))) (.node (fi [.int 28 0, .int 4 0, .ref 62]) (.node (su 85) (.node (tp []) (.node (fn "takes" "Lambda.takes" 22 5) (nl (tp [.str "self" 924, .str "codes" 925])) (nl (tr "char-ci<?" 1623 2 2 1))) (.node (tp []) (nl (tp [])) (nl (tp [])))) (.node (fi []) (.node (tp [.str "self" 646, .str "parts" 647]) (nl (tp [])) (nl (tr "%promise-done?" 1882 1 1 1))) (.node (fi []) (nl (tr "vector-length" 1354 1 1 1)) .nil))) (.node (fn "__init__" "SetLocal.__init__" 18 1) (.node (tp [.str "self" 438, .str "symbol" 439, .str "value" 440]) (.node (tp []) (nl (ib 562)) (nl (tr "substring" 1752 3 3 1))) (.node (fm 437 434 "scheme.data" 769) (nl (tr "cdddr" 1222 1 1 1)) (nl (fn "_law_fold" "_law_fold" 62 0)))) (.node (tp []) (.node (fi []) (nl (tp [])) (nl (ff "__init__" "Folding.__init__" 53 0 "scheme.folding" 1915 885))) (.node (su 499) (nl (tr "remainder" 1493 2 2 1)) .nil))))) (.node (fi []) (.node (gs 251 45) (.node (tp [.str "self" 300, .str "number" 301]) (.node (di #[de P "__module__" 386 (.str "scheme.core" 194), de P "__qualname__" 388 (.str "SetGlobal" 387), de P "__firstlineno__" 390 (.int 52 389), de P "kind" 391 (.int 4 204), dr P "__init__" 400 153, dr P "parts" 407 160, dr P "with_parts" 415 167, dr P "__static_attributes__" 418 168] 8) (.node (tp []) (nl bm) (nl (tr "string->number" 1591 1 2 1))) (.node (fC "__init__" "Fix.__init__" 26 1 397) (nl (tp [])) (nl (fn "_law_draw" "_law_draw" 56 0)))) (.node (tp [.ref 45]) (.node (fi []) (nl (di #[de P "__module__" 1003 (.str "scheme.data" 769), de P "__qualname__" 1005 (.str "Promise" 1004), de P "__firstlineno__" 1007 (.int 216 1006), dr P "__init__" 1016 601, dr P "__static_attributes__" 1019 602] 5)) (nl (tr "write" 1849 1 2 2))) (.node (tp []) (nl (tr "list-ref" 1321 2 2 1)) (nl (fL "_law_due_of" "_law_due_of" 66 0 973))))) (.node (tp []) (.node bm (.node (tp [.str "self" 597]) (nl (cf "__init__" "Vector.__init__" 950 210 2 3 553 955)) (nl (tr "string>?" 1720 2 2 1))) (.node (cf "rebuilt" "rebuilt" 753 164 2 3 425 766) (nl (tr "cddr" 1190 1 1 1)) (nl (tp [])))) (.node (ib 236) (.node (tp []) (nl (fD "__init__" "PortRef.__init__" 41 0 621)) (nl (cn "Folding" 1921 266 876 1924))) (.node (fn "__init__" "Pair.__init__" 35 0) (nl (ts "max" 1455 1 (-1) 1)) .nil)))) (.node (cf "__init__" "Const.__init__" 271 28 2 3 57 276) (.node (fm 93 90 "scheme.core" 194) (.node (fn "parts" "SetGlobal.parts" 19 2) (.node (tp [.ref 45]) (nl (gs 931 541)) (nl (tr "char-lower-case?" 1655 1 1 1))) (.node (di #[de P "__module__" 706 (.str "scheme.core" 194), de P "__firstlineno__" 710 (.int 144 709), de P "kind" 711 (.int 11 218), dr P "__init__" 721 398, dr P "parts" 728 405, dr P "with_parts" 736 412, dr P "__static_attributes__" 740 413, de P "__doc__" 741 .none] 2) (nl (tr "eq?" 1126 2 2 0)) (nl (fi [])))) (.node (tp [.str "self" 491]) (.node (su 349) (nl (gw 1022 604)) (nl (tp []))) (.node (td "Symbol" 478 [] 818 826) (nl (tr "complex?" 1386 1 1 0)) .nil))) (.node (cf "parts" "SetLocal.parts" 358 47 1 3 121 362) (.node (tp []) (.node (ib 316) (nl (tp [])) (nl (tr "current-input-port" 1785 0 0 2))) (.node (tp [.str "title" 791]) (nl (tr "cadddr" 1254 1 1 1)) (nl (cf "_law_plain" "_law_plain" 2017 314 1 3 953 2023)))) (.node (fi []) (.node (tq "Prim" 382 352 656 664) (nl (fi [])) (nl (td "Folding" 894 [] 1919 1927))) (.node (fm 509 506 "scheme.data" 769) (nl (tr "truncate" 1527 1 1 1)) .nil))))))))
noncomputable def fo (P : Params) : List Obj := (bt P).list 980
noncomputable def r3 (P : Params) : List DictEntry := match (o3 P).data with | Data.dict es _ => es.toList | _ => []
noncomputable def r12 (P : Params) : List Value := match o12.data with | Data.fields vs => vs.toList | _ => []
noncomputable def hf (P : Params) (n : Nat) : Obj := { cls := .none, data := .fields (((r12 P).take n).toArray) }
noncomputable def hd (P : Params) (m : PySem.Str) (t n : Nat) : Obj := { cls := .type "dict", data := .dict ((⟨PyData.keyHash P "__name__", .str "__name__" 165, .str m t⟩ :: ((r3 P).take n).tail).toArray) n }
noncomputable def hl0 (P : Params) : List Obj := ((((fo P).take 15).set 3 (hd P "__main__" 164 9)).set 12 (hf P 0))
noncomputable def hl1 (P : Params) : List Obj := (((((fo P).take 69).set 3 (hd P "scheme.core" 194 24)).set 12 (hf P 9)).set 45 (td "Node" 45 [.ref 66] 220 228))
noncomputable def hl2 (P : Params) : List Obj := (((((fo P).take 107).set 3 (hd P "scheme.core" 194 26)).set 12 (hf P 15)).set 45 (td "Node" 45 [.ref 66, .ref 85, .ref 104] 220 228))
noncomputable def hl3 (P : Params) : List Obj := (((((fo P).take 173).set 3 (hd P "scheme.core" 194 28)).set 12 (hf P 21)).set 45 (td "Node" 45 [.ref 66, .ref 85, .ref 104, .ref 137, .ref 170] 220 228))
noncomputable def hl4 (P : Params) : List Obj := (((((fo P).take 239).set 3 (hd P "scheme.core" 194 30)).set 12 (hf P 27)).set 45 (td "Node" 45 [.ref 66, .ref 85, .ref 104, .ref 137, .ref 170, .ref 203, .ref 236] 220 228))
noncomputable def hl5 (P : Params) : List Obj := (((((fo P).take 319).set 3 (hd P "scheme.core" 194 32)).set 12 (hf P 33)).set 45 (td "Node" 45 [.ref 66, .ref 85, .ref 104, .ref 137, .ref 170, .ref 203, .ref 236, .ref 283, .ref 316] 220 228))
noncomputable def hl6 (P : Params) : List Obj := (((((fo P).take 385).set 3 (hd P "scheme.core" 194 34)).set 12 (hf P 39)).set 45 (td "Node" 45 [.ref 66, .ref 85, .ref 104, .ref 137, .ref 170, .ref 203, .ref 236, .ref 283, .ref 316, .ref 349, .ref 382] 220 228))
noncomputable def hl7 (P : Params) : List Obj := ((((fo P).take 456).set 3 (hd P "scheme.data" 769 39)).set 12 (hf P 51))
noncomputable def hl8 (P : Params) : List Obj := ((((fo P).take 504).set 3 (hd P "scheme.data" 769 43)).set 12 (hf P 57))
noncomputable def hl9 (P : Params) : List Obj := ((((fo P).take 567).set 3 (hd P "scheme.data" 769 46)).set 12 (hf P 66))
noncomputable def hl10 (P : Params) : List Obj := ((((fo P).take 630).set 3 (hd P "scheme.data" 769 49)).set 12 (hf P 75))
noncomputable def hl11 (P : Params) : List Obj := ((((fo P).take 666).set 3 (hd P "scheme.primnames" 1108 53)).set 12 (hf P 84))
noncomputable def hl12 (P : Params) : List Obj := ((((fo P).take 859).set 3 (hd P "scheme.primnames" 1108 54)).set 12 (hf P 84))
noncomputable def hl13 (P : Params) : List Obj := ((fo P).take 980)
noncomputable def topEnv : Env := { scope := pw.main.scope, locals := mainNs, globals := mainNs, cells := [], code := .ref 13, frame := some 14 }
noncomputable abbrev cE : Code := .body (behindTheImports pw) topEnv
noncomputable abbrev p0 : Pos := ⟨0, 0, 0, 0⟩
def Go (w : World) {α : Type} (x : Sem α) (s : Shared) (q : Pos) (a : α) (s' : Shared) (q' : Pos) (n : Nat) : Prop :=
  ∀ (K : α → Sem Fin) (H : Value → Sem Fin) (gd : Bool → Bool) (lv : List Value → List Value) (N : Nat) (r : Shared),
    ρR N s' ⟨K a, cE, q', [topFrame p0]⟩ = some r → ρR (N + n) s ⟨x.wrap K H gd lv, cE, q, [topFrame p0]⟩ = some r
section
variable {w : World} {α β : Type}
theorem go_pure {a : α} {s : Shared} {q : Pos} : Go w (pure a) s q a s q 0 := fun Z Z Z Z Z Z h => h
theorem go_at {s : Shared} {q q' : Pos} : Go w (standAt q') s q () s q' 1 := fun Z Z Z Z Z Z h => h
theorem go_bind {x : Sem α} {f : α → Sem β} {s s1 s' : Shared} {q q1 q' : Pos} {a : α} {b : β} {n m : Nat} (hx : Go w x s q a s1 q1 n) (hf : Go w (f a) s1 q1 b s' q' m) : Go w (x >>= f) s q b s' q' (m + n) := by
  intro K H gd lv N r h
  have h1 := hf K H gd lv N r h
  have h2 := hx (fun a => (f a).wrap K H gd lv) H gd lv (N + m) r h1
  have e : (x >>= f).wrap K H gd lv = x.wrap (fun a => (f a).wrap K H gd lv) H gd lv := by
    rw [Sem.bind_eq_wrap', Sem.wrap_wrap]; rfl
  rw [e, ← Nat.add_assoc]
  exact h2
theorem go_keep {x : Sem α} {vs : List Value} {s s' : Shared} {q q' : Pos} {a : α} {n : Nat} (hx : Go w x s q a s' q' n) : Go w (x.keep vs) s q a s' q' n := by
  intro K H gd lv N r h
  have h2 := hx K H gd (fun l => lv (vs ++ l)) N r h
  have e : (x.keep vs).wrap K H gd lv = x.wrap K H gd (fun l => lv (vs ++ l)) := by
    rw [Sem.keep_eq_wrap, Sem.wrap_wrap]; rfl
  rw [e]; exact h2
theorem go_eq {x y : Sem α} (e : x = y) {s s' : Shared} {q q' : Pos} {a : α} {n : Nat} (h : Go w y s q a s' q' n) : Go w x s q a s' q' n := by rw [e]; exact h
theorem rowA (nm : Str) (a b c : Int) (p1 p2 p3 p4 p5 q : Pos) (h : Heap) (t : Nat) (oz : OsState) :
    Go w (eval (.Tuple [.Constant (.str nm) 0 p1, .Constant (.int a) 0 p2, .Constant (.int b) 0 p3, .Constant (.int c) 0 p4] 0 p5) topEnv) ⟨h, #[], {}, t, oz⟩ q
      (.ref h.objs.size) ⟨h.push { cls := .type "tuple", data := .seq #[.str nm t, .int a (t+1), .int b (t+2), .int c (t+3)] 0 }, #[], {}, t + 4, oz⟩ p5 6 := by
  intro K H gd lv N r hh
  refine Eq.trans ?_ hh
  kernel_rfl
theorem rowB (nm : Str) (a c : Int) (p1 p2 p3 p3' p4 p5 q : Pos) (h : Heap) (t : Nat) (oz : OsState) :
    Go w (eval (.Tuple [.Constant (.str nm) 0 p1, .Constant (.int a) 0 p2, .UnaryOp .USub (.Constant (.int 1) 0 p3) p3', .Constant (.int c) 0 p4] 0 p5) topEnv) ⟨h, #[], {}, t, oz⟩ q
      (.ref h.objs.size) ⟨h.push { cls := .type "tuple", data := .seq #[.str nm t, .int a (t+1), .int (-1) (t+3), .int c (t+4)] 0 }, #[], {}, t + 5, oz⟩ p3' 11 := by
  intro K H gd lv N r hh
  refine Eq.trans ?_ hh
  kernel_rfl
inductive Row | A (nm : Str) (a b c : Int) (p1 p2 p3 p4 p5 : Pos) | B (nm : Str) (a c : Int) (p1 p2 p3 p3' p4 p5 : Pos)
noncomputable def Row.ex : Row → PySem.Expr
  | .A nm a b c p1 p2 p3 p4 p5 => .Tuple [.Constant (.str nm) 0 p1, .Constant (.int a) 0 p2, .Constant (.int b) 0 p3, .Constant (.int c) 0 p4] 0 p5
  | .B nm a c p1 p2 p3 p3' p4 p5 => .Tuple [.Constant (.str nm) 0 p1, .Constant (.int a) 0 p2, .UnaryOp .USub (.Constant (.int 1) 0 p3) p3', .Constant (.int c) 0 p4] 0 p5
noncomputable abbrev tupA (vs : Array Value) : Obj := { cls := .type "tuple", data := .seq vs 0 }
noncomputable def Row.ob (t : Nat) : Row → Obj
  | .A nm a b c .. => tupA #[.str nm t, .int a (t+1), .int b (t+2), .int c (t+3)]
  | .B nm a c .. => tupA #[.str nm t, .int a (t+1), .int (-1) (t+3), .int c (t+4)]
noncomputable def Row.tk (t : Nat) : Row → Nat
  | .A .. => t + 4
  | .B .. => t + 5
noncomputable def Row.st : Row → Nat
  | .A .. => 6
  | .B .. => 11
noncomputable def Row.ps : Row → Pos
  | .A _ _ _ _ _ _ _ _ p => p
  | .B _ _ _ _ _ _ p _ _ => p
theorem row_go {e : Row} {t : Nat} {q : Pos} {h : Heap} {oz : OsState} :
    Go w (eval e.ex topEnv) ⟨h, #[], {}, t, oz⟩ q (.ref h.objs.size) ⟨h.push (e.ob t), #[], {}, e.tk t, oz⟩ e.ps e.st := by
  cases e
  · exact rowA _ _ _ _ _ _ _ _ _ _ _ _ _
  · exact rowB _ _ _ _ _ _ _ _ _ _ _ _ _
theorem row_sp (e : Row) (r : List PySem.Expr) (pos : Pos) : spliced (backTo pos (starEach (e.ex :: r) topEnv)) = (eval e.ex topEnv >>= fun v => (pure [v] : Sem (List Value)) >>= fun here => holding here (spliced (backTo pos (starEach r topEnv))) >>= fun rest => pure (here ++ rest)) := by
  cases e <;> rfl
noncomputable def rOs : List Row → Nat → List Obj
  | [], _ => []
  | e :: r, t => e.ob t :: rOs r (e.tk t)
noncomputable def rTk : List Row → Nat → Nat
  | [], t => t
  | e :: r, t => rTk r (e.tk t)
noncomputable def rSt : List Row → Nat
  | [] => 0
  | e :: r => rSt r + e.st
noncomputable def rPs : List Row → Pos → Pos
  | [], q => q
  | e :: r, _ => rPs r e.ps
noncomputable def pushAll (h : Heap) (os : List Obj) : Heap := os.foldl Heap.push h
noncomputable def refsFrom : Nat → Nat → List Value
  | _, 0 => []
  | a, n + 1 => .ref a :: refsFrom (a + 1) n
theorem rows_go {oz : OsState} {pos : Pos} (es : List Row) : ∀ (t : Nat) (q : Pos) (h : Heap),
    Go w (spliced (backTo pos (starEach (es.map Row.ex) topEnv))) ⟨h, #[], {}, t, oz⟩ q (refsFrom h.objs.size (rOs es t).length) ⟨pushAll h (rOs es t), #[], {}, rTk es t, oz⟩ (rPs es q) (rSt es) := by
  induction es with
  | nil => exact fun Z Z Z => go_pure
  | cons e r ih =>
    intro t q h
    refine go_eq (row_sp e (r.map Row.ex) pos) ?_
    have i2 := go_keep (vs := [Value.ref h.objs.size]) (ih (e.tk t) e.ps (h.push (e.ob t)))
    rw [Heap.size_push] at i2
    have z := go_bind (row_go (w := w) (e := e) (t := t) (q := q) (h := h) (oz := oz)) (f := fun v => (pure [v] : Sem (List Value)) >>= fun here => holding here (spliced (backTo pos (starEach (r.map Row.ex) topEnv))) >>= fun rest => pure (here ++ rest)) (go_bind (go_pure (a := [Value.ref h.objs.size])) (f := fun here => holding here (spliced (backTo pos (starEach (r.map Row.ex) topEnv))) >>= fun rest => pure (here ++ rest)) (go_bind i2 (f := fun rest => pure ([Value.ref h.objs.size] ++ rest)) go_pure))
    rw [Nat.zero_add, Nat.add_zero] at z
    exact z
theorem pushAll_list : ∀ (os l : List Obj), pushAll ⟨l.toArray, {}⟩ os = ⟨(l ++ os).toArray, {}⟩
  | [], l => by rw [List.append_nil]; rfl
  | o :: r, l => by
    have := pushAll_list r (l ++ [o])
    rw [List.append_assoc, List.singleton_append] at this
    rw [← this]
    show pushAll (Heap.push ⟨l.toArray, {}⟩ o) r = _
    congr 1
    show Heap.mk (l.toArray.push o) {} = _
    rw [List.push_toArray]
end
noncomputable def primElts : List PySem.Expr := match stAt 48 with
  | .Assign _ (.Tuple es _ _) _ => es
  | _ => []
noncomputable def xAt : PySem.Expr → Nat → PySem.Expr
  | .Tuple es _ _, k => (es[k]?).getD (.Constant .none 0 ⟨0, 0, 0, 0⟩)
  | _, _ => .Constant .none 0 ⟨0, 0, 0, 0⟩
noncomputable def xS : PySem.Expr → Str
  | .Constant (.str s) _ _ => s
  | _ => default
noncomputable def xI' : PySem.Expr → Int
  | .Constant (.int i) _ _ => i
  | _ => 0
noncomputable def xP : PySem.Expr → Pos
  | .Constant _ _ p => p
  | .Tuple _ _ p => p
  | .UnaryOp _ _ p => p
  | _ => ⟨0, 0, 0, 0⟩
noncomputable def xU : PySem.Expr → Bool
  | .UnaryOp _ _ _ => true
  | _ => false
noncomputable def xO : PySem.Expr → PySem.Expr
  | .UnaryOp _ e _ => e
  | e => e
noncomputable def toRow (e : PySem.Expr) : Row := match xU (xAt e 2) with
  | true => .B (xS (xAt e 0)) (xI' (xAt e 1)) (xI' (xAt e 3)) (xP (xAt e 0)) (xP (xAt e 1)) (xP (xO (xAt e 2))) (xP (xAt e 2)) (xP (xAt e 3)) (xP e)
  | false => .A (xS (xAt e 0)) (xI' (xAt e 1)) (xI' (xAt e 2)) (xI' (xAt e 3)) (xP (xAt e 0)) (xP (xAt e 1)) (xP (xAt e 2)) (xP (xAt e 3)) (xP e)
noncomputable def pRows : List Row := primElts.map toRow
theorem pRows_is : primElts = pRows.map Row.ex := κR
theorem prim_is : stAt 48 = .Assign [.Name "PRIM_ROWS" ⟨256, 0, 256, 9⟩] (.Tuple primElts 0 ⟨256, 12, 256, 4454⟩) ⟨256, 0, 256, 4454⟩ := κR
theorem assign_shape (nm : Str) (pn pT pS : Pos) (es : List PySem.Expr) (env : Env) : exec (.Assign [.Name nm pn] (.Tuple es 0 pT) pS) env =
    (standAt pS >>= fun Z => ((standAt pT >>= fun Z => (spliced (backTo pT (starEach es env)) >>= fun vs => newTuple vs)) >>= fun v => assignStores env v none [assign (.Name nm pn) env])) := rfl
theorem execs_one (s : Stmt) (env : Env) : execs [s] env = (exec s env >>= fun f => match f with | .next => execs [] env | f => pure f) := rfl
noncomputable def primTail (vs : List Value) : Sem Flow := newTuple vs >>= fun v => assignStores topEnv v none [assign (.Name "PRIM_ROWS" ⟨256, 0, 256, 9⟩) topEnv]
theorem prim_exec : exec (stAt 48) topEnv = (standAt ⟨256, 0, 256, 4454⟩ >>= fun Z => standAt ⟨256, 12, 256, 4454⟩ >>= fun Z => spliced (backTo ⟨256, 12, 256, 4454⟩ (starEach primElts topEnv)) >>= primTail) := by
  rw [prim_is, assign_shape]
  generalize spliced (backTo ⟨256, 12, 256, 4454⟩ (starEach primElts topEnv)) = X
  exact congrArg (Sem.at _) (funext fun Z => congrArg (Sem.at _) (funext fun Z => Sem.bind_assoc X _ _))
noncomputable def bldFrom : BT → Nat → List Obj → BT
  | T, _, [] => T
  | T, i, o :: r => bldFrom (T.ins i o) (i + 1) r
noncomputable def bld (l : List Obj) : BT := bldFrom .nil 0 l
noncomputable def Full : BT → Nat → Prop
  | .nil, n => n = 0
  | .node _ l r, n => 0 < n ∧ Full l (n / 2) ∧ Full r ((n - 1) / 2)
theorem hlf (k : Nat) : 2 * k / 2 = k := Nat.mul_div_cancel_left k δ
theorem hlf1 (k : Nat) : (2 * k + 1) / 2 = k := by omega
theorem mod0 (k : Nat) : ¬ 2 * k % 2 = 1 := by rw [Nat.mul_mod_right]; exact Nat.zero_ne_one
theorem mod1 (k : Nat) : (2 * k + 1) % 2 = 1 := by omega
theorem par (n : Nat) : (∃ k, n = 2 * k) ∨ ∃ k, n = 2 * k + 1 := by
  induction n with
  | zero => exact .inl ⟨0, rfl⟩
  | succ n ih =>
    rcases ih with ⟨k, rfl⟩ | ⟨k, rfl⟩
    · exact .inr ⟨k, rfl⟩
    · exact .inl ⟨k + 1, rfl⟩
theorem full_ins (o : Obj) : ∀ (T : BT) (n : Nat), Full T n → Full (T.ins n o) (n + 1)
  | .nil, n, h => by
    have h0 : n = 0 := h
    subst h0
    exact ⟨Nat.zero_lt_one, rfl, rfl⟩
  | .node v l r, n, ⟨h0, hl, hr⟩ => by
    rw [BT.ins_node, if_neg (Nat.ne_of_gt h0)]
    rcases par n with ⟨k, rfl⟩ | ⟨k, rfl⟩
    · rw [if_neg (mod0 k)]
      cases k with
      | zero => exact absurd h0 (Nat.lt_irrefl _)
      | succ k =>
        have hl' : Full l (k + 1) := hlf (k + 1) ▸ hl
        have hr' : Full r k := hlf1 k ▸ hr
        refine ⟨Nat.succ_pos _, (hlf1 (k + 1)).symm ▸ hl', ?_⟩
        show Full (r.ins (2 * (k + 1) / 2 - 1) o) (2 * (k + 1) / 2)
        rw [hlf]; exact full_ins o r k hr'
    · rw [if_pos (mod1 k)]
      have hl' : Full l k := hlf1 k ▸ hl
      have hr' : Full r k := hlf k ▸ hr
      refine ⟨Nat.succ_pos _, ?_, (hlf1 k).symm ▸ hr'⟩
      show Full (l.ins ((2 * k + 1) / 2) o) (2 * (k + 1) / 2)
      rw [hlf1, hlf]; exact full_ins o l k hl'
theorem full_get : ∀ (T : BT) (n i : Nat), Full T n → i < n → (T.get i).isSome = true
  | .nil, n, i, h, hi => absurd ((show n = 0 from h) ▸ hi) (Nat.not_lt_zero _)
  | .node v l r, n, i, ⟨h0, hl, hr⟩, hi => by
    rw [BT.get_node]
    by_cases hz : i = 0
    · rw [if_pos hz]; rfl
    · rw [if_neg hz]
      by_cases p : i % 2 = 1
      · rw [if_pos p]; exact full_get l _ _ hl ω
      · rw [if_neg p]; exact full_get r _ _ hr ω
theorem bldFrom_list : ∀ (l : List Obj) (T : BT) (i : Nat), Full T i → (bldFrom T i l).list (i + l.length) = T.list i ++ l
  | [], T, i, _ => by rw [List.length_nil, List.append_nil]; rfl
  | o :: r, T, i, h => by
    have hf := full_ins o T i h
    have e : (i + (o :: r).length) = (i + 1) + r.length := by rw [List.length_cons]; omega
    show (bldFrom (T.ins i o) (i + 1) r).list _ = _
    rw [e, bldFrom_list r (T.ins i o) (i + 1) hf]
    have g := BT.get_ins o T i (full_get _ _ _ hf ω)
    have : (T.ins i o).list (i + 1) = T.list i ++ [o] := by
      unfold BT.list
      rw [List.range_succ, List.map_append]
      congr 1
      · refine List.map_congr_left fun j hj => ?_
        have : j < i := List.mem_range.mp hj
        rw [g j, if_neg ω]
      · simp only [List.map_cons, List.map_nil]
        rw [g i, if_pos rfl]; rfl
    rw [this, List.append_assoc]; rfl
theorem bld_list (l : List Obj) : (bld l).list l.length = l := by
  have := bldFrom_list l .nil 0 rfl
  rw [Nat.zero_add] at this
  exact this
noncomputable def obsT (r : Flow × SharedT × Code × Pos) : Flow × List Obj × Nat × Life × Array GenState × Drawn × Nat × OsState × Code × Pos :=
  (r.1, r.2.1.tree.list r.2.1.n, r.2.1.n, r.2.1.life, r.2.1.gens, r.2.1.drawn, r.2.1.toks, r.2.1.os, r.2.2.1, r.2.2.2)
noncomputable abbrev stL (l : List Obj) (tk : Nat) (oz : OsState) : Shared := ⟨⟨l.toArray, {}⟩, #[], {}, tk, oz⟩
theorem seg_of {w : World} {ann : Option Value} {N n n' tk tk' : Nat} {l l' : List Obj} {th : Thread} {oz : OsState} {c : Code} {q : Pos} (hn : l.length = n)
    (h : (PySem.W.Fast.tw10110043849684766642 PySem.W.Fast.tw14364793385576792824 pw w 11 ann 1 N ⟨bld l, n, {}, #[], {}, tk, oz⟩ th).map obsT = some (.next, l', n', {}, #[], {}, tk', oz, c, q)) :
    segRun treeTable pw w 11 ann 1 N (stL l tk oz) th = some (.next, stL l' tk' oz, c, q) := by
  have e : ∀ o : OsState, (SharedT.abs ⟨bld l, n, {}, #[], {}, tk, o⟩) = stL l tk o := by
    intro o
    show (⟨⟨((bld l).list n).toArray, {}⟩, #[], {}, tk, o⟩ : Shared) = _
    rw [← hn, bld_list]
  rw [← PySem.W.Fast.te10110043849684766642, ← PySem.W.Fast.te14364793385576792824] at h
  obtain ⟨⟨f, s, c₁, q₁⟩, h1, h2⟩ := Option.map_eq_some_iff.mp h
  obtain ⟨T, n₁, life, gens, drawn, toks, os₁⟩ := s
  simp only [obsT, Prod.mk.injEq] at h2
  obtain ⟨rfl, rfl, rfl, rfl, rfl, rfl, rfl, rfl, rfl, rfl⟩ := h2
  have z := segRun_of h1
  rw [e] at z
  exact z
theorem ln0 (P : Params) : (hl0 P).length = 15 := κR
noncomputable def grp (k n : Nat) : List Stmt := (pw.main.body.drop k).take n
theorem seg_to {w : World} {n : Nat} {s s' : Shared} {x : Sem Flow} {pos p' : Pos} (h : segRun treeTable pw w 11 (some (.ref 6)) 1 n s ⟨x.wrap doneF deadEnd id id, cE, pos, [topFrame p0]⟩ = some (.next, s', cE, p'))
    (K : Flow → Sem Fin) (H : Value → Sem Fin) (N : Nat) (r : Shared) (k : ρR N s' ⟨K .next, cE, p', [topFrame p0]⟩ = some r) :
    ρR (n + N) s ⟨x.wrap K H id id, cE, pos, [topFrame p0]⟩ = some r := by
  obtain ⟨a, ha, hN⟩ := seg_top (res := id) (K' := K) (H' := H) (gd := id) (lv := id) (B := [topFrame p0]) rfl n s ⟨x.wrap doneF deadEnd id id, cE, pos, [topFrame p0]⟩
    ⟨x.wrap K H id id, cE, pos, [topFrame p0]⟩ _ _ _ _ ⟨rfl, rfl, .inl ⟨rfl, rfl, x, rfl, rfl⟩⟩ h
  obtain rfl : a = .next := ha
  exact hN N r k
theorem pc1 (w : World) (os : OsState) : (ρS 672 ⟨bld (hl0 w.params), 15, {}, #[], {}, 187, os⟩ (piecesOf (grp 0 16) topEnv cE ⟨0, 0, 0, 0⟩ [topFrame p0])).map obsT = some (.next, hl1 w.params, 69, {}, #[], {}, 284, os, cE, ⟨25, 0, 29, 26⟩) := κR
theorem run1 (w : World) (oz : OsState) (rest : List Stmt) (N : Nat) (r : Shared) (h : ρR N (stL (hl1 w.params) 284 oz) (restOf rest topEnv cE ⟨25, 0, 29, 26⟩ [topFrame p0]) = some r) :
    ρR (672 + N) (stL (hl0 w.params) 187 oz) (restOf (grp 0 16 ++ rest) topEnv cE ⟨0, 0, 0, 0⟩ [topFrame p0]) = some r := piece_app (seg_of (ln0 w.params) (pc1 w oz)) h
theorem ln1 (P : Params) : (hl1 P).length = 69 := κR
theorem pc2 (w : World) (os : OsState) : (ρS 517 ⟨bld (hl1 w.params), 69, {}, #[], {}, 284, os⟩ (piecesOf (grp 16 2) topEnv cE ⟨25, 0, 29, 26⟩ [topFrame p0])).map obsT = some (.next, hl2 w.params, 107, {}, #[], {}, 336, os, cE, ⟨35, 0, 39, 28⟩) := κR
theorem run2 (w : World) (oz : OsState) (rest : List Stmt) (N : Nat) (r : Shared) (h : ρR N (stL (hl2 w.params) 336 oz) (restOf rest topEnv cE ⟨35, 0, 39, 28⟩ [topFrame p0]) = some r) :
    ρR (517 + N) (stL (hl1 w.params) 284 oz) (restOf (grp 16 2 ++ rest) topEnv cE ⟨25, 0, 29, 26⟩ [topFrame p0]) = some r := piece_app (seg_of (ln1 w.params) (pc2 w oz)) h
theorem ln2 (P : Params) : (hl2 P).length = 107 := κR
theorem pc3 (w : World) (os : OsState) : (ρS 647 ⟨bld (hl2 w.params), 107, {}, #[], {}, 336, os⟩ (piecesOf (grp 18 2) topEnv cE ⟨35, 0, 39, 28⟩ [topFrame p0])).map obsT = some (.next, hl3 w.params, 173, {}, #[], {}, 422, os, cE, ⟨52, 0, 63, 47⟩) := κR
theorem run3 (w : World) (oz : OsState) (rest : List Stmt) (N : Nat) (r : Shared) (h : ρR N (stL (hl3 w.params) 422 oz) (restOf rest topEnv cE ⟨52, 0, 63, 47⟩ [topFrame p0]) = some r) :
    ρR (647 + N) (stL (hl2 w.params) 336 oz) (restOf (grp 18 2 ++ rest) topEnv cE ⟨35, 0, 39, 28⟩ [topFrame p0]) = some r := piece_app (seg_of (ln2 w.params) (pc3 w oz)) h
theorem ln3 (P : Params) : (hl3 P).length = 173 := κR
theorem pc4 (w : World) (os : OsState) : (ρS 649 ⟨bld (hl3 w.params), 173, {}, #[], {}, 422, os⟩ (piecesOf (grp 20 2) topEnv cE ⟨52, 0, 63, 47⟩ [topFrame p0])).map obsT = some (.next, hl4 w.params, 239, {}, #[], {}, 510, os, cE, ⟨76, 0, 88, 47⟩) := κR
theorem run4 (w : World) (oz : OsState) (rest : List Stmt) (N : Nat) (r : Shared) (h : ρR N (stL (hl4 w.params) 510 oz) (restOf rest topEnv cE ⟨76, 0, 88, 47⟩ [topFrame p0]) = some r) :
    ρR (649 + N) (stL (hl3 w.params) 422 oz) (restOf (grp 20 2 ++ rest) topEnv cE ⟨52, 0, 63, 47⟩ [topFrame p0]) = some r := piece_app (seg_of (ln3 w.params) (pc4 w oz)) h
theorem ln4 (P : Params) : (hl4 P).length = 239 := κR
theorem pc5 (w : World) (os : OsState) : (ρS 714 ⟨bld (hl4 w.params), 239, {}, #[], {}, 510, os⟩ (piecesOf (grp 22 2) topEnv cE ⟨76, 0, 88, 47⟩ [topFrame p0])).map obsT = some (.next, hl5 w.params, 319, {}, #[], {}, 615, os, cE, ⟨109, 0, 120, 40⟩) := κR
theorem run5 (w : World) (oz : OsState) (rest : List Stmt) (N : Nat) (r : Shared) (h : ρR N (stL (hl5 w.params) 615 oz) (restOf rest topEnv cE ⟨109, 0, 120, 40⟩ [topFrame p0]) = some r) :
    ρR (714 + N) (stL (hl4 w.params) 510 oz) (restOf (grp 22 2 ++ rest) topEnv cE ⟨76, 0, 88, 47⟩ [topFrame p0]) = some r := piece_app (seg_of (ln4 w.params) (pc5 w oz)) h
theorem ln5 (P : Params) : (hl5 P).length = 319 := κR
theorem pc6 (w : World) (os : OsState) : (ρS 645 ⟨bld (hl5 w.params), 319, {}, #[], {}, 615, os⟩ (piecesOf (grp 24 2) topEnv cE ⟨109, 0, 120, 40⟩ [topFrame p0])).map obsT = some (.next, hl6 w.params, 385, {}, #[], {}, 699, os, cE, ⟨132, 0, 143, 35⟩) := κR
theorem run6 (w : World) (oz : OsState) (rest : List Stmt) (N : Nat) (r : Shared) (h : ρR N (stL (hl6 w.params) 699 oz) (restOf rest topEnv cE ⟨132, 0, 143, 35⟩ [topFrame p0]) = some r) :
    ρR (645 + N) (stL (hl5 w.params) 615 oz) (restOf (grp 24 2 ++ rest) topEnv cE ⟨109, 0, 120, 40⟩ [topFrame p0]) = some r := piece_app (seg_of (ln5 w.params) (pc6 w oz)) h
theorem ln6 (P : Params) : (hl6 P).length = 385 := κR
theorem pc7 (w : World) (os : OsState) : (ρS 729 ⟨bld (hl6 w.params), 385, {}, #[], {}, 699, os⟩ (piecesOf (grp 26 6) topEnv cE ⟨132, 0, 143, 35⟩ [topFrame p0])).map obsT = some (.next, hl7 w.params, 456, {}, #[], {}, 806, os, cE, ⟨187, 0, 187, 5⟩) := κR
theorem run7 (w : World) (oz : OsState) (rest : List Stmt) (N : Nat) (r : Shared) (h : ρR N (stL (hl7 w.params) 806 oz) (restOf rest topEnv cE ⟨187, 0, 187, 5⟩ [topFrame p0]) = some r) :
    ρR (729 + N) (stL (hl6 w.params) 699 oz) (restOf (grp 26 6 ++ rest) topEnv cE ⟨132, 0, 143, 35⟩ [topFrame p0]) = some r := piece_app (seg_of (ln6 w.params) (pc7 w oz)) h
theorem ln7 (P : Params) : (hl7 P).length = 456 := κR
theorem pc8 (w : World) (os : OsState) : (ρS 655 ⟨bld (hl7 w.params), 456, {}, #[], {}, 806, os⟩ (piecesOf (grp 32 4) topEnv cE ⟨187, 0, 187, 5⟩ [topFrame p0])).map obsT = some (.next, hl8 w.params, 504, {}, #[], {}, 880, os, cE, ⟨195, 0, 199, 22⟩) := κR
theorem run8 (w : World) (oz : OsState) (rest : List Stmt) (N : Nat) (r : Shared) (h : ρR N (stL (hl8 w.params) 880 oz) (restOf rest topEnv cE ⟨195, 0, 199, 22⟩ [topFrame p0]) = some r) :
    ρR (655 + N) (stL (hl7 w.params) 806 oz) (restOf (grp 32 4 ++ rest) topEnv cE ⟨187, 0, 187, 5⟩ [topFrame p0]) = some r := piece_app (seg_of (ln7 w.params) (pc8 w oz)) h
theorem ln8 (P : Params) : (hl8 P).length = 504 := κR
theorem pc9 (w : World) (os : OsState) : (ρS 667 ⟨bld (hl8 w.params), 504, {}, #[], {}, 880, os⟩ (piecesOf (grp 36 3) topEnv cE ⟨195, 0, 199, 22⟩ [topFrame p0])).map obsT = some (.next, hl9 w.params, 567, {}, #[], {}, 967, os, cE, ⟨208, 0, 211, 28⟩) := κR
theorem run9 (w : World) (oz : OsState) (rest : List Stmt) (N : Nat) (r : Shared) (h : ρR N (stL (hl9 w.params) 967 oz) (restOf rest topEnv cE ⟨208, 0, 211, 28⟩ [topFrame p0]) = some r) :
    ρR (667 + N) (stL (hl8 w.params) 880 oz) (restOf (grp 36 3 ++ rest) topEnv cE ⟨195, 0, 199, 22⟩ [topFrame p0]) = some r := piece_app (seg_of (ln8 w.params) (pc9 w oz)) h
theorem ln9 (P : Params) : (hl9 P).length = 567 := κR
theorem pc10 (w : World) (os : OsState) : (ρS 669 ⟨bld (hl9 w.params), 567, {}, #[], {}, 967, os⟩ (piecesOf (grp 39 3) topEnv cE ⟨208, 0, 211, 28⟩ [topFrame p0])).map obsT = some (.next, hl10 w.params, 630, {}, #[], {}, 1056, os, cE, ⟨221, 0, 224, 28⟩) := κR
theorem run10 (w : World) (oz : OsState) (rest : List Stmt) (N : Nat) (r : Shared) (h : ρR N (stL (hl10 w.params) 1056 oz) (restOf rest topEnv cE ⟨221, 0, 224, 28⟩ [topFrame p0]) = some r) :
    ρR (669 + N) (stL (hl9 w.params) 967 oz) (restOf (grp 39 3 ++ rest) topEnv cE ⟨208, 0, 211, 28⟩ [topFrame p0]) = some r := piece_app (seg_of (ln9 w.params) (pc10 w oz)) h
theorem ln10 (P : Params) : (hl10 P).length = 630 := κR
theorem pc11 (w : World) (os : OsState) : (ρS 315 ⟨bld (hl10 w.params), 630, {}, #[], {}, 1056, os⟩ (piecesOf (grp 42 6) topEnv cE ⟨221, 0, 224, 28⟩ [topFrame p0])).map obsT = some (.next, hl11 w.params, 666, {}, #[], {}, 1110, os, cE, ⟨255, 0, 255, 8⟩) := κR
theorem run11 (w : World) (oz : OsState) (rest : List Stmt) (N : Nat) (r : Shared) (h : ρR N (stL (hl11 w.params) 1110 oz) (restOf rest topEnv cE ⟨255, 0, 255, 8⟩ [topFrame p0]) = some r) :
    ρR (315 + N) (stL (hl10 w.params) 1056 oz) (restOf (grp 42 6 ++ rest) topEnv cE ⟨221, 0, 224, 28⟩ [topFrame p0]) = some r := piece_app (seg_of (ln10 w.params) (pc11 w oz)) h
theorem ln11 (P : Params) : (hl11 P).length = 666 := κR
noncomputable def primRows (P : Params) : List Obj := ((fo P).drop 666).take 192
theorem prim_rows (P : Params) : (rOs pRows 1110, rTk pRows 1110, rSt pRows) = (primRows P, 1898, 1252) := κR
theorem pcT (w : World) (os : OsState) (q : Pos) : (ρS 9 ⟨bld (hl11 w.params ++ primRows w.params), 858, {}, #[], {}, 1898, os⟩ ⟨(primTail (refsFrom 666 192)).wrap doneF deadEnd id id, cE, q, [topFrame p0]⟩).map obsT = some (.next, hl12 w.params, 859, {}, #[], {}, 1899, os, cE, ⟨256, 0, 256, 9⟩) := κR
theorem lnT (P : Params) : (hl11 P ++ primRows P).length = 858 := κR
theorem lnR (P : Params) : (primRows P).length = 192 := κR
theorem ln12 (P : Params) : (hl12 P).length = 859 := κR
theorem pc13 (w : World) (os : OsState) : (ρS 708 ⟨bld (hl12 w.params), 859, {}, #[], {}, 1899, os⟩ (piecesOf (grp 49 19) topEnv cE ⟨256, 0, 256, 9⟩ [topFrame p0])).map obsT = some (.next, hl13 w.params, 980, {}, #[], {}, 2050, os, cE, ⟨367, 0, 374, 15⟩) := κR
theorem run13 (w : World) (oz : OsState) (rest : List Stmt) (N : Nat) (r : Shared) (h : ρR N (stL (hl13 w.params) 2050 oz) (restOf rest topEnv cE ⟨367, 0, 374, 15⟩ [topFrame p0]) = some r) :
    ρR (708 + N) (stL (hl12 w.params) 1899 oz) (restOf (grp 49 19 ++ rest) topEnv cE ⟨256, 0, 256, 9⟩ [topFrame p0]) = some r := piece_app (seg_of (ln12 w.params) (pc13 w oz)) h
theorem ln13 (P : Params) : (hl13 P).length = 980 := κR
section
variable {w : World}
theorem wrap_bind {α β : Type} (x : Sem α) (f : α → Sem β) (K : β → Sem Fin) (H : Value → Sem Fin) (gd : Bool → Bool) (lv : List Value → List Value) :
    (x >>= f).wrap K H gd lv = x.wrap (fun a => (f a).wrap K H gd lv) H gd lv := by
  rw [Sem.bind_eq_wrap', Sem.wrap_wrap]; rfl
theorem go_three {X : Sem (List Value)} {T : List Value → Sem Flow} {K : Flow → Sem Fin} {H : Value → Sem Fin} {gd : Bool → Bool} {lv : List Value → List Value} {s s1 : Shared} {q0 a b q1 : Pos} {vs : List Value} {n M : Nat} {r : Shared}
    (g : Go w X s b vs s1 q1 n) (h : ρR M s1 ⟨(T vs).wrap K H gd lv, cE, q1, [topFrame p0]⟩ = some r) :
    ρR ((M + n) + 1 + 1) s ⟨(standAt a >>= fun Z => standAt b >>= fun Z => X >>= T).wrap K H gd lv, cE, q0, [topFrame p0]⟩ = some r := by
  have h1 := g (fun vs => (T vs).wrap K H gd lv) H gd lv M r h
  have h2 := go_at (w := w) (q := a) (q' := b) (s := s) (fun Z => X.wrap (fun vs => (T vs).wrap K H gd lv) H gd lv) H gd lv _ r h1
  have h3 := go_at (w := w) (q := q0) (q' := a) (s := s) (fun Z => (standAt b).wrap (fun Z => X.wrap (fun vs => (T vs).wrap K H gd lv) H gd lv) H gd lv) H gd lv _ r h2
  rw [wrap_bind]
  simp only [wrap_bind]
  exact h3
theorem run_one {st : Stmt} {env : Env} {rest : List Stmt} {Y : Sem Flow} {N : Nat} {s r : Shared} {q : Pos} (e : exec st env = Y)
    (h : ρR N s ⟨Y.wrap (fun f => (match f with | .next => execs [] env | f => pure f : Sem Flow).wrap (fun f => match f with | .next => (execs rest env).wrap doneF (leaveH env) id id | f => doneF f) (leaveH env) id id) (leaveH env) id id, cE, q, [topFrame p0]⟩ = some r) :
    ρR N s (restOf ([st] ++ rest) env cE q [topFrame p0]) = some r := by
  subst e
  unfold restOf
  rw [execs_app_wrap, execs_one, wrap_bind]
  exact h
end
theorem grp48 : grp 48 1 = [stAt 48] := κR
theorem run12 (w : World) (oz : OsState) (rest : List Stmt) (N : Nat) (r : Shared) (h : ρR N (stL (hl12 w.params) 1899 oz) (restOf rest topEnv cE ⟨256, 0, 256, 9⟩ [topFrame p0]) = some r) :
    ρR ((9 + N + 1252) + 1 + 1) (stL (hl11 w.params) 1110 oz) (restOf (grp 48 1 ++ rest) topEnv cE ⟨255, 0, 255, 8⟩ [topFrame p0]) = some r := by
  have h2 := prim_rows w.params
  have e1 : rOs pRows 1110 = primRows w.params := congrArg (fun x => x.1) h2
  have e2 : rTk pRows 1110 = 1898 := congrArg (fun x => x.2.1) h2
  have e3 : rSt pRows = 1252 := congrArg (fun x => x.2.2) h2
  have g := rows_go (w := w) (oz := oz) (pos := ⟨256, 12, 256, 4454⟩) pRows 1110 ⟨256, 12, 256, 4454⟩ ⟨(hl11 w.params).toArray, {}⟩
  rw [e1, e2, e3, ← pRows_is] at g
  have hsz : (⟨(hl11 w.params).toArray, {}⟩ : Heap).objs.size = 666 := by
    show (hl11 w.params).toArray.size = _
    rw [List.size_toArray]; exact ln11 w.params
  rw [pushAll_list, hsz, lnR] at g
  rw [grp48]
  refine run_one prim_exec (go_three (q0 := ⟨255, 0, 255, 8⟩) (n := 1252) (M := 9 + N) g ?_)
  exact seg_to (seg_of (lnT w.params) (pcT w oz _)) _ (leaveH topEnv) N r h
theorem op_is : opening pw = plainProg pw.main.scope.names := κR
theorem fence_is (s : Shared) : fenceModules? pw s = some s := κR
theorem pre_is (w : World) (os : OsState) : topGo treeTable pw w 11 (some (.ref 6)) 12 ⟨boot_heap w.params, Array.mk [], boot_drawn, boot_toks, os⟩ (topStub pw) = some (stL (hl0 w.params) 187 os, ⟨denote treeTable (.body (behindTheImports pw) topEnv), cE, p0, [topFrame p0]⟩) := κR
theorem block_is (w : World) (os : OsState) : segRun treeTable pw w 11 (some (.ref 6)) 1 1 (stL (hl0 w.params) 187 os) (blockOf (behindTheImports pw) topEnv cE p0 [topFrame p0]) = some (.next, stL (hl0 w.params) 187 os, cE, p0) := κR
theorem body_is : behindTheImports pw = grp 0 16 ++ (grp 16 2 ++ (grp 18 2 ++ (grp 20 2 ++ (grp 22 2 ++ (grp 24 2 ++ (grp 26 6 ++ (grp 32 4 ++ (grp 36 3 ++ (grp 39 3 ++ (grp 42 6 ++ (grp 48 1 ++ (grp 49 19 ++ [])))))))))))) := κR
theorem size_is (w : World) : ((boot_heap w.params).isNs mainGlobals && (Array.mk [] : Array GenState).size == 0, (boot_heap w.params).objs.size, (boot_heap w.params).nsMap mainGlobals "__annotations__") = (true, 11, some (.ref 6)) := κR
noncomputable def topM : Nat := 12 + (1 + (672 + (517 + (647 + (649 + (714 + (645 + (729 + (655 + (667 + (669 + (315 + ((9 + (708 + 1) + 1252) + 1 + 1)))))))))))))
theorem fin_is (w : World) (os : OsState) : ρR 2 (stL (hl13 w.params) 2050 os) ⟨doneF .next, cE, ⟨367, 0, 374, 15⟩, [topFrame p0]⟩ = some (stL (hl13 w.params) 2050 os) := κR
theorem run_all (w : World) (os : OsState) : ρR (12 + (1 + (672 + (517 + (647 + (649 + (714 + (645 + (729 + (655 + (667 + (669 + (315 + ((9 + (708 + 2) + 1252) + 1 + 1))))))))))))))
    ⟨boot_heap w.params, Array.mk [], boot_drawn, boot_toks, os⟩ (topStub pw) = some (stL (hl13 w.params) 2050 os) := by
  refine go_top (pre_is w os) (piece_block (block_is w os) ?_)
  rw [body_is]
  exact run1 w os _ _ _ (run2 w os _ _ _ (run3 w os _ _ _ (run4 w os _ _ _ (run5 w os _ _ _ (run6 w os _ _ _ (run7 w os _ _ _ (run8 w os _ _ _ (run9 w os _ _ _ (run10 w os _ _ _ (run11 w os _ _ _ (run12 w os _ _ _ (run13 w os _ _ _ (piece_nil (fin_is w os))))))))))))))
noncomputable def q1 : Program := { pw with main := { pw.main with body := [stAt 67] } }
noncomputable def loose1 : List PySem.Str := pw.boundNames.filter fun n => !(n == "law")
abbrev row1 : OpenRow := PySem.Challenge.rw_nt0185_01.row
noncomputable def h1 (P : Params) : Heap := ⟨(hl13 P).toArray, {}⟩
theorem look1 (w : World) (os : OsState) : (staticsOk (importedModules pw.main.body) (boot_heap w.params) (h1 w.params) && namesBound pw (h1 w.params) && gensDone ⟨h1 w.params, #[], {}, 2050, os⟩ && laidKept (boot_heap w.params) (h1 w.params)) = true := κR
theorem q1_chains : chainsOk q1 = true := κR
noncomputable def fnPos : Stmt → Pos
  | .FunctionDef _ _ _ _ _ _ _ _ _ p => p
  | _ => ⟨0, 0, 0, 0⟩
noncomputable def d1 : DefRec := ⟨"law", fPar (stAt 67), fBody (stAt 67), fScope (stAt 67), fnPos (stAt 67)⟩
theorem q1_def : defOf q1 "law" = some (d1, []) := κR
noncomputable abbrev Xt1 (s : Shared) : Bool := xlAt q1 [] s && recOk (RowW.records row1.toRowW) s
theorem look2 (w : World) (os : OsState) : openSeen q1 loose1 (importedModules pw.main.body) Xt1 true ⟨h1 w.params, #[], {}, 2050, os⟩ = openGood q1 loose1 := κR
theorem left1 : LeftO pw q1 loose1 Xt1 (fun s => (s.heap.objs.toList, s.heap.life, s.toks)) (fun w => (hl13 w.params, {}, 2050)) 20000 :=
  LeftO.of_pieces (H₀ := boot_heap) (H₁ := h1) (gs₀ := Array.mk []) (gs₁ := #[]) (d₀ := boot_drawn) (d₁ := {}) (k₀ := boot_toks) (k₁ := 2050) (m₀ := 11) (ann := some (.ref 6)) (boot_open op_is δ fence_is) size_is run_all δ fun w => funext fun os => by
    refine Prod.ext (look1 w os) (Prod.ext (look2 w os) ?_)
    rfl
def YP (w : World) (h : Heap) : Prop := ∀ a o, (bt w.params).get a = some o → h.get? a = some o
theorem bt_list (P : Params) : (bt P).list 980 = hl13 P := κR
theorem bt_live (P : Params) : ((hl13 P).all fun o => !o.isFreed) = true := κR
theorem get_full : ∀ (T : BT) (n i : Nat), Full T n → n ≤ i → T.get i = none
  | .nil, _, _, _, _ => rfl
  | .node v l r, n, i, ⟨h0, hl, hr⟩, hi => by
    rw [BT.get_node, if_neg ω]
    by_cases p : i % 2 = 1
    · rw [if_pos p]; exact get_full l _ _ hl ω
    · rw [if_neg p]; exact get_full r _ _ hr ω
noncomputable def fullB : BT → Nat → Bool
  | .nil, n => n == 0
  | .node _ l r, n => Nat.blt 0 n && (fullB l (n / 2) && fullB r ((n - 1) / 2))
theorem full_of : ∀ (T : BT) (n : Nat), fullB T n = true → Full T n
  | .nil, n, h => eq_of_beq h
  | .node _ l r, n, h => by
    simp only [fullB, Bool.and_eq_true] at h
    exact ⟨Nat.le_of_ble_eq_true h.1, full_of l _ h.2.1, full_of r _ h.2.2⟩
theorem bt_full (P : Params) : Full (bt P) 980 := full_of _ _ (by kernel_rfl)
theorem yp_of (w : World) (s : Shared) (h : (s.heap.objs.toList, s.heap.life, s.toks) = (hl13 w.params, {}, 2050)) : YP w s.heap := by
  intro a o ha
  have h1 := congrArg Prod.fst h
  have h2 := congrArg Prod.snd h
  have lt : a < 980 := by
    by_cases q : a < 980
    · exact q
    · rw [get_full _ _ _ (bt_full w.params) ω] at ha; cases ha
  have e1 : (hl13 w.params)[a]? = some o := by
    rw [← bt_list]
    unfold BT.list
    rw [List.getElem?_map, List.getElem?_range lt]
    simp [ha]
  have nf : o.isFreed = false := by
    have := List.all_eq_true.mp (bt_live w.params) o (List.mem_of_getElem? e1)
    simpa using this
  have e2 : s.heap.objs[a]? = some o := by
    rw [← Array.getElem?_toList]
    have h1' : s.heap.objs.toList = hl13 w.params := h1
    rw [h1']; exact e1
  unfold Heap.get?
  rw [e2]
  obtain ⟨c, dd, dt, sl⟩ := o
  cases dt <;> first | rfl | cases nf
theorem well_said' : PySem.W.Fast.tw9446332074065402090 PySem.Challenge.rw_nt0185_01 = true := κR
theorem well_said : PySem.Challenge.rw_nt0185_01.wellSaid = true := (congrFun PySem.W.Fast.te9446332074065402090 _).trans well_said'
theorem wit1 : row1.toRowW.promised := by w_witness2
def LawCall : Prop := ∀ (w : World) (s s₁ : Shared) (args : List WData) (vs : List Value) (as : List Addr), s.toks = 2050 → YP w s₁.heap → s₁.heap.Ns mainGlobals (s.heap.nsMap mainGlobals) → row1.toRowW.claim.pre args = true → WData.layableAll args = true → Laid row1.toRowW.records w s s₁ args vs as → sysModules < s.heap.objs.size → s.toks ≤ s₁.toks →
  ∃ f, s.heap.nsMap mainGlobals "law" = some f ∧ wpAny (model pw w) callerA (PySem.call f vs) (fun v s' => GoodWG row1.toRowW.claim (classAt s.heap) (ExcName.means s.heap) args s₁ (.ok (.ret v)) s') (fun e s' => GoodWG row1.toRowW.claim (classAt s.heap) (ExcName.means s.heap) args s₁ (.error e) s') s₁
theorem free1 : frees row1.toRowW = true := by decide +kernel
theorem opens1 : opensWell row1.prog = true := by decide +kernel
theorem bare1 : row1.prog.bare := ⟨rfl, rfl, rfl, rfl, rfl, by decide +kernel⟩
theorem the1 : row1.prog.theDef row1.name = some (d1.params, d1.body, d1.scope) := κR
theorem kw1 : kwWritten? d1.params.kwonlyargs d1.params.kw_defaults = some [] := κR
theorem holds_of (call : LawCall) : PySem.Challenge.rw_nt0185_01.Holds := by
  have hX : ∀ s, Xt1 s = true → XL q1 [] (s.heap.nsMap mainGlobals) s.heap := fun s e => xl_of s (Bool.and_eq_true_iff.mp e).1
  refine holds_law well_said fun said => ⟨said, wit1, ⟨bare1, opens1, rfl⟩, wit1.witness, fun w => ⟨(left1.behind hX q1_chains w).1, fun s' hs' => ?_⟩⟩
  obtain ⟨s₀, hf, hg0, s, hT, hz, hgens, hg, G, y⟩ := (left1.behind (XP := XL q1 []) hX q1_chains w).2 s' hs'
  refine ⟨s₀, hf, hg0, s, hT, (fun n hn => ?_), (fun x hx => nomatch hx), (fun x hx => nomatch hx), ?_⟩
  · obtain rfl : n = row1.name := List.mem_singleton.mp hn
    exact pinned_of_view hg G q1_def the1 kw1
  have hgens : s.gens = #[] := Array.eq_empty_of_size_eq_zero (beq_iff_eq.mp hgens)
  refine ClaimW.callFrom_of_specG (c := row1.toRowW.claim) hz hgens fun args hpre hlay ord hord => ?_
  obtain ⟨⟨vs, s₁⟩, hlaid⟩ := Option.isSome_iff_exists.mp (layAllW_isSome (P := w.params) (ord := ord) G.has args row1.toRowW.args s (pre_splitW hpre).1)
  have gr := layAllW_grows _ _ _ hlaid
  have hal := layAllW_rest _ _ _ hlaid
  obtain ⟨as, hrd, hin, hold⟩ := reads_layAllW hord _ _ _ hlaid hlay s₁.heap (fun Z Z e => e)
  have L : Laid row1.toRowW.records w s s₁ args vs as := ⟨⟨ord, hord, hlaid⟩, hrd, hin, hold, gr.keeps, hal.1.trans hgens, hal.2.2.1⟩
  have G₁ := G.keeps XL.keeps gr.keeps
  obtain ⟨hsame, hu, ha, hap, hm⟩ := frees_parts free1
  obtain ⟨f, hfn, h⟩ := call w s s₁ args vs as (congrArg (fun x => x.2.2) y) (fun a o e => gr.keeps a o (yp_of w s y a o e)) G₁.T.g hpre hlay L G.low gr.toks
  refine ⟨vs, s₁, hlaid, ?_⟩
  have hfn' : s.heap.nsMap mainGlobals row1.name = some f := hfn
  refine wpAny_bind (wpAny_nsGet (name := row1.name) G₁.T.g ?_)
  rw [hfn']
  refine wpAny_bind (wpAny_mono h (fun v s' g => wpAny_pure ⟨_, rfl, ?_⟩) fun e s' g => ?_)
  · have z := g.laid (c := row1.toRowW.claim) hsame rfl (ident_freeW hu ha hap) L
    exact ⟨z.1, z.2.1, z.2.2, fun q => nomatch q⟩
  · have z := g.laid (c := row1.toRowW.claim) hsame rfl (ident_freeW hu ha hap) L
    exact ⟨z.1, z.2.1, z.2.2, fun q => nomatch q⟩
local macro_rules
  | `(∃ $xs:explicitBinders, $b) => do
    let k := xs.raw[0]
    let bs : Array (Lean.Syntax × Lean.Term) ← if k.getKind == `Lean.unbracketedExplicitBinders then do
        let ty ← if k[1].getNumArgs = 0 then `(_) else pure ⟨k[1][1]⟩
        pure (k[0].getArgs.map fun x => (x, ty))
      else pure (k.getArgs.flatMap fun g => g[1].getArgs.map fun x => (x, (⟨g[3]⟩ : Lean.Term)))
    if bs.size < 2 || bs.size > 12 then Lean.Macro.throwUnsupported
    let mut ps : Array Lean.Term := #[]
    let mut b := b
    for _ in [0:8] do
      if let `($l ∧ $r) := b then
        ps := ps.push l
        b := r
    ps := ps.push b
    let p : Lean.Term ← if ps.size = 1 then pure b else if ps.size = 2 then `($(ps[0]!) ∧ $(ps[1]!)) else pure (Lean.Syntax.mkApp (Lean.mkIdent (.mkSimple s!"A{ps.size}")) ps)
    let fs ← bs.mapM fun (x, ty) => `(Lean.Parser.Term.funBinder| ($(⟨x[0]⟩) : $ty))
    let f ← `(fun $fs* => $p)
    return Lean.Syntax.mkApp (Lean.mkIdent (.mkSimple s!"E{bs.size}")) #[f]
noncomputable abbrev DEN : Code → Sem Fin := PySem.W.Fast.tw11892475500146522536 PySem.W.Fast.tw14364793385576792824
noncomputable def enterT (st : List (Code × Pos)) : Sem Unit := match PySem.W.Fast.tw15066281185411960212 0 with
  | .stack k => k st
  | t => t
noncomputable def entC (c : Code) (st : List (Code × Pos)) : Sem Fin := PySem.W.R.bindR (enterT st) fun Z => .pure (.again c)
structure Ent where
  a : Addr
  o : Obj
  own : Bool
noncomputable def nth : List Ent → Nat → Option Ent
  | [], _ => none
  | e :: r, i => match i with
    | 0 => some e
    | i + 1 => nth r i
noncomputable def setN (f : Obj → Obj) : List Ent → Nat → List Ent
  | [], _ => []
  | e :: r, i => match i with
    | 0 => ⟨e.a, f e.o, e.own⟩ :: r
    | i + 1 => e :: setN f r i
structure Ans where
  n : Nat → Nat
  i : Nat → Int
  v : Nat → Value
  s : Nat → PySem.Str
  b : Nat → Bool
noncomputable def Ans.l (x : Ans) : List Value := (List.range (x.n 41)).map fun j => x.v (j + 100)
noncomputable def Ans.w (x : Ans) : Value := match x.n 60 with
  | 0 => .bool (x.b 5)
  | 1 => .int (x.i 5) (x.n 55)
  | _ => .ref (x.n 5)
noncomputable def fix60 (ξ : Nat → Ans) (j k : Nat) : Nat → Ans := fun i => if i == j then { ξ i with n := fun m => if m == 60 then k else (ξ i).n m } else ξ i
structure Resp where
  r : Result
  upd : List (Nat × Obj)
  new : List Ent
  sz : Nat
  tk : Nat
noncomputable def seqOf (M : List Ent) (i : Nat) : Array Value := match nth M i with
  | some e => match e.o.data with
    | .seq xs _ => xs
    | _ => #[]
  | none => #[]
noncomputable def tupOf (M : List Ent) (i : Nat) : Obj := { cls := .type "tuple", data := .seq (seqOf M i) }
noncomputable def lstOf (M : List Ent) (i k : Nat) : Obj := { cls := .type "list", data := .seq (seqOf M i) k }
noncomputable def updAll : List (Nat × Obj) → List Ent → List Ent
  | [], M => M
  | p :: r, M => updAll r (setN (fun Z => p.2) M p.1)
noncomputable def appM : List Ent → List Ent → List Ent
  | [], M => M
  | e :: r, M => e :: appM r M
structure Fr1 where
  c : Code
  k : Result → Sem Fin
  d : Nat
  u : Nat
  g : Bool
noncomputable abbrev Kt := List Fr1
noncomputable def dec : Nat → Nat → List Nat
  | 0, _ => []
  | k + 1, n => (n % 128) :: dec k (n / 128)
inductive Out
  | fin (r : Result) (M : List Ent) (sz tk : Nat)
  | ob (a b : Nat) (o : Out)
  | qt (a b : String) (o : Out)
  | stk (k k' : List (Code × Pos) → Sem Fin) (d : Nat) (o : Out)
  | req (c : Code) (d u : Nat) (g : Bool) (M : List Ent) (sz tk : Nat) (o : Out)
  | ask (a b a' b' : Sem Fin) (o : Out)
  | agn (c : Code) (d u : Nat) (g : Bool) (M : List Ent) (sz tk : Nat)
  | bad (n : Nat) (s : String) (orc : List Nat)
noncomputable def obsL : Out → List Nat
  | .ob a _ o => a :: obsL o
  | .qt _ _ o => obsL o
  | .stk _ _ _ o => obsL o
  | .req _ _ _ _ _ _ _ o => obsL o
  | .ask _ _ _ _ o => obsL o
  | _ => []
noncomputable def obsR : Out → List Nat
  | .ob _ a o => a :: obsR o
  | .qt _ _ o => obsR o
  | .stk _ _ _ o => obsR o
  | .req _ _ _ _ _ _ _ o => obsR o
  | .ask _ _ _ _ o => obsR o
  | _ => []
noncomputable def qtL : Out → List String
  | .ob _ _ o => qtL o
  | .qt a _ o => a :: qtL o
  | .stk _ _ _ o => qtL o
  | .req _ _ _ _ _ _ _ o => qtL o
  | .ask _ _ _ _ o => qtL o
  | _ => []
noncomputable def qtR : Out → List String
  | .ob _ _ o => qtR o
  | .qt _ a o => a :: qtR o
  | .stk _ _ _ o => qtR o
  | .req _ _ _ _ _ _ _ o => qtR o
  | .ask _ _ _ _ o => qtR o
  | _ => []
noncomputable def stkL : Out → List (List (Code × Pos) → Sem Fin)
  | .ob _ _ o => stkL o
  | .qt _ _ o => stkL o
  | .stk k _ _ o => k :: stkL o
  | .req _ _ _ _ _ _ _ o => stkL o
  | .ask _ _ _ _ o => stkL o
  | _ => []
noncomputable def stkR : Out → List (List (Code × Pos) → Sem Fin)
  | .ob _ _ o => stkR o
  | .qt _ _ o => stkR o
  | .stk _ k _ o => k :: stkR o
  | .req _ _ _ _ _ _ _ o => stkR o
  | .ask _ _ _ _ o => stkR o
  | _ => []
noncomputable def askL : Out → List (Sem Fin)
  | .ob _ _ o => askL o
  | .qt _ _ o => askL o
  | .stk _ _ _ o => askL o
  | .req _ _ _ _ _ _ _ o => askL o
  | .ask a _ a' _ o => a :: a' :: askL o
  | _ => []
noncomputable def askR : Out → List (Sem Fin)
  | .ob _ _ o => askR o
  | .qt _ _ o => askR o
  | .stk _ _ _ o => askR o
  | .req _ _ _ _ _ _ _ o => askR o
  | .ask _ b _ b' o => b :: b' :: askR o
  | _ => []
inductive View
  | fin (r : Result) (M : List (Option Ent)) (sz tk : Nat)
  | dep (d : Nat) (o : View)
  | req (c : Code) (d u : Nat) (g : Bool) (M : List (Option Ent)) (o : View)
  | agn (c : Code) (d u : Nat) (g : Bool) (M : List (Option Ent)) (sz tk : Nat)
  | bad (n : Nat) (s : String) (orc : List Nat)
noncomputable def hd1 : List (List Nat) → List Nat
  | [] => []
  | x :: _ => x
noncomputable def tl1 : List (List Nat) → List (List Nat)
  | [] => []
  | _ :: x => x
noncomputable def sel : List Nat → List Ent → List (Option Ent)
  | [], _ => []
  | i :: r, M => nth M i :: sel r M
noncomputable def view : List (List Nat) → Out → View
  | ss, .ob _ _ o => view ss o
  | ss, .qt _ _ o => view ss o
  | ss, .stk _ _ d o => .dep d (view ss o)
  | ss, .req c d u g M _ _ o => .req c d u g (sel (hd1 ss) M) (view (tl1 ss) o)
  | ss, .ask _ _ _ _ o => view ss o
  | ss, .fin r M sz tk => .fin r (sel (hd1 ss) M) sz tk
  | ss, .agn c d u g M sz tk => .agn c d u g (sel (hd1 ss) M) sz tk
  | _, .bad n s orc => .bad n s orc
noncomputable def wt : Code → Nat
  | .builtin .. => 305
  | .call .. => 0
  | .func .. => 1
  | .body .. => 1
  | .expr .. => 1
  | .compStart .. => 1
  | .compLoop .. => 1
  | _ => 0
noncomputable def ut : Code → Nat
  | .builtin .. => 10
  | .call .. => 1
  | .func .. => 3
  | .body .. => 3
  | .expr .. => 3
  | .compStart .. => 3
  | .compLoop .. => 3
  | _ => 0
noncomputable def gt : Code → Bool
  | .builtin .. => false
  | _ => true
noncomputable def loopy : Code → Bool
  | .whileLoop .. => true
  | .forLoop .. => true
  | .compLoop .. => true
  | _ => false
noncomputable def gb (c : Code) : Bool → Bool
  | true => gt c
  | false => false
noncomputable def nodeW : Sem Fin → String
  | .pure _ => "pure" | .raise _ => "raise" | .unsupported w => "unsupported " ++ w | .finish _ => "finish" | .rule t _ => "rule" | .at .. => "at" | .load .. => "load" | .update .. => "update" | .alloc .. => "alloc" | .loadIfAlive .. => "alive" | .point .. => "point" | .register .. => "register" | .fresh _ => "fresh" | .ask _ => "ask" | .choose .. => "choose" | .os .. => "os" | .call .. => "call" | .handled .. => "handled" | .newGen .. => "newGen" | .genState .. => "genState" | .resume .. => "resume" | .yield .. => "yield" | .stack _ => "stack" | .fork .. => "fork" | .thread _ => "thread" | .await .. => "await"
noncomputable def entered (B : BT) : Nat → Sem Fin → Option Code
  | 0, _ => none
  | n + 1, t => match t with
    | .load a _ k => match B.get a with
      | some o => entered B n (k o)
      | none => none
    | .pure fin => match fin with
      | .again c => some c
      | .done _ => none
    | _ => none
noncomputable def ids : List String → Nat → Option String
  | [], _ => none
  | e :: r, i => match i with
    | 0 => some e
    | i + 1 => ids r i
noncomputable def rowG : String := "special-get-raises"
noncomputable def setP (S : Setting) (f : String → Bool) : Setting := ⟨S.program, { S.params with followText := f }⟩
structure Cx where
  den : Code → Sem Fin
  B : BT
  S : Setting
  ent : Code → List (Code × Pos) → Sem Fin
  I : List String
  J : List String
  halt : Code → Bool
noncomputable def oE {α : Type} (o : Option α) (b : Out) (f : α → Out) : Out := match o with
  | some a => f a
  | none => b
noncomputable def bE (x : Bool) (t f : Out) : Out := match x with
  | true => t
  | false => f
noncomputable def itTy (o : Obj) : Option String := match o with
  | ⟨cl, dd, dt, _⟩ => match cl with
    | .type ty => match dd with
      | none => match dt with
        | .fields _ => some ty
        | _ => none
      | some _ => none
    | _ => none
noncomputable def isLC (e : PySem.Expr) (dp : Nat) : Bool := match e with
  | .ListComp _ gs _ _ => match gs with
    | ⟨_, _, _, as⟩ :: _ => match as with
      | .ofNat n => match n with
        | 0 => match dp with
          | 0 => true
          | _ + 1 => false
        | _ + 1 => false
      | .negSucc _ => false
    | [] => false
  | _ => false
noncomputable def run (V : Cx) : Nat → Code → Nat → Nat → Bool → Kt → Sem Fin → List Ent → Nat → Nat → List Nat → List (Ans → List Ent → Nat → Nat → Resp) → (Nat → Ans) → Out
  | 0, _, _, _, _, _, _, _, _, _, orc, _, _ => .bad 0 "fuel" orc
  | n + 1, c, d, u, g, κ, t, M, sz, tk, orc, pl, ξ => match t with
    | .pure fin => match fin with
      | .done f => match κ with
        | [] => .fin (.ok f) M sz tk
        | p :: κ => run V n p.c p.d p.u p.g κ (p.k (.ok f)) M sz tk orc pl ξ
      | .again c' => match c' with
        | .builtin id _ => match orc with
          | [] => .bad 1 "orc" orc
          | i :: orc => oE (ids V.I i) (.bad 1 "id" orc) fun id' => .qt id id' (run V n c' d u g κ (V.den c') M sz tk orc pl ξ)
        | _ => match loopy c' with
          | true => match orc with
            | [] => .bad 1 "orc" orc
            | i :: orc => match i with
              | 0 => run V n c' d u g κ (V.den c') M sz tk orc pl ξ
              | _ + 1 => match κ with
                | [] => .agn c' d u g M sz tk
                | _ :: _ => .bad 11 "a loop's stop" orc
          | false => run V n c' d u g κ (V.den c') M sz tk orc pl ξ
    | .raise e => match κ with
      | [] => .fin (.error e) M sz tk
      | p :: κ => run V n p.c p.d p.u p.g κ (p.k (.error e)) M sz tk orc pl ξ
    | .rule _ k => run V n c d u g κ (k ()) M sz tk orc pl ξ
    | .at _ k => run V n c d u g κ (k ()) M sz tk orc pl ξ
    | .point _ k => run V n c d u g κ (k ()) M sz tk orc pl ξ
    | .ask k => match orc with
      | [] => .bad 1 "orc" orc
      | i :: orc => match i with
        | 0 => run V n c d u g κ (k V.S) M sz tk orc pl ξ
        | _ + 1 => .ask (k V.S) (k (setP V.S fun Z => V.S.params.followText rowG)) (k (setP V.S fun Z => true)) (k (setP V.S fun Z => false)) (run V n c d u g κ (k (setP V.S fun Z => false)) M sz tk orc pl ξ)
    | .load a _ k => match orc with
      | [] => .bad 1 "orc" orc
      | i :: orc => match i with
        | 0 => oE (V.B.get a) (.bad 2 "base" orc) fun o => run V n c d u g κ (k o) M sz tk orc pl ξ
        | i + 1 => oE (nth M i) (.bad 3 "nth" orc) fun e => .ob a e.a (run V n c d u g κ (k e.o) M sz tk orc pl ξ)
    | .loadIfAlive a k => match orc with
      | [] => .bad 1 "orc" orc
      | i :: orc => match i with
        | 0 => oE (V.B.get a) (.bad 2 "base" orc) fun o => run V n c d u g κ (k (some o)) M sz tk orc pl ξ
        | i + 1 => oE (nth M i) (.bad 3 "nth" orc) fun e => .ob a e.a (run V n c d u g κ (k (some e.o)) M sz tk orc pl ξ)
    | .update a _ f k => match orc with
      | [] => .bad 1 "orc" orc
      | i :: orc => match i with
        | 0 => .bad 4 "upd" orc
        | i + 1 => oE (nth M i) (.bad 3 "nth" orc) fun e => bE e.own (bE (f e.o).isFreed (.bad 4 "freed" orc) (.ob a e.a (run V n c d u g κ (k ()) (setN f M i) sz tk orc pl ξ))) (.bad 4 "own" orc)
    | .alloc o k => bE o.isFreed (.bad 4 "freed" orc) (run V n c d u g κ (k sz) (⟨sz, o, true⟩ :: M) (sz + 1) tk orc pl ξ)
    | .fresh k => run V n c d u g κ (k tk) M sz (tk + 1) orc pl ξ
    | .handled own k => match own with
      | false => run V n c d u g κ (k none) M sz tk orc pl ξ
      | true => .bad 5 "handled" orc
    | .stack k => oE (entered V.B 20 (k [])) (.bad 9 "stack" orc) fun c' => match c' with
        | .func b env => .stk k (V.ent (.func b env)) (d + wt c) (bE (V.halt (.func b env)) (match κ with
            | [] => .agn (.func b env) d u g M sz tk
            | _ :: _ => .bad 11 "a def's stop" orc) (run V n (.func b env) d u g κ (V.den (.func b env)) M sz tk orc pl ξ))
        | _ => .bad 9 "stack: no def" orc
    | .call c' hd _ _ k => match hd with
      | none => match orc with
        | [] => .bad 1 "orc" orc
        | i :: orc => match i with
          | 0 => run V n c' (d + wt c) (u + ut c) (gb c g) (⟨c, k, d, u, g⟩ :: κ) (V.den c') M sz tk orc pl ξ
          | 1 => match pl with
            | [] => .bad 10 "plan" orc
            | p :: pl => .req c' (d + wt c) (u + ut c) (gb c g) M sz tk (match p (ξ 0) M sz tk with | ⟨r, upd, new, sz', tk'⟩ => run V n c d u g κ (k r) (appM new (updAll upd M)) sz' tk' orc pl fun j => ξ (j + 1))
          | i + 2 => match c' with
            | .compStart e dp it acc env => match it with
              | .ref a => oE (nth M i) (.bad 8 "comp nth" orc) fun e' => oE (itTy e'.o) (.bad 8 "comp it" orc) fun ty => match orc with
                | [] => .bad 1 "orc" orc
                | j :: orc => oE (ids V.J j) (.bad 1 "id" orc) fun id' => bE (isLC e dp) (.ob a e'.a (.qt ty id' (run V n (.compLoop e 0 (.ref a) acc env) (d + wt c) (u + ut c) (gb c g) (⟨c, k, d, u, g⟩ :: κ) (V.den (.compLoop e 0 (.ref a) acc env)) M sz tk orc pl ξ))) (.bad 8 "no list comp" orc)
              | _ => .bad 8 "comp" orc
            | _ => .bad 8 "comp" orc
      | some _ => .bad 6 "hd" orc
    | .unsupported w => .bad 7 w orc
    | t => .bad 7 (nodeW t) orc
noncomputable abbrev pwm (w : World) : Model := model PySem.Challenge.pw_nt0185_01 w
noncomputable abbrev AA (d u : Nat) (g : Bool) : Around := ⟨none, d, none, match g with | true => some [] | false => none, u⟩
noncomputable abbrev Gh := Addr → Obj → Prop
def Gh.le (F F' : Gh) : Prop := ∀ a o, F a o → F' a o
def Holds (F : Gh) (h : Heap) : Prop := ∀ a o, F a o → h.get? a = some o
def Keeps (h h' : Heap) (mt : List Addr) : Prop := ∀ b o, h.get? b = some o → b ∉ mt → h'.get? b = some o
def Above (F F' : Gh) (h : Heap) : Prop := ∀ a o, F' a o → F a o ∨ h.get? a = none
def Dom (h h' : Heap) : Prop := ∀ a o, h.get? a = some o → ∃ o', h'.get? a = some o'
theorem DEN_eq : DEN = denote table := by
  show PySem.W.Fast.tw11892475500146522536 PySem.W.Fast.tw14364793385576792824 = _
  rw [← PySem.W.Fast.te11892475500146522536, ← PySem.W.Fast.te14364793385576792824, ← table_eq_tree]
theorem dle {p : Prop} [Decidable p] {a : p → Nat} {b : ¬p → Nat} (h1 : ∀ h, a h ≤ 3) (h2 : ∀ h, b h ≤ 3) : dite p a b ≤ 3 := by
  by_cases h : p
  · rw [dif_pos h]; exact h1 h
  · rw [dif_neg h]; exact h2 h
theorem fr3 (id : String) (args : Args) : (Code.builtin id args).frames ≤ 3 := by
  delta Code.frames Code.frames.match_1 Code.frames._sparseCasesOn_1
  dsimp only
  repeat refine dle (fun h => by subst h; exact Nat.le_of_ble_eq_true rfl) fun Z => ?_
  show (if (Code.builtin id args).isFrame = true then 1 else 0) ≤ 3
  split <;> decide
theorem weight_le (c : Code) : c.weight ≤ wt c := by
  cases c with
  | builtin id args =>
    have h1 := fr3 id args
    show _ + _ + _ + _ ≤ 305
    unfold claimMargin
    split <;> split <;> split <;> omega
  | compStart e d it acc env =>
    show (if (Code.compStart e d it acc env).isFrame = true then 1 else 0) + 0 + 0 + 0 ≤ 1
    split <;> decide
  | compLoop e d it acc env =>
    show (if (Code.compLoop e d it acc env).isFrame = true then 1 else 0) + 0 + 0 + 0 ≤ 1
    split <;> decide
  | _ => exact Nat.le_of_eq rfl
theorem units_le (c : Code) : c.cUnits ≤ ut c := by
  cases c with
  | builtin id args =>
    have h1 := fr3 id args
    show 1 + 3 * _ ≤ 10
    omega
  | compStart e d it acc env =>
    show 3 * (if (Code.compStart e d it acc env).isFrame = true then 1 else 0) ≤ 3
    split <;> decide
  | compLoop e d it acc env =>
    show 3 * (if (Code.compLoop e d it acc env).isFrame = true then 1 else 0) ≤ 3
    split <;> decide
  | _ => exact Nat.le_of_eq rfl
theorem quiet_of {c : Code} (h : ∀ id a, c ≠ .builtin id a) : c.quiet = true := by
  cases c <;> first | rfl | exact absurd rfl (h _ _)
theorem below_le {Γ : Ctx} {A : Around} {d u : Nat} {g : Bool} (hh : A.handled = none) (hd : A.depth ≤ d) (hu : A.units ≤ u) (hg : g = true → A.guards = some []) (h : Γ.Below A) : Γ.Below (AA d u g) := by
  refine ⟨h.1.trans hh, Nat.le_trans h.2.1 hd, (by intro _ e; cases e), ?_, Nat.le_trans h.2.2.2.2 hu⟩
  intro gs e
  cases g with
  | false => cases e
  | true => cases e; exact h.2.2.2.1 [] (hg rfl)
theorem code_le {M : Model} {A : Around} {d u : Nat} {g : Bool} {c : Code} {R : Result → Shared → Prop} {s : Shared} (hh : A.handled = none) (hd : A.depth ≤ d) (hu : A.units ≤ u) (hg : g = true → A.guards = some []) (h : codeAny M (AA d u g) c R s) : codeAny M A c R s :=
  fun Γ p hc hΓ => h Γ p hc (below_le hh hd hu hg hΓ)
theorem guards_gb {c : Code} {g : Bool} (h : gb c g = true) : g = true ∧ c.guards = [] := by
  cases g with
  | false => cases h
  | true =>
    refine ⟨rfl, ?_⟩
    cases c <;> first | rfl | cases h
theorem under_le {M : Model} {d u : Nat} {g : Bool} {c c' : Code} {R : Result → Shared → Prop} {s : Shared} (h : codeAny M (AA (d + wt c) (u + ut c) (gb c g)) c' R s) : codeAny M (((AA d u g).under c).mark none) c' R s :=
  code_le rfl (Nat.add_le_add_left (weight_le c) d) (Nat.add_le_add_left (units_le c) u) (fun q => by
    obtain ⟨rfl, e⟩ := guards_gb q
    show pushGuards c.guards (some []) = some []
    rw [e]; rfl) h
noncomputable abbrev sto (s₀ : Shared) (h : Heap) (tk : Nat) : Shared := { s₀ with heap := h, toks := tk }
noncomputable abbrev postC (w : World) (A : Around) (R : Result → Shared → Prop) : Fin → Shared → Prop := fun fin s' => match fin with
  | .done f => R (.ok f) s'
  | .again c' => c'.quiet = true ∧ codeAny (pwm w) A c' R s'
noncomputable abbrev postE (R : Result → Shared → Prop) : Value → Shared → Prop := fun e s' => R (.error e) s'
noncomputable def endK (w : World) (R : Result → Shared → Prop) : Kt → Result → Shared → Prop
  | [] => R
  | p :: κ => fun r s' => wpAny (pwm w) ((AA p.d p.u p.g).under p.c) (p.k r) (postC w (AA p.d p.u p.g) (endK w R κ)) (postE (endK w R κ)) s'
section
variable {M : Model} {A : Around} {α : Type} {Q : α → Shared → Prop} {E : Value → Shared → Prop} {s : Shared}
theorem z_pure {a : α} (h : Q a s) : wpAny M A (.pure a) Q E s := fun Z Z Z => h
theorem z_raise {e : Value} (h : E e s) : wpAny M A (.raise e : Sem α) Q E s := fun Z Z Z => h
theorem z_rule {t : String} {k : Unit → Sem α} (h : wpAny M A (k ()) Q E s) : wpAny M A (.rule t k) Q E s := fun Γ p hΓ => h Γ p hΓ
theorem z_at {q : Pos} {k : Unit → Sem α} (h : wpAny M A (k ()) Q E s) : wpAny M A (.at q k) Q E s := fun Γ Z hΓ => h Γ q hΓ
theorem z_point {l : List Value} {k : Unit → Sem α} (h : wpAny M A (k ()) Q E s) : wpAny M A (.point l k) Q E s := fun Γ p hΓ => h Γ p hΓ
theorem z_alive {a : Addr} {o : Obj} {k : Option Obj → Sem α} (ho : s.heap.get? a = some o) (h : wpAny M A (k (some o)) Q E s) : wpAny M A (.loadIfAlive a k) Q E s := fun Γ p hΓ => by
  show Sem.wp _ _ (k (s.heap.get? a)) _ _ _ _
  rw [ho]; exact h Γ p hΓ
theorem z_fresh {k : Tok → Sem α} (h : wpAny M A (k s.toks) Q E { s with toks := s.toks + 1 }) : wpAny M A (.fresh k) Q E s := fun Γ p hΓ => h Γ p hΓ
theorem z_handled {k : Option Value → Sem α} {d u : Nat} {g : Bool} {c : Code} (h : wpAny M ((AA d u g).under c) (k none) Q E s) : wpAny M ((AA d u g).under c) (.handled false k) Q E s := fun Γ p hΓ => by
  show Sem.wp _ _ (k Γ.handled) _ _ _ _
  rw [show Γ.handled = none from hΓ.1]; exact h Γ p hΓ
end
abbrev Means (w : World) (R : Result → Shared → Prop) (c : Code) (d u : Nat) (g : Bool) (κ : Kt) (t : Sem Fin) (s : Shared) : Prop :=
  wpAny (pwm w) ((AA d u g).under c) t (postC w (AA d u g) (endK w R κ)) (postE (endK w R κ)) s
theorem runs_toks {M : Model} {Γ : Ctx} {p : Pos} {t : Sem Fin} {fs : List Frame} {s : Shared} {e : End} {s' : Shared} (h : Runs M Γ p t fs s e s') : s.toks ≤ s'.toks := by
  induction h <;> first | exact Nat.le_refl _ | assumption | (rename_i ih; exact Nat.le_of_succ_le ih) | (rename_i ih1 ih2; exact Nat.le_trans ih1 ih2) | (rename_i ih; exact ih)
theorem code_toks {M : Model} {A : Around} {c : Code} {R : Result → Shared → Prop} {s : Shared} (h : codeAny M A c (fun r s' => s.toks ≤ s'.toks → R r s') s) : codeAny M A c R s := fun Γ p hc hΓ => by
  obtain ⟨r, s', h1, h2⟩ := h Γ p hc hΓ
  exact ⟨r, s', h1, h2 (runs_toks h1)⟩
def nodeAny (M : Model) (A : Around) (c : Code) (R : Result → Shared → Prop) (s : Shared) : Prop := ∀ (Γ : Ctx) (p : Pos), Γ.In A → wpCode M (Γ.enter c none p) R p s
theorem node_of_code {M : Model} {d u : Nat} {g : Bool} {c : Code} {R : Result → Shared → Prop} {s : Shared} (h : codeAny M (AA d u g) c R s) : nodeAny M (AA d u g) c R s :=
  fun Γ p hΓ => h _ p rfl (hΓ.enter c none p (by simp))
theorem node_of_wp {M : Model} {A : Around} {c : Code} {Q E : Value → Shared → Prop} {R : Result → Shared → Prop} {s : Shared} (h : wpAny M A (runValue c) Q E s) (hQ : ∀ v s', Q v s' → R (.ok (.ret v)) s') (hE : ∀ e s', E e s' → R (.error e) s') : nodeAny M A c R s :=
  fun Γ p hΓ => by
    have z := h Γ p hΓ
    rw [Sem.wp_runValue] at z
    refine wpCode_mono (fun r s' q => ?_) z
    match r, q with
    | .ok (.ret v), q => exact hQ v s' q
    | .error e, q => exact hE e s' q
theorem in_le {Γ : Ctx} {A : Around} {d u : Nat} {g : Bool} (hh : A.handled = none) (hd : A.depth ≤ d) (hu : A.units ≤ u) (hg : g = true → A.guards = some []) (h : Γ.In A) : Γ.In (AA d u g) := by
  refine ⟨h.1.trans hh, Nat.le_trans h.2.1 hd, (by intro _ e; cases e), ?_, Nat.le_trans h.2.2.2.2 hu⟩
  intro gs e
  cases g with
  | false => cases e
  | true => cases e; exact h.2.2.2.1 [] (hg rfl)
theorem in_under {Γ : Ctx} {d u : Nat} {g : Bool} {c : Code} (h : Γ.In ((AA d u g).under c)) : Γ.In (AA (d + wt c) (u + ut c) (gb c g)) :=
  in_le rfl (Nat.add_le_add_left (weight_le c) d) (Nat.add_le_add_left (units_le c) u) (fun q => by
    obtain ⟨rfl, e⟩ := guards_gb q
    show pushGuards c.guards (some []) = some []
    rw [e]; rfl) h
theorem node_toks {M : Model} {A : Around} {c : Code} {R : Result → Shared → Prop} {s : Shared} (h : nodeAny M A c (fun r s' => s.toks ≤ s'.toks → R r s') s) : nodeAny M A c R s := fun Γ p hΓ => by
  obtain ⟨r, s', h1, h2⟩ := h Γ p hΓ
  exact ⟨r, s', h1, h2 (runs_toks h1)⟩
structure Rep (h₀ : Heap) (mt : List Addr) (F₀ F : Gh) (M : List Ent) (sz : Nat) (h : Heap) : Prop where
  size : h.objs.size = sz
  holds : Holds F h
  le : F₀.le F
  at_ : ∀ i e, nth M i = some e → h.get? e.a = some e.o
  fz : ∀ i e, nth M i = some e → e.own = false → F e.a e.o
  own : ∀ i e, nth M i = some e → e.own = true → ∀ o, ¬ F e.a o
  ne : ∀ i j e e', nth M i = some e → nth M j = some e' → i ≠ j → e.own = true → e.a ≠ e'.a
  keep : Keeps h₀ h mt
  fresh : ∀ i e, nth M i = some e → e.own = true → e.a ∈ mt ∨ h₀.get? e.a = none
  above : Above F₀ F h₀
  dom : Dom h₀ h
theorem nth_setN (f : Obj → Obj) : ∀ (M : List Ent) (i j : Nat), nth (setN f M i) j = if i = j then (nth M j).map (fun e => ⟨e.a, f e.o, e.own⟩) else nth M j
  | [], i, j => by cases i <;> cases j <;> simp [setN, nth]
  | e :: r, 0, 0 => rfl
  | e :: r, 0, j + 1 => by simp [setN, nth]
  | e :: r, i + 1, 0 => by simp [setN, nth]
  | e :: r, i + 1, j + 1 => by
    show nth (setN f r i) j = _
    rw [nth_setN f r i j]
    by_cases h : i = j
    · subst h; simp [nth]
    · rw [if_neg h, if_neg ω]; rfl
theorem setN_at {f : Obj → Obj} {M : List Ent} {i j : Nat} {e e' : Ent} (hi : nth M i = some e) (h : nth (setN f M i) j = some e') : (j = i ∧ e' = ⟨e.a, f e.o, e.own⟩) ∨ (j ≠ i ∧ nth M j = some e') := by
  rw [nth_setN] at h
  by_cases q : i = j
  · subst q
    rw [if_pos rfl, hi] at h
    exact .inl ⟨rfl, (Option.some.inj h).symm⟩
  · rw [if_neg q] at h
    exact .inr ⟨fun e => q e.symm, h⟩
section
variable {h₀ h : Heap} {mt : List Addr} {F₀ F : Gh} {M : List Ent} {sz : Nat}
theorem Rep.update (D : Rep h₀ mt F₀ F M sz h) {i : Nat} {e : Ent} {f : Obj → Obj} (hi : nth M i = some e) (ho : e.own = true) (hf : (f e.o).isFreed = false) : Rep h₀ mt F₀ F (setN f M i) sz (h.update e.a f) := by
  have hs : Heap.SameBut e.a h (h.update e.a f) := Heap.SameBut.update ..
  have ge : (h.update e.a f).get? e.a = some (f e.o) := by first | exact Heap.get?_update_self f (D.at_ i e hi) hf | exact Heap.get?_update_self _ (D.at_ i e hi) hf
  refine ⟨hs.1.trans D.size, fun a o ha => ?_, D.le, fun j e' hj => ?_, fun j e' hj hown => ?_, fun j e' hj hown => ?_, fun j k e' e'' hj hk hne hown => ?_, fun b o hb hm => ?_, fun j e' hj hown => ?_, D.above, fun a o ho' => ?_⟩
  · exact (hs.2 a fun q => D.own i e hi ho o (q ▸ ha)).trans (D.holds a o ha)
  · rcases setN_at hi hj with ⟨rfl, rfl⟩ | ⟨hn, hj⟩
    · exact ge
    · exact (hs.2 e'.a fun q => D.ne i j e e' hi hj (fun x => hn x.symm) ho q.symm).trans (D.at_ j e' hj)
  · rcases setN_at hi hj with ⟨rfl, rfl⟩ | ⟨hn, hj⟩
    · exact absurd (ho.symm.trans hown) (by simp)
    · exact D.fz j e' hj hown
  · rcases setN_at hi hj with ⟨rfl, rfl⟩ | ⟨hn, hj⟩
    · exact D.own j e hi ho
    · exact D.own j e' hj hown
  · have key : ∀ {j e'}, nth (setN f M i) j = some e' → ∃ e₁, nth M j = some e₁ ∧ e₁.a = e'.a ∧ e₁.own = e'.own := by
      intro j e' hj
      rcases setN_at hi hj with ⟨rfl, rfl⟩ | ⟨_, hj⟩
      · exact ⟨e, hi, rfl, rfl⟩
      · exact ⟨e', hj, rfl, rfl⟩
    obtain ⟨a1, b1, c1, d1⟩ := key hj
    obtain ⟨a2, b2, c2, d2⟩ := key hk
    rw [← c1, ← c2]
    exact D.ne j k a1 a2 b1 b2 hne (d1.trans hown)
  · by_cases q : b = e.a
    · rcases D.fresh i e hi ho with hm' | hz
      · exact absurd (q ▸ hm') hm
      · rw [q, hz] at hb; cases hb
    · exact (hs.2 b q).trans (D.keep b o hb hm)
  · rcases setN_at hi hj with ⟨rfl, rfl⟩ | ⟨_, hj⟩
    · exact D.fresh j e hi ho
    · exact D.fresh j e' hj hown
  · obtain ⟨o', hx⟩ := D.dom a o ho'
    by_cases q : a = e.a
    · exact ⟨f e.o, by rw [q]; exact ge⟩
    · exact ⟨o', (hs.2 a q).trans hx⟩
theorem Rep.alloc (D : Rep h₀ mt F₀ F M sz h) {o : Obj} (hf : o.isFreed = false) : Rep h₀ mt F₀ F (⟨sz, o, true⟩ :: M) (sz + 1) (h.push o) := by
  have hsz : h.objs.size = sz := D.size
  have lt : ∀ i e, nth M i = some e → e.a < sz := fun i e hi => hsz ▸ Heap.lt_size (D.at_ i e hi)
  refine ⟨by rw [Heap.size_push, hsz], fun a o' ha => Heap.get?_push_of_some _ (D.holds a o' ha), D.le, fun j e' hj => ?_, fun j e' hj hown => ?_, fun j e' hj hown o' hF => ?_, fun j k e' e'' hj hk hne hown => ?_, fun b o' hb hm => Heap.get?_push_of_some _ (D.keep b o' hb hm), fun j e' hj hown => ?_, D.above, fun a o' ho' => let ⟨o₁, x⟩ := D.dom a o' ho'; ⟨o₁, Heap.get?_push_of_some _ x⟩⟩
  · cases j with
    | zero => cases hj; subst hsz; exact Heap.get?_push_size _ hf
    | succ j => exact Heap.get?_push_of_some _ (D.at_ j e' hj)
  · cases j with
    | zero => cases hj; cases hown
    | succ j => exact D.fz j e' hj hown
  · cases j with
    | zero => cases hj; exact absurd (Heap.lt_size (D.holds _ _ hF)) (by rw [hsz]; exact Nat.lt_irrefl _)
    | succ j => exact D.own j e' hj hown o' hF
  · cases j with
    | zero =>
      cases hj
      cases k with
      | zero => exact absurd rfl hne
      | succ k => exact Nat.ne_of_gt (lt k e'' hk)
    | succ j =>
      cases k with
      | zero => cases hk; exact Nat.ne_of_lt (lt j e' hj)
      | succ k => exact D.ne j k e' e'' hj hk (fun q => hne (by rw [q])) hown
  · cases j with
    | zero =>
      cases hj
      refine .inr ?_
      cases q : h₀.get? sz with
      | none => rfl
      | some o' =>
        obtain ⟨o₁, x⟩ := D.dom _ _ q
        exact absurd (Heap.lt_size x) (by rw [hsz]; exact Nat.lt_irrefl _)
    | succ j => exact D.fresh j e' hj hown
end
structure Spec where
  p : Ans → List Ent → Nat → Nat → Resp
  P : Gh → Gh → Ans → Prop
section
variable (w : World) (s₀ : Shared) (h₀ : Heap) (mt : List Addr) (F₀ : Gh)
def Can (c : Code) (d u : Nat) (g : Bool) (F : Gh) (M : List Ent) (sz tk : Nat) (s : Spec) : Prop :=
  ∀ (h : Heap) (R : Result → Shared → Prop), 2050 ≤ tk → Rep h₀ mt F₀ F M sz h →
    (∀ x F' h', F.le F' → s.P F F' x → Rep h₀ mt F₀ F' (appM (s.p x M sz tk).new (updAll (s.p x M sz tk).upd M)) (s.p x M sz tk).sz h' → R (s.p x M sz tk).r (sto s₀ h' (s.p x M sz tk).tk)) →
    nodeAny (pwm w) (AA d u g) c R (sto s₀ h tk)
noncomputable def GoodO (Q : Gh → Result → List Ent → Nat → Nat → Prop) (QA : Gh → Code → Nat → Nat → Bool → List Ent → Nat → Nat → Prop) : List Spec → (Nat → Ans) → Gh → Out → Prop
  | sp, ξ, F, .ob a b o => a = b ∧ GoodO Q QA sp ξ F o
  | sp, ξ, F, .qt a b o => a = b ∧ GoodO Q QA sp ξ F o
  | sp, ξ, F, .stk k k' d o => k = k' ∧ d < recursionLimit ∧ GoodO Q QA sp ξ F o
  | sp, ξ, F, .ask a b a' b' o => a = b ∧ a' = b' ∧ GoodO Q QA sp ξ F o
  | sp, ξ, F, .req c d u g M sz tk o => match sp with
    | [] => False
    | s :: sp => Can w s₀ h₀ mt F₀ c d u g F M sz tk s ∧ ∀ F', F.le F' → s.P F F' (ξ 0) → GoodO Q QA sp (fun j => ξ (j + 1)) F' o
  | _, _, F, .fin r M sz tk => Q F r M sz tk
  | _, _, F, .agn c d u g M sz tk => QA F c d u g M sz tk
  | _, _, _, .bad .. => False
end
structure Okay (w : World) (V : Cx) (F₀ : Gh) : Prop where
  den : V.den = denote table
  set : V.S = ⟨PySem.Challenge.pw_nt0185_01, w.params⟩
  base : ∀ a o, V.B.get a = some o → F₀ a o
  quiet : ∀ i id, ids V.I i = some id → ∀ a, (Code.builtin id a).quiet = true
  nolim : ∀ h, Holds F₀ h → h.NoLimit
  ent : ∀ c, (.stack (V.ent c) : Sem Fin) = Sem.bind enterFrame fun Z => .pure (.again c)
  jump : ∀ i ty, ids V.J i = some ty → ∀ (A : Around) (R : Result → Shared → Prop) (s : Shared) (elt tg iter : PySem.Expr) (ifs : List PySem.Expr) (rs : List Comprehension) (sc : Scope) (ps : Pos) (a : Addr) (acc : Value) (env : Env) (vs : Array Value) (sl : Array (Option Value)),
    s.heap.get? a = some ⟨.type ty, none, .fields vs, sl⟩ → codeAny (pwm w) A (.compLoop (.ListComp elt (⟨tg, iter, ifs, 0⟩ :: rs) sc ps) 0 (.ref a) acc env) R s → codeAny (pwm w) A (.compStart (.ListComp elt (⟨tg, iter, ifs, 0⟩ :: rs) sc ps) 0 (.ref a) acc env) R s
noncomputable def consAns (x : Ans) (ξ : Nat → Ans) : Nat → Ans
  | 0 => x
  | j + 1 => ξ j
noncomputable def dξ : Nat → Ans := fun Z => ⟨fun Z => 0, fun Z => 0, fun Z => .none, fun Z => default, fun Z => true⟩
section
variable {w : World} {s₀ : Shared} {h₀ : Heap} {mt : List Addr} {F₀ : Gh} {V : Cx} {R : Result → Shared → Prop} {Q : Gh → Result → List Ent → Nat → Nat → Prop} {QA : Gh → Code → Nat → Nat → Bool → List Ent → Nat → Nat → Prop}
theorem y_load1 {c : Code} {d u : Nat} {g : Bool} {κ : Kt} {s : Shared} {a : Addr} {q : Option Value} {k : Obj → Sem Fin} {o : Obj} (ho : s.heap.get? a = some o) (x : Means w R c d u g κ (k o) s) : Means w R c d u g κ (.load a q k) s :=
  wpAny_bind (m := loadPart a q) (f := k) (wpAny_loadPart ho x)
theorem y_call1 {c c' : Code} {d u : Nat} {g : Bool} {κ : Kt} {s : Shared} {gd : Bool} {l : List Value} {k : Result → Sem Fin} (x : codeAny (pwm w) (AA (d + wt c) (u + ut c) (gb c g)) c' (endK w R (⟨c, k, d, u, g⟩ :: κ)) s) : Means w R c d u g κ (.call c' none gd l k) s :=
  fun Γ p hΓ => wpCode_mono (fun Z Z q => q Γ p hΓ) (under_le (c := c) x _ p rfl (Ctx.In.enter hΓ c' none p (by simp)))
theorem y_node {c c' : Code} {d u : Nat} {g : Bool} {κ : Kt} {s : Shared} {gd : Bool} {l : List Value} {k : Result → Sem Fin} (x : nodeAny (pwm w) (AA (d + wt c) (u + ut c) (gb c g)) c' (endK w R (⟨c, k, d, u, g⟩ :: κ)) s) : Means w R c d u g κ (.call c' none gd l k) s :=
  fun Γ p hΓ => wpCode_mono (fun Z Z q => q Γ p hΓ) (x Γ p (in_under hΓ))
theorem code_of {c : Code} {d u : Nat} {g : Bool} {κ : Kt} {s : Shared} (x : Means w R c d u g κ (denote table c) s) : codeAny (pwm w) (AA d u g) c (endK w R κ) s := codeAny_of_tree x
theorem itTy_some {o : Obj} {ty : String} (h : itTy o = some ty) : ∃ vs sl, o = ⟨.type ty, none, .fields vs, sl⟩ := by
  obtain ⟨cl, dd, dt, sl⟩ := o
  cases cl with
  | type t => cases dd with
    | none => cases dt with
      | fields vs => cases h; exact ⟨vs, sl, rfl⟩
      | _ => exact nomatch h
    | some _ => exact nomatch h
  | _ => exact nomatch h
theorem isLC_some {e : PySem.Expr} {dp : Nat} (h : isLC e dp = true) : ∃ elt tg iter ifs rs sc ps, e = .ListComp elt (⟨tg, iter, ifs, 0⟩ :: rs) sc ps ∧ dp = 0 := by
  cases e with
  | ListComp elt gs sc ps => cases gs with
    | nil => exact nomatch h
    | cons g rs =>
      obtain ⟨tg, iter, ifs, as⟩ := g
      cases as with
      | ofNat n => cases n with
        | zero => cases dp with
          | zero => exact ⟨elt, tg, iter, ifs, rs, sc, ps, rfl, rfl⟩
          | succ => exact nomatch h
        | succ => exact nomatch h
      | negSucc => exact nomatch h
  | _ => exact nomatch h
theorem gE {α : Type} {sp : List Spec} {F : Gh} {o : Option α} {n : Nat} {s : String} {q : List Nat} {f : (Nat → Ans) → α → Out} (H : ∀ ξ, GoodO w s₀ h₀ mt F₀ Q QA sp ξ F (oE o (.bad n s q) (f ξ))) : ∃ a, o = some a ∧ ∀ ξ, GoodO w s₀ h₀ mt F₀ Q QA sp ξ F (f ξ a) := by
  cases o with
  | none => exact (H dξ).elim
  | some a => exact ⟨a, rfl, H⟩
theorem gT {sp : List Spec} {F : Gh} {x : Bool} {n : Nat} {s : String} {q : List Nat} {f : (Nat → Ans) → Out} (H : ∀ ξ, GoodO w s₀ h₀ mt F₀ Q QA sp ξ F (bE x (f ξ) (.bad n s q))) : x = true ∧ ∀ ξ, GoodO w s₀ h₀ mt F₀ Q QA sp ξ F (f ξ) := by
  cases x with
  | false => exact (H dξ).elim
  | true => exact ⟨rfl, H⟩
theorem gF {sp : List Spec} {F : Gh} {x : Bool} {n : Nat} {s : String} {q : List Nat} {f : (Nat → Ans) → Out} (H : ∀ ξ, GoodO w s₀ h₀ mt F₀ Q QA sp ξ F (bE x (.bad n s q) (f ξ))) : x = false ∧ ∀ ξ, GoodO w s₀ h₀ mt F₀ Q QA sp ξ F (f ξ) := by
  cases x with
  | true => exact (H dξ).elim
  | false => exact ⟨rfl, H⟩
theorem gO {sp : List Spec} {F : Gh} {x : Bool} {f g : (Nat → Ans) → Out} (H : ∀ ξ, GoodO w s₀ h₀ mt F₀ Q QA sp ξ F (bE x (f ξ) (g ξ))) : (∀ ξ, GoodO w s₀ h₀ mt F₀ Q QA sp ξ F (f ξ)) ∨ ∀ ξ, GoodO w s₀ h₀ mt F₀ Q QA sp ξ F (g ξ) := by
  cases x with
  | true => exact .inl H
  | false => exact .inr H
theorem sound (O : Okay w V F₀) (hQ : ∀ F r M sz tk h, Q F r M sz tk → 2050 ≤ tk → Rep h₀ mt F₀ F M sz h → R r (sto s₀ h tk))
    (hA : ∀ F c d u g M sz tk h, QA F c d u g M sz tk → 2050 ≤ tk → Rep h₀ mt F₀ F M sz h → codeAny (pwm w) (AA d u g) c R (sto s₀ h tk)) :
    ∀ (n : Nat) (c : Code) (d u : Nat) (g : Bool) (κ : Kt) (t : Sem Fin) (M : List Ent) (sz tk : Nat) (orc : List Nat) (sp : List Spec) (F : Gh) (h : Heap),
      (∀ ξ, GoodO w s₀ h₀ mt F₀ Q QA sp ξ F (run V n c d u g κ t M sz tk orc (sp.map Spec.p) ξ)) → 2050 ≤ tk → Rep h₀ mt F₀ F M sz h → Means w R c d u g κ t (sto s₀ h tk) := by
  intro n
  induction n with
  | zero => intro c d u g κ t M sz tk orc sp F h H; intros; exact (H dξ).elim
  | succ n ih =>
    intro c d u g κ t M sz tk orc sp F h H T D
    have ret : ∀ (r : Result) (t : Sem Fin), (∀ s, endK w R κ r s → Means w R c d u g κ t s) →
        (∀ ξ, GoodO w s₀ h₀ mt F₀ Q QA sp ξ F (match (generalizing := false) κ with | [] => .fin r M sz tk | p :: κ => run V n p.c p.d p.u p.g κ (p.k r) M sz tk orc (sp.map Spec.p) ξ)) → Means w R c d u g κ t (sto s₀ h tk) := by
      intro r t ht H
      refine ht _ ?_
      cases κ with
      | nil => exact hQ F r M sz tk h (H dξ) T D
      | cons p κ => exact ih p.c p.d p.u p.g κ (p.k r) M sz tk orc sp F h H T D
    cases t with
    | pure fin =>
      cases fin with
      | done f => exact ret (.ok f) _ (fun s hs => z_pure hs) H
      | again c' =>
        have go : c'.quiet = true → ∀ orc, (∀ ξ, GoodO w s₀ h₀ mt F₀ Q QA sp ξ F (run V n c' d u g κ (V.den c') M sz tk orc (sp.map Spec.p) ξ)) → Means w R c d u g κ (.pure (.again c')) (sto s₀ h tk) := fun hq orc H =>
          z_pure ⟨hq, code_of (O.den ▸ ih c' d u g κ _ M sz tk orc sp F h H T D)⟩
        have loop : c'.quiet = true → (∀ ξ, GoodO w s₀ h₀ mt F₀ Q QA sp ξ F (match (generalizing := false) orc with
            | [] => .bad 1 "orc" orc
            | i :: orc => match (generalizing := false) i with
              | 0 => run V n c' d u g κ (V.den c') M sz tk orc (sp.map Spec.p) ξ
              | _ + 1 => match (generalizing := false) κ with
                | [] => .agn c' d u g M sz tk
                | _ :: _ => .bad 11 "a loop's stop" orc)) → Means w R c d u g κ (.pure (.again c')) (sto s₀ h tk) := by
          intro hq H
          cases orc with
          | nil => exact (H dξ).elim
          | cons i orc =>
            cases i with
            | zero => exact go hq orc H
            | succ i =>
              cases κ with
              | nil => exact z_pure ⟨hq, hA F c' d u g M sz tk h (H dξ) T D⟩
              | cons _ _ => exact (H dξ).elim
        cases c' with
        | builtin id args =>
          cases orc with
          | nil => exact (H dξ).elim
          | cons i orc =>
            obtain ⟨id', hi, H⟩ := gE H
            obtain rfl := (H dξ).1
            exact go (O.quiet i id hi args) orc fun ξ => (H ξ).2
        | whileLoop => exact loop (quiet_of (by intro _ _ e; cases e)) H
        | forLoop => exact loop (quiet_of (by intro _ _ e; cases e)) H
        | compLoop => exact loop (quiet_of (by intro _ _ e; cases e)) H
        | _ => exact go (quiet_of (by intro _ _ e; cases e)) orc H
    | raise e => exact ret (.error e) _ (fun s hs => z_raise hs) H
    | rule tag k => exact z_rule (ih c d u g κ (k ()) M sz tk orc sp F h H T D)
    | «at» q k => exact z_at (ih c d u g κ (k ()) M sz tk orc sp F h H T D)
    | point l k => exact z_point (ih c d u g κ (k ()) M sz tk orc sp F h H T D)
    | ask k =>
      refine fun Γ p hΓ => ?_
      show Sem.wp _ _ (k ⟨PySem.Challenge.pw_nt0185_01, w.params⟩) _ _ _ _
      rw [← O.set]
      revert Γ p
      cases orc with
      | nil => exact (H dξ).elim
      | cons i orc =>
        cases i with
        | zero => exact ih c d u g κ (k V.S) M sz tk orc sp F h H T D
        | succ i =>
          have H' : ∀ ξ, k V.S = k (setP V.S fun Z => V.S.params.followText rowG) ∧ k (setP V.S fun Z => true) = k (setP V.S fun Z => false) ∧
              GoodO w s₀ h₀ mt F₀ Q QA sp ξ F (run V n c d u g κ (k (setP V.S fun Z => false)) M sz tk orc (sp.map Spec.p) ξ) := H
          obtain ⟨h1, h2, _⟩ := H' dξ
          have e : k V.S = k (setP V.S fun Z => false) := by
            rw [h1]
            cases V.S.params.followText rowG with
            | true => exact h2
            | false => rfl
          rw [e]
          exact ih c d u g κ _ M sz tk orc sp F h (fun ξ => (H' ξ).2.2) T D
    | load a q k =>
      cases orc with
      | nil => exact (H dξ).elim
      | cons i orc =>
        cases i with
        | zero =>
          obtain ⟨o, hb, H⟩ := gE H
          exact y_load1 (D.holds _ _ (D.le _ _ (O.base _ _ hb))) (ih c d u g κ (k o) M sz tk orc sp F h H T D)
        | succ i =>
          obtain ⟨e, hm, H⟩ := gE H
          obtain rfl := (H dξ).1
          exact y_load1 (D.at_ i e hm) (ih c d u g κ (k e.o) M sz tk orc sp F h (fun ξ => (H ξ).2) T D)
    | loadIfAlive a k =>
      cases orc with
      | nil => exact (H dξ).elim
      | cons i orc =>
        cases i with
        | zero =>
          obtain ⟨o, hb, H⟩ := gE H
          exact z_alive (D.holds _ _ (D.le _ _ (O.base _ _ hb))) (ih c d u g κ (k (some o)) M sz tk orc sp F h H T D)
        | succ i =>
          obtain ⟨e, hm, H⟩ := gE H
          obtain rfl := (H dξ).1
          exact z_alive (D.at_ i e hm) (ih c d u g κ (k (some e.o)) M sz tk orc sp F h (fun ξ => (H ξ).2) T D)
    | update a q f k =>
      cases orc with
      | nil => exact (H dξ).elim
      | cons i orc =>
        cases i with
        | zero => exact (H dξ).elim
        | succ i =>
          obtain ⟨e, hm, H⟩ := gE H
          obtain ⟨ho, H⟩ := gT H
          obtain ⟨hf, H⟩ := gF H
          obtain rfl := (H dξ).1
          exact wpAny_bind (m := updatePart e.a q f) (f := k) (wpAny_updatePart (D.at_ i e hm) (ih c d u g κ (k ()) (setN f M i) sz tk orc sp F _ (fun ξ => (H ξ).2) T (D.update hm ho hf)))
    | alloc o k =>
      obtain ⟨hf, H⟩ := gF H
      have z := ih c d u g κ (k sz) _ (sz + 1) tk orc sp F _ H T (D.alloc hf)
      exact wpAny_bind (m := alloc o) (f := k) (wpAny_alloc (by show Means w R c d u g κ (k h.objs.size) _; rw [D.size]; exact z))
    | fresh k => exact z_fresh (ih c d u g κ (k tk) M sz (tk + 1) orc sp F h H (Nat.le_succ_of_le T) D)
    | handled own k =>
      cases own with
      | true => exact (H dξ).elim
      | false => exact z_handled (ih c d u g κ (k none) M sz tk orc sp F h H T D)
    | stack k =>
      obtain ⟨c', he, H⟩ := gE H
      cases c' with
      | func b env =>
        obtain ⟨rfl, hd, _⟩ := H dξ
        rw [O.ent]
        refine wpAny_bind (m := enterFrame) (wpAny_enterFrame (O.nolim h fun a o q => D.holds a o (D.le a o q)) (Nat.lt_of_le_of_lt (Nat.add_le_add_left (weight_le c) d) hd) ?_)
        rcases gO fun ξ => (H ξ).2.2 with H | H
        · cases κ with
          | nil => exact z_pure ⟨rfl, hA F (.func b env) d u g M sz tk h (H dξ) T D⟩
          | cons _ _ => exact (H dξ).elim
        · exact z_pure ⟨rfl, code_of (O.den ▸ ih _ d u g κ _ M sz tk orc sp F h H T D)⟩
      | _ => exact (H dξ).elim
    | call c' hd gd l k =>
      cases hd with
      | some _ => exact (H dξ).elim
      | none =>
        cases orc with
        | nil => exact (H dξ).elim
        | cons i orc =>
          cases i with
          | zero => exact y_call1 (code_of (O.den ▸ ih c' _ _ _ (⟨c, k, d, u, g⟩ :: κ) _ M sz tk orc sp F h H T D))
          | succ i =>
            cases i with
            | zero =>
              cases sp with
              | nil => exact (H dξ).elim
              | cons s sp =>
                refine y_node (node_toks ((H dξ).1 h (fun r s' => (sto s₀ h tk).toks ≤ s'.toks → endK w R (⟨c, k, d, u, g⟩ :: κ) r s') T D fun x F' h' hF hP D' T₁ => ?_))
                refine ih c d u g κ _ _ _ _ orc sp F' h' (fun ξ => ?_) (show 2050 ≤ (s.p x M sz tk).tk from Nat.le_trans T T₁) D'
                exact (H (consAns x ξ)).2 F' hF hP
            | succ i =>
              cases c' with
              | compStart e dp it acc env =>
                cases it with
                | ref a =>
                  obtain ⟨e', hm, H⟩ := gE H
                  obtain ⟨ty, ht, H⟩ := gE H
                  cases orc with
                  | nil => exact (H dξ).elim
                  | cons j orc =>
                    obtain ⟨id', hj, H⟩ := gE H
                    obtain ⟨hl, H⟩ := gT H
                    obtain ⟨rfl, rfl, _⟩ := H dξ
                    obtain ⟨vs, sl, ho⟩ := itTy_some ht
                    obtain ⟨elt, tg, iter, ifs, rs, sc, ps, rfl, rfl⟩ := isLC_some hl
                    exact y_call1 (O.jump j _ hj _ _ _ elt tg iter ifs rs sc ps _ acc env vs sl ((D.at_ i _ hm).trans (congrArg some ho)) (code_of (O.den ▸ ih _ _ _ _ (⟨c, k, d, u, g⟩ :: κ) _ M sz tk orc sp F h (fun ξ => (H ξ).2.2) T D)))
                | _ => exact (H dξ).elim
              | _ => exact (H dξ).elim
    | _ => exact (H dξ).elim
end
section
variable (w : World) (s₀ : Shared) (h₀ : Heap) (mt : List Addr) (F₀ : Gh)
def CanV (c : Code) (d u : Nat) (g : Bool) (F : Gh) (ss : List Nat) (L : List (Option Ent)) (s : Spec) : Prop :=
  ∀ M sz tk, sel ss M = L → Can w s₀ h₀ mt F₀ c d u g F M sz tk s
noncomputable def GoodV (Q : Gh → Result → List (Option Ent) → Nat → Nat → Prop) (QA : Gh → Code → Nat → Nat → Bool → List (Option Ent) → Nat → Nat → Prop) : List (List Nat) → List Spec → (Nat → Ans) → Gh → View → Prop
  | ss, sp, ξ, F, .dep d o => d < recursionLimit ∧ GoodV Q QA ss sp ξ F o
  | ss, sp, ξ, F, .req c d u g L o => match sp with
    | [] => False
    | s :: sp => CanV w s₀ h₀ mt F₀ c d u g F (hd1 ss) L s ∧ ∀ F', F.le F' → s.P F F' (ξ 0) → GoodV Q QA (tl1 ss) sp (fun j => ξ (j + 1)) F' o
  | _, _, _, F, .fin r L sz tk => Q F r L sz tk
  | _, _, _, F, .agn c d u g L sz tk => QA F c d u g L sz tk
  | _, _, _, _, .bad .. => False
end
section
variable {w : World} {s₀ : Shared} {h₀ : Heap} {mt : List Addr} {F₀ : Gh}
theorem good_of_view {Q : Gh → Result → List (Option Ent) → Nat → Nat → Prop} {QA : Gh → Code → Nat → Nat → Bool → List (Option Ent) → Nat → Nat → Prop} : ∀ (o : Out) (ss : List (List Nat)) (sp : List Spec) (ξ : Nat → Ans) (F : Gh),
    obsL o = obsR o → qtL o = qtR o → stkL o = stkR o → askL o = askR o → GoodV w s₀ h₀ mt F₀ Q QA ss sp ξ F (view ss o) →
    GoodO w s₀ h₀ mt F₀ (fun F r M sz tk => ∃ ss, Q F r (sel ss M) sz tk) (fun F c d u g M sz tk => ∃ ss, QA F c d u g (sel ss M) sz tk) sp ξ F o
  | .agn .., ss, _, _, _, _, _, _, _, H => ⟨hd1 ss, H⟩
  | .fin .., ss, _, _, _, _, _, _, _, H => ⟨hd1 ss, H⟩
  | .ob a b o, ss, sp, ξ, F, h1, h2, h3, h4, H => ⟨(List.cons.inj h1).1, good_of_view o ss sp ξ F (List.cons.inj h1).2 h2 h3 h4 H⟩
  | .qt a b o, ss, sp, ξ, F, h1, h2, h3, h4, H => ⟨(List.cons.inj h2).1, good_of_view o ss sp ξ F h1 (List.cons.inj h2).2 h3 h4 H⟩
  | .stk k k' d o, ss, sp, ξ, F, h1, h2, h3, h4, H => ⟨(List.cons.inj h3).1, H.1, good_of_view o ss sp ξ F h1 h2 (List.cons.inj h3).2 h4 H.2⟩
  | .ask a b a' b' o, ss, sp, ξ, F, h1, h2, h3, h4, H => ⟨(List.cons.inj h4).1, (List.cons.inj (List.cons.inj h4).2).1, good_of_view o ss sp ξ F h1 h2 h3 (List.cons.inj (List.cons.inj h4).2).2 H⟩
  | .req c d u g M sz tk o, ss, [], ξ, F, h1, h2, h3, h4, H => H
  | .req c d u g M sz tk o, ss, s :: sp, ξ, F, h1, h2, h3, h4, H => ⟨H.1 M sz tk rfl, fun F' hF hP => good_of_view o (tl1 ss) sp _ F' h1 h2 h3 h4 (H.2 F' hF hP)⟩
  | .bad .., _, _, _, _, _, _, _, _, H => H
noncomputable def addF (mt : List Addr) (F : Gh) (L : List (Option Ent)) : Gh := fun a o => F a o ∨ (a ∉ mt ∧ ∃ w, some (⟨a, o, w⟩ : Ent) ∈ L)
theorem sel_mem {ss : List Nat} {M : List Ent} {e : Ent} (h : some e ∈ sel ss M) : ∃ i, nth M i = some e := by
  induction ss with
  | nil => cases h
  | cons i r ih =>
    rcases List.mem_cons.mp h with h | h
    · exact ⟨i, h.symm⟩
    · exact ih h
theorem Rep.addF {F : Gh} {M : List Ent} {sz : Nat} {h : Heap} (D : Rep h₀ mt F₀ F M sz h) (ss : List Nat) :
    F₀.le (addF mt F (sel ss M)) ∧ Holds (Mine.addF mt F (sel ss M)) h ∧ Above F₀ (Mine.addF mt F (sel ss M)) h₀ := by
  refine ⟨fun a o ha => .inl (D.le a o ha), fun a o ha => ?_, fun a o ha => ?_⟩
  · rcases ha with ha | ⟨_, w, hm⟩
    · exact D.holds a o ha
    · obtain ⟨i, hi⟩ := sel_mem hm
      exact D.at_ i _ hi
  · rcases ha with ha | ⟨hn, w, hm⟩
    · exact D.above a o ha
    · obtain ⟨i, hi⟩ := sel_mem hm
      cases w with
      | false => exact D.above a o (D.fz i _ hi rfl)
      | true => exact .inr ((D.fresh i _ hi rfl).resolve_left hn)
def Calls (w : World) (s₀ : Shared) (F : Gh) (own : List (Addr × Obj)) (c : Code) (d u : Nat) (g : Bool) (Post : Gh → Value → List (Addr × Obj) → Nat → Nat → Nat → Nat → Prop) : Prop :=
  ∀ (h : Heap) (tk : Nat) (R : Result → Shared → Prop), 2050 ≤ tk → Holds F h → (∀ p ∈ own, h.get? p.1 = some p.2 ∧ ∀ o, ¬ F p.1 o) → (own.map (·.1)).Nodup →
    (∀ v F' h' tk' own', F.le F' → Holds F' h' → Keeps h h' (own.map (·.1)) → Above F F' h → own'.map (·.1) = own.map (·.1) → (∀ p ∈ own', h'.get? p.1 = some p.2) → Post F' v own' h.objs.size tk h'.objs.size tk' → R (.ok (.ret v)) (sto s₀ h' tk')) →
    codeAny (pwm w) (AA d u g) c R (sto s₀ h tk)
noncomputable def entOwn (own : List (Addr × Obj)) : List Ent := own.map fun p => ⟨p.1, p.2, true⟩
noncomputable def entFz (fz : List (Addr × Obj)) : List Ent := fz.map fun p => ⟨p.1, p.2, false⟩
theorem nth_get : ∀ (M : List Ent) (i : Nat), nth M i = M[i]?
  | [], _ => rfl
  | _ :: _, 0 => rfl
  | e :: r, i + 1 => by
    show nth r i = _
    rw [nth_get r i, List.getElem?_cons_succ]
theorem Rep.start {F : Gh} {own fz : List (Addr × Obj)} {h : Heap} (hF : Holds F h) (ho : ∀ p ∈ own, h.get? p.1 = some p.2 ∧ ∀ o, ¬ F p.1 o) (hn : (own.map (·.1)).Nodup) (hf : ∀ p ∈ fz, F p.1 p.2) :
    Rep h (own.map (·.1)) F F (entOwn own ++ entFz fz) h.objs.size h := by
  have key : ∀ i e, nth (entOwn own ++ entFz fz) i = some e → (e.own = true ∧ ∃ p, own[i]? = some p ∧ e = ⟨p.1, p.2, true⟩) ∨ (e.own = false ∧ F e.a e.o) := by
    intro i e hi
    rw [nth_get, List.getElem?_append] at hi
    split at hi
    · unfold entOwn at hi
      rw [List.getElem?_map] at hi
      obtain ⟨p, hp, rfl⟩ := Option.map_eq_some_iff.mp hi
      exact .inl ⟨rfl, p, hp, rfl⟩
    · unfold entFz at hi
      rw [List.getElem?_map] at hi
      obtain ⟨p, hp, rfl⟩ := Option.map_eq_some_iff.mp hi
      exact .inr ⟨rfl, hf p (List.mem_of_getElem? hp)⟩
  refine ⟨rfl, hF, fun Z Z e => e, fun i e hi => ?_, fun i e hi hw => ?_, fun i e hi hw => ?_, fun i j e e' hi hj hne hw => ?_, fun Z Z e Z => e, fun i e hi hw => ?_, fun Z Z e => .inl e, fun Z o e => ⟨o, e⟩⟩
  · rcases key i e hi with ⟨_, p, hp, rfl⟩ | ⟨_, q⟩
    · exact (ho p (List.mem_of_getElem? hp)).1
    · exact hF _ _ q
  · rcases key i e hi with ⟨q, _⟩ | ⟨_, q⟩
    · rw [hw] at q; cases q
    · exact q
  · rcases key i e hi with ⟨_, p, hp, rfl⟩ | ⟨q, _⟩
    · exact (ho p (List.mem_of_getElem? hp)).2
    · rw [hw] at q; cases q
  · rcases key i e hi with ⟨_, p, hp, rfl⟩ | ⟨q, _⟩
    · rcases key j e' hj with ⟨_, p', hp', rfl⟩ | ⟨_, q'⟩
      · intro e
        have h1 : (own.map (·.1))[i]? = some p.1 := by rw [List.getElem?_map, hp]; rfl
        have h2 : (own.map (·.1))[j]? = some p.1 := by rw [List.getElem?_map, hp']; exact congrArg some e.symm
        obtain ⟨l1, e1⟩ := List.getElem?_eq_some_iff.mp h1
        obtain ⟨l2, e2⟩ := List.getElem?_eq_some_iff.mp h2
        exact hne ((List.getElem_inj hn).mp (e1.trans e2.symm))
      · intro e
        exact (ho p (List.mem_of_getElem? hp)).2 _ (e ▸ q')
    · rw [hw] at q; cases q
  · rcases key i e hi with ⟨_, p, hp, rfl⟩ | ⟨q, _⟩
    · exact .inl (List.mem_map_of_mem (List.mem_of_getElem? hp))
    · rw [hw] at q; cases q
abbrev Chk (o : Out) (ss : List (List Nat)) (V : View) : Prop := (obsL o, qtL o, stkL o, askL o, view ss o) = (obsR o, qtR o, stkR o, askR o, V)
theorem code_of_run {V : Cx} {F : Gh} (O : Okay w V F₀) {c : Code} {d u : Nat} {g : Bool} {n : Nat} {orc : List Nat} {pl : List (Ans → List Ent → Nat → Nat → Resp)} {ss : List (List Nat)} {sp : List Spec} {M : List Ent} {sz tk : Nat} (ht : 2050 ≤ tk) {h : Heap} {R : Result → Shared → Prop}
    {Q : Gh → Result → List (Option Ent) → Nat → Nat → Prop} {QA : Gh → Code → Nat → Nat → Bool → List (Option Ent) → Nat → Nat → Prop}
    {Vw : (Nat → Ans) → View} (hp : sp.map Spec.p = pl) (D : Rep h₀ mt F₀ F M sz h)
    (E : ∀ ξ, Chk (run V n c d u g [] (V.den c) M sz tk orc pl ξ) ss (Vw ξ)) (G : ∀ ξ, GoodV w s₀ h₀ mt F₀ Q QA ss sp ξ F (Vw ξ))
    (hQ : ∀ F r M ss sz tk h', Q F r (sel ss M) sz tk → 2050 ≤ tk → Rep h₀ mt F₀ F M sz h' → R r (sto s₀ h' tk))
    (hA : ∀ F c d u g M ss sz tk h', QA F c d u g (sel ss M) sz tk → 2050 ≤ tk → Rep h₀ mt F₀ F M sz h' → codeAny (pwm w) (AA d u g) c R (sto s₀ h' tk)) :
    codeAny (pwm w) (AA d u g) c R (sto s₀ h tk) := by
  subst hp
  refine code_of (κ := []) (R := R) ?_
  have key := sound (w := w) (s₀ := s₀) (h₀ := h₀) (mt := mt) (R := R) O (Q := fun F r M sz tk => ∃ ss, Q F r (sel ss M) sz tk) (QA := fun F c d u g M sz tk => ∃ ss, QA F c d u g (sel ss M) sz tk)
    (fun F r M sz tk h' ⟨ss, q⟩ T' D' => hQ F r M ss sz tk h' q T' D') (fun F c d u g M sz tk h' ⟨ss, q⟩ T' D' => hA F c d u g M ss sz tk h' q T' D') n c d u g [] (V.den c) M sz tk orc sp F h (fun ξ => ?_) ht D
  · rw [O.den] at key
    exact key
  · have e := E ξ
    simp only [Chk, Prod.mk.injEq] at e
    obtain ⟨e1, e2, e3, e4, e5⟩ := e
    exact good_of_view _ ss sp ξ F e1 e2 e3 e4 (by rw [e5]; exact G ξ)
theorem calls_of_run {V : Cx} {F : Gh} (O : Okay w V F) {own fz : List (Addr × Obj)} {c : Code} {d u : Nat} {g : Bool} {Post : Gh → Value → List (Addr × Obj) → Nat → Nat → Nat → Nat → Prop} {n : Nat} {orc : List Nat} {pl : List (Ans → List Ent → Nat → Nat → Resp)} {ss : List (List Nat)} {sp : List Spec}
    {Vw : Nat → Nat → (Nat → Ans) → View} (hp : sp.map Spec.p = pl) (hB : ∀ h, Holds F h → 981 ≤ h.objs.size) (hf : ∀ p ∈ fz, F p.1 p.2)
    (E : ∀ z tk ξ, Chk (run V n c d u g [] (V.den c) (entOwn own ++ entFz fz) (ψ z) (tk + 2050) orc pl ξ) ss (Vw z tk ξ))
    (G : ∀ (h : Heap) (z tk : Nat) (ξ : Nat → Ans), h.objs.size = z + 981 → GoodV w s₀ h (own.map (·.1)) F (fun F' r L sz' tk' => ∃ v own', r = .ok (.ret v) ∧ own'.map (·.1) = own.map (·.1) ∧ (∀ p ∈ own', ∃ q, some (⟨p.1, p.2, q⟩ : Ent) ∈ L) ∧ Post (addF (own.map (·.1)) F' L) v own' (ψ z) (tk + 2050) sz' tk') (fun Z Z Z Z Z Z Z Z => False) ss sp ξ F (Vw z tk ξ)) :
    Calls w s₀ F own c d u g Post := by
  intro h tk R ht hF ho hn hR
  obtain ⟨t, rfl⟩ : ∃ t, tk = t + 2050 := ⟨tk - 2050, by omega⟩
  obtain ⟨z, hz⟩ : ∃ z, h.objs.size = z + 981 := ⟨h.objs.size - 981, by have := hB h hF; omega⟩
  have D := Rep.start (fz := fz) hF ho hn hf
  rw [hz] at D
  refine code_of_run O ht hp D (E z t) (fun ξ => G h z t ξ hz) ?_ ?_
  · rintro F' r M ss' sz tk' h' ⟨v, own', rfl, hm, hs, hP⟩ T' D'
    obtain ⟨a1, a2, a3⟩ := D'.addF ss'
    refine hR v _ h' tk' own' a1 a2 D'.keep a3 hm (fun p hp => ?_) (by rw [hz, D'.size]; exact hP)
    obtain ⟨q, hq⟩ := hs p hp
    obtain ⟨i, hi⟩ := sel_mem hq
    exact D'.at_ i _ hi
  · intro _ _ _ _ _ _ _ _ _ _ q
    exact q.elim
theorem updAll_nth : ∀ (idx : List Nat) (os : List Obj) (M : List Ent), idx.Nodup → idx.length = os.length → ∀ j e', nth (updAll (idx.zip os) M) j = some e' →
    (∃ (k : Nat) (o : Obj) (e : Ent), idx[k]? = some j ∧ os[k]? = some o ∧ nth M j = some e ∧ e' = ⟨e.a, o, e.own⟩) ∨ (j ∉ idx ∧ nth M j = some e')
  | [], _, M, _, _, j, e', h => .inr ⟨by simp, h⟩
  | i :: r, [], M, _, hl, j, e', h => by simp at hl
  | i :: r, o :: os, M, hn, hl, j, e', h => by
    obtain ⟨hi, hn⟩ := List.nodup_cons.mp hn
    have z := updAll_nth r os (setN (fun Z => o) M i) hn (by simpa using hl) j e' h
    rcases z with ⟨k, o', e, h1, h2, h3, h4⟩ | ⟨h1, h2⟩
    · have hj : j ≠ i := fun q => hi (q ▸ List.mem_of_getElem? h1)
      rw [nth_setN, if_neg (Ne.symm hj)] at h3
      exact .inl ⟨k + 1, o', e, by simpa using h1, by simpa using h2, h3, h4⟩
    · rw [nth_setN] at h2
      by_cases hj : i = j
      · subst hj
        rw [if_pos rfl] at h2
        obtain ⟨e, he, rfl⟩ := Option.map_eq_some_iff.mp h2
        exact .inl ⟨0, o, e, rfl, rfl, he, rfl⟩
      · rw [if_neg hj] at h2
        exact .inr ⟨by simp only [List.mem_cons, not_or]; exact ⟨fun q => hj q.symm, h1⟩, h2⟩
theorem appM_nth : ∀ (N M : List Ent) (j : Nat) (e : Ent), nth (appM N M) j = some e → (j < N.length ∧ nth N j = some e) ∨ (N.length ≤ j ∧ nth M (j - N.length) = some e)
  | [], M, j, e, h => .inr ⟨Nat.zero_le _, h⟩
  | n :: N, M, 0, e, h => .inl ⟨by simp, h⟩
  | n :: N, M, j + 1, e, h => by
    rcases appM_nth N M j e h with ⟨h1, h2⟩ | ⟨h1, h2⟩
    · exact .inl ⟨by simpa using h1, h2⟩
    · exact .inr ⟨by simpa using h1, by simpa using h2⟩
theorem Rep.behind {F F' : Gh} {M : List Ent} {sz : Nat} {h h' : Heap} {idx : List Nat} {own own' : List (Addr × Obj)} {N : List Ent} (D : Rep h₀ mt F₀ F M sz h) (hn : idx.Nodup)
    (hi : idx.map (nth M) = own.map fun p => ςσ (p.1) p.2) (hF : F.le F') (hH : Holds F' h') (hK : Keeps h h' (own.map (·.1))) (hA : Above F F' h)
    (hm : own'.map (·.1) = own.map (·.1)) (ho : ∀ p ∈ own', h'.get? p.1 = some p.2) (hN : ∀ i e, nth N i = some e → (e.own = false ∧ F' e.a e.o) ∨ (e.own = true ∧ h.get? e.a = none ∧ h'.get? e.a = some e.o ∧ ∀ o, ¬ F' e.a o))
    (hN1 : ∀ i j e e', nth N i = some e → nth N j = some e' → i ≠ j → e.own = true → e.a ≠ e'.a) : Rep h₀ mt F₀ F' (appM N (updAll (idx.zip (own'.map (·.2))) M)) h'.objs.size h' := by
  have hl : idx.length = own.length := by have := congrArg List.length hi; simpa using this
  have hl' : own'.length = own.length := by have := congrArg List.length hm; simpa using this
  have notF : ∀ i e, nth M i = some e → e.own = true → ∀ o, ¬ F' e.a o := fun i e q w o x => (hA _ _ x).elim (fun y => D.own i e q w o y) fun y => by rw [D.at_ i e q] at y; cases y
  have at1 : ∀ (k j : Nat), idx[k]? = some j → ∃ p : Addr × Obj, own[k]? = some p ∧ nth M j = ςσ (p.1) p.2 := by
    intro k j q
    have z : (idx.map (nth M))[k]? = some (nth M j) := by rw [List.getElem?_map, q]; rfl
    rw [hi, List.getElem?_map] at z
    obtain ⟨p, hp, e⟩ := Option.map_eq_some_iff.mp z
    exact ⟨p, hp, e.symm⟩
  have at2 : ∀ p ∈ own, ∃ k, ∃ hk : k < idx.length, own[k]? = some p ∧ nth M idx[k] = ςσ (p.1) p.2 := by
    intro p hp
    obtain ⟨k, hk⟩ := List.getElem?_of_mem hp
    have hk' : k < idx.length := by rw [hl]; exact (List.getElem?_eq_some_iff.mp hk).1
    obtain ⟨p2, hp2, hx⟩ := at1 k idx[k] (List.getElem?_eq_getElem hk')
    rw [hk] at hp2
    obtain rfl := Option.some.inj hp2
    exact ⟨k, hk', hk, hx⟩
  have key : ∀ j e', nth (updAll (idx.zip (own'.map (·.2))) M) j = some e' → (∃ e, nth M j = some e ∧ e.a = e'.a ∧ e.own = e'.own) ∧ h'.get? e'.a = some e'.o ∧ (e'.own = false → nth M j = some e') := by
    intro j e' q
    rcases updAll_nth idx (own'.map (·.2)) M hn (by rw [List.length_map, hl, hl']) j e' q with ⟨k, o, e, h1, h2, h3, rfl⟩ | ⟨h1, h2⟩
    · obtain ⟨p, hp, hx⟩ := at1 k j h1
      rw [h3] at hx
      obtain rfl := Option.some.inj hx
      rw [List.getElem?_map] at h2
      obtain ⟨p', hp', rfl⟩ := Option.map_eq_some_iff.mp h2
      have ep : p'.1 = p.1 := by
        have a1 : (own'.map (·.1))[k]? = some p'.1 := by rw [List.getElem?_map, hp']; rfl
        rw [hm, List.getElem?_map, hp] at a1
        exact (Option.some.inj a1).symm
      refine ⟨⟨_, h3, rfl, rfl⟩, ?_, fun w => by cases w⟩
      show h'.get? p.1 = some p'.2
      rw [← ep]; exact ho p' (List.mem_of_getElem? hp')
    · refine ⟨⟨e', h2, rfl, rfl⟩, hK _ _ (D.at_ j e' h2) (fun hm' => ?_), fun Z => h2⟩
      obtain ⟨p, hp, hpa⟩ := List.mem_map.mp hm'
      obtain ⟨k, hk', hk, hx⟩ := at2 p hp
      have hne : idx[k] ≠ j := fun q' => h1 (q' ▸ List.getElem_mem hk')
      exact D.ne idx[k] j _ e' hx h2 hne rfl hpa
  have nlt : ∀ i e, nth N i = some e → e.own = true → ∀ j e', nth M j = some e' → e.a ≠ e'.a := fun i e q w j e' q' x => by
    rcases hN i e q with ⟨y, _⟩ | ⟨_, y, _⟩
    · rw [w] at y; cases y
    · rw [x, D.at_ j e' q'] at y; cases y
  have dom' : Dom h h' := fun a o x => by
    by_cases hm' : a ∈ own.map (·.1)
    · rw [← hm] at hm'
      obtain ⟨p, hp, rfl⟩ := List.mem_map.mp hm'
      exact ⟨_, ho p hp⟩
    · exact ⟨o, hK a o x hm'⟩
  have none0 : ∀ a, h.get? a = none → h₀.get? a = none := fun a x => by
    cases q : h₀.get? a with
    | none => rfl
    | some o =>
      obtain ⟨o', y⟩ := D.dom a o q
      rw [x] at y; cases y
  refine ⟨rfl, hH, fun a o x => hF a o (D.le a o x), fun j e q => ?_, fun j e q w => ?_, fun j e q w => ?_, fun i j e e' q q' hne w => ?_, fun b o x y => ?_, fun j e q w => ?_, fun a o x => ?_, fun a o x => let ⟨o', y⟩ := D.dom a o x; dom' a o' y⟩
  · rcases appM_nth _ _ j e q with ⟨_, q⟩ | ⟨_, q⟩
    · rcases hN j e q with ⟨_, y⟩ | ⟨_, _, y, _⟩
      · exact hH _ _ y
      · exact y
    · exact (key _ e q).2.1
  · rcases appM_nth _ _ j e q with ⟨_, q⟩ | ⟨_, q⟩
    · rcases hN j e q with ⟨_, y⟩ | ⟨y, _⟩
      · exact y
      · rw [w] at y; cases y
    · exact hF _ _ (D.fz _ e ((key _ e q).2.2 w) w)
  · rcases appM_nth _ _ j e q with ⟨_, q⟩ | ⟨_, q⟩
    · rcases hN j e q with ⟨y, _⟩ | ⟨_, _, _, y⟩
      · rw [w] at y; cases y
      · exact y
    · obtain ⟨⟨e₁, a1, a2, a3⟩, _⟩ := key _ e q
      rw [← a2]; exact notF _ e₁ a1 (a3.trans w)
  · rcases appM_nth _ _ i e q with ⟨l1, q⟩ | ⟨l1, q⟩
    · rcases appM_nth _ _ j e' q' with ⟨l2, q'⟩ | ⟨l2, q'⟩
      · exact hN1 i j e e' q q' hne w
      · obtain ⟨⟨e₁, a1, a2, _⟩, _⟩ := key _ e' q'
        rw [← a2]; exact nlt i e q w _ e₁ a1
    · obtain ⟨⟨e₁, a1, a2, a3⟩, _⟩ := key _ e q
      rcases appM_nth _ _ j e' q' with ⟨l2, q'⟩ | ⟨l2, q'⟩
      · rcases hN j e' q' with ⟨_, y⟩ | ⟨y1, _⟩
        · intro x
          exact notF _ e₁ a1 (a3.trans w) e'.o (by rw [a2, x]; exact y)
        · rw [← a2]; exact fun x => nlt j e' q' y1 _ e₁ a1 x.symm
      · obtain ⟨⟨e₂, b1, b2, _⟩, _⟩ := key _ e' q'
        rw [← a2, ← b2]
        exact D.ne _ _ e₁ e₂ a1 b1 ω (a3.trans w)
  · refine hK b o (D.keep b o x y) (fun hm' => ?_)
    obtain ⟨p, hp, rfl⟩ := List.mem_map.mp hm'
    obtain ⟨k, hk', hk, hx⟩ := at2 p hp
    rcases D.fresh _ _ hx rfl with z | z
    · exact y z
    · rw [x] at z; cases z
  · rcases appM_nth _ _ j e q with ⟨_, q⟩ | ⟨_, q⟩
    · rcases hN j e q with ⟨y, _⟩ | ⟨_, y, _⟩
      · rw [w] at y; cases y
      · exact .inr (none0 _ y)
    · obtain ⟨⟨e₁, a1, a2, a3⟩, _⟩ := key _ e q
      rw [← a2]; exact D.fresh _ e₁ a1 (a3.trans w)
  · rcases hA a o x with y | y
    · exact D.above a o y
    · exact .inr (none0 _ y)
end
variable {w : World} {s₀ : Shared} {h₀ : Heap} {mt : List Addr} {F₀ F : Gh} {P : Params}
noncomputable def QI : List String := ["abs", "bool.__repr__", "enumerate.__iter__", "enumerate.__new__", "enumerate.__next__", "function.__get__", "getset_descriptor.__get__", "int.__abs__", "int.__add__", "int.__eq__", "int.__floordiv__", "int.__ge__", "int.__getattribute__", "int.__gt__", "int.__lt__", "int.__mod__", "int.__ne__", "int.__neg__", "int.__pow__", "int.__repr__", "int.__sub__", "isinstance", "isinstance.nested", "len", "list.__add__", "list.__eq__", "list.__eq__.loop", "list.__getitem__", "list.__iadd__", "list.__init__", "list.__iter__", "list.__len__", "list.__ne__", "list.__new__", "list.__setitem__", "list.append", "list.pop", "list_iterator.__next__", "object.__class__", "object.__init__", "object.__new__", "object.__setattr__", "range.__iter__", "range.__new__", "range_iterator.__next__", "repr", "str.__eq__", "str.__ne__", "str.__repr__", "tuple.__add__", "tuple.__contains__", "tuple.__getitem__", "tuple.__iter__", "tuple.__new__", "tuple.__repr__", "tuple.__repr__.under", "tuple_iterator.__next__", "type.__call__"]
noncomputable def QJ : List String := ["list_iterator", "range_iterator"]
noncomputable def cx (P : Params) : Cx := ⟨DEN, bt P, ⟨PySem.Challenge.pw_nt0185_01, P⟩, entC, QI, QJ, fun Z => false⟩
def BaseIn (P : Params) (F : Gh) : Prop := (∀ a o, (bt P).get a = some o → F a o) ∧ ∃ a o, 980 ≤ a ∧ F a o
theorem BaseIn.le {P : Params} {F F' : Gh} (h : BaseIn P F) (l : F.le F') : BaseIn P F' := ⟨fun a o e => l a o (h.1 a o e), let ⟨a, o, p, e⟩ := h.2; ⟨a, o, p, l _ _ e⟩⟩
theorem BaseIn.size {P : Params} {F : Gh} (b : BaseIn P F) {h : Heap} (H : Holds F h) : 981 ≤ h.objs.size := by
  obtain ⟨a, o, p, e⟩ := b.2
  exact Nat.lt_of_le_of_lt p (Heap.lt_size (H _ _ e))
inductive NK | const | loc | glob | setLoc | setGlob | define | ite | lam | call | seq | prim | fix
noncomputable def cNK : NK → Nat
  | .const => 66 | .loc => 85 | .glob => 104 | .setLoc => 137 | .setGlob => 170 | .define => 203 | .ite => 236 | .lam => 283 | .call => 316 | .seq => 349 | .prim => 382 | .fix => 415
inductive VK | b (x : Bool) | i (x : Int) (t : Nat) | r (x : Nat)
noncomputable def vk : VK → Value
  | .b x => .bool x
  | .i x t => .int x t
  | .r x => .ref x
noncomputable def eqS (x y : PySem.Str) : Bool := x.cps.toList == y.cps.toList
noncomputable def neS (x y : PySem.Str) : Bool := x.cps.toList != y.cps.toList
theorem ids_mem : ∀ (l : List String) (i : Nat) (x : String), ids l i = some x → x ∈ l
  | [], _, _, h => by cases h
  | e :: r, 0, x, h => by cases h; exact .head _
  | e :: r, i + 1, x, h => .tail _ (ids_mem r i x h)
theorem QI_quiet : (QI.all fun id => !id.startsWith "lifetime.") = true := κR
theorem enterT_is : (PySem.enterFrame : Sem Unit) = .stack enterT := by
  rw [show (PySem.enterFrame : Sem Unit) = PySem.W.Fast.tw15066281185411960212 0 from congrFun PySem.W.Fast.te15066281185411960212 0]
  rfl
theorem ent_is (c : Code) : (.stack (entC c) : Sem Fin) = Sem.bind enterFrame fun Z => .pure (.again c) := by
  rw [enterT_is, PySem.W.R.bindR_eq]
  rfl
theorem jump_is (ty : String) (w : World) (A : Around) (R : Result → Shared → Prop) (s : Shared) (elt tg iter : PySem.Expr) (ifs : List PySem.Expr) (rs : List Comprehension) (sc : Scope) (ps : Pos) (a : Addr) (acc : Value) (env : Env)
    (hi : ∀ (E : Value → Shared → Prop) (Q : Value → Shared → Prop), Q (.ref a) s → wpAny (pwm w) A (pyIter (.ref a)) Q E s)
    (x : codeAny (pwm w) A (.compLoop (.ListComp elt (⟨tg, iter, ifs, 0⟩ :: rs) sc ps) 0 (.ref a) acc env) R s) : codeAny (pwm w) A (.compStart (.ListComp elt (⟨tg, iter, ifs, 0⟩ :: rs) sc ps) 0 (.ref a) acc env) R s :=
  codeAny_compStart_list x (hi _ _ x)
theorem iter_list {w : World} {A : Around} {s : Shared} {a : Addr} {vs : Array Value} {sl : Array (Option Value)} (ho : s.heap.get? a = some ⟨.type "list_iterator", none, .fields vs, sl⟩) (E Q : Value → Shared → Prop) (h : Q (.ref a) s) : wpAny (pwm w) A (pyIter (.ref a)) Q E s := by
  have ht : s.TypeIs (.ref a) "list_iterator" := ⟨_, ho, rfl⟩
  refine wpAny_pyIter_slot ht slot_listiter_iter (wpAny_call_entry slot_listiter_iter ht entry_listiter_iter ?_ (args_listiter_iter _))
  show wpAny _ _ (ret (.ref a)) _ _ s
  exact wpAny_pure ⟨_, rfl, "list_iterator", _, ht, slot_listiter_next.lookup, h⟩
theorem iter_range {w : World} {A : Around} {s : Shared} {a : Addr} {vs : Array Value} {sl : Array (Option Value)} (ho : s.heap.get? a = some ⟨.type "range_iterator", none, .fields vs, sl⟩) (E Q : Value → Shared → Prop) (h : Q (.ref a) s) : wpAny (pwm w) A (pyIter (.ref a)) Q E s := by
  have ht : s.TypeIs (.ref a) "range_iterator" := ⟨_, ho, rfl⟩
  refine wpAny_pyIter_slot ht PySem.F.slot_range_iterator_iter (wpAny_call_entry PySem.F.slot_range_iterator_iter ht (b := Builtin.«dict_keyiterator.__iter__») PySem.F.entry_range_iterator_iter ?_ (PySem.F.args_range_iterator_iter_1 _))
  show wpAny _ _ (ret (.ref a)) _ _ s
  exact wpAny_pure ⟨_, rfl, "range_iterator", _, ht, PySem.F.slot_range_iterator_next.lookup, h⟩
theorem nolim_is {P : Params} {F : Gh} (b : BaseIn P F) (h : Heap) (H : Holds F h) : h.NoLimit := by
  have e : h.get? cStatics = some { cls := .none, data := .dict #[] 0 } := H _ _ (b.1 2 _ rfl)
  exact ⟨fun name => nsFind #[] name, ⟨_, _, _, e, rfl, (by intro e he; simp at he), fun Z => rfl⟩, rfl⟩
noncomputable abbrev lstO (vs : List Value) (k : Nat := 0) : Obj := { cls := .type "list", data := .seq vs.toArray k }
noncomputable abbrev tupO (vs : List Value) : Obj := { cls := .type "tuple", data := .seq vs.toArray }
noncomputable def dct (P : Params) (kvs : List (PySem.Str × Nat × Value)) : Obj := { cls := .type "dict", data := .dict (kvs.map fun p => (⟨PyData.keyHash P p.1, .str p.1 p.2.1, p.2.2⟩ : DictEntry)).toArray kvs.length }
noncomputable def ins (c d : Nat) : Obj := { cls := .ref c, dict := some d }
noncomputable def frm (P : Params) (kvs : List (PySem.Str × Nat × Value)) : Obj := { cls := .type "frame", data := .dict (kvs.map fun p => (⟨PyData.keyHash P p.1, .str p.1 p.2.1, p.2.2⟩ : DictEntry)).toArray kvs.length }
noncomputable abbrev KV := List (PySem.Str × Nat × Value)
noncomputable def celO (v : Value) : Obj := { cls := .type "cell", data := .cell (some v) }
theorem fix60_is (ξ : Nat → Ans) (j : Nat) : fix60 ξ j ((ξ j).n 60) = ξ := by
  funext i
  unfold fix60
  by_cases h : i = j
  · subst h
    simp only [beq_self_eq_true, if_true]
    have : (fun m => if (m == 60) = true then (ξ i).n 60 else (ξ i).n m) = (ξ i).n := by
      funext m
      by_cases q : m = 60
      · subst q; simp
      · simp [q]
    rw [this]
  · simp [h]
theorem chk_split {Φ : (Nat → Ans) → Prop} (j : Nat) (h0 : ∀ ξ, Φ (fix60 ξ j 0)) (h1 : ∀ ξ, Φ (fix60 ξ j 1)) (h2 : ∀ ξ k, Φ (fix60 ξ j (k + 2))) (ξ : Nat → Ans) : Φ ξ := by
  have := fix60_is ξ j
  rw [← this]
  generalize (ξ j).n 60 = k
  match k with
  | 0 => exact h0 ξ
  | 1 => exact h1 ξ
  | k + 2 => exact h2 ξ k
noncomputable abbrev blk : Code := .block [] default
noncomputable abbrev evalT := PySem.W.Fast.tw14044960220447912780
noncomputable abbrev execsT := PySem.W.Fast.tw12563942051412417395
noncomputable abbrev isTrueT := PySem.W.Fast.tw15418851999007992765
noncomputable abbrev assignT := PySem.W.Fast.tw17772580674575903948
noncomputable abbrev storeT := PySem.W.Fast.tw7998390705656384164
noncomputable abbrev methT := PySem.W.Fast.tw13401596951702201221
noncomputable abbrev nextT := PySem.W.Fast.tw9404975358583537561
noncomputable def vTr (X : Sem Value) : Sem Fin := PySem.W.R.bindR X fun v => .pure (.done (.ret v))
noncomputable def bTr (X : Sem Bool) : Sem Fin := PySem.W.R.bindR X fun b => .pure (.done (.ret (.bool b)))
noncomputable def fTr (X : Sem Flow) : Sem Fin := PySem.W.R.bindR X fun f => .pure (.done f)
noncomputable def uTr (X : Sem Unit) : Sem Fin := PySem.W.R.bindR X fun Z => .pure (.done .next)
noncomputable def encO : Option Value → Flow
  | some v => .ret v
  | none => .next
noncomputable def oTr (X : Sem (Option Value)) : Sem Fin := PySem.W.R.bindR X fun o => .pure (.done (encO o))
theorem vTr_eval (e : PySem.Expr) (env : Env) : vTr (evalT e env) = (eval e env).bind fun v => .pure (.done (.ret v)) := by
  unfold vTr evalT; rw [PySem.W.R.bindR_eq, ← PySem.W.Fast.te14044960220447912780]
theorem bTr_isTrue (e : PySem.Expr) (env : Env) : bTr (isTrueT e env (evalT e env)) = (isTrue e env (eval e env)).bind fun b => .pure (.done (.ret (.bool b))) := by
  unfold bTr isTrueT evalT; rw [PySem.W.R.bindR_eq, ← PySem.W.Fast.te14044960220447912780, ← PySem.W.Fast.te15418851999007992765]
theorem fTr_execs (b : List Stmt) (env : Env) : fTr (execsT b env) = (execs b env).bind fun f => .pure (.done f) := by
  unfold fTr execsT; rw [PySem.W.R.bindR_eq, ← PySem.W.Fast.te12563942051412417395]
theorem uTr_assign (e : PySem.Expr) (env : Env) (v : Value) : uTr (assignT e env v) = (assign e env v).bind fun Z => .pure (.done .next) := by
  unfold uTr assignT; rw [PySem.W.R.bindR_eq, ← PySem.W.Fast.te17772580674575903948]
theorem uTr_store (env : Env) (x : PySem.Str) (v : Value) : uTr (storeT env x v) = (storeName env x v).bind fun Z => .pure (.done .next) := by
  unfold uTr storeT; rw [PySem.W.R.bindR_eq, ← PySem.W.Fast.te7998390705656384164]
theorem vTr_meth (o : PySem.Expr) (nm : PySem.Str) (ap p : Pos) (env : Env) (ov : Value) (n : Nat) (as : List (Bool × Sem Value)) (kw : List (Option PySem.Str × Sem Value)) : vTr (methT o nm ap p env ov n as kw) = (methodCall o nm ap p env ov n as kw).bind fun v => .pure (.done (.ret v)) := by
  unfold vTr methT; rw [PySem.W.R.bindR_eq, ← PySem.W.Fast.te13401596951702201221]
theorem oTr_next (v : Value) : oTr (nextT v) = (pyNext v).bind fun o => .pure (.done (encO o)) := by
  unfold oTr nextT; rw [PySem.W.R.bindR_eq, ← PySem.W.Fast.te9404975358583537561]
noncomputable def x0 : PySem.Expr := .Constant .none 0 ⟨0, 0, 0, 0⟩
noncomputable def sTest : Stmt → PySem.Expr
  | .While t _ _ _ => t
  | .If t _ _ _ => t
  | .Return (some e) _ => e
  | .Assign _ v _ => v
  | .Expr e _ => e
  | .For _ it _ _ _ => it
  | _ => x0
noncomputable def sTgt : Stmt → PySem.Expr
  | .For t _ _ _ _ => t
  | _ => x0
noncomputable def sBody : Stmt → List Stmt
  | .While _ b _ _ => b
  | .If _ b _ _ => b
  | .For _ _ b _ _ => b
  | _ => []
noncomputable def sElse : Stmt → List Stmt
  | .While _ _ b _ => b
  | .If _ _ b _ => b
  | .For _ _ _ b _ => b
  | _ => []
noncomputable def bVal : PySem.Expr → Nat → PySem.Expr
  | .BoolOp _ vs _, k => (vs[k]?).getD x0
  | .Call _ as _ _, k => (as[k]?).getD x0
  | _, _ => x0
noncomputable def cL : PySem.Expr → PySem.Expr
  | .Compare l _ _ _ => l
  | _ => x0
noncomputable def cR : PySem.Expr → PySem.Expr
  | .Compare _ _ (r :: _) _ => r
  | _ => x0
noncomputable def fS (i j k : Nat) : Stmt := ((fBody (fAt i j))[k]?).getD (.Pass ⟨0, 0, 0, 0⟩)
noncomputable def iS27 : Stmt := ((sBody (fS 27 0 1))[0]?).getD (.Pass ⟨0, 0, 0, 0⟩)
noncomputable def lS28 (k : Nat) : Stmt := ((sBody (fS 28 0 2))[k]?).getD (.Pass ⟨0, 0, 0, 0⟩)
noncomputable def eS28 (k : Nat) : Stmt := ((sElse (lS28 2))[k]?).getD (.Pass ⟨0, 0, 0, 0⟩)
noncomputable def aBase : PySem.Expr → PySem.Expr
  | .Call (.Attribute e _ _) _ _ _ => e
  | _ => x0
noncomputable def aPos : PySem.Expr → Pos
  | .Call (.Attribute _ _ p) _ _ _ => p
  | _ => ⟨0, 0, 0, 0⟩
noncomputable def cPos : PySem.Expr → Pos
  | .Call _ _ _ p => p
  | _ => ⟨0, 0, 0, 0⟩
noncomputable def envF (i j f cd : Nat) (q : PySem.Str) (L : Addr) : Env := { scope := fScope (fAt i j), locals := L, globals := 3, cells := [], qual := q, func := some f, code := .ref cd, frame := some L, builtins := 0 }
noncomputable def envN (L : Addr) : Env := { scope := fScope (fAt 64 0), locals := L, globals := 3, cells := [("_law_deep", L + 4), ("_law_known", L + 3), ("_law_state", L + 2), ("_law_deck", L + 1)], qual := "_law_node_of.<locals>.", func := some 964, code := .ref 963, frame := some L, builtins := 0 }
theorem okay {P : Params} {F : Gh} (b : BaseIn P F) (w : World) (hw : w.params = P) : Okay w (cx P) F where
  den := DEN_eq
  set := by subst hw; rfl
  base := b.1
  quiet := fun i id h a => by
    have z := List.all_eq_true.mp QI_quiet id (ids_mem _ _ _ h)
    exact Code.quiet_builtin a (by simpa using z)
  nolim := nolim_is b
  ent := ent_is
  jump := by
    intro i ty hi A R s elt tg iter ifs rs sc ps a acc env vs sl ho x
    match i, hi with
    | 0, hi =>
      obtain rfl : "list_iterator" = ty := Option.some.inj hi
      exact jump_is "list_iterator" w A R s elt tg iter ifs rs sc ps a acc env (fun E Q => iter_list ho E Q) x
    | 1, hi =>
      obtain rfl : "range_iterator" = ty := Option.some.inj hi
      exact jump_is "range_iterator" w A R s elt tg iter ifs rs sc ps a acc env (fun E Q => iter_range ho E Q) x
    | i + 2, hi => cases i <;> cases hi
noncomputable def cxh (P : Params) : Cx := ⟨DEN, bt P, ⟨PySem.Challenge.pw_nt0185_01, P⟩, entC, QI, QJ, fun Z => true⟩
theorem okayh {P : Params} {F : Gh} (b : BaseIn P F) (w : World) (hw : w.params = P) : Okay w (cxh P) F where
  den := DEN_eq
  set := (okay b w hw).set
  base := b.1
  quiet := (okay b w hw).quiet
  nolim := nolim_is b
  ent := ent_is
  jump := (okay b w hw).jump
abbrev TB (P : Params) (z tk d0 u0 : Nat) (ξ : Nat → Ans) (n : Nat) (x : Sem Fin) (L : List Ent) (o : List Nat) (l : List (Ans → List Ent → Nat → Nat → Resp)) (ss : List (List Nat)) (V : View) : Prop := Chk (run (cx P) n blk d0 u0 true [] x L (ψ z) (tk + 2050) o l ξ) ss V
abbrev TC (P : Params) (z tk d0 u0 : Nat) (ξ : Nat → Ans) (n : Nat) (c : Code) (L : List Ent) (o : List Nat) (l : List (Ans → List Ent → Nat → Nat → Resp)) (ss : List (List Nat)) (V : View) : Prop := Chk (run (cx P) n c d0 u0 true [] (DEN c) L (ψ z) (tk + 2050) o l ξ) ss V
abbrev TH (P : Params) (z tk d0 u0 : Nat) (ξ : Nat → Ans) (n : Nat) (c : Code) (L : List Ent) (o : List Nat) (l : List (Ans → List Ent → Nat → Nat → Resp)) (ss : List (List Nat)) (V : View) : Prop := Chk (run (cxh P) n c d0 u0 true [] (DEN c) L (ψ z) (tk + 2050) o l ξ) ss V
inductive PK | b (x : Bool) | i (x : Int) (t : Nat) | s (x : Nat) | r (x : Nat)
noncomputable def pkV : PK → Value
  | .b x => .bool x | .i x t => .int x t | .s x => .ref x | .r x => .ref x
noncomputable def pkR : PK → Ans → Value
  | .b _, x => .bool (x.b 0) | .i _ _, x => .int (x.i 0) (x.n 50) | .s _, x => .str (x.s 0) (x.n 50) | .r _, x => .ref (x.n 2 + 981)
noncomputable def pkW (k : PK) : Ans → List Ent → Nat → Nat → Resp := fun x Z Z Z => ⟨.ok (.ret (pkR k x)), [], [], x.n 0 + 981, x.n 1 + 2050⟩
theorem vk_pk (k : PK) : ∃ j : VK, pkV k = vk j := by
  cases k with
  | b x => exact ⟨.b x, rfl⟩
  | i x t => exact ⟨.i x t, rfl⟩
  | s x => exact ⟨.r x, rfl⟩
  | r x => exact ⟨.r x, rfl⟩
noncomputable def wM (f : Ans → Result × List (Nat × Obj)) : Ans → List Ent → Nat → Nat → Resp := fun x Z Z Z => ⟨(f x).1, (f x).2, [], x.n 0 + 981, x.n 1 + 2050⟩
noncomputable def wV (v : Value) : Ans → List Ent → Nat → Nat → Resp := fun x Z Z Z => ⟨.ok (.ret v), [], [], x.n 0 + 981, x.n 1 + 2050⟩
noncomputable def wK (k : Int) : Ans → List Ent → Nat → Nat → Resp := fun x Z Z Z => ⟨.ok (.ret (.int k (x.n 50))), [], [], x.n 0 + 981, x.n 1 + 2050⟩
noncomputable def wI : Ans → List Ent → Nat → Nat → Resp := fun x Z Z Z => ⟨.ok (.ret (.int (x.i 0) (x.n 50))), [], [], x.n 0 + 981, x.n 1 + 2050⟩
noncomputable def wB : Ans → List Ent → Nat → Nat → Resp := fun x Z Z Z => ⟨.ok (.ret (.bool (x.b 0))), [], [], x.n 0 + 981, x.n 1 + 2050⟩
noncomputable def wS : Ans → List Ent → Nat → Nat → Resp := fun x Z Z Z => ⟨.ok (.ret (.str (x.s 0) (x.n 50))), [], [], x.n 0 + 981, x.n 1 + 2050⟩
noncomputable def wR : Ans → List Ent → Nat → Nat → Resp := fun x Z Z Z => ⟨.ok (.ret (.ref (x.n 2 + 981))), [], [], x.n 0 + 981, x.n 1 + 2050⟩
noncomputable def wN (f : Ans → List Ent → List Ent) : Ans → List Ent → Nat → Nat → Resp := ωX (.ref (x.n 2 + 981)) [] (f x M)
noncomputable def wT (i : Nat) := wN fun x M => [⟨x.n 2 + 981, tupOf M i, true⟩]
noncomputable def wO (i : Nat) := wN fun x M => [⟨x.n 2 + 981, lstOf M i (x.n 40), true⟩]
noncomputable def wL := wN fun x Z => [⟨x.n 2 + 981, lstO x.l, true⟩]
noncomputable def wP := wN fun x Z => [⟨x.n 2 + 981, tupO [.ref (x.n 3 + 981), .ref (x.n 4 + 981)], false⟩]
noncomputable def wQ := wN fun x Z => [⟨x.n 2 + 981, tupO [.int (x.i 0) (x.n 50), .ref (x.n 3 + 981), .ref (x.n 4 + 981)], false⟩]
abbrev Cs (w : World) (s₀ : Shared) (F : Gh) (c : Code) (d u : Nat) (Q : Gh → Value → Prop) : Prop := Calls w s₀ F [] c d u true fun F' v Z Z Z Z Z => Q F' v
noncomputable def ο1 : List Nat := dec 248 0x20c08306101834a0c003001009e0200081020408000000000e200000000000100000000004000000000101800002140000c0038700000070000000000038512000800c0038700000070000000000038512000800c0038700000070000000000038512000800c00387000000700000000000385120008900044800205901000408000002800c18000001800000000000c10480022400102c808002040000800285000000500000000000283060c001000c00408000000000200000000000101001200080060020400000040000000000020204080010200000
noncomputable def ο2 : List Nat := dec 216 0x2200b1100040110041830604183160c1a50600180040812304004b312004891204081000c18b060d283000c0040278400022040c000000102040826608002040808012004800200500162c000002c000000000016242040824480021020508112840010003060d18300040010004080060c203069418006002013c0400102041800810000000000400000000000201020400000000020600000000c00000000030000000000c0890004002000c18000001800000000000c0810200000
noncomputable def ο3 : List Nat := dec 348 0x60c1800008000000000200094800400000000000202040810004080000000000000010004000000000000000000000028000000000000000000039000000000000b30200081022800100059810004081140050a1400080060c181060c70306941800600102048c10002000000000681020400306381834a0c003000810246080010000000003008102001831c0c1a506001800804f0b000458b02000000000404020000000004040a00306000000600000000c000000c000000c000000c1008102240814a04001000400100000000020100020400100000000020102040008112040a50200080020008000000000e08001020008000000000e081020004089020528100040013c20001102008000000000a0408100040010000000001408002040010000000001408102000810000003
noncomputable def ο4 : List Nat := dec 325 0x1060c181060c20306941800600102048c1000200080020400306101834a0c003001009e0200081022800b160000000005800000000002c0810200000000048a0000000140000000005000000000141c0000218000100048900000090000000000048612000801000489000000900000000000486120008010004890000009000000000004860c1800700204000000000100000000000080a043000e1c00000000070000000000038400003000e1c00000000070000000000038412000800c00387000000700000000000384120008900044800205901000408000002800c18000001800000000000c0c480022400102c8080020400008002850000005000000000002821200080080028500000050000000000028204080010200000
noncomputable def ο5 : List Nat := dec 286 0x183060000200000000008002520010000000000008081020400102000000000000000400100000000000000000000000a00000000000000000000e4000000000002cc080020408a0004001660400102045001428500020018306041831a0c1a506001800408123040008000000001804081000c18d060d283000c004027850002285010000000002020100000000020205001830000003000000006000000600000060000006080408110040a50200080020008000000000e08001020008000000000e081020004088020528100040013c1c0010e1c08000000000a0408100040010000000001408002040010000000001408102000810000003
noncomputable def ο6 : List Nat := dec 164 0x1020003060c0000400000000010004a400200000000000101020c183000010000000000400129000800000000000404081020008100040800000000000000100040000000000000000000000280000000000000000000390000000000021b080020408043000e1c0000000007000000000003810004080020400000000040a18000000030000000000c000000000304
noncomputable def ο7 : List Nat := dec 220 0x220450a162852514005001e3c78f003c780020408a0205c01000408114040b802000810228081700400102d048002244890e1c3880e1d287001c00c18306001830001020440102e008002040880205c01000408110040b80200081681c0010e1c3840810284089420008004891224009120008102180817004001020430102e008002040860205c0100040b40a000850a1408102080814a040010004f01000408100000260c006000000b150000080009830018000002c5400002000010200000
noncomputable def ο8 : List Nat := dec 157 0x81000183060000200000000008002520010000000000008081060c18000080000000002000948004000000000002020408100040800204000000000000000800200000000000000000000001400000000000000000001c80000000000043000e1c0000000007000000000003810004080020400000000040a18000000030000000000c000000000304
noncomputable def ο9 : List Nat := dec 156 0x5c000ae000570002b80015c000ae0004032000000000000000000000000000000000802c5400002000000001300001800000000000000000000000000000002c5400002000000001300001800000000000000000000000000000002c540000200000000130000180000000000000000000000000000b1500000010000081000000000040010200000
noncomputable def ο10 : List Nat := dec 149 0x4661000408105810005981000408110000010005981000408110004081000080060c181060c20306941800600102048c100002cd8b002c58b18cc6001830601020400306101834a0c00300081024608000126c480122448a662800a14280810200183080c1a506001800804f01000408104100050a00000000028000000000014100
noncomputable def ο11 : List Nat := dec 146 0x8802c440010044010604183140c1a506001800804f0700043871600000020408104cc10004081010020009000400900285000000500000000000284031020001060c203069418006002013c040010204081000000000081800000000000c00000000030000000000c0890004002000c18000001800000000000c0810200000
noncomputable def ο12 : List Nat := dec 37 0x2f0004000660000000000330000000000c0040800000000020000000000010100
noncomputable def ο13 : List Nat := dec 114 0x2330800204082c08002cc0800204088000008002cc080020408800204080004003060c08306101834a0c00300081024608000126c480122448a662800a14280810200183080c1a506001800804f01000408104100050a00000000028000000000014100
noncomputable def ο14 : List Nat := dec 100 0x210205081128400100011420408102850a000c184060d283000c001121c3870e2448900081030409282000800110183060c204080004082020528100040013c040010204281020408136140050a148800a042020408104
noncomputable def ο15 : List Nat := dec 44 0xa003060000000001800000000000c04081000000000102800000005000000000140000000005
noncomputable def ο16 : List Nat := dec 22 0x66000000000033000000000040010200000
noncomputable def ο17 : List Nat := dec 85 0x2020008000000000e08001020008000000000e081020004088020528100040013c1c0010e1c08000000000a0408100040010000000001408002040010000000001408102000810000003
noncomputable def ο18 : List Nat := dec 87 0x4c0000600000000000000000000000000000000b15000011b040010204040005c000815c000815c000815c000815c00081020400000cc00000000006600000000008002040010200000
noncomputable def ο19 : List Nat := dec 80 0x20c184060d283000c001121c3870e2448900081030409282000800110183060c204080004082020528100040013c040010204281020408136140050a148800a042020408104
noncomputable def ο20 : List Nat := dec 49 0x46c10004081015c000815c000815c00081020400000cc00000000006600000000008002040010200000
noncomputable def ο21 : List Nat := dec 74 0x101020008000000000e081020004088020528100040013c1c0010e1c08000000000a0408100040010000000001408002040010000000001408102000810000003
noncomputable def ο22 : List Nat := dec 8 0x2001020000002
noncomputable def ο23 : List Nat := dec 47 0x43000e1c0000000007000000000003810000081000000000143000000006000000000180000000006
noncomputable def ο24 : List Nat := dec 69 0x260c006000000b15000011b040010204040005c000815c000815c000815c000815c00081020400000cc00000000006600000000008002040010200000
noncomputable def ο25 : List Nat := dec 70 0x980000c000000000000000000000000000058a80000011b040010204040005c00081020400000cc00000000006600000000008002040010200000
noncomputable def ο26 : List Nat := dec 60 0x2081030409282000800110183060c204080004082020528100040013c040010204281020408136140050a148800a042020408104
noncomputable def ο27 : List Nat := dec 55 0x8d8200081020258a80000011b040010204040005c00081020400000cc00000000006600000000008002040010200000
noncomputable def ο28 : List Nat := dec 30 0x408000420408183060c000820408204081000102100000210000
noncomputable def ο29 : List Nat := dec 48 0xc180060c0008102140817004001020428102e008002040850205c0100040b4080008408100820408103
noncomputable def ο30 : List Nat := dec 48 0x2041010200100000008102000b302000810204001000000102000800004000000008100040800200000
noncomputable def ο31 : List Nat := dec 28 0x20400000000040a000000000005000000000140000000005
noncomputable def ο32 : List Nat := dec 0 0x0
noncomputable def ο33 : List Nat := dec 42 0x204001020002040850205c0100040810a040b802000810214081700400102d02000210204
noncomputable def ο34 : List Nat := dec 38 0x11b040010204040820409102000810102200023608002040808102040010200000
noncomputable def ο35 : List Nat := dec 3 0x10200
noncomputable def wπ (k : Nat) : Ans → List Ent → Nat → Nat → Resp := fun x M s t => ⟨.ok (.ret .none), [(k, (lstO x.l (x.n 40)))], [], s, t⟩
section
variable {P : Params} {ξ : Nat → Ans} {b : Bool} {z tk d0 u0 ku da a ti v kM kE c e f ji jl jp tp el l tr jc kV jg kP kR kb jf kO en n kX kW : Nat} {i p r : Int}
theorem told_cbool : τC 382 (κC 969 [ρ a]) [φ da (dct P [("value", ku, .bool b)]), φ a (ins 66 (ψ da))] ο1 [wB, wT 2, wT 3] [[], [2], [3], [0, 9, 1]]
  (δP 0 (ρE 959 [.bool b] 1 3 [] (ρC (.type "tuple") [.ref (ξy 0)] 1 3 [ςσ (ξy 0) (lstO [ξb 0])] (δP 1 (ρC (.type "tuple") [ξa 1 3] 1 3 [ςσ (ξz 1 3) (lstO [])] (ρF (.ref (ξy 2)) [ςσ (ξy 2) (tupO [.int 0 196, ξr 1, ξr 2]), ςσ ((ξ 1).n 2 + 981) (tupO [ξb 0]), ςσ ((ξ 2).n 2 + 981) (tupO [])] (ξz 2 1) (ξu 2))))))) := κR
theorem told_cint : τC 382 (κC 969 [ρ a]) [φ da (dct P [("value", ku, .int i ti)]), φ a (ins 66 (ψ da))] ο1 [wI, wT 2, wT 3] [[], [2], [3], [0, 9, 1]]
  (δP 0 (ρE 959 [.int i ti] 1 3 [] (ρC (.type "tuple") [.ref (ξy 0)] 1 3 [ςσ (ξy 0) (lstO [ξi 0])] (δP 1 (ρC (.type "tuple") [ξa 1 3] 1 3 [ςσ (ξz 1 3) (lstO [])] (ρF (.ref (ξy 2)) [ςσ (ξy 2) (tupO [.int 0 196, ξr 1, ξr 2]), ςσ ((ξ 1).n 2 + 981) (tupO [ξi 0]), ςσ ((ξ 2).n 2 + 981) (tupO [])] (ξz 2 1) (ξu 2))))))) := κR
theorem told_cstr : τC 382 (κC 969 [ρ a]) [φ da (dct P [("value", ku, .ref v)]), φ a (ins 66 (ψ da))] ο1 [wS, wT 2, wT 3] [[], [2], [3], [0, 9, 1]]
  (δP 0 (ρE 959 [.ref v] 1 3 [] (ρC (.type "tuple") [.ref (ξy 0)] 1 3 [ςσ (ξy 0) (lstO [ξs 0])] (δP 1 (ρC (.type "tuple") [ξa 1 3] 1 3 [ςσ (ξz 1 3) (lstO [])] (ρF (.ref (ξy 2)) [ςσ (ξy 2) (tupO [.int 0 196, ξr 1, ξr 2]), ςσ ((ξ 1).n 2 + 981) (tupO [ξs 0]), ςσ ((ξ 2).n 2 + 981) (tupO [])] (ξz 2 1) (ξu 2))))))) := κR
theorem told_cref : τC 382 (κC 969 [ρ a]) [φ da (dct P [("value", ku, .ref v)]), φ a (ins 66 (ψ da))] ο1 [wR, wT 2, wT 3] [[], [2], [3], [0, 9, 1]]
  (δP 0 (ρE 959 [.ref v] 1 3 [] (ρC (.type "tuple") [.ref (ξy 0)] 1 3 [ςσ (ξy 0) (lstO [ξr 0])] (δP 1 (ρC (.type "tuple") [ξa 1 3] 1 3 [ςσ (ξz 1 3) (lstO [])] (ρF (.ref (ξy 2)) [ςσ (ξy 2) (tupO [.int 0 196, ξr 1, ξr 2]), ςσ ((ξ 1).n 2 + 981) (tupO [ξr 0]), ςσ ((ξ 2).n 2 + 981) (tupO [])] (ξz 2 1) (ξu 2))))))) := κR
theorem told_loc : τC 369 (κC 969 [ρ a]) [φ da (dct P [("number", kM, .int i ti)]), φ a (ins 85 (ψ da))] (dec 239 0x4181060c203069418006002013c0400102040810000000001c40000000000020000000000800000000020300000428000180070e000000e0000000000070a2400100180070e000000e0000000000070a2400100180070e000000e0000000000070a2400100180070e000000e0000000000070a24001120008900040b202000810000005001830000003000000000001820408002000a1400000000050000000000028302c8080020400006002040000004000000000002021200080060020400000040000000000020204080010200000) [wT 1, wT 3] [[1], [3], [0, 9, 1]]
  (δP 0 (ρC (.type "tuple") [ρz 3] 1 3 [σσ z 3 (lstO [.int i ti])] (δP 1 (ρC (.type "tuple") [ξa 0 3] 1 3 [ςσ (ξz 0 3) (lstO [])] (ρF (.ref (ξy 1)) [ςσ (ξy 1) (tupO [.int 1 198, ξr 0, ξr 1]), ςσ ((ξ 0).n 2 + 981) (tupO [.int i ti]), ςσ ((ξ 1).n 2 + 981) (tupO [])] (ξz 1 1) (ξu 1)))))) := κR
theorem told_glob : τC 365 (κC 969 [ρ a]) [φ da (dct P [("symbol", kE, .int i ti)]), φ a (ins 104 (ψ da))] (dec 236 0x20c08306101834a0c003001009e0200081020408000000000e200000000000100000000004000000000101800002140000c0038700000070000000000038512000800c0038700000070000000000038512000800c0038700000070000000000038512000800c003870000007000000000003850a14005001830000000000c0000000000060805901000408000002000a14000001400000000000a0c480022400102c8080020400006002040000004000000000002021200080060020400000040000000000020204080010200000) [wT 0, wT 3] [[0], [3], [0, 9, 1]]
  (δP 0 (ρC (.type "tuple") [ρz 4] 1 3 [σσ z 4 (lstO [.int i ti])] (δP 1 (ρC (.type "tuple") [ξa 0 3] 1 3 [ςσ (ξz 0 3) (lstO [])] (ρF (.ref (ξy 1)) [ςσ (ξy 1) (tupO [.int 2 200, ξr 0, ξr 1]), ςσ ((ξ 0).n 2 + 981) (tupO [.int i ti]), ςσ ((ξ 1).n 2 + 981) (tupO [])] (ξz 1 1) (ξu 1)))))) := κR
theorem told_setLoc : τC 432 (κC 969 [ρ a]) [φ da (dct P [("number", kM, .int i ti), ("value", ku, ρ c)]), φ a (ins 137 (ψ da))] (dec 283 0x41830604183080c1a50600180040812304000800200081000c184060d283000c004027808002040880024480000000012000000000009020408000000000e200000000400000000010000000000406000008500003000e1c000001c00000000000e1448002003000e1c000001c00000000000e1448002003000e1c000001c00000000000e1448002003000e1c000001c00000000000e1448002240011200081640400102000000a003060000006000000000003040810004001428000000000a000000000005062400102c8080020400006002040000004000000000002021200080060020400000040000000000020204080010200000) [wT 1, wR, wT 3] [[1], [], [3], [0, 9, 1]]
  (δP 0 (ρC (.type "tuple") [ρz 3] 1 3 [σσ z 3 (lstO [.int i ti])] (δP 1 (ρE 969 [ρ c] 2 6 [] (ρC (.type "tuple") [ξa 0 3] 1 3 [ςσ (ξz 0 3) (lstO [ξr 1] 1)] (ρF (.ref (ξy 2)) [ςσ (ξy 2) (tupO [.int 3 202, ξr 0, ξr 2]), ςσ ((ξ 0).n 2 + 981) (tupO [.int i ti]), ςσ ((ξ 2).n 2 + 981) (tupO [ξr 1])] (ξz 2 1) (ξu 2))))))) := κR
theorem told_setGlob : τC 428 (κC 969 [ρ a]) [φ da (dct P [("symbol", kE, .int i ti), ("value", ku, ρ c)]), φ a (ins 170 (ψ da))] (dec 280 0x20c183020c184060d283000c002040918200040010004080060c203069418006002013c04001020440012240000000009000000000004810204000000000710000000020000000000800000000020300000428000180070e000000e0000000000070a2400100180070e000000e0000000000070a2400100180070e000000e0000000000070a2400100180070e000000e0000000000070a142800a003060000000001800000000000c104800205901000408000002000a14000001400000000000a0c480022400102c8080020400006002040000004000000000002021200080060020400000040000000000020204080010200000) [wT 0, wR, wT 3] [[0], [], [3], [0, 9, 1]]
  (δP 0 (ρC (.type "tuple") [ρz 4] 1 3 [σσ z 4 (lstO [.int i ti])] (δP 1 (ρE 969 [ρ c] 2 6 [] (ρC (.type "tuple") [ξa 0 3] 1 3 [ςσ (ξz 0 3) (lstO [ξr 1] 1)] (ρF (.ref (ξy 2)) [ςσ (ξy 2) (tupO [.int 4 204, ξr 0, ξr 2]), ςσ ((ξ 0).n 2 + 981) (tupO [.int i ti]), ςσ ((ξ 2).n 2 + 981) (tupO [ξr 1])] (ξz 2 1) (ξu 2))))))) := κR
theorem told_define : τC 432 (κC 969 [ρ a]) [φ da (dct P [("symbol", kE, .int i ti), ("value", ku, ρ c)]), φ a (ins 203 (ψ da))] (dec 283 0x41830604183080c1a50600180040812304000800200081000c184060d283000c004027808002040880024480000000012000000000009020408000000000e200000000400000000010000000000406000008500003000e1c000001c00000000000e1448002003000e1c000001c00000000000e1448002003000e1c000001c00000000000e1448002003000e1c000001c00000000000e1428500140060c0000000003000000000001820900044800205901000408000002000a14000001400000000000a0c480022400102c8080020400006002040000004000000000002021200080060020400000040000000000020204080010200000) [wT 0, wR, wT 3] [[0], [], [3], [0, 9, 1]]
  (δP 0 (ρC (.type "tuple") [ρz 4] 1 3 [σσ z 4 (lstO [.int i ti])] (δP 1 (ρE 969 [ρ c] 2 6 [] (ρC (.type "tuple") [ξa 0 3] 1 3 [ςσ (ξz 0 3) (lstO [ξr 1] 1)] (ρF (.ref (ξy 2)) [ςσ (ξy 2) (tupO [.int 5 206, ξr 0, ξr 2]), ςσ ((ξ 0).n 2 + 981) (tupO [.int i ti]), ςσ ((ξ 2).n 2 + 981) (tupO [ξr 1])] (ξz 2 1) (ξu 2))))))) := κR
theorem told_ite : τC 516 (κC 969 [ρ a]) [φ da (dct P [("test", ji, ρ c), ("yes", jl, ρ e), ("no", jp, ρ f)]), φ a (ins 236 (ψ da))] (dec 347 0x41830604183080c1a50600180040812304000800200081000c184060d283000c002040918200040010004080060c20306941800600102048c1000200080020400306101834a0c003001009e0200081021c00810000000000400000000000200870020400000000010000000000008021c00810000000000400000000000200810200000000030700000000e00000000038000000000e1400002100000a0030600000060000000000030412000800a0030600000060000000000030412000800a0030600000060000000000030412000800a00306000000600000000000304120008900044800205901000408000002000a14000001400000000000a0c480022400102c8080020400006002040000004000000000002021200080060020400000040000000000020204080010200000) [wT 2, wR, wR, wR, wT 3] [[2], [], [], [], [3], [0, 9, 1]]
  (δP 0 (ρC (.type "tuple") [ρz 1] 1 3 [σσ z 1 (lstO [])] (δP 1 (ρE 969 [ρ c] 2 6 [] (ρE 969 [ρ e] 2 6 [] (ρE 969 [ρ f] 2 6 [] (ρC (.type "tuple") [ξa 0 3] 1 3 [ςσ (ξz 0 3) (lstO [ξr 1, ξr 2, ξr 3] 3)] (ρF (.ref (ξy 4)) [ςσ (ξy 4) (tupO [.int 6 208, ξr 0, ξr 4]), ςσ ((ξ 0).n 2 + 981) (tupO []), ςσ ((ξ 4).n 2 + 981) (tupO [ξr 1, ξr 2, ξr 3])] (ξz 4 1) (ξu 4))))))))) := κR
theorem told_lam : τC 487 (κC 969 [ρ a]) [φ l (lstO [.int p tp] el), φ da (dct P [("label", jc, .int i ti), ("params", kV, ρ l), ("rest", jg, .int r tr), ("body", kP, ρ c)]), φ a (ins 283 (ψ da))] ο4 [wT 4, wT 0, wR, wT 3] [[4], [0], [], [3], [0, 9, 1, 11]]
  (δP 0 (ρC (.type "tuple") [ρ l] 1 3 [some (φ l (lstO [.int p tp] el))] (ρC (.type "tuple") [.ref (ξy 0)] 1 3 [ςσ (ξy 0) (lstO [.int i ti, ξr 0, .int r tr])] (δP 1 (ρE 969 [ρ c] 2 6 [] (ρC (.type "tuple") [ξa 1 3] 1 3 [ςσ (ξz 1 3) (lstO [ξr 2] 1)] (ρF (.ref (ξy 3)) [ςσ (ξy 3) (tupO [.int 7 210, ξr 1, ξr 3]), ςσ ((ξ 1).n 2 + 981) (tupO [.int i ti, ξr 0, .int r tr]), ςσ ((ξ 3).n 2 + 981) (tupO [ξr 2]), ςσ ((ξ 0).n 2 + 981) (tupO [.int p tp])] (ξz 3 1) (ξu 3)))))))) := κR
theorem told_lam0 : τC 487 (κC 969 [ρ a]) [φ l (lstO [] el), φ da (dct P [("label", jc, .int i ti), ("params", kV, ρ l), ("rest", jg, .int r tr), ("body", kP, ρ c)]), φ a (ins 283 (ψ da))] ο4 [wT 4, wT 0, wR, wT 3] [[4], [0], [], [3], [0, 9, 1, 11]]
  (δP 0 (ρC (.type "tuple") [ρ l] 1 3 [some (φ l (lstO [] el))] (ρC (.type "tuple") [.ref (ξy 0)] 1 3 [ςσ (ξy 0) (lstO [.int i ti, ξr 0, .int r tr])] (δP 1 (ρE 969 [ρ c] 2 6 [] (ρC (.type "tuple") [ξa 1 3] 1 3 [ςσ (ξz 1 3) (lstO [ξr 2] 1)] (ρF (.ref (ξy 3)) [ςσ (ξy 3) (tupO [.int 7 210, ξr 1, ξr 3]), ςσ ((ξ 1).n 2 + 981) (tupO [.int i ti, ξr 0, .int r tr]), ςσ ((ξ 3).n 2 + 981) (tupO [ξr 2]), ςσ ((ξ 0).n 2 + 981) (tupO [])] (ξz 3 1) (ξu 3)))))))) := κR
theorem told_call : τC 473 (κC 969 [ρ a]) [φ l (lstO [ρ e] el), φ da (dct P [("operator", kR, ρ c), ("operands", kb, ρ l)]), φ a (ins 316 (ψ da))] (dec 315 0x41830604183080c1a50600180040812304000800200081000c184060d283000c002040918200040010004080060c203069418006002013c04001020440110600800220089002850000000001400000000000a04200091200000000048000000000024081020000000003880000000100000000004000000000101400002100000c0038700000070000000000038412000800c0038700000070000000000038412000800c0038700000070000000000038412000800c00387000000700000000000384120008900044800205901000408000002800c18000001800000000000c0c480022400102c8080020400008002850000005000000000002821200080080028500000050000000000028204080010200000) [wT 2, wR, wR, wT 3] [[2], [], [], [3], [0, 10, 1]]
  (δP 0 (ρC (.type "tuple") [ρz 1] 1 3 [σσ z 1 (lstO [])] (δP 1 (ρE 969 [ρ c] 2 6 [] (ρE 969 [ρ e] 2 6 [] (ρC (.type "tuple") [ξa 0 4] 1 3 [ςσ (ξz 0 4) (lstO [ξr 1, ξr 2] 2)] (ρF (.ref (ξy 3)) [ςσ (ξy 3) (tupO [.int 8 212, ξr 0, ξr 3]), ςσ ((ξ 0).n 2 + 981) (tupO []), ςσ ((ξ 3).n 2 + 981) (tupO [ξr 1, ξr 2])] (ξz 3 1) (ξu 3)))))))) := κR
theorem told_seq : τC 440 (κC 969 [ρ a]) [φ l (lstO [ρ c, ρ e] el), φ da (dct P [("items", jf, ρ l)]), φ a (ins 349 (ψ da))] (dec 291 0x41830604183080c1a50600180040812304000800200081000c184060d283000c002040918200040010004080060c203069418006002013c04001020408800244800000000120000000000090200001020000000003880000000100000000004000000000101400002100000c0038700000070000000000038412000800c0038700000070000000000038412000800c0038700000070000000000038412000800c00387000000700000000000384120008900044800205901000408000002800c18000001800000000000c0c480022400102c8080020400008002850000005000000000002821200080080028500000050000000000028204080010200000) [wT 2, wO 6, wR, wR, wT 3] [[2], [6], [], [], [3], [0, 9, 1]]
  (δP 0 (ρC (.type "tuple") [ρz 1] 1 3 [σσ z 1 (lstO [])] (δP 1 (ρC (.type "list") [ρ l] 2 6 [some (φ l (lstO [ρ c, ρ e] el))] (ρE 969 [ρ c] 2 6 [] (ρE 969 [ρ e] 2 6 [] (ρC (.type "tuple") [ξa 1 1] 1 3 [ςσ (ξz 1 1) (lstO [ξr 2, ξr 3] 2)] (ρF (.ref (ξy 4)) [ςσ (ξy 4) (tupO [.int 9 214, ξr 0, ξr 4]), ςσ ((ξ 0).n 2 + 981) (tupO []), ςσ ((ξ 4).n 2 + 981) (tupO [ξr 2, ξr 3])] (ξz 4 1) (ξu 4))))))))) := κR
theorem told_prim1 : τC 439 (κC 969 [ρ a]) [φ l (lstO [ρ c] el), φ da (dct P [("op", kO, .int i ti), ("operands", kb, ρ l)]), φ a (ins 382 (ψ da))] (dec 289 0x1060c181060c20306941800600102048c1000200080020400306101834a0c003001009e020008102044801428000000000a0000000000050100000810000000002048000000090000000002400000000090c000010a0000700204000000400000000000202850a003000e1c00000000070000000000038412000800c0038700000070000000000038412000800c0038700000070000000000038412000800c00387000000700000000000384120008900044800205901000408000002800c18000001800000000000c0c480022400102c8080020400008002850000005000000000002821200080080028500000050000000000028204080010200000) [wT 0, wO 7, wR, wT 3] [[0], [7], [], [3], [0, 9, 1]]
  (δP 0 (ρC (.type "tuple") [ρz 4] 1 3 [σσ z 4 (lstO [.int i ti])] (δP 1 (ρC (.type "list") [ρ l] 2 6 [some (φ l (lstO [ρ c] el))] (ρE 969 [ρ c] 2 6 [] (ρC (.type "tuple") [ξa 1 1] 1 3 [ςσ (ξz 1 1) (lstO [ξr 2] 1)] (ρF (.ref (ξy 3)) [ςσ (ξy 3) (tupO [.int 10 216, ξr 0, ξr 3]), ςσ ((ξ 0).n 2 + 981) (tupO [.int i ti]), ςσ ((ξ 3).n 2 + 981) (tupO [ξr 2])] (ξz 3 1) (ξu 3)))))))) := κR
theorem told_prim2 : τC 473 (κC 969 [ρ a]) [φ l (lstO [ρ c, ρ e] el), φ da (dct P [("op", kO, .int i ti), ("operands", kb, ρ l)]), φ a (ins 382 (ψ da))] (dec 312 0x20c183020c184060d283000c002040918200040010004080060c20306941800600102048c1000200080020400306101834a0c003001009e020008102044801428000000000a0000000000050100000810000000002048000000090000000002400000000090c000010a0000700204000000400000000000202850a003000e1c00000000070000000000038412000800c0038700000070000000000038412000800c0038700000070000000000038412000800c00387000000700000000000384120008900044800205901000408000002800c18000001800000000000c0c480022400102c8080020400008002850000005000000000002821200080080028500000050000000000028204080010200000) [wT 0, wO 7, wR, wR, wT 3] [[0], [7], [], [], [3], [0, 9, 1]]
  (δP 0 (ρC (.type "tuple") [ρz 4] 1 3 [σσ z 4 (lstO [.int i ti])] (δP 1 (ρC (.type "list") [ρ l] 2 6 [some (φ l (lstO [ρ c, ρ e] el))] (ρE 969 [ρ c] 2 6 [] (ρE 969 [ρ e] 2 6 [] (ρC (.type "tuple") [ξa 1 1] 1 3 [ςσ (ξz 1 1) (lstO [ξr 2, ξr 3] 2)] (ρF (.ref (ξy 4)) [ςσ (ξy 4) (tupO [.int 10 216, ξr 0, ξr 4]), ςσ ((ξ 0).n 2 + 981) (tupO [.int i ti]), ςσ ((ξ 4).n 2 + 981) (tupO [ξr 2, ξr 3])] (ξz 4 1) (ξu 4))))))))) := κR
theorem told_fix : τC 512 (κC 969 [ρ a]) [φ l (lstO [ρ c] el), φ n (lstO [.int p tp] en), φ da (dct P [("numbers", kX, ρ n), ("lambdas", kW, ρ l), ("body", kP, ρ e)]), φ a (ins 415 (ψ da))] (dec 339 0x41830604183080c1a50600180040812304000800200081000c184060d283000c002040918200040010004080060c203069418006002013c04001020408a0260500140450b003060000000001800000000000c022c00c18000000000600000000000300810200000000050b0000000160000000005800000000161c0000218000120050a000000a000000000005061200080120050a000000a000000000005060c180010e00408000000000200000000000101000012000800e0040800000080000000000040412000800e00408000000800000000000404120008900044800205901000408000003000e1c000001c00000000000e0c480022400102c808002040000a0030600000060000000000030212000800a0030600000060000000000030204080010200000) [wT 5, wT 0, wR, wR, wT 3] [[5], [0], [], [], [3], [0, 10, 1, 12]]
  (δP 0 (ρC (.type "tuple") [ρ n] 1 3 [some (φ n (lstO [.int p tp] en))] (ρC (.type "tuple") [.ref (ξy 0)] 1 3 [ςσ (ξy 0) (lstO [ξr 0])] (δP 1 (ρE 969 [ρ c] 2 6 [] (ρE 969 [ρ e] 2 6 [] (ρC (.type "tuple") [ξa 1 4] 1 3 [ςσ (ξz 1 4) (lstO [ξr 2, ξr 3] 2)] (ρF (.ref (ξy 4)) [ςσ (ξy 4) (tupO [.int 11 218, ξr 1, ξr 4]), ςσ ((ξ 1).n 2 + 981) (tupO [ξr 0]), ςσ ((ξ 4).n 2 + 981) (tupO [ξr 2, ξr 3]), ςσ ((ξ 0).n 2 + 981) (tupO [.int p tp])] (ξz 4 1) (ξu 4))))))))) := κR
end
section
variable {P : Params} {ξ : Nat → Ans} {b : Bool} {z tk d0 u0 ti jd da a jr js : Nat} {i : Int} {v v' : Value}
theorem plain_bool : τC 353 (κC 959 [.bool b]) [] ο7 [] [[]]
  (δP 0 (ρF (.bool b) [] (ζz 17) (τt 12))) := κR
theorem plain_int : τC 353 (κC 959 [.int i ti]) [] ο7 [] [[]]
  (δP 0 (ρF (.int i ti) [] (ζz 17) (τt 12))) := κR
theorem plain_empty : τC 214 (κC 959 [.ref 454]) [] (dec 135 0x244891224009120008102180817004001020430102e008002040860205c0100040b40a000850a1408102080814a040010004f01000408100000000001300001800000000000000000000000000000002c5400002000000001300001800000000000000000000000000000002c5400002000010200000) [] [[]]
  (δP 0 (ρF (.str "empty" (τt 3)) [] (ζz 9) (τt 8))) := κR
theorem plain_unspec : τC 296 (κC 959 [.ref 457]) [] (dec 192 0x183060c180060c000408110040b8020008102200817004001020440102e00800205a0700043870e102040a10225080020000004891224009120008102180817004001020430102e008002040860205c0100040b40a000850a1408102080814a040010004f01000408100000000001300001800000000000000000000000000000002c5400002000000001300001800000000000000000000000000000002c5400002000010200000) [] [[]]
  (δP 0 (ρF (.str "unspecified" (τt 4)) [] (ζz 12) (τt 10))) := κR
theorem plain_eof : τC 378 (κC 959 [.ref 460]) [] (dec 249 0xf1e3c78f003c780020408a0205c01000408114040b802000810228081700400102d048002244890e1c3880e1d287001c000003060c180060c000408110040b8020008102200817004001020440102e00800205a0700043870e102040a10225080020000004891224009120008102180817004001020430102e008002040860205c0100040b40a000850a1408102080814a040010004f01000408100000000001300001800000000000000000000000000000002c5400002000000001300001800000000000000000000000000000002c5400002000010200000) [] [[]]
  (δP 0 (ρF (.str "eof" (τt 5)) [] (ζz 15) (τt 12))) := κR
theorem plain_char : τC 52 (κC 959 [ρ a]) [φ da (dct P [("code", jd, .int i ti)]), φ a (ins 520 (ψ da))] (dec 27 0x800306000000600000000c0832c5400002000010200000) [] [[0]]
  (δP 0 (ρF (ρz 1) [σσ z 1 (tupO [.str "char" (τt 1), .int i ti])] (ζz 2) (τt 3))) := κR
theorem plain_pair : τC 128 (κC 959 [ρ a]) [φ da (dct P [("car", jr, .int i ti), ("cdr", js, .ref 454)]), φ a (ins 499 (ψ da))] (dec 79 0x4002000c18000001800000003020008004001830000003000000006040032c540000200000000d30006180000000000000c000000018006000032c5400002000010200000) [wI, wS] [[], [], [0]]
  (δP 0 (ρE 959 [.int i ti] 1 3 [] (ρE 959 [.ref 454] 1 3 [] (ρF (.ref (ξy 1)) [ςσ (ξy 1) (tupO [.str "pair" (τt 2), ξi 0, ξs 1])] (ξz 1 1) (ξu 1))))) := κR
theorem atom_bool : τC 64 (κC 665 [.bool b]) [] (dec 32 0x5c0008064000000000b1500000010000081000000000040010200000) [] [[]]
  (δP 0 (δP 1 (ρF βT [] (ζz 2) (τt 3)))) := κR
theorem isplain_bool : τC 39 (κC 945 [.bool b]) [] (dec 20 0x2c000810204b15000000002000010200000) [] [[]]
  (δP 0 (ρF βT [] (ζz 2) (τt 1))) := κR
theorem atom_int : τC 346 (κC 665 [.int i ti]) [] (dec 180 0x5c000ae00040320000000009830018000002c5400002000260c006000000b150000080009830018000002c5400002000260c006000000b150000080009830018000002c5400002000260c006000000b150000080009830018000002c5400002000260c006000000b150000080009830018000002c5400002000260c006000000b15000008000983001800b1500000010000081000000000040010200000) [] [[]]
  (δP 0 (δP 1 (ρF βT [] (ζz 2) (τt 14)))) := κR
theorem isplain_int : τC 40 (κC 945 [.int i ti]) [] (dec 20 0x2c000810204b15000000002000010200000) [] [[]]
  (δP 0 (ρF βT [] (ζz 2) (τt 1))) := κR
theorem atom_empty : τC 232 (κC 665 [.ref 454]) [] (dec 153 0x2e000570002b80015c000ae0004032000000000000000000000000000000000802c5400002000000001300001800000000000000000000000000000002c5400002000000001300001800000000000000000000000000000002c540000200000000130000180000000000000000000000000000b1500000010000081000000000040010200000) [] [[]]
  (δP 0 (δP 1 (ρF βT [] (ζz 2) (τt 6)))) := κR
theorem isplain_empty : τC 108 (κC 945 [.ref 454]) [] (dec 73 0x4000004c0000600000000000000000000000000000000b0000000260000300000000000000000000000000001600040810200b15000000002000010200000) [] [[]]
  (δP 0 (ρF βT [] (ζz 2) (τt 3))) := κR
theorem atom_unspec : τC 236 (κC 665 [.ref 457]) [] ο9 [] [[]]
  (δP 0 (δP 1 (ρF βT [] (ζz 2) (τt 6)))) := κR
theorem isplain_unspec : τC 116 (κC 945 [.ref 457]) [] (dec 77 0x40000004000004c0000600000000000000000000000000000000b0000000260000300000000000000000000000000001600040810200b15000000002000010200000) [] [[]]
  (δP 0 (ρF βT [] (ζz 2) (τt 3))) := κR
theorem atom_eof : τC 236 (κC 665 [.ref 460]) [] ο9 [] [[]]
  (δP 0 (δP 1 (ρF βF [] (ζz 2) (τt 6)))) := κR
theorem isplain_eof : τC 118 (κC 945 [.ref 460]) [] (dec 79 0x40000004000004c0000600000000000000000000000000000000b0000000260000300000000000000000000000000001600040810200b15000000002000010200000) [] [[]]
  (δP 0 (ρF βF [] (ζz 2) (τt 3))) := κR
theorem atom_char : τC 255 (κC 665 [ρ a]) [φ da (dct P [("code", jd, .int i ti)]), φ a (ins 520 (ψ da))] (dec 168 0x5c000ae000570002b800100c800000000042c5400002000000011300081800000000000010000000020008000042c5400002000000011300081800000000000010000000020008000042c5400002000000011300081800000000000010000000020008000042c540000200000001130008180000000000001000000002000810b1500000010000081000000000040010200000) [] [[]]
  (δP 0 (δP 1 (ρF βT [] (ζz 2) (τt 7)))) := κR
theorem isplain_char : τC 73 (κC 945 [ρ a]) [φ da (dct P [("code", jd, .int i ti)]), φ a (ins 520 (ψ da))] (dec 47 0x10b0000002260010300000000000002000000004001021600040810210b15000000002000010200000) [] [[]]
  (δP 0 (ρF βT [] (ζz 2) (τt 2))) := κR
theorem atom_pair : τC 128 (κC 665 [ρ a]) [φ da (dct P [("car", jr, v), ("cdr", js, v')]), φ a (ins 499 (ψ da))] (dec 78 0x170002b80015c000ae000570002b800100c800000000042c540000200000001130008180000000000001000000002000810b1500000010000081000000000040010200000) [] [[]]
  (δP 0 (δP 1 (ρF βF [] (ζz 2) (τt 4)))) := κR
theorem isplain_pair : τC 118 (κC 945 [ρ a]) [φ da (dct P [("car", jr, v), ("cdr", js, v')]), φ a (ins 499 (ψ da))] (dec 79 0x200040020004000044c0020600000000000004000000008002000010b0000002260010300000000000002000000004001021600040810210b15000000002000010200000) [] [[]]
  (δP 0 (ρF βF [] (ζz 2) (τt 3))) := κR
end
section
variable {P : Params} {ξ : Nat → Ans} {z tk d0 u0 to el l ti jd da a x y ty tx : Nat} {i : Int} {b : Bool} {v : Value}
theorem fold_not_true : τC 100 (κC 952 [.int 8 to, ρ l]) [φ l (lstO [.bool true] el)] ο27 [] [[0]]
  (δP 0 (ρF (ρz 1) [σσ z 1 (tupO [.bool false])] (ζz 2) (τt 7))) := κR
theorem fold_not_false : τC 100 (κC 952 [.int 8 to, ρ l]) [φ l (lstO [.bool false] el)] ο27 [] [[0]]
  (δP 0 (ρF (ρz 1) [σσ z 1 (tupO [.bool true])] (ζz 2) (τt 7))) := κR
theorem fold_not_int : τC 96 (κC 952 [.int 8 to, ρ l]) [φ l (lstO [.int i ti] el)] (dec 52 0x4c1800c0058a80000011b040010204040005c00081020400000cc00000000006600000000008002040010200000) [] [[0]]
  (δP 0 (ρF (ρz 1) [σσ z 1 (tupO [.bool false])] (ζz 2) (τt 7))) := κR
theorem fold_not_empty : τC 114 (κC 952 [.int 8 to, ρ l]) [φ l (lstO [.ref 454] el)] ο25 [] [[0]]
  (δP 0 (ρF (ρz 1) [σσ z 1 (tupO [.bool false])] (ζz 2) (τt 7))) := κR
theorem fold_not_unspec : τC 114 (κC 952 [.int 8 to, ρ l]) [φ l (lstO [.ref 457] el)] ο25 [] [[0]]
  (δP 0 (ρF (ρz 1) [σσ z 1 (tupO [.bool false])] (ζz 2) (τt 7))) := κR
theorem fold_not_char : τC 114 (κC 952 [.int 8 to, ρ l]) [φ da (dct P [("code", jd, .int i ti)]), φ a (ins 520 (ψ da)), φ l (lstO [ρ a] el)] (dec 70 0x6980030c0000000000000600000000c0030658a80000021b080020408040005c00081020400000cc00000000006600000000008002040010200000) [] [[0]]
  (δP 0 (ρF (ρz 1) [σσ z 1 (tupO [.bool false])] (ζz 2) (τt 7))) := κR
theorem fold_null_bool : τC 94 (κC 952 [.int 16 to, ρ l]) [φ l (lstO [.bool b] el)] ο20 [] [[0]]
  (δP 0 (ρF (ρz 1) [σσ z 1 (tupO [.bool false])] (ζz 2) (τt 8))) := κR
theorem fold_null_int : τC 94 (κC 952 [.int 16 to, ρ l]) [φ l (lstO [.int i ti] el)] ο20 [] [[0]]
  (δP 0 (ρF (ρz 1) [σσ z 1 (tupO [.bool false])] (ζz 2) (τt 8))) := κR
theorem fold_null_empty : τC 95 (κC 952 [.int 16 to, ρ l]) [φ l (lstO [.ref 454] el)] ο20 [] [[0]]
  (δP 0 (ρF (ρz 1) [σσ z 1 (tupO [.bool true])] (ζz 2) (τt 8))) := κR
theorem fold_null_unspec : τC 97 (κC 952 [.int 16 to, ρ l]) [φ l (lstO [.ref 457] el)] (dec 51 0x46c10004081015c000815c000815c00081020400000cc00000000006600000000008002040010200000) [] [[0]]
  (δP 0 (ρF (ρz 1) [σσ z 1 (tupO [.bool false])] (ζz 2) (τt 8))) := κR
theorem fold_null_char : τC 97 (κC 952 [.int 16 to, ρ l]) [φ da (dct P [("code", jd, .int i ti)]), φ a (ins 520 (ψ da)), φ l (lstO [ρ a] el)] (dec 51 0x180086c20008102015c000815c000815c00081020400000cc00000000006600000000008002040010200000) [] [[0]]
  (δP 0 (ρF (ρz 1) [σσ z 1 (tupO [.bool false])] (ζz 2) (τt 8))) := κR
theorem fold_c2i_bool : τC 131 (κC 952 [.int 135 to, ρ l]) [φ l (lstO [.bool b] el)] ο24 [] [[]]
  (δP 0 (ρF (.none) [] (ζz 1) (τt 11))) := κR
theorem fold_c2i_int : τC 131 (κC 952 [.int 135 to, ρ l]) [φ l (lstO [.int i ti] el)] ο24 [] [[]]
  (δP 0 (ρF (.none) [] (ζz 1) (τt 11))) := κR
theorem fold_c2i_empty : τC 149 (κC 952 [.int 135 to, ρ l]) [φ l (lstO [.ref 454] el)] ο18 [] [[]]
  (δP 0 (ρF (.none) [] (ζz 1) (τt 11))) := κR
theorem fold_c2i_unspec : τC 149 (κC 952 [.int 135 to, ρ l]) [φ l (lstO [.ref 457] el)] ο18 [] [[]]
  (δP 0 (ρF (.none) [] (ζz 1) (τt 11))) := κR
theorem fold_c2i_char : τC 154 (κC 952 [.int 135 to, ρ l]) [φ da (dct P [("code", jd, .int i ti)]), φ a (ins 520 (ψ da)), φ l (lstO [ρ a] el)] (dec 85 0x400183000000300000000610d840010204020cb15000021b080020408040005c000815c000815c000815c000815c00081020400000cc00000000006600000000008002040010200000) [] [[0]]
  (δP 0 (ρF (ρz 1) [σσ z 1 (tupO [.int i ti])] (ζz 2) (τt 12))) := κR
theorem fold_car : τC 103 (κC 952 [.int 11 to, ρ l]) [φ l (lstO [v] el)] (dec 52 0x5c000815c000815c000815c000815c000815c00081020400000cc00000000006600000000008002040010200000) [] [[]]
  (δP 0 (ρF (.none) [] (ζz 1) (τt 10))) := κR
theorem fold_cons {k k2 : VK} : τC 239 (κC 952 [.int 9 to, ρ l]) [φ l (lstO [vk k, vk k2] el)] (dec 156 0x60c1800008000000800252001000000002020418306000020000002000948004000000008081020400102000810000000000000002000800000000000000000000005000000000000000000007200000000000236080020408082360800204080805c000815c000815c000815c00081020400000cc00000000006600000000008002040010200000) [] [[0, 2, 3]]
  (δP 0 (δP 306 (ρF (ρz 4) [σσ z 4 (tupO [ρz 2]), σσ z 2 (ins 499 (ζz 1)), σσ z 1 (dct P [("car", (τt 14), vk k), ("cdr", (τt 16), vk k2)])] (ζz 5) (τt 17)))) := by cases k <;> cases k2 <;> kernel_rfl
theorem fold_eq {k k2 : PK} : τC 121 (κC 952 [.int 4 to, ρ l]) [φ l (lstO [pkV k, pkV k2] el)] (dec 66 0x8102040023608002040808000000810008d82000810202000005c000815c00081020400000cc00000000006600000000008002040010200000) [pkW k, wS, pkW k2, wS, wB] (φe 5 [0])
  (δP 0 (ρE 959 [pkV k] 1 3 [] (ρD "repr" [pkR k (ξ 0)] 1 3 [] (ρE 959 [pkV k2] 1 3 [] (ρD "repr" [pkR k2 (ξ 2)] 1 3 [] (ρD "str.__eq__" [ξs 1, ξs 3] 1 3 [] (ρF (.ref (ξy 4)) [ςσ (ξy 4) (tupO [ξb 4])] (ξz 4 1) (ξu 4)))))))) := by cases k <;> cases k2 <;> kernel_rfl
theorem str_eq {x y : PySem.Str} : τC 4 (.call (.builtin "str.__eq__") ⟨[.str x tx, .str y ty], []⟩) [] (dec 1 0x2e) [] [[]]
  (ρF (.bool (eqS x y)) [] ζ τ) := κR
theorem str_ne {x y : PySem.Str} : τC 4 (.call (.builtin "str.__ne__") ⟨[.str x tx, .str y ty], []⟩) [] (dec 1 0x2f) [] [[]]
  (ρF (.bool (neS x y)) [] ζ τ) := κR
end
section
variable {P : Params} {ξ : Nat → Ans} {v0 v1 v2 v3 : Value} {z tk d0 u0 ku da a tn kM kE ji jl jp jc kV jg kP kR kb jf kO kX kW kG ds s m top dx x el l y dy : Nat} {k kx ky : NK} {op : Int} {vx vy : VK}
theorem ga_const : τC 12 (γH a "kind") [φ da (dct P [("value", ku, v0)]), φ a (ins 66 (ψ da))] ο22 [] [[]]
  (ρF (.int 0 196) [] ζ τ) := κR
theorem ga_loc : τC 12 (γH a "kind") [φ da (dct P [("number", kM, v0)]), φ a (ins 85 (ψ da))] ο22 [] [[]]
  (ρF (.int 1 198) [] ζ τ) := κR
theorem ga_glob : τC 12 (γH a "kind") [φ da (dct P [("symbol", kE, v0)]), φ a (ins 104 (ψ da))] ο22 [] [[]]
  (ρF (.int 2 200) [] ζ τ) := κR
theorem ga_setLoc : τC 12 (γH a "kind") [φ da (dct P [("number", kM, v0), ("value", ku, v1)]), φ a (ins 137 (ψ da))] ο22 [] [[]]
  (ρF (.int 3 202) [] ζ τ) := κR
theorem ga_setGlob : τC 12 (γH a "kind") [φ da (dct P [("symbol", kE, v0), ("value", ku, v1)]), φ a (ins 170 (ψ da))] ο22 [] [[]]
  (ρF (.int 4 204) [] ζ τ) := κR
theorem ga_define : τC 12 (γH a "kind") [φ da (dct P [("symbol", kE, v0), ("value", ku, v1)]), φ a (ins 203 (ψ da))] ο22 [] [[]]
  (ρF (.int 5 206) [] ζ τ) := κR
theorem ga_ite : τC 12 (γH a "kind") [φ da (dct P [("test", ji, v0), ("yes", jl, v1), ("no", jp, v2)]), φ a (ins 236 (ψ da))] ο22 [] [[]]
  (ρF (.int 6 208) [] ζ τ) := κR
theorem ga_lam : τC 12 (γH a "kind") [φ da (dct P [("label", jc, v0), ("params", kV, v1), ("rest", jg, v2), ("body", kP, v3)]), φ a (ins 283 (ψ da))] ο22 [] [[]]
  (ρF (.int 7 210) [] ζ τ) := κR
theorem ga_call : τC 12 (γH a "kind") [φ da (dct P [("operator", kR, v0), ("operands", kb, v1)]), φ a (ins 316 (ψ da))] ο22 [] [[]]
  (ρF (.int 8 212) [] ζ τ) := κR
theorem ga_seq : τC 12 (γH a "kind") [φ da (dct P [("items", jf, v0)]), φ a (ins 349 (ψ da))] ο22 [] [[]]
  (ρF (.int 9 214) [] ζ τ) := κR
theorem ga_prim : τC 12 (γH a "kind") [φ da (dct P [("op", kO, v0), ("operands", kb, v1)]), φ a (ins 382 (ψ da))] ο22 [] [[]]
  (ρF (.int 10 216) [] ζ τ) := κR
theorem ga_fix : τC 12 (γH a "kind") [φ da (dct P [("numbers", kX, v0), ("lambdas", kW, v1), ("body", kP, v2)]), φ a (ins 415 (ψ da))] ο22 [] [[]]
  (ρF (.int 11 218) [] ζ τ) := κR
theorem ga_const_value : τC 14 (γH a "value") [φ da (dct P [("value", ku, v0)]), φ a (ins 66 (ψ da))] (dec 10 0x8004080000000002) [] [[]]
  (ρF v0 [] ζ τ) := κR
theorem ga_prim_op : τC 14 (γH a "op") [φ da (dct P [("op", kO, v0), ("operands", kb, v1)]), φ a (ins 382 (ψ da))] (dec 10 0x8004080000000002) [] [[]]
  (ρF v0 [] ζ τ) := κR
theorem ga_prim_operands : τC 14 (γH a "operands") [φ da (dct P [("op", kO, v0), ("operands", kb, v1)]), φ a (ins 382 (ψ da))] (dec 10 0x8004080000000002) [] [[]]
  (ρF v1 [] ζ τ) := κR
theorem turn_other : τC 38 (.call (ρ m) ⟨[ρ a], []⟩) [φ ds (dct P [("fold", kG, .ref 952)]), φ s (ins 894 (ψ ds)), φ m (mT (.ref 891) (ρ s)), φ a (ins (cNK k) da)] (dec 21 0x102040010000000001408102000810000003) [wI, wV βT] [[], [], [4]]
  (δP 0 (γA a "kind" (τt 2) 1 3 (ρD "int.__ne__" [ξi 0, .int 10 216] 1 3 [] (ρF (ρ a) [some (φ a (ins (cNK k) da))] (ξy 1) (ξu 1))))) := by cases k <;> kernel_rfl
theorem turn_big : τC 60 (.call (ρ m) ⟨[ρ a], []⟩) [φ ds (dct P [("fold", kG, .ref 952)]), φ s (ins 894 (ψ ds)), φ m (mT (.ref 891) (ρ s)), φ a (ins 382 da)] (dec 35 0x408100040010000000001408002040010000000001408102000810000003) [wK 10, wV βF, wV (.int op top), wI, wV βT] (φe 5 [4])
  (δP 0 (γA a "kind" (τt 2) 1 3 (ρD "int.__ne__" [.int 10 ((ξ 0).n 50), .int 10 216] 1 3 [] (γA a "op" (ξu 1) 1 3 (ρE 872 [.int op top] 1 3 [] (ρD "int.__ge__" [ξi 3, .int 2 1917] 1 3 [] (ρF (ρ a) [some (φ a (ins 382 da))] (ξy 4) (ξu 4)))))))) := κR
theorem turn1_bad : τC 119 (.call (ρ m) ⟨[ρ a], []⟩) [φ ds (dct P [("fold", kG, .ref 952)]), φ s (ins 894 (ψ ds)), φ m (mT (.ref 891) (ρ s)), φ a (ins 382 da), φ x (ins (cNK kx) dx), φ l (lstO [ρ x] el)] ο21 [wK 10, wV βF, wV (.int op top), wI, wV βF, wV (ρ l), wI, wV βT] (φe 8 [5])
  (δP 0 (γA a "kind" (τt 2) 1 3 (ρD "int.__ne__" [.int 10 ((ξ 0).n 50), .int 10 216] 1 3 [] (γA a "op" (ξu 1) 1 3 (ρE 872 [.int op top] 1 3 [] (ρD "int.__ge__" [ξi 3, .int 2 1917] 1 3 [] (γA a "operands" (ξu 4) 1 3 (γA x "kind" (ξt 5 1) 1 3 (ρD "int.__ne__" [ξi 6, .int 0 196] 1 3 [] (ρF (ρ a) [some (φ a (ins 382 da))] (ξy 7) (ξu 7))))))))))) := by cases kx <;> kernel_rfl
theorem turn1_non : τC 137 (.call (ρ m) ⟨[ρ a], []⟩) [φ ds (dct P [("fold", kG, .ref 952)]), φ s (ins 894 (ψ ds)), φ m (mT (.ref 891) (ρ s)), φ a (ins 382 da), φ x (ins 66 dx), φ l (lstO [ρ x] el)] ο17 [wK 10, wV βF, wV (.int op top), wI, wV βF, wV (ρ l), wI, wV βF, wV (vk vx), wV βF] (φe 10 [5])
  (δP 0 (γA a "kind" (τt 2) 1 3 (ρD "int.__ne__" [.int 10 ((ξ 0).n 50), .int 10 216] 1 3 [] (γA a "op" (ξu 1) 1 3 (ρE 872 [.int op top] 1 3 [] (ρD "int.__ge__" [ξi 3, .int 2 1917] 1 3 [] (γA a "operands" (ξu 4) 1 3 (γA x "kind" (ξt 5 1) 1 3 (ρD "int.__ne__" [ξi 6, .int 0 196] 1 3 [] (γA x "value" (ξu 7) 1 3 (ρE 665 [vk vx] 1 3 [] (ρF (ρ a) [some (φ a (ins 382 da))] (ξy 9) (ξu 9))))))))))))) := by cases vx <;> kernel_rfl
theorem turn1_none : τC 295 (.call (ρ m) ⟨[ρ a], []⟩) [φ ds (dct P [("fold", kG, .ref 952)]), φ s (ins 894 (ψ ds)), φ m (mT (.ref 891) (ρ s)), φ a (ins 382 da), φ x (ins 66 dx), φ l (lstO [ρ x] el)] (dec 193 0x91224480020018306041831a0c1a506001800408123040008000000001804081000c18d060d283000c004027850002285010000000002020100000000020205001830000003000000006000000600000060000006080408110040a50200080020008000000000e08001020008000000000e081020004088020528100040013c1c0010e1c08000000000a0408100040010000000001408002040010000000001408102000810000003) [wK 10, wV βF, wV (.int op top), wI, wV βF, wV (ρ l), wI, wV βF, wV (vk vx), wV βT, wV (.int op top), wV (ρ l), wV (vk vx), wV (.none)] (φe 13 [3] [12])
  (δP 0 (γA a "kind" (τt 2) 1 3 (ρD "int.__ne__" [.int 10 ((ξ 0).n 50), .int 10 216] 1 3 [] (γA a "op" (ξu 1) 1 3 (ρE 872 [.int op top] 1 3 [] (ρD "int.__ge__" [ξi 3, .int 2 1917] 1 3 [] (γA a "operands" (ξu 4) 1 3 (γA x "kind" (ξt 5 1) 1 3 (ρD "int.__ne__" [ξi 6, .int 0 196] 1 3 [] (γA x "value" (ξu 7) 1 3 (ρE 665 [vk vx] 1 3 [] (γA a "op" (ξt 9 1) 1 3 (γA a "operands" (ξu 10) 1 3 (γA x "value" (ξt 11 1) 2 6 (ρE 952 [.int op top, ξa 11 1] 1 3 [ςσ (ξz 11 1) (lstO [vk vx] 1)] (ρF (ρ a) [some (φ a (ins 382 da))] (ξy 13) (ξt 13 1))))))))))))))))) := by cases vx <;> kernel_rfl
theorem turn1_ref : τC 314 (.call (ρ m) ⟨[ρ a], []⟩) [φ ds (dct P [("fold", kG, .ref 952)]), φ s (ins 894 (ψ ds)), φ m (mT (.ref 891) (ρ s)), φ a (ins 382 da), φ x (ins 66 dx), φ l (lstO [ρ x] el)] (dec 204 0x1404001660400102045001428500020018306041831a0c1a506001800408123040008000000001804081000c18d060d283000c004027850002285010000000002020100000000020205001830000003000000006000000600000060000006080408110040a50200080020008000000000e08001020008000000000e081020004088020528100040013c1c0010e1c08000000000a0408100040010000000001408002040010000000001408102000810000003) [wK 10, wV βF, wV (.int op top), wI, wV βF, wV (ρ l), wI, wV βF, wV (vk vx), wV βT, wV (.int op top), wV (ρ l), wV (vk vx), ωX (.ref (x.n 2 + 981)) [] [⟨x.n 2 + 981, (tupO [.ref (x.n 3 + 981)]), false⟩], wV βF] (φe 13 [3] [] [13])
  (δP 0 (γA a "kind" (τt 2) 1 3 (ρD "int.__ne__" [.int 10 ((ξ 0).n 50), .int 10 216] 1 3 [] (γA a "op" (ξu 1) 1 3 (ρE 872 [.int op top] 1 3 [] (ρD "int.__ge__" [ξi 3, .int 2 1917] 1 3 [] (γA a "operands" (ξu 4) 1 3 (γA x "kind" (ξt 5 1) 1 3 (ρD "int.__ne__" [ξi 6, .int 0 196] 1 3 [] (γA x "value" (ξu 7) 1 3 (ρE 665 [vk vx] 1 3 [] (γA a "op" (ξt 9 1) 1 3 (γA a "operands" (ξu 10) 1 3 (γA x "value" (ξt 11 1) 2 6 (ρE 952 [.int op top, ξa 11 1] 1 3 [ςσ (ξz 11 1) (lstO [vk vx] 1)] (ρE 665 [.ref ((ξ 13).n 3 + 981)] 1 3 [] (ρF (ρ a) [some (φ a (ins 382 da))] (ξy 14) (ξu 14)))))))))))))))))) := by cases vx <;> kernel_rfl
theorem turn1_bool : τC 420 (.call (ρ m) ⟨[ρ a], []⟩) [φ ds (dct P [("fold", kG, .ref 952)]), φ s (ins 894 (ψ ds)), φ m (mT (.ref 891) (ρ s)), φ a (ins 382 da), φ x (ins 66 dx), φ l (lstO [ρ x] el)] ο5 [wK 10, wV βF, wV (.int op top), wI, wV βF, wV (ρ l), wI, wV βF, wV (vk vx), wV βT, wV (.int op top), wV (ρ l), wV (vk vx), ωX (.ref (x.n 2 + 981)) [] [⟨x.n 2 + 981, (tupO [.bool (x.b 0)]), false⟩], wV βT] (φe 13 [3] [] [1, 2])
  (δP 0 (γA a "kind" (τt 2) 1 3 (ρD "int.__ne__" [.int 10 ((ξ 0).n 50), .int 10 216] 1 3 [] (γA a "op" (ξu 1) 1 3 (ρE 872 [.int op top] 1 3 [] (ρD "int.__ge__" [ξi 3, .int 2 1917] 1 3 [] (γA a "operands" (ξu 4) 1 3 (γA x "kind" (ξt 5 1) 1 3 (ρD "int.__ne__" [ξi 6, .int 0 196] 1 3 [] (γA x "value" (ξu 7) 1 3 (ρE 665 [vk vx] 1 3 [] (γA a "op" (ξt 9 1) 1 3 (γA a "operands" (ξu 10) 1 3 (γA x "value" (ξt 11 1) 2 6 (ρE 952 [.int op top, ξa 11 1] 1 3 [ςσ (ξz 11 1) (lstO [vk vx] 1)] (ρE 665 [ξb 13] 1 3 [] (δP 306 (ρF (ξa 14 1) [ςσ (ξz 14 1) (ins 66 (ξy 14)), ςσ (ξy 14) (dct P [("value", (ξt 14 4), ξb 13)])] (ξz 14 3) (ξt 14 5))))))))))))))))))) := by cases vx <;> kernel_rfl
theorem turn1_int : τC 420 (.call (ρ m) ⟨[ρ a], []⟩) [φ ds (dct P [("fold", kG, .ref 952)]), φ s (ins 894 (ψ ds)), φ m (mT (.ref 891) (ρ s)), φ a (ins 382 da), φ x (ins 66 dx), φ l (lstO [ρ x] el)] ο5 [wK 10, wV βF, wV (.int op top), wI, wV βF, wV (ρ l), wI, wV βF, wV (vk vx), wV βT, wV (.int op top), wV (ρ l), wV (vk vx), ωX (.ref (x.n 2 + 981)) [] [⟨x.n 2 + 981, (tupO [.int (x.i 0) (x.n 50)]), false⟩], wV βT] (φe 13 [3] [] [1, 2])
  (δP 0 (γA a "kind" (τt 2) 1 3 (ρD "int.__ne__" [.int 10 ((ξ 0).n 50), .int 10 216] 1 3 [] (γA a "op" (ξu 1) 1 3 (ρE 872 [.int op top] 1 3 [] (ρD "int.__ge__" [ξi 3, .int 2 1917] 1 3 [] (γA a "operands" (ξu 4) 1 3 (γA x "kind" (ξt 5 1) 1 3 (ρD "int.__ne__" [ξi 6, .int 0 196] 1 3 [] (γA x "value" (ξu 7) 1 3 (ρE 665 [vk vx] 1 3 [] (γA a "op" (ξt 9 1) 1 3 (γA a "operands" (ξu 10) 1 3 (γA x "value" (ξt 11 1) 2 6 (ρE 952 [.int op top, ξa 11 1] 1 3 [ςσ (ξz 11 1) (lstO [vk vx] 1)] (ρE 665 [ξi 13] 1 3 [] (δP 306 (ρF (ξa 14 1) [ςσ (ξz 14 1) (ins 66 (ξy 14)), ςσ (ξy 14) (dct P [("value", (ξt 14 4), ξi 13)])] (ξz 14 3) (ξt 14 5))))))))))))))))))) := by cases vx <;> kernel_rfl
theorem turn2_bad : τC 119 (.call (ρ m) ⟨[ρ a], []⟩) [φ ds (dct P [("fold", kG, .ref 952)]), φ s (ins 894 (ψ ds)), φ m (mT (.ref 891) (ρ s)), φ a (ins 382 da), φ x (ins (cNK kx) dx), φ l (lstO [ρ x, .ref y] el)] ο21 [wK 10, wV βF, wV (.int op top), wI, wV βF, wV (ρ l), wI, wV βT] (φe 8 [5])
  (δP 0 (γA a "kind" (τt 2) 1 3 (ρD "int.__ne__" [.int 10 ((ξ 0).n 50), .int 10 216] 1 3 [] (γA a "op" (ξu 1) 1 3 (ρE 872 [.int op top] 1 3 [] (ρD "int.__ge__" [ξi 3, .int 2 1917] 1 3 [] (γA a "operands" (ξu 4) 1 3 (γA x "kind" (ξt 5 1) 1 3 (ρD "int.__ne__" [ξi 6, .int 0 196] 1 3 [] (ρF (ρ a) [some (φ a (ins 382 da))] (ξy 7) (ξu 7))))))))))) := by cases kx <;> kernel_rfl
theorem turn2_non : τC 137 (.call (ρ m) ⟨[ρ a], []⟩) [φ ds (dct P [("fold", kG, .ref 952)]), φ s (ins 894 (ψ ds)), φ m (mT (.ref 891) (ρ s)), φ a (ins 382 da), φ x (ins 66 dx), φ l (lstO [ρ x, .ref y] el)] ο17 [wK 10, wV βF, wV (.int op top), wI, wV βF, wV (ρ l), wI, wV βF, wV (vk vx), wV βF] (φe 10 [5])
  (δP 0 (γA a "kind" (τt 2) 1 3 (ρD "int.__ne__" [.int 10 ((ξ 0).n 50), .int 10 216] 1 3 [] (γA a "op" (ξu 1) 1 3 (ρE 872 [.int op top] 1 3 [] (ρD "int.__ge__" [ξi 3, .int 2 1917] 1 3 [] (γA a "operands" (ξu 4) 1 3 (γA x "kind" (ξt 5 1) 1 3 (ρD "int.__ne__" [ξi 6, .int 0 196] 1 3 [] (γA x "value" (ξu 7) 1 3 (ρE 665 [vk vx] 1 3 [] (ρF (ρ a) [some (φ a (ins 382 da))] (ξy 9) (ξu 9))))))))))))) := by cases vx <;> kernel_rfl
theorem turn2_gbad : τC 173 (.call (ρ m) ⟨[ρ a], []⟩) [φ ds (dct P [("fold", kG, .ref 952)]), φ s (ins 894 (ψ ds)), φ m (mT (.ref 891) (ρ s)), φ a (ins 382 da), φ x (ins 66 dx), φ y (ins (cNK ky) dy), φ l (lstO [ρ x, ρ y] el)] (dec 109 0x2020400100000000020102040008112040a50200080020008000000000e08001020008000000000e081020004089020528100040013c20001102008000000000a0408100040010000000001408002040010000000001408102000810000003) [wK 10, wV βF, wV (.int op top), wI, wV βF, wV (ρ l), wI, wV βF, wV (vk vx), wV βT, wI, wV βT] (φe 12 [5])
  (δP 0 (γA a "kind" (τt 2) 1 3 (ρD "int.__ne__" [.int 10 ((ξ 0).n 50), .int 10 216] 1 3 [] (γA a "op" (ξu 1) 1 3 (ρE 872 [.int op top] 1 3 [] (ρD "int.__ge__" [ξi 3, .int 2 1917] 1 3 [] (γA a "operands" (ξu 4) 1 3 (γA x "kind" (ξt 5 1) 1 3 (ρD "int.__ne__" [ξi 6, .int 0 196] 1 3 [] (γA x "value" (ξu 7) 1 3 (ρE 665 [vk vx] 1 3 [] (γA y "kind" (ξt 9 1) 1 3 (ρD "int.__ne__" [ξi 10, .int 0 196] 1 3 [] (ρF (ρ a) [some (φ a (ins 382 da))] (ξy 11) (ξu 11))))))))))))))) := by cases vx <;> cases ky <;> kernel_rfl
theorem turn2_gnon : τC 191 (.call (ρ m) ⟨[ρ a], []⟩) [φ ds (dct P [("fold", kG, .ref 952)]), φ s (ins 894 (ψ ds)), φ m (mT (.ref 891) (ρ s)), φ a (ins 382 da), φ x (ins 66 dx), φ y (ins 66 dy), φ l (lstO [ρ x, ρ y] el)] (dec 120 0x40400100000000020100020400100000000020102040008112040a50200080020008000000000e08001020008000000000e081020004089020528100040013c20001102008000000000a0408100040010000000001408002040010000000001408102000810000003) [wK 10, wV βF, wV (.int op top), wI, wV βF, wV (ρ l), wI, wV βF, wV (vk vx), wV βT, wI, wV βF, wV (vk vy), wV βF] (φe 14 [5])
  (δP 0 (γA a "kind" (τt 2) 1 3 (ρD "int.__ne__" [.int 10 ((ξ 0).n 50), .int 10 216] 1 3 [] (γA a "op" (ξu 1) 1 3 (ρE 872 [.int op top] 1 3 [] (ρD "int.__ge__" [ξi 3, .int 2 1917] 1 3 [] (γA a "operands" (ξu 4) 1 3 (γA x "kind" (ξt 5 1) 1 3 (ρD "int.__ne__" [ξi 6, .int 0 196] 1 3 [] (γA x "value" (ξu 7) 1 3 (ρE 665 [vk vx] 1 3 [] (γA y "kind" (ξt 9 1) 1 3 (ρD "int.__ne__" [ξi 10, .int 0 196] 1 3 [] (γA y "value" (ξu 11) 1 3 (ρE 665 [vk vy] 1 3 [] (ρF (ρ a) [some (φ a (ins 382 da))] (ξy 13) (ξu 13))))))))))))))))) := by cases vx <;> cases vy <;> kernel_rfl
theorem turn2_none : τC 386 (.call (ρ m) ⟨[ρ a], []⟩) [φ ds (dct P [("fold", kG, .ref 952)]), φ s (ins 894 (ψ ds)), φ m (mT (.ref 891) (ρ s)), φ a (ins 382 da), φ x (ins 66 dx), φ y (ins 66 dy), φ l (lstO [ρ x, ρ y] el)] (dec 255 0x244891200080060c181060c70306941800600102048c10002000000000681020400306381834a0c003000810246080010000000003008102001831c0c1a506001800804f0b000458b02000000000404020000000004040a00306000000600000000c000000c000000c000000c1008102240814a04001000400100000000020100020400100000000020102040008112040a50200080020008000000000e08001020008000000000e081020004089020528100040013c20001102008000000000a0408100040010000000001408002040010000000001408102000810000003) [wK 10, wV βF, wV (.int op top), wI, wV βF, wV (ρ l), wI, wV βF, wV (vk vx), wV βT, wI, wV βF, wV (vk vy), wV βT, wV (.int op top), wV (ρ l), wV (vk vx), wV (vk vy), wV (.none)] (φe 18 [3] [12])
  (δP 0 (γA a "kind" (τt 2) 1 3 (ρD "int.__ne__" [.int 10 ((ξ 0).n 50), .int 10 216] 1 3 [] (γA a "op" (ξu 1) 1 3 (ρE 872 [.int op top] 1 3 [] (ρD "int.__ge__" [ξi 3, .int 2 1917] 1 3 [] (γA a "operands" (ξu 4) 1 3 (γA x "kind" (ξt 5 1) 1 3 (ρD "int.__ne__" [ξi 6, .int 0 196] 1 3 [] (γA x "value" (ξu 7) 1 3 (ρE 665 [vk vx] 1 3 [] (γA y "kind" (ξt 9 1) 1 3 (ρD "int.__ne__" [ξi 10, .int 0 196] 1 3 [] (γA y "value" (ξu 11) 1 3 (ρE 665 [vk vy] 1 3 [] (γA a "op" (ξt 13 1) 1 3 (γA a "operands" (ξu 14) 1 3 (γA x "value" (ξt 15 1) 2 6 (γA y "value" (ξt 16 1) 2 6 (ρE 952 [.int op top, ξa 15 1] 1 3 [ςσ (ξz 15 1) (lstO [(vk vx), (vk vy)] 2)] (ρF (ρ a) [some (φ a (ins 382 da))] (ξy 18) (ξt 18 1)))))))))))))))))))))) := by cases vx <;> cases vy <;> kernel_rfl
theorem turn2_ref : τC 405 (.call (ρ m) ⟨[ρ a], []⟩) [φ ds (dct P [("fold", kG, .ref 952)]), φ s (ins 894 (ψ ds)), φ m (mT (.ref 891) (ρ s)), φ a (ins 382 da), φ x (ins 66 dx), φ y (ins 66 dy), φ l (lstO [ρ x, ρ y] el)] (dec 266 0x50100059810004081140050a1400080060c181060c70306941800600102048c10002000000000681020400306381834a0c003000810246080010000000003008102001831c0c1a506001800804f0b000458b02000000000404020000000004040a00306000000600000000c000000c000000c000000c1008102240814a04001000400100000000020100020400100000000020102040008112040a50200080020008000000000e08001020008000000000e081020004089020528100040013c20001102008000000000a0408100040010000000001408002040010000000001408102000810000003) [wK 10, wV βF, wV (.int op top), wI, wV βF, wV (ρ l), wI, wV βF, wV (vk vx), wV βT, wI, wV βF, wV (vk vy), wV βT, wV (.int op top), wV (ρ l), wV (vk vx), wV (vk vy), ωX (.ref (x.n 2 + 981)) [] [⟨x.n 2 + 981, (tupO [.ref (x.n 3 + 981)]), false⟩], wV βF] (φe 18 [3] [] [13])
  (δP 0 (γA a "kind" (τt 2) 1 3 (ρD "int.__ne__" [.int 10 ((ξ 0).n 50), .int 10 216] 1 3 [] (γA a "op" (ξu 1) 1 3 (ρE 872 [.int op top] 1 3 [] (ρD "int.__ge__" [ξi 3, .int 2 1917] 1 3 [] (γA a "operands" (ξu 4) 1 3 (γA x "kind" (ξt 5 1) 1 3 (ρD "int.__ne__" [ξi 6, .int 0 196] 1 3 [] (γA x "value" (ξu 7) 1 3 (ρE 665 [vk vx] 1 3 [] (γA y "kind" (ξt 9 1) 1 3 (ρD "int.__ne__" [ξi 10, .int 0 196] 1 3 [] (γA y "value" (ξu 11) 1 3 (ρE 665 [vk vy] 1 3 [] (γA a "op" (ξt 13 1) 1 3 (γA a "operands" (ξu 14) 1 3 (γA x "value" (ξt 15 1) 2 6 (γA y "value" (ξt 16 1) 2 6 (ρE 952 [.int op top, ξa 15 1] 1 3 [ςσ (ξz 15 1) (lstO [(vk vx), (vk vy)] 2)] (ρE 665 [.ref ((ξ 18).n 3 + 981)] 1 3 [] (ρF (ρ a) [some (φ a (ins 382 da))] (ξy 19) (ξu 19))))))))))))))))))))))) := by cases vx <;> cases vy <;> kernel_rfl
theorem turn2_bool : τC 511 (.call (ρ m) ⟨[ρ a], []⟩) [φ ds (dct P [("fold", kG, .ref 952)]), φ s (ins 894 (ψ ds)), φ m (mT (.ref 891) (ρ s)), φ a (ins 382 da), φ x (ins 66 dx), φ y (ins 66 dy), φ l (lstO [ρ x, ρ y] el)] ο3 [wK 10, wV βF, wV (.int op top), wI, wV βF, wV (ρ l), wI, wV βF, wV (vk vx), wV βT, wI, wV βF, wV (vk vy), wV βT, wV (.int op top), wV (ρ l), wV (vk vx), wV (vk vy), ωX (.ref (x.n 2 + 981)) [] [⟨x.n 2 + 981, (tupO [.bool (x.b 0)]), false⟩], wV βT] (φe 18 [3] [] [1, 2])
  (δP 0 (γA a "kind" (τt 2) 1 3 (ρD "int.__ne__" [.int 10 ((ξ 0).n 50), .int 10 216] 1 3 [] (γA a "op" (ξu 1) 1 3 (ρE 872 [.int op top] 1 3 [] (ρD "int.__ge__" [ξi 3, .int 2 1917] 1 3 [] (γA a "operands" (ξu 4) 1 3 (γA x "kind" (ξt 5 1) 1 3 (ρD "int.__ne__" [ξi 6, .int 0 196] 1 3 [] (γA x "value" (ξu 7) 1 3 (ρE 665 [vk vx] 1 3 [] (γA y "kind" (ξt 9 1) 1 3 (ρD "int.__ne__" [ξi 10, .int 0 196] 1 3 [] (γA y "value" (ξu 11) 1 3 (ρE 665 [vk vy] 1 3 [] (γA a "op" (ξt 13 1) 1 3 (γA a "operands" (ξu 14) 1 3 (γA x "value" (ξt 15 1) 2 6 (γA y "value" (ξt 16 1) 2 6 (ρE 952 [.int op top, ξa 15 1] 1 3 [ςσ (ξz 15 1) (lstO [(vk vx), (vk vy)] 2)] (ρE 665 [ξb 18] 1 3 [] (δP 306 (ρF (ξa 19 1) [ςσ (ξz 19 1) (ins 66 (ξy 19)), ςσ (ξy 19) (dct P [("value", (ξt 19 4), ξb 18)])] (ξz 19 3) (ξt 19 5)))))))))))))))))))))))) := by cases vx <;> cases vy <;> kernel_rfl
theorem turn2_int : τC 511 (.call (ρ m) ⟨[ρ a], []⟩) [φ ds (dct P [("fold", kG, .ref 952)]), φ s (ins 894 (ψ ds)), φ m (mT (.ref 891) (ρ s)), φ a (ins 382 da), φ x (ins 66 dx), φ y (ins 66 dy), φ l (lstO [ρ x, ρ y] el)] ο3 [wK 10, wV βF, wV (.int op top), wI, wV βF, wV (ρ l), wI, wV βF, wV (vk vx), wV βT, wI, wV βF, wV (vk vy), wV βT, wV (.int op top), wV (ρ l), wV (vk vx), wV (vk vy), ωX (.ref (x.n 2 + 981)) [] [⟨x.n 2 + 981, (tupO [.int (x.i 0) (x.n 50)]), false⟩], wV βT] (φe 18 [3] [] [1, 2])
  (δP 0 (γA a "kind" (τt 2) 1 3 (ρD "int.__ne__" [.int 10 ((ξ 0).n 50), .int 10 216] 1 3 [] (γA a "op" (ξu 1) 1 3 (ρE 872 [.int op top] 1 3 [] (ρD "int.__ge__" [ξi 3, .int 2 1917] 1 3 [] (γA a "operands" (ξu 4) 1 3 (γA x "kind" (ξt 5 1) 1 3 (ρD "int.__ne__" [ξi 6, .int 0 196] 1 3 [] (γA x "value" (ξu 7) 1 3 (ρE 665 [vk vx] 1 3 [] (γA y "kind" (ξt 9 1) 1 3 (ρD "int.__ne__" [ξi 10, .int 0 196] 1 3 [] (γA y "value" (ξu 11) 1 3 (ρE 665 [vk vy] 1 3 [] (γA a "op" (ξt 13 1) 1 3 (γA a "operands" (ξu 14) 1 3 (γA x "value" (ξt 15 1) 2 6 (γA y "value" (ξt 16 1) 2 6 (ρE 952 [.int op top, ξa 15 1] 1 3 [ςσ (ξz 15 1) (lstO [(vk vx), (vk vy)] 2)] (ρE 665 [ξi 18] 1 3 [] (δP 306 (ρF (ξa 19 1) [ςσ (ξz 19 1) (ins 66 (ξy 19)), ςσ (ξy 19) (dct P [("value", (ξt 19 4), ξi 18)])] (ξz 19 3) (ξt 19 5)))))))))))))))))))))))) := by cases vx <;> cases vy <;> kernel_rfl
end
section
variable {P : Params} {ξ : Nat → Ans} {z tk d0 u0 ti tj : Nat} {i j : Int}
theorem int_ne : τC 4 (.call (.builtin "int.__ne__") ⟨[.int i ti, .int j tj], []⟩) [] (dec 1 0x10) [] [[]]
  (ρF (.bool (i != j)) [] ζ τ) := κR
theorem int_ge : τC 4 (.call (.builtin "int.__ge__") ⟨[.int i ti, .int j tj], []⟩) [] (dec 1 0xb) [] [[]]
  (.fin (.ok (.ret (.bool (decide (i ≥ j))))) [] ζ τ) := κR
theorem int_gt : τC 4 (.call (.builtin "int.__gt__") ⟨[.int i ti, .int j tj], []⟩) [] (dec 1 0xd) [] [[]]
  (.fin (.ok (.ret (.bool (decide (i > j))))) [] ζ τ) := κR
theorem int_eq : τC 4 (.call (.builtin "int.__eq__") ⟨[.int i ti, .int j tj], []⟩) [] (dec 1 0x9) [] [[]]
  (ρF (.bool (i == j)) [] ζ τ) := κR
theorem int_lt : τC 4 (.call (.builtin "int.__lt__") ⟨[.int i ti, .int j tj], []⟩) [] (dec 1 0xe) [] [[]]
  (.fin (.ok (.ret (.bool (decide (i < j))))) [] ζ τ) := κR
theorem int_sub : τC 5 (.call (.builtin "int.__sub__") ⟨[.int i ti, .int j tj], []⟩) [] (dec 1 0x14) [] [[]]
  (ρF (.int (i - j) τ) [] ζ (τt 1)) := κR
theorem int_add : τC 5 (.call (.builtin "int.__add__") ⟨[.int i ti, .int j tj], []⟩) [] (dec 1 0x8) [] [[]]
  (ρF (.int (i + j) τ) [] ζ (τt 1)) := κR
end
section
variable {P : Params} {ξ : Nat → Ans} {z tk d0 u0 to : Nat}
theorem eff_4 : τC 38 (κC 872 [.int 4 to]) [] ο16 [] [[]]
  (δP 0 (ρF (.int 0 1129) [] (ζz 1) (τt 2))) := κR
theorem eff_8 : τC 38 (κC 872 [.int 8 to]) [] ο16 [] [[]]
  (δP 0 (ρF (.int 0 1145) [] (ζz 1) (τt 2))) := κR
theorem eff_9 : τC 38 (κC 872 [.int 9 to]) [] ο16 [] [[]]
  (δP 0 (ρF (.int 0 1149) [] (ζz 1) (τt 2))) := κR
theorem eff_11 : τC 38 (κC 872 [.int 11 to]) [] ο16 [] [[]]
  (δP 0 (ρF (.int 1 1157) [] (ζz 1) (τt 2))) := κR
theorem eff_13 : τC 38 (κC 872 [.int 13 to]) [] ο16 [] [[]]
  (δP 0 (ρF (.int 2 1165) [] (ζz 1) (τt 2))) := κR
theorem eff_16 : τC 38 (κC 872 [.int 16 to]) [] ο16 [] [[]]
  (δP 0 (ρF (.int 0 1177) [] (ζz 1) (τt 2))) := κR
theorem eff_135 : τC 38 (κC 872 [.int 135 to]) [] ο16 [] [[]]
  (δP 0 (ρF (.int 1 1670) [] (ζz 1) (τt 2))) := κR
end
section
variable {P : Params} {ξ : Nat → Ans} {vs : List Value} {z tk d0 u0 el l tm kB kJ fr tc : Nat} {m c : Int}
theorem draw_l1 : τB 5 (vTr (evalT (cL (bVal (sTest (fS 56 0 0)) 0)) η56)) [ε l (lstO vs el), ε fr (δr P l kB m kJ tm)] (dec 1 0x2) [] [[0, 1]]
  (ρF (ρ l) [σ l (lstO vs el), σ fr (δr P l kB m kJ tm)] ζ τ) := κR
theorem draw_r1 : τB 5 (vTr (evalT (cR (bVal (sTest (fS 56 0 0)) 0)) η56)) [ε l (lstO vs el), ε fr (δr P l kB m kJ tm)] ο32 [] [[0, 1, 2]]
  (ρF (ρ z) [σ z (lstO []), σ l (lstO vs el), σ fr (δr P l kB m kJ tm)] (ζz 1) τ) := κR
theorem draw_t2 : τB 21 (bTr (isTrueT (bVal (sTest (fS 56 0 0)) 1) η56 (evalT (bVal (sTest (fS 56 0 0)) 1) η56))) [ε l (lstO ((.int c tc) :: vs) el), ε fr (δr P l kB m kJ tm)] (dec 11 0x24001026c0800204082) [] [[0, 1]]
  (ρF (.bool (c == 0)) [σ l (lstO ((.int c tc) :: vs) el), σ fr (δr P l kB m kJ tm)] ζ (τt 2)) := κR
theorem draw_b1 : τB 16 (fTr (execsT (sBody (fS 56 0 0)) η56)) [ε l (lstO ((.int c tc) :: vs) el), ε fr (δr P l kB m kJ tm)] (dec 6 0x810204082) [(wM fun x => (.ok (.ret (.int c tc)), [(0, (lstO vs (x.n 40)))]))] [[0], [0, 1]]
  (ρD "list.pop" [ρ l, .int 0 τ] 0 0 [σ l (lstO ((.int c tc) :: vs) el)] (νF [σ l (lstO vs ((ξ 0).n 40)), σ fr (δr P l kB m kJ tm)] (ξy 0) (ξu 0))) := κR
theorem draw_l3 : τB 5 (vTr (evalT (cL (sTest (fS 56 0 1))) η56)) [ε l (lstO vs el), ε fr (δr P l kB m kJ tm)] (dec 1 0x2) [] [[0, 1]]
  (ρF (ρ l) [σ l (lstO vs el), σ fr (δr P l kB m kJ tm)] ζ τ) := κR
theorem draw_r3 : τB 5 (vTr (evalT (cR (sTest (fS 56 0 1))) η56)) [ε l (lstO vs el), ε fr (δr P l kB m kJ tm)] ο32 [] [[0, 1, 2]]
  (ρF (ρ z) [σ z (lstO []), σ l (lstO vs el), σ fr (δr P l kB m kJ tm)] (ζz 1) τ) := κR
theorem draw_z : τB 5 (fTr (execsT (sBody (fS 56 0 1)) η56)) [ε l (lstO vs el), ε fr (δr P l kB m kJ tm)] ο32 [] [[0, 1]]
  (ρF (.int 0 τ) [σ l (lstO vs el), σ fr (δr P l kB m kJ tm)] ζ (τt 1)) := κR
theorem draw_e : τB 60 (fTr (execsT ((fBody (fAt 56 0)).drop 2) η56)) [ε l (lstO ((.int c tc) :: vs) el), ε fr (δr P l kB m kJ tm)] (dec 33 0x202040a202000810404101360400102041020400082026c0800204082) [wI, wI] [[], [], [0, 1]]
  (ρD "int.__mod__" [.int c tc, .int m tm] 0 0 [] (ρD "int.__floordiv__" [.int c tc, .int m tm] 0 0 [] (ρF (ξi 0) [σ l (Obj.mapSeq (fun x => x.setIfInBounds 0 (ξi 1)) (lstO ((.int c tc) :: vs) el)), σ fr { cls := .type "frame", data := .dict #[⟨PyData.keyHash P "_law_deck", .str "_law_deck" kB, ρ l⟩, ⟨PyData.keyHash P "_law_many", .str "_law_many" kJ, .int m tm⟩, ⟨PyData.keyHash P "_law_found", .str "_law_found" (ξu 0), ξi 0⟩] 3 }] (ξy 1) (ξt 1 1)))) := κR
theorem draw_in : τH 14 (κC 912 [ρ l, .int m tm]) [ε l (lstO vs el)] (dec 8 0x2040010200000) [] [[0, 1]]
  (δP 0 (.agn (.func (fBody (fAt 56 0)) (envF 56 0 912 911 "_law_draw.<locals>." ζ)) (d0 + 0) (u0 + 0) true [σ z { cls := .type "frame", data := .dict #[⟨PyData.keyHash P "_law_deck", .str "_law_deck" τ, ρ l⟩, ⟨PyData.keyHash P "_law_many", .str "_law_many" (τt 1), .int m tm⟩] 2 }, σ l (lstO vs el)] (ζz 1) (τt 2))) := κR
end
section
variable {P : Params} {ξ : Nat → Ans} {vs xs : List Value} {z tk d0 u0 el l eq q ta tb est st ti : Nat} {a b : Int} {w : Value}
theorem one_o : τC 40 (κC 924 [ρ l, ρ q]) [ε l (lstO vs el), ε q (lstO xs eq)] (dec 21 0x1060c1810004080000400102040010200000) [wI, (wM fun x => (.ok (.ret (.int (x.i 0) (x.n 50))), [(1, (lstO x.l (x.n 40)))])), (wM fun x => (.ok (.ret ((x.v 0))), []))] [[2], [1], [2], [1, 2]]
  (δP 0 (ρD "len" [ρ q] 1 3 [σ q (lstO xs eq)] (ρE 912 [ρ l, ξi 0] 1 3 [σ l (lstO vs el)] (ρD "list.__getitem__" [ρ q, ξi 1] 1 3 [σ q (lstO xs eq)] (.fin (.ok (.ret (((ξ 2).v 0)))) [σ l (lstO (((ξ 1).l)) ((ξ 1).n 40)), σ q (lstO xs eq)] (ξy 2) (ξu 2)))))) := κR
theorem one_f : τC 40 (κC 924 [ρ l, ρ q]) [ε l (lstO vs el), φ q (lstO xs eq)] (dec 21 0x1060c1810004080000400102040010200000) [wI, (wM fun x => (.ok (.ret (.int (x.i 0) (x.n 50))), [(1, (lstO x.l (x.n 40)))])), (wM fun x => (.ok (.ret ((x.v 0))), []))] [[2], [1], [2], [1, 2]]
  (δP 0 (ρD "len" [ρ q] 1 3 [some (φ q (lstO xs eq))] (ρE 912 [ρ l, ξi 0] 1 3 [σ l (lstO vs el)] (ρD "list.__getitem__" [ρ q, ξi 1] 1 3 [some (φ q (lstO xs eq))] (.fin (.ok (.ret (((ξ 2).v 0)))) [σ l (lstO (((ξ 1).l)) ((ξ 1).n 40)), some (φ q (lstO xs eq))] (ξy 2) (ξu 2)))))) := κR
theorem new_0 : τC 64 (κC 931 [ρ st, .int 0 ti]) [ε st (lstO [.int a ta, .int b tb, w] est)] ο34 [] [[1]]
  (δP 0 (ρF (.int (a + 1) (τt 3)) [σ st (lstO [.int (a + 1) (τt 3), .int b tb, w] est)] (ζz 1) (τt 4))) := κR
theorem new_1 : τC 64 (κC 931 [ρ st, .int 1 ti]) [ε st (lstO [.int a ta, .int b tb, w] est)] ο34 [] [[1]]
  (δP 0 (ρF (.int (b + 1) (τt 3)) [σ st (lstO [.int a ta, .int (b + 1) (τt 3), w] est)] (ζz 1) (τt 4))) := κR
end
section
variable {P : Params} {ξ : Nat → Ans} {vs ks : List Value} {z tk d0 u0 el l w ta tb est st eq q tdeep fr ty kz top tm jy kJ p1 p2 epl pl kZ : Nat} {a b deep y op : Int}
theorem no_in : τH 18 (κC 964 [ρ l, ρ st, ρ q, .int deep tdeep]) [ε l (lstO vs el), ε st σL, ε q (lstO ks eq)] (dec 10 0x8104081830810000) [] [[5, 6, 7, 4, 3, 2, 1, 0]]
  (δP 0 (.agn (.func (fBody (fAt 64 0)) (envN ζ)) (d0 + 0) (u0 + 0) true [σ l (lstO vs el), σ st σL, σ q (lstO ks eq), σ z (frm P []), σσ z 1 (celO (ρ l)), σσ z 2 (celO (ρ st)), σσ z 3 (celO (ρ q)), σσ z 4 (celO (.int deep tdeep))] (ζz 5) τ)) := κR
theorem no_a : τB 26 (fTr (execsT ((fBody (fAt 64 0)).take 1) ηN)) (εn (frm P [])) (dec 10 0x20400040050004088) [wV βT, (wM fun x => (.ok (.ret (.int (x.i 0) (x.n 50))), [(0, (lstO x.l (x.n 40)))]))] [[], [0], [0, 1, 2, 3, 4, 5, 6, 7]]
  (ρD "int.__gt__" [.int deep tdeep, .int 0 τ] 0 0 [] (ρE 912 [ρ l, .int 11 (ξu 0)] 0 0 [σ l (lstO vs el)] (νF [σ l (lstO (((ξ 1).l)) ((ξ 1).n 40)), σ st σL, σ q (lstO ks eq), σ fr (frm P [("_law_way", (ξu 1), ξi 1)]), σσ fr 1 (celO (ρ l)), σσ fr 2 (celO (ρ st)), σσ fr 3 (celO (ρ q)), σσ fr 4 (celO (.int deep tdeep))] (ξy 1) (ξt 1 1)))) := κR
theorem no_b : τB 26 (fTr (execsT ((fBody (fAt 64 0)).take 1) ηN)) (εn (frm P [])) (dec 10 0x20400040050004088) [wV βF, (wM fun x => (.ok (.ret (.int (x.i 0) (x.n 50))), [(0, (lstO x.l (x.n 40)))]))] [[], [0], [0, 1, 2, 3, 4, 5, 6, 7]]
  (ρD "int.__gt__" [.int deep tdeep, .int 0 τ] 0 0 [] (ρE 912 [ρ l, .int 2 (ξu 0)] 0 0 [σ l (lstO vs el)] (νF [σ l (lstO (((ξ 1).l)) ((ξ 1).n 40)), σ st σL, σ q (lstO ks eq), σ fr (frm P [("_law_way", (ξu 1), ξi 1)]), σσ fr 1 (celO (ρ l)), σσ fr 2 (celO (ρ st)), σσ fr 3 (celO (ρ q)), σσ fr 4 (celO (.int deep tdeep))] (ξy 1) (ξt 1 1)))) := κR
theorem no_t0 : τB 11 (bTr (isTrueT (bVal (sTest (fS 64 0 1)) 0) ηN (evalT (bVal (sTest (fS 64 0 1)) 0) ηN))) (εn (frm P [("_law_way", kz, .int y ty)])) (dec 4 0x1200084) [] [[0, 1, 2, 3, 4, 5, 6, 7]]
  (ρF (.bool (y == 0)) [σ l (lstO vs el), σ st σL, σ q (lstO ks eq), σ fr (frm P [("_law_way", kz, .int y ty)]), σσ fr 1 (celO (ρ l)), σσ fr 2 (celO (ρ st)), σσ fr 3 (celO (ρ q)), σσ fr 4 (celO (.int deep tdeep))] ζ (τt 1)) := κR
theorem no_t1 : τB 11 (bTr (isTrueT (bVal (bVal (sTest (fS 64 0 1)) 1) 0) ηN (evalT (bVal (bVal (sTest (fS 64 0 1)) 1) 0) ηN))) (εn (frm P [("_law_way", kz, .int y ty)])) (dec 4 0x1200084) [] [[0, 1, 2, 3, 4, 5, 6, 7]]
  (ρF (.bool (y == 1)) [σ l (lstO vs el), σ st σL, σ q (lstO ks eq), σ fr (frm P [("_law_way", kz, .int y ty)]), σσ fr 1 (celO (ρ l)), σσ fr 2 (celO (ρ st)), σσ fr 3 (celO (ρ q)), σσ fr 4 (celO (.int deep tdeep))] ζ (τt 1)) := κR
theorem no_k1 : τB 5 (vTr (evalT (cL (bVal (bVal (sTest (fS 64 0 1)) 1) 1)) ηN)) (εn (frm P [("_law_way", kz, .int y ty)])) (dec 1 0x7) [] [[0, 1, 2, 3, 4, 5, 6, 7]]
  (ρF (ρ q) [σ l (lstO vs el), σ st σL, σ q (lstO ks eq), σ fr (frm P [("_law_way", kz, .int y ty)]), σσ fr 1 (celO (ρ l)), σσ fr 2 (celO (ρ st)), σσ fr 3 (celO (ρ q)), σσ fr 4 (celO (.int deep tdeep))] ζ τ) := κR
theorem no_n1 : τB 5 (vTr (evalT (cR (bVal (bVal (sTest (fS 64 0 1)) 1) 1)) ηN)) (εn (frm P [("_law_way", kz, .int y ty)])) ο32 [] [[0, 1, 2, 3, 4, 5, 6, 7, 8]]
  (ρF (ρ z) [σ z (lstO [] 0), σ l (lstO vs el), σ st σL, σ q (lstO ks eq), σ fr (frm P [("_law_way", kz, .int y ty)]), σσ fr 1 (celO (ρ l)), σσ fr 2 (celO (ρ st)), σσ fr 3 (celO (ρ q)), σσ fr 4 (celO (.int deep tdeep))] (ζz 1) τ) := κR
theorem no_t2 : τB 11 (bTr (isTrueT (sTest (fS 64 0 2)) ηN (evalT (sTest (fS 64 0 2)) ηN))) (εn (frm P [("_law_way", kz, .int y ty)])) (dec 4 0x1200084) [] [[0, 1, 2, 3, 4, 5, 6, 7]]
  (ρF (.bool (y == 1)) [σ l (lstO vs el), σ st σL, σ q (lstO ks eq), σ fr (frm P [("_law_way", kz, .int y ty)]), σσ fr 1 (celO (ρ l)), σσ fr 2 (celO (ρ st)), σσ fr 3 (celO (ρ q)), σσ fr 4 (celO (.int deep tdeep))] ζ (τt 1)) := κR
theorem no_t3 : τB 11 (bTr (isTrueT (sTest (fS 64 0 3)) ηN (evalT (sTest (fS 64 0 3)) ηN))) (εn (frm P [("_law_way", kz, .int y ty)])) (dec 4 0x1c00084) [] [[0, 1, 2, 3, 4, 5, 6, 7]]
  (.fin (.ok (.ret (.bool (decide (y < 7))))) [σ l (lstO vs el), σ st σL, σ q (lstO ks eq), σ fr (frm P [("_law_way", kz, .int y ty)]), σσ fr 1 (celO (ρ l)), σσ fr 2 (celO (ρ st)), σσ fr 3 (celO (ρ q)), σσ fr 4 (celO (.int deep tdeep))] ζ (τt 1)) := κR
theorem no_t4 : τB 11 (bTr (isTrueT (sTest (fS 64 0 4)) ηN (evalT (sTest (fS 64 0 4)) ηN))) (εn (frm P [("_law_way", kz, .int y ty)])) (dec 4 0x1200084) [] [[0, 1, 2, 3, 4, 5, 6, 7]]
  (ρF (.bool (y == 7)) [σ l (lstO vs el), σ st σL, σ q (lstO ks eq), σ fr (frm P [("_law_way", kz, .int y ty)]), σσ fr 1 (celO (ρ l)), σσ fr 2 (celO (ρ st)), σσ fr 3 (celO (ρ q)), σσ fr 4 (celO (.int deep tdeep))] ζ (τt 1)) := κR
theorem no_t5 : τB 11 (bTr (isTrueT (sTest (fS 64 0 5)) ηN (evalT (sTest (fS 64 0 5)) ηN))) (εn (frm P [("_law_way", kz, .int y ty)])) (dec 4 0x1200084) [] [[0, 1, 2, 3, 4, 5, 6, 7]]
  (ρF (.bool (y == 8)) [σ l (lstO vs el), σ st σL, σ q (lstO ks eq), σ fr (frm P [("_law_way", kz, .int y ty)]), σσ fr 1 (celO (ρ l)), σσ fr 2 (celO (ρ st)), σσ fr 3 (celO (ρ q)), σσ fr 4 (celO (.int deep tdeep))] ζ (τt 1)) := κR
theorem no_C : τB 340 (fTr (execsT (sBody (fS 64 0 1)) ηN)) (εn (frm P [("_law_way", kz, .int y ty)])) (dec 250 0x183060000200000000008002520010000000000008081020400102000000000000000400100000000000000000000000a00000000000000000000e40000000000020018306000020000002000948004000000008081060c1800008000000800252001000000002020408100040800204000000000000000800200000000000000000000001400000000000000000001c8000000000000000000c1830000100000010004a4002000000004040810200081000000000000000200080000000000000000000000500000000000000000000720000000000000014000) [(wM fun x => (.ok (.ret x.w), [(7, (lstO x.l (x.n 40)))]))] [[7, 0], [1, 2, 3, 5, 6, 8, 9, 10, 11, 12]]
  (δP 305 (δP 305 (ρE 924 [ρ l, ρz 6] 0 0 [σ l (lstO vs el), σσ z 6 (lstO [.int 0 τ, .int 7 (τt 1), .bool true, .bool false, .ref 454, ρz 1, .ref 457, .ref 460, ρz 4] 0)] (δP 305 (ρF (ξa 0 1) [ςσ (ξz 0 1) (ins 66 (ξy 0)), ςσ (ξy 0) (dct P [("value", (ξt 0 3), ((ξ 0).w))]), σσ z 6 (lstO [.int 0 τ, .int 7 (τt 1), .bool true, .bool false, .ref 454, ρz 1, .ref 457, .ref 460, ρz 4] 0), σσ z 4 (ins 499 (ζz 3)), σσ z 3 (dct P [("car", (τt 12), .int 1 (τt 7)), ("cdr", (τt 14), .ref 454)]), σσ z 1 (ins 520 ζ), σ z (dct P [("code", (τt 6), .int 65 (τt 2))]), σ l (lstO (((ξ 0).l)) ((ξ 0).n 40)), σ st σL, σ q (lstO ks eq)] (ξz 0 3) (ξt 0 4)))))) := by generalize ξ = ξ; revert ξ; refine chk_split 0 (fun ξ => ?_) (fun ξ => ?_) (fun ξ k => ?_) <;> kernel_rfl
theorem no_D : τB 110 (fTr (execsT (sBody (fS 64 0 2)) ηN)) (εn (frm P [("_law_way", kz, .int y ty)])) (dec 80 0x60c1800008000000000200094800400000000000202040810004080000000000000010004000000000000000000000028000000000000000000039000000000000800e14000) [(wM fun x => (.ok (.ret x.w), [(0, (lstO x.l (x.n 40)))]))] [[0, 2], [1, 2, 3, 4, 5]]
  (ρE 924 [ρ l, ρ q] 0 0 [σ l (lstO vs el), σ q (lstO ks eq)] (δP 305 (ρF (ξa 0 1) [ςσ (ξz 0 1) (ins 85 (ξy 0)), ςσ (ξy 0) (dct P [("number", (ξt 0 3), ((ξ 0).w))]), σ l (lstO (((ξ 0).l)) ((ξ 0).n 40)), σ st σL, σ q (lstO ks eq)] (ξz 0 3) (ξt 0 4)))) := by generalize ξ = ξ; revert ξ; refine chk_split 0 (fun ξ => ?_) (fun ξ => ?_) (fun ξ k => ?_) <;> kernel_rfl
theorem no_E1 : τB 84 (fTr (execsT ((sBody (fS 64 0 3)).take 1) ηN)) (εn (frm P [("_law_way", kz, .int y ty)])) (dec 54 0x408002040002040820205c01000408104040b802000810208081700400102d00800204081020011b04001020418280) [ωX (.ref (x.n 2 + 981)) [(0, (lstO x.l (x.n 40)))] [⟨(x.n 2 + 981), (tupO [.int (x.i 0) (x.n 53), .int (x.i 1) (x.n 54)]), false⟩]] [[0], [4, 5, 6, 7, 8, 9, 10, 11]]
  (ρE 924 [ρ l, .ref w] 0 0 [σ l (lstO vs el)] (νF [σ l (lstO (((ξ 0).l)) ((ξ 0).n 40)), σ st σL, σ q (lstO ks eq), σ fr (frm P [("_law_way", kz, .int y ty), ("_law_op", (ξu 0), .int ((ξ 0).i 0) ((ξ 0).n 53)), ("_law_many", (ξt 0 1), .int ((ξ 0).i 1) ((ξ 0).n 54))]), σσ fr 1 (celO (ρ l)), σσ fr 2 (celO (ρ st)), σσ fr 3 (celO (ρ q)), σσ fr 4 (celO (.int deep tdeep))] (ξz 0 3) (ξt 0 2))) := κR
theorem no_E2 : τB 246 (fTr (execsT ((sBody (fS 64 0 3)).drop 1) ηN)) (εn (frm P [("_law_way", kz, .int y ty), ("_law_op", jy, .int op top), ("_law_many", kJ, .int 1 tm)])) (dec 170 0x183060000200000000008002520010000000000008081060c18000080000000002000948004000000000002020408100040800204000000000000000800200000000000000000000001400000000000000000001c800000000000c183020c183580c00300081024608001000460b14240010200183060c18306b0180060420102040aa0200081020538100040ab00e40040000200) [wI, (wM fun x => (.ok (.ret (.ref (x.n 2 + 981))), [(4, (lstO x.l (x.n 40))), (5, (lstO [.int (x.i 1) (x.n 51), .int (x.i 2) (x.n 52), .ref w] (x.n 42)))]))] [[], [4, 5, 6], [1, 2, 5, 6, 9, 10, 11]]
  (ρD "int.__sub__" [.int deep tdeep, .int 1 (τt 4)] 1 3 [] (ρE 964 [ρ l, ρ st, ρ q, ξi 0] 1 3 [σ l (lstO vs el), σ st σL, σ q (lstO ks eq)] (δP 305 (ρF (ξa 1 3) [ςσ (ξz 1 3) (ins 382 (ξz 1 2)), ςσ (ξz 1 2) (dct P [("op", (ξt 1 4), .int op top), ("operands", (ξt 1 6), ρz 2)]), σσ z 3 { cls := .type "dict", data := .dict #[] 2 }, σσ z 2 (lstO [ξr 1] 1), σ l (lstO (((ξ 1).l)) ((ξ 1).n 40)), σ st (lstO [.int ((ξ 1).i 1) ((ξ 1).n 51), .int ((ξ 1).i 2) ((ξ 1).n 52), .ref w] ((ξ 1).n 42)), σ q (lstO ks eq)] (ξz 1 5) (ξt 1 7))))) := κR
theorem no_E3 : τB 292 (fTr (execsT ((sBody (fS 64 0 3)).drop 1) ηN)) (εn (frm P [("_law_way", kz, .int y ty), ("_law_op", jy, .int op top), ("_law_many", kJ, .int 2 tm)])) (dec 199 0xc183000010000000000400129000800000000000404083060c0000400000000010004a4002000000000001010204080020400102000000000000000400100000000000000000000000a00000000000000000000e40000000000060c181060c1ac060018004081230400080023058a1200081000c183060c183580c00300081024608001000460b14240010200183060c18306b0180060420102040aa0200081020538100040ab00e40040000200) [wI, (wM fun x => (.ok (.ret (.ref (x.n 2 + 981))), [(4, (lstO x.l (x.n 40))), (5, (lstO [.int (x.i 1) (x.n 51), .int (x.i 2) (x.n 52), .ref w] (x.n 42)))])), wI, (wM fun x => (.ok (.ret (.ref (x.n 2 + 981))), [(4, (lstO x.l (x.n 40))), (5, (lstO [.int (x.i 1) (x.n 51), .int (x.i 2) (x.n 52), .ref w] (x.n 42)))]))] [[], [4, 5, 6], [], [4, 5, 6], [1, 2, 5, 6, 9, 10, 11]]
  (ρD "int.__sub__" [.int deep tdeep, .int 1 (τt 4)] 1 3 [] (ρE 964 [ρ l, ρ st, ρ q, ξi 0] 1 3 [σ l (lstO vs el), σ st σL, σ q (lstO ks eq)] (ρD "int.__sub__" [.int deep tdeep, .int 1 (ξt 1 2)] 1 3 [] (ρE 964 [ρ l, ρ st, ρ q, ξi 2] 1 3 [σ l (lstO (((ξ 1).l)) ((ξ 1).n 40)), σ st (lstO [.int ((ξ 1).i 1) ((ξ 1).n 51), .int ((ξ 1).i 2) ((ξ 1).n 52), .ref w] ((ξ 1).n 42)), σ q (lstO ks eq)] (δP 305 (ρF (ξa 3 3) [ςσ (ξz 3 3) (ins 382 (ξz 3 2)), ςσ (ξz 3 2) (dct P [("op", (ξt 3 4), .int op top), ("operands", (ξt 3 6), ρz 2)]), σσ z 3 { cls := .type "dict", data := .dict #[] 2 }, σσ z 2 (lstO [ξr 1, ξr 3] 2), σ l (lstO (((ξ 3).l)) ((ξ 3).n 40)), σ st (lstO [.int ((ξ 3).i 1) ((ξ 3).n 51), .int ((ξ 3).i 2) ((ξ 3).n 52), .ref w] ((ξ 3).n 42)), σ q (lstO ks eq)] (ξz 3 5) (ξt 3 7))))))) := κR
theorem no_F : τB 574 (fTr (execsT (sBody (fS 64 0 4)) ηN)) (εn (frm P [("_law_way", kz, .int y ty)])) (dec 412 0x60c1800008000000000200094800400000000000202041830600002000000000080025200100000000000080810204001020008100000000000000020008000000000000000000000050000000000000000000072000000000003060c0000400000000010004a40020000000000010102040800204000000000000000800200000000000000000000001400000000000000000001c800000000000400f0000183060000200000000008002520010000000000008081060c180000800000000020009480040000000000020204183060000200000000008002520010000000000008081060c1800008000000000200094800400000000000202040810004080020400102000810000000000000002000800000000000000000000005000000000000000000007200000000000100047811204489182c50022004080000408002040002040820205c01000408104040b802000810208081700400102d0080020408102003000200300) [(wM fun x => (.ok (.ret (.int (x.i 0) (x.n 50))), [(1, (lstO [.int (x.i 1) (x.n 51), .int (x.i 2) (x.n 52), .ref w] (x.n 42)))])), (wM fun x => (.ok (.ret (.int (x.i 0) (x.n 50))), [(1, (lstO [.int (x.i 1) (x.n 51), .int (x.i 2) (x.n 52), .ref w] (x.n 42)))])), wL, wI, (wM fun x => (.ok (.ret (.ref (x.n 2 + 981))), [(7, (lstO x.l (x.n 40))), (8, (lstO [.int (x.i 1) (x.n 51), .int (x.i 2) (x.n 52), .ref w] (x.n 42)))])), (wM fun x => (.ok (.ret (.int (x.i 0) (x.n 50))), [(10, (lstO x.l (x.n 40)))]))] [[1], [1], [8, 0], [], [7, 8, 0], [10], [1, 2, 3, 5, 6, 8, 9, 10, 11, 12, 17, 18, 19]]
  (ρE 931 [ρ st, .int 0 τ] 0 0 [σ st σL] (ρE 931 [ρ st, .int 1 (ξu 0)] 0 0 [σ st (lstO [.int ((ξ 0).i 1) ((ξ 0).n 51), .int ((ξ 0).i 2) ((ξ 0).n 52), .ref w] ((ξ 0).n 42))] (ρD "list.__add__" [ρ q, ξa 1 5] 0 0 [σ q (lstO ks eq), ςσ (ξz 1 5) (lstO [ξi 0] 0)] (ρD "int.__sub__" [.int deep tdeep, .int 1 (ξu 2)] 0 0 [] (ρE 964 [ρ l, ρ st, ξr 2, ξi 3] 0 0 [σ l (lstO vs el), σ st (lstO [.int ((ξ 1).i 1) ((ξ 1).n 51), .int ((ξ 1).i 2) ((ξ 1).n 52), .ref w] ((ξ 1).n 42)), ςσ ((ξ 2).n 2 + 981) (lstO (((ξ 2).l)) 0)] (δP 305 (ρE 912 [ρ l, .int 3 (ξt 4 13)] 0 0 [σ l (lstO (((ξ 4).l)) ((ξ 4).n 40))] (δP 305 (δP 305 (ρF (ξa 5 5) [ςσ (ξz 5 5) (ins 316 (ξz 5 4)), ςσ (ξz 5 4) (dct P [("operator", (ξt 5 8), ξa 4 1), ("operands", (ξt 5 10), ξa 5 3)]), ςσ (ξz 5 3) (lstO [ξa 5 1] 0), ςσ (ξz 5 1) (ins 104 (ξy 5)), ςσ (ξy 5) (dct P [("symbol", (ξt 5 3), ξi 5)]), ςσ (ξz 4 1) (ins 283 (ξy 4)), ςσ (ξy 4) (dct P [("label", (ξt 4 6), ξi 1), ("params", (ξt 4 8), ξa 1 4), ("rest", (ξt 4 10), .int (-1) (ξt 1 3)), ("body", (ξt 4 12), ξr 4)]), ςσ ((ξ 2).n 2 + 981) (lstO (((ξ 2).l)) 0), ςσ (ξz 1 5) (lstO [ξi 0] 0), ςσ (ξz 1 4) (lstO [ξi 0] 0), σ l (lstO (((ξ 5).l)) ((ξ 5).n 40)), σ st (lstO [.int ((ξ 4).i 1) ((ξ 4).n 51), .int ((ξ 4).i 2) ((ξ 4).n 52), .ref w] ((ξ 4).n 42)), σ q (lstO ks eq)] (ξz 5 7) (ξt 5 11))))))))))) := κR
theorem no_G : τB 570 (fTr (execsT (sBody (fS 64 0 5)) ηN)) (εn (frm P [("_law_way", kz, .int y ty)])) (dec 395 0xc183000010000000000400129000800000000000404083060c0000400000000010004a400200000000000101020c183000010000000000400129000800000000000404081020008100040800204000000000000000800200000000000000000000001400000000000000000001c80000000000040012c048012040992220078e0038700060c180000800000000020009480040000000000020204183060000200000000008002520010000000000008081060c1800008000000000200094800400000000000202041830600002000000000080025200100000000000080810204001020008100040800204000000000000000800200000000000000000000001400000000000000000001c80000000000040011e04481122448c1628009100040800204001020001020410102e008002040820205c01000408104040b802000810208081700400102d00800204081020030002003000200300) [(wM fun x => (.ok (.ret (.int (x.i 0) (x.n 50))), [(1, (lstO [.int (x.i 1) (x.n 51), .int (x.i 2) (x.n 52), .ref w] (x.n 42)))])), (wM fun x => (.ok (.ret (.int (x.i 0) (x.n 50))), [(1, (lstO [.int (x.i 1) (x.n 51), .int (x.i 2) (x.n 52), .ref w] (x.n 42)))])), (wM fun x => (.ok (.ret (.int (x.i 0) (x.n 50))), [(1, (lstO [.int (x.i 1) (x.n 51), .int (x.i 2) (x.n 52), .ref w] (x.n 42)))])), wL, wI, (wM fun x => (.ok (.ret (.ref (x.n 2 + 981))), [(7, (lstO x.l (x.n 40))), (8, (lstO [.int (x.i 1) (x.n 51), .int (x.i 2) (x.n 52), .ref w] (x.n 42)))])), wL, wI, (wM fun x => (.ok (.ret (.ref (x.n 2 + 981))), [(14, (lstO x.l (x.n 40))), (15, (lstO [.int (x.i 1) (x.n 51), .int (x.i 2) (x.n 52), .ref w] (x.n 42)))]))] [[1], [1], [1], [8, 0], [], [7, 8, 0], [15, 0], [], [14, 15, 0], [1, 2, 3, 4, 5, 6, 8, 9, 10, 11, 12, 17, 18, 19]]
  (ρE 931 [ρ st, .int 0 τ] 0 0 [σ st σL] (ρE 931 [ρ st, .int 1 (ξu 0)] 0 0 [σ st (lstO [.int ((ξ 0).i 1) ((ξ 0).n 51), .int ((ξ 0).i 2) ((ξ 0).n 52), .ref w] ((ξ 0).n 42))] (ρE 931 [ρ st, .int 0 (ξu 1)] 0 0 [σ st (lstO [.int ((ξ 1).i 1) ((ξ 1).n 51), .int ((ξ 1).i 2) ((ξ 1).n 52), .ref w] ((ξ 1).n 42))] (ρD "list.__add__" [ρ q, ξa 2 5] 0 0 [σ q (lstO ks eq), ςσ (ξz 2 5) (lstO [ξi 0, ξi 2] 0)] (ρD "int.__sub__" [.int deep tdeep, .int 1 (ξu 3)] 0 0 [] (ρE 964 [ρ l, ρ st, ξr 3, ξi 4] 0 0 [σ l (lstO vs el), σ st (lstO [.int ((ξ 2).i 1) ((ξ 2).n 51), .int ((ξ 2).i 2) ((ξ 2).n 52), .ref w] ((ξ 2).n 42)), ςσ ((ξ 3).n 2 + 981) (lstO (((ξ 3).l)) 0)] (δP 305 (ρD "list.__add__" [ρ q, ξa 5 5] 0 0 [σ q (lstO ks eq), ςσ (ξz 5 5) (lstO [ξi 0] 0)] (ρD "int.__sub__" [.int deep tdeep, .int 1 (ξu 6)] 0 0 [] (ρE 964 [ρ l, ρ st, ξr 6, ξi 7] 0 0 [σ l (lstO (((ξ 5).l)) ((ξ 5).n 40)), σ st (lstO [.int ((ξ 5).i 1) ((ξ 5).n 51), .int ((ξ 5).i 2) ((ξ 5).n 52), .ref w] ((ξ 5).n 42)), ςσ ((ξ 6).n 2 + 981) (lstO (((ξ 6).l)) 0)] (δP 305 (ρF (ξa 8 1) [ςσ (ξz 8 1) (ins 415 (ξy 8)), ςσ (ξy 8) (dct P [("numbers", (ξt 8 5), ξa 5 3), ("lambdas", (ξt 8 7), ξa 5 4), ("body", (ξt 8 9), ξr 8)]), ςσ ((ξ 6).n 2 + 981) (lstO (((ξ 6).l)) 0), ςσ (ξz 5 5) (lstO [ξi 0] 0), ςσ (ξz 5 4) (lstO [ξa 5 1] 0), ςσ (ξz 5 3) (lstO [ξi 0] 0), ςσ (ξz 5 1) (ins 283 (ξy 5)), ςσ (ξy 5) (dct P [("label", (ξt 5 6), ξi 1), ("params", (ξt 5 8), ξa 2 4), ("rest", (ξt 5 10), ξi 2), ("body", (ξt 5 12), ξr 5)]), ςσ ((ξ 3).n 2 + 981) (lstO (((ξ 3).l)) 0), ςσ (ξz 2 5) (lstO [ξi 0, ξi 2] 0), ςσ (ξz 2 4) (lstO [] 0), σ l (lstO (((ξ 8).l)) ((ξ 8).n 40)), σ st (lstO [.int ((ξ 8).i 1) ((ξ 8).n 51), .int ((ξ 8).i 2) ((ξ 8).n 52), .ref w] ((ξ 8).n 42)), σ q (lstO ks eq)] (ξz 8 3) (ξt 8 10))))))))))))) := κR
theorem no_H : τB 164 (fTr (execsT (((fBody (fAt 64 0)).drop 6).take 1) ηN)) (εn (frm P [("_law_way", kz, .int y ty)])) (dec 96 0x60c18a1400083060d603000c00204091820004001182c5090004080060c183060c1ac060018004081230400080023058a1200081000c183060c183580c003021008102055010004081029c08002055807200000) [wI, (wM fun x => (.ok (.ret (.ref (x.n 2 + 981))), [(4, (lstO x.l (x.n 40))), (5, (lstO [.int (x.i 1) (x.n 51), .int (x.i 2) (x.n 52), .ref w] (x.n 42)))])), wI, (wM fun x => (.ok (.ret (.ref (x.n 2 + 981))), [(4, (lstO x.l (x.n 40))), (5, (lstO [.int (x.i 1) (x.n 51), .int (x.i 2) (x.n 52), .ref w] (x.n 42)))]))] [[], [4, 5, 6], [], [4, 5, 6], [3, 6, 7, 8, 9, 10, 11, 12, 13]]
  (ρD "int.__sub__" [.int deep tdeep, .int 1 (τt 5)] 1 3 [] (ρE 964 [ρ l, ρ st, ρ q, ξi 0] 1 3 [σ l (lstO vs el), σ st σL, σ q (lstO ks eq)] (ρD "int.__sub__" [.int deep tdeep, .int 1 (ξt 1 2)] 1 3 [] (ρE 964 [ρ l, ρ st, ρ q, ξi 2] 1 3 [σ l (lstO (((ξ 1).l)) ((ξ 1).n 40)), σ st (lstO [.int ((ξ 1).i 1) ((ξ 1).n 51), .int ((ξ 1).i 2) ((ξ 1).n 52), .ref w] ((ξ 1).n 42)), σ q (lstO ks eq)] (νF [σσ z 2 (lstO [ξr 1, ξr 3] 2), σ l (lstO (((ξ 3).l)) ((ξ 3).n 40)), σ st (lstO [.int ((ξ 3).i 1) ((ξ 3).n 51), .int ((ξ 3).i 2) ((ξ 3).n 52), .ref w] ((ξ 3).n 42)), σ q (lstO ks eq), σ fr (frm P [("_law_way", kz, .int y ty), ("_law_parts", (ξu 3), ρz 2)]), σσ fr 1 (celO (ρ l)), σσ fr 2 (celO (ρ st)), σσ fr 3 (celO (ρ q)), σσ fr 4 (celO (.int deep tdeep))] (ξz 3 2) (ξt 3 1)))))) := κR
theorem no_k7 : τB 5 (vTr (evalT (cL (bVal (sTest (fS 64 0 7)) 1)) ηN)) [ε l (lstO vs el), ε st σL, ε q (lstO ks eq), ε pl (lstO [ρ p1, ρ p2] epl), ε fr (frm P [("_law_way", kz, .int y ty), ("_law_parts", kZ, ρ pl)]), εε fr 1 (celO (ρ l)), εε fr 2 (celO (ρ st)), εε fr 3 (celO (ρ q)), εε fr 4 (celO (.int deep tdeep))] (dec 1 0x8) [] [[0, 1, 2, 3, 4, 5, 6, 7, 8]]
  (ρF (ρ q) [σ l (lstO vs el), σ st σL, σ q (lstO ks eq), σ pl (lstO [ρ p1, ρ p2] epl), σ fr (frm P [("_law_way", kz, .int y ty), ("_law_parts", kZ, ρ pl)]), σσ fr 1 (celO (ρ l)), σσ fr 2 (celO (ρ st)), σσ fr 3 (celO (ρ q)), σσ fr 4 (celO (.int deep tdeep))] ζ τ) := κR
theorem no_n7 : τB 5 (vTr (evalT (cR (bVal (sTest (fS 64 0 7)) 1)) ηN)) [ε l (lstO vs el), ε st σL, ε q (lstO ks eq), ε pl (lstO [ρ p1, ρ p2] epl), ε fr (frm P [("_law_way", kz, .int y ty), ("_law_parts", kZ, ρ pl)]), εε fr 1 (celO (ρ l)), εε fr 2 (celO (ρ st)), εε fr 3 (celO (ρ q)), εε fr 4 (celO (.int deep tdeep))] ο32 [] [[0, 1, 2, 3, 4, 5, 6, 7, 8, 9]]
  (ρF (ρ z) [σ z (lstO [] 0), σ l (lstO vs el), σ st σL, σ q (lstO ks eq), σ pl (lstO [ρ p1, ρ p2] epl), σ fr (frm P [("_law_way", kz, .int y ty), ("_law_parts", kZ, ρ pl)]), σσ fr 1 (celO (ρ l)), σσ fr 2 (celO (ρ st)), σσ fr 3 (celO (ρ q)), σσ fr 4 (celO (.int deep tdeep))] (ζz 1) τ) := κR
theorem no_t7 : τB 11 (bTr (isTrueT (bVal (sTest (fS 64 0 7)) 0) ηN (evalT (bVal (sTest (fS 64 0 7)) 0) ηN))) [ε l (lstO vs el), ε st σL, ε q (lstO ks eq), ε pl (lstO [ρ p1, ρ p2] epl), ε fr (frm P [("_law_way", kz, .int y ty), ("_law_parts", kZ, ρ pl)]), εε fr 1 (celO (ρ l)), εε fr 2 (celO (ρ st)), εε fr 3 (celO (ρ q)), εε fr 4 (celO (.int deep tdeep))] (dec 4 0x1200085) [] [[0, 1, 2, 3, 4, 5, 6, 7, 8]]
  (ρF (.bool (y == 9)) [σ l (lstO vs el), σ st σL, σ q (lstO ks eq), σ pl (lstO [ρ p1, ρ p2] epl), σ fr (frm P [("_law_way", kz, .int y ty), ("_law_parts", kZ, ρ pl)]), σσ fr 1 (celO (ρ l)), σσ fr 2 (celO (ρ st)), σσ fr 3 (celO (ρ q)), σσ fr 4 (celO (.int deep tdeep))] ζ (τt 1)) := κR
theorem no_I : τB 160 (fTr (execsT (sBody (fS 64 0 7)) ηN)) [ε l (lstO vs el), ε st σL, ε q (lstO ks eq), ε pl (lstO [ρ p1, ρ p2] epl), ε fr (frm P [("_law_way", kz, .int y ty), ("_law_parts", kZ, ρ pl)]), εε fr 1 (celO (ρ l)), εε fr 2 (celO (ρ st)), εε fr 3 (celO (ρ q)), εε fr 4 (celO (.int deep tdeep))] (dec 117 0x3060c0000400000000010004a400200000000000101020c183000010000000000400129000800000000000404081020008100040800000000000000100040000000000000000000000280000000000000000000390000000000021b080020408140801018000) [(wM fun x => (.ok (.ret x.w), [(0, (lstO x.l (x.n 40)))]))] [[0, 2], [1, 2, 3, 4, 5, 6]]
  (ρE 924 [ρ l, ρ q] 0 0 [σ l (lstO vs el), σ q (lstO ks eq)] (δP 305 (ρF (ξa 0 1) [ςσ (ξz 0 1) (ins 137 (ξy 0)), ςσ (ξy 0) (dct P [("number", (ξt 0 5), ((ξ 0).w)), ("value", (ξt 0 7), ρ p1)]), σ l (lstO (((ξ 0).l)) ((ξ 0).n 40)), σ st σL, σ q (lstO ks eq), σ pl (lstO [ρ p1, ρ p2] epl)] (ξz 0 3) (ξt 0 8)))) := by generalize ξ = ξ; revert ξ; refine chk_split 0 (fun ξ => ?_) (fun ξ => ?_) (fun ξ k => ?_) <;> kernel_rfl
theorem no_J : τB 356 (fTr (execsT [fS 64 0 8] ηN)) [ε l (lstO vs el), ε st σL, ε q (lstO ks eq), ε pl (lstO [ρ p1, ρ p2] epl), ε fr (frm P [("_law_way", kz, .int 9 ty), ("_law_parts", kZ, ρ pl)]), εε fr 1 (celO (ρ l)), εε fr 2 (celO (ρ st)), εε fr 3 (celO (ρ q)), εε fr 4 (celO (.int deep tdeep))] (dec 265 0x3060c0000400000000010004a400200000000000101020c183000010000000000400129000800000000000404083060c0000400000000010004a40020000000000010102040800204001020008100000000000000020008000000000000000000000050000000000000000000072000000000003060c0000400000000010004a400200000000000101020c183000010000000000400129000800000000000404081020008100040800000000000000100040000000000000000000000280000000000000000000390000000000021b0800204081400436100040810284361000408102801200085) [] [[1, 2, 4, 5, 6, 7, 8, 9]]
  (δP 305 (δP 305 (ρF (ρz 4) [σσ z 4 (ins 236 (ζz 3)), σσ z 3 (dct P [("test", (τt 17), ρ p1), ("yes", (τt 19), ρ p2), ("no", (τt 21), ρz 1)]), σσ z 1 (ins 170 ζ), σ z (dct P [("symbol", (τt 9), .int 1 (τt 3)), ("value", (τt 11), ρ p1)]), σ l (lstO vs el), σ st σL, σ q (lstO ks eq), σ pl (lstO [ρ p1, ρ p2] epl)] (ζz 6) (τt 22)))) := κR
theorem no_K : τB 111 (fTr (execsT [fS 64 0 8] ηN)) [ε l (lstO vs el), ε st σL, ε q (lstO ks eq), ε pl (lstO [ρ p1, ρ p2] epl), ε fr (frm P [("_law_way", kz, .int 10 ty), ("_law_parts", kZ, ρ pl)]), εε fr 1 (celO (ρ l)), εε fr 2 (celO (ρ st)), εε fr 3 (celO (ρ q)), εε fr 4 (celO (.int deep tdeep))] (dec 80 0x60c1800008000000000200094800400000000000202040810004080000000000000010004000000000000000000000028000000000000000000039000000000002801200085) [] [[1, 2, 3, 4, 5, 6]]
  (δP 305 (ρF (ρz 1) [σσ z 1 (ins 349 ζ), σ z (dct P [("items", (τt 4), ρ pl)]), σ l (lstO vs el), σ st σL, σ q (lstO ks eq), σ pl (lstO [ρ p1, ρ p2] epl)] (ζz 3) (τt 5))) := κR
end
section
variable {P : Params} {ξ : Nat → Ans} {z tk d0 u0 a m nd ju jo fr edl dl ewl wl jx jt r h it ho kF kl pq kD epq c0 kY c1 c2 ja jb efq fq s b1 b2 b3 ku da kM kE c e f ji jl jp v1 jc kV jg kP el l kR kb jf kO kX kW ti g0 g1 g2 tj : Nat} {ds ws ps fs : List Value} {rest : KV} {lf : Bool} {lo po pa fi fe v0 v2 : Value} {o1 o2 o3 : Obj} {i j : Int}
theorem rb_in : τH 14 (κC 431 [ρ a, ρ m]) [] (dec 8 0x2040010200000) [] [[0]]
  (δP 0 (.agn (.func (fBody (fAt 28 0)) (envF 28 0 431 430 "rebuilt.<locals>." ζ)) (d0 + 0) (u0 + 0) true [σ z (frm P [("node", τ, ρ a), ("change", (τt 1), ρ m)])] (ζz 1) (τt 2))) := κR
theorem rb_i : τB 27 (fTr (execsT ((fBody (fAt 28 0)).take 2) η28)) [ε fr (frm P [("node", ju, ρ nd), ("change", jo, ρ m)])] (dec 7 0x102000408100) [] [[0, 1, 2, 3]]
  (νF [σσ z 2 (lstO [ρz 1] 0), σσ z 1 (tupO [ρ nd, .bool false]), σ z (lstO [] 0), σ fr (frm P [("node", ju, ρ nd), ("change", jo, ρ m), ("done", τ, ρ z), ("waiting", (τt 1), ρz 2)])] (ζz 3) (τt 2)) := κR
theorem rb_t : τB 15 (bTr (isTrueT (sTest (fS 28 0 2)) η28 (evalT (sTest (fS 28 0 2)) η28))) [ε dl (lstO ds edl), ε wl (lstO ws ewl), ε fr (frm P (κκ (rest)))] (dec 6 0x81020c000) [wI, wB] [[1], [], [0, 1, 2]]
  (ρD "len" [ρ wl] 0 0 [σ wl (lstO ws ewl)] (ρD "int.__gt__" [ξi 0, .int 0 (ξu 0)] 0 0 [] (ρF (ξb 1) [σ dl (lstO ds edl), σ wl (lstO ws ewl), σ fr (frm P (κκ (rest)))] (ξy 1) (ξu 1)))) := κR
theorem rb_r : τB 16 (fTr (execsT ((fBody (fAt 28 0)).drop 3) η28)) [ε dl (lstO [ρ r] edl), ε wl (lstO ws ewl), ε fr (frm P (κκ (rest)))] (dec 8 0x26c0800204083) [] [[0, 1, 2]]
  (ρF (ρ r) [σ dl (lstO [ρ r] edl), σ wl (lstO ws ewl), σ fr (frm P (κκ (rest)))] ζ (τt 1)) := κR
theorem rb_A0 : τB 75 (fTr (execsT ((sBody (fS 28 0 2)).take 1) η28)) [ε dl (lstO ds edl), ε wl (lstO (ws ++ [ρ it]) ewl), ε fr (frm P (κκ [])), φ it (tupO [ρ h, .bool lf])] ο29 [(wM fun x => (.ok (.ret (ρ it)), [(1, (lstO ws (x.n 40)))]))] [[1], [3, 4, 5]]
  (ρD "list.pop" [ρ wl] 0 0 [σ wl (lstO (ws ++ [ρ it]) ewl)] (νF [σ dl (lstO ds edl), σ wl (lstO ws ((ξ 0).n 40)), σ fr (frm P (κκ [("here", (ξu 0), ρ h), ("is_left", (ξt 0 1), .bool lf)]))] (ξz 0 3) (ξt 0 2))) := κR
theorem rb_A8 : τB 75 (fTr (execsT ((sBody (fS 28 0 2)).take 1) η28)) [ε dl (lstO ds edl), ε wl (lstO (ws ++ [ρ it]) ewl), ε fr (frm P (κκ (("here", kF, ρ ho) :: ("is_left", kl, lo) :: rest))), φ it (tupO [ρ h, .bool lf])] ο29 [(wM fun x => (.ok (.ret (ρ it)), [(1, (lstO ws (x.n 40)))]))] [[1], [3, 4, 5]]
  (ρD "list.pop" [ρ wl] 0 0 [σ wl (lstO (ws ++ [ρ it]) ewl)] (νF [σ dl (lstO ds edl), σ wl (lstO ws ((ξ 0).n 40)), σ fr (frm P (κκ (("here", kF, ρ h) :: ("is_left", kl, .bool lf) :: rest)))] (ξz 0 3) (ξt 0 2))) := κR
theorem rb_B : τB 5 (vTr (evalT (aBase (sTest (lS28 1))) η28)) [ε dl (lstO ds edl), ε wl (lstO ws ewl), ε fr (frm P (κκ (("here", kF, ρ h) :: ("is_left", kl, lo) :: rest)))] (dec 1 0x3) [] [[0, 1, 2]]
  (ρF (ρ h) [σ dl (lstO ds edl), σ wl (lstO ws ewl), σ fr (frm P (κκ (("here", kF, ρ h) :: ("is_left", kl, lo) :: rest)))] ζ τ) := κR
theorem rb_C0 : τB 7 (uTr (storeT η28 "parts" (ρ pq))) [ε dl (lstO ds edl), ε wl (lstO ws ewl), ε pq o1, ε fr (frm P (κκ [("here", kF, ρ h), ("is_left", kl, lo)]))] ο35 [] [[0, 1, 2, 3]]
  (νF [σ dl (lstO ds edl), σ wl (lstO ws ewl), σ pq o1, σ fr (frm P (κκ [("here", kF, ρ h), ("is_left", kl, lo), ("parts", τ, ρ pq)]))] ζ (τt 1)) := κR
theorem rb_C8 : τB 7 (uTr (storeT η28 "parts" (ρ pq))) [ε dl (lstO ds edl), ε wl (lstO ws ewl), ε pq o1, ε fr (frm P (κκ (("here", kF, ρ h) :: ("is_left", kl, lo) :: ("parts", kD, po) :: rest)))] ο35 [] [[0, 1, 2, 3]]
  (νF [σ dl (lstO ds edl), σ wl (lstO ws ewl), σ pq o1, σ fr (frm P (κκ (("here", kF, ρ h) :: ("is_left", kl, lo) :: ("parts", kD, ρ pq) :: rest)))] ζ (τt 1)) := κR
theorem rb_D0 : τB 18 (bTr (isTrueT (sTest (lS28 2)) η28 (evalT (sTest (lS28 2)) η28))) [ε dl (lstO ds edl), ε wl (lstO ws ewl), ε pq (lstO ps epq), ε fr (frm P (κκ (("here", kF, ρ h) :: ("is_left", kl, .bool false) :: ("parts", kD, ρ pq) :: rest)))] (dec 7 0x40810800004) [wI, wV βT] [[2], [], [0, 1, 2, 3]]
  (ρD "len" [ρ pq] 0 0 [σ pq (lstO ps epq)] (ρD "int.__gt__" [ξi 0, .int 0 (ξu 0)] 0 0 [] (ρF βT [σ dl (lstO ds edl), σ wl (lstO ws ewl), σ pq (lstO ps epq), σ fr (frm P (κκ (("here", kF, ρ h) :: ("is_left", kl, .bool false) :: ("parts", kD, ρ pq) :: rest)))] (ξy 1) (ξu 1)))) := κR
theorem rb_D2 : τB 18 (bTr (isTrueT (sTest (lS28 2)) η28 (evalT (sTest (lS28 2)) η28))) [ε dl (lstO ds edl), ε wl (lstO ws ewl), ε pq (lstO ps epq), ε fr (frm P (κκ (("here", kF, ρ h) :: ("is_left", kl, .bool false) :: ("parts", kD, ρ pq) :: rest)))] (dec 7 0x40810800004) [wI, wV βF] [[2], [], [0, 1, 2, 3]]
  (ρD "len" [ρ pq] 0 0 [σ pq (lstO ps epq)] (ρD "int.__gt__" [ξi 0, .int 0 (ξu 0)] 0 0 [] (ρF βF [σ dl (lstO ds edl), σ wl (lstO ws ewl), σ pq (lstO ps epq), σ fr (frm P (κκ (("here", kF, ρ h) :: ("is_left", kl, .bool false) :: ("parts", kD, ρ pq) :: rest)))] (ξy 1) (ξu 1)))) := κR
theorem rb_D1 : τB 6 (bTr (isTrueT (sTest (lS28 2)) η28 (evalT (sTest (lS28 2)) η28))) [ε dl (lstO ds edl), ε wl (lstO ws ewl), ε pq (lstO ps epq), ε fr (frm P (κκ (("here", kF, ρ h) :: ("is_left", kl, .bool true) :: ("parts", kD, ρ pq) :: rest)))] (dec 1 0x4) [] [[0, 1, 2, 3]]
  (ρF βF [σ dl (lstO ds edl), σ wl (lstO ws ewl), σ pq (lstO ps epq), σ fr (frm P (κκ (("here", kF, ρ h) :: ("is_left", kl, .bool true) :: ("parts", kD, ρ pq) :: rest)))] ζ τ) := κR
theorem rb_E01 : τB 109 (fTr (execsT (sBody (lS28 2)) η28)) [ε dl (lstO ds edl), ε wl (lstO ws ewl), ε pq (lstO [ρ c0] epq), ε fr (frm P (κκ [("here", kF, ρ h), ("is_left", kl, .bool false), ("parts", kD, ρ pq)]))] ο26 [wπ 2, wπ 6] [[2], [6], [2, 6, 7, 8, 10]]
  (ρD "list.append" [ρ wl, ρ z] 0 0 [σ wl (lstO ws ewl)] (ρD "list.append" [ρ wl, ρz 4] 0 0 [σ wl (lstO (((ξ 0).l)) ((ξ 0).n 40))] (νF [σσ z 4 (tupO [ρ c0, .bool false]), σ z (tupO [ρ h, .bool true]), σ dl (lstO ds edl), σ wl (lstO (((ξ 1).l)) ((ξ 1).n 40)), σ fr (frm P (κκ [("here", kF, ρ h), ("is_left", kl, .bool false), ("parts", kD, ρ pq), ("part", (τt 2), ρ c0)]))] (ζz 7) (τt 3)))) := κR
theorem rb_E81 : τB 109 (fTr (execsT (sBody (lS28 2)) η28)) [ε dl (lstO ds edl), ε wl (lstO ws ewl), ε pq (lstO [ρ c0] epq), ε fr (frm P (κκ (("here", kF, ρ h) :: ("is_left", kl, .bool false) :: ("parts", kD, ρ pq) :: ("part", kY, pa) :: rest)))] ο26 [wπ 2, wπ 6] [[2], [6], [2, 6, 7, 8, 10]]
  (ρD "list.append" [ρ wl, ρ z] 0 0 [σ wl (lstO ws ewl)] (ρD "list.append" [ρ wl, ρz 4] 0 0 [σ wl (lstO (((ξ 0).l)) ((ξ 0).n 40))] (νF [σσ z 4 (tupO [ρ c0, .bool false]), σ z (tupO [ρ h, .bool true]), σ dl (lstO ds edl), σ wl (lstO (((ξ 1).l)) ((ξ 1).n 40)), σ fr (frm P (κκ (("here", kF, ρ h) :: ("is_left", kl, .bool false) :: ("parts", kD, ρ pq) :: ("part", kY, ρ c0) :: rest)))] (ζz 7) (τt 3)))) := κR
theorem rb_E02 : τB 144 (fTr (execsT (sBody (lS28 2)) η28)) [ε dl (lstO ds edl), ε wl (lstO ws ewl), ε pq (lstO [ρ c0, ρ c1] epq), ε fr (frm P (κκ [("here", kF, ρ h), ("is_left", kl, .bool false), ("parts", kD, ρ pq)]))] ο19 [wπ 2, wπ 6, wπ 7] [[2], [6], [7], [2, 3, 7, 8, 9, 11]]
  (ρD "list.append" [ρ wl, ρ z] 0 0 [σ wl (lstO ws ewl)] (ρD "list.append" [ρ wl, ρz 4] 0 0 [σ wl (lstO (((ξ 0).l)) ((ξ 0).n 40))] (ρD "list.append" [ρ wl, ρz 5] 0 0 [σ wl (lstO (((ξ 1).l)) ((ξ 1).n 40))] (νF [σσ z 5 (tupO [ρ c0, .bool false]), σσ z 4 (tupO [ρ c1, .bool false]), σ z (tupO [ρ h, .bool true]), σ dl (lstO ds edl), σ wl (lstO (((ξ 2).l)) ((ξ 2).n 40)), σ fr (frm P (κκ [("here", kF, ρ h), ("is_left", kl, .bool false), ("parts", kD, ρ pq), ("part", (τt 2), ρ c0)]))] (ζz 8) (τt 4))))) := κR
theorem rb_E82 : τB 144 (fTr (execsT (sBody (lS28 2)) η28)) [ε dl (lstO ds edl), ε wl (lstO ws ewl), ε pq (lstO [ρ c0, ρ c1] epq), ε fr (frm P (κκ (("here", kF, ρ h) :: ("is_left", kl, .bool false) :: ("parts", kD, ρ pq) :: ("part", kY, pa) :: rest)))] ο19 [wπ 2, wπ 6, wπ 7] [[2], [6], [7], [2, 3, 7, 8, 9, 11]]
  (ρD "list.append" [ρ wl, ρ z] 0 0 [σ wl (lstO ws ewl)] (ρD "list.append" [ρ wl, ρz 4] 0 0 [σ wl (lstO (((ξ 0).l)) ((ξ 0).n 40))] (ρD "list.append" [ρ wl, ρz 5] 0 0 [σ wl (lstO (((ξ 1).l)) ((ξ 1).n 40))] (νF [σσ z 5 (tupO [ρ c0, .bool false]), σσ z 4 (tupO [ρ c1, .bool false]), σ z (tupO [ρ h, .bool true]), σ dl (lstO ds edl), σ wl (lstO (((ξ 2).l)) ((ξ 2).n 40)), σ fr (frm P (κκ (("here", kF, ρ h) :: ("is_left", kl, .bool false) :: ("parts", kD, ρ pq) :: ("part", kY, ρ c0) :: rest)))] (ζz 8) (τt 4))))) := κR
theorem rb_E03 : τB 179 (fTr (execsT (sBody (lS28 2)) η28)) [ε dl (lstO ds edl), ε wl (lstO ws ewl), ε pq (lstO [ρ c0, ρ c1, ρ c2] epq), ε fr (frm P (κκ [("here", kF, ρ h), ("is_left", kl, .bool false), ("parts", kD, ρ pq)]))] ο14 [wπ 2, wπ 6, wπ 7, wπ 8] [[2], [6], [7], [8], [2, 3, 4, 8, 9, 10, 12]]
  (ρD "list.append" [ρ wl, ρ z] 0 0 [σ wl (lstO ws ewl)] (ρD "list.append" [ρ wl, ρz 4] 0 0 [σ wl (lstO (((ξ 0).l)) ((ξ 0).n 40))] (ρD "list.append" [ρ wl, ρz 5] 0 0 [σ wl (lstO (((ξ 1).l)) ((ξ 1).n 40))] (ρD "list.append" [ρ wl, ρz 6] 0 0 [σ wl (lstO (((ξ 2).l)) ((ξ 2).n 40))] (νF [σσ z 6 (tupO [ρ c0, .bool false]), σσ z 5 (tupO [ρ c1, .bool false]), σσ z 4 (tupO [ρ c2, .bool false]), σ z (tupO [ρ h, .bool true]), σ dl (lstO ds edl), σ wl (lstO (((ξ 3).l)) ((ξ 3).n 40)), σ fr (frm P (κκ [("here", kF, ρ h), ("is_left", kl, .bool false), ("parts", kD, ρ pq), ("part", (τt 2), ρ c0)]))] (ζz 9) (τt 5)))))) := κR
theorem rb_E83 : τB 179 (fTr (execsT (sBody (lS28 2)) η28)) [ε dl (lstO ds edl), ε wl (lstO ws ewl), ε pq (lstO [ρ c0, ρ c1, ρ c2] epq), ε fr (frm P (κκ (("here", kF, ρ h) :: ("is_left", kl, .bool false) :: ("parts", kD, ρ pq) :: ("part", kY, pa) :: rest)))] ο14 [wπ 2, wπ 6, wπ 7, wπ 8] [[2], [6], [7], [8], [2, 3, 4, 8, 9, 10, 12]]
  (ρD "list.append" [ρ wl, ρ z] 0 0 [σ wl (lstO ws ewl)] (ρD "list.append" [ρ wl, ρz 4] 0 0 [σ wl (lstO (((ξ 0).l)) ((ξ 0).n 40))] (ρD "list.append" [ρ wl, ρz 5] 0 0 [σ wl (lstO (((ξ 1).l)) ((ξ 1).n 40))] (ρD "list.append" [ρ wl, ρz 6] 0 0 [σ wl (lstO (((ξ 2).l)) ((ξ 2).n 40))] (νF [σσ z 6 (tupO [ρ c0, .bool false]), σσ z 5 (tupO [ρ c1, .bool false]), σσ z 4 (tupO [ρ c2, .bool false]), σ z (tupO [ρ h, .bool true]), σ dl (lstO ds edl), σ wl (lstO (((ξ 3).l)) ((ξ 3).n 40)), σ fr (frm P (κκ (("here", kF, ρ h) :: ("is_left", kl, .bool false) :: ("parts", kD, ρ pq) :: ("part", kY, ρ c0) :: rest)))] (ζz 9) (τt 5)))))) := κR
theorem rb_F5 : τB 67 (fTr (execsT ((sElse (lS28 2)).take 3) η28)) [ε dl (lstO ds edl), ε wl (lstO ws ewl), ε pq (lstO ps epq), ε fr (frm P (κκ [("here", kF, ρ h), ("is_left", kl, lo), ("parts", kD, ρ pq)]))] ο28 [wI, wI, wI, wL, wL] [[0], [2], [], [1, 0], [3, 0], [0, 2, 4, 5, 6, 7]]
  (ρD "len" [ρ dl] 0 0 [σ dl (lstO ds edl)] (ρD "len" [ρ pq] 0 0 [σ pq (lstO ps epq)] (ρD "int.__sub__" [ξi 0, ξi 1] 0 0 [] (ρD "list.__getitem__" [ρ dl, .ref (ξy 2)] 0 0 [σ dl (lstO ds edl), ςσ (ξy 2) { cls := .type "slice", data := .fields #[ξi 2, .none, .none] }] (ρD "list.__getitem__" [ρ dl, .ref (ξy 3)] 0 0 [σ dl (lstO ds edl), ςσ (ξy 3) { cls := .type "slice", data := .fields #[.none, ξi 2, .none] }] (νF [ςσ ((ξ 4).n 2 + 981) (lstO (((ξ 4).l)) 0), ςσ ((ξ 3).n 2 + 981) (lstO (((ξ 3).l)) 0), σ dl (lstO ds edl), σ wl (lstO ws ewl), σ pq (lstO ps epq), σ fr (frm P [("node", ju, ρ nd), ("change", jo, ρ m), ("done", jx, ξr 4), ("waiting", jt, ρ wl), ("here", kF, ρ h), ("is_left", kl, lo), ("parts", kD, ρ pq), ("first", (ξu 2), ξi 2), ("fresh", (ξu 3), ξr 3)])] (ξy 4) (ξt 4 1))))))) := κR
theorem rb_F8 : τB 67 (fTr (execsT ((sElse (lS28 2)).take 3) η28)) [ε dl (lstO ds edl), ε wl (lstO ws ewl), ε pq (lstO ps epq), ε fr (frm P (κκ [("here", kF, ρ h), ("is_left", kl, lo), ("parts", kD, ρ pq), ("part", kY, pa)]))] ο28 [wI, wI, wI, wL, wL] [[0], [2], [], [1, 0], [3, 0], [0, 2, 4, 5, 6, 7]]
  (ρD "len" [ρ dl] 0 0 [σ dl (lstO ds edl)] (ρD "len" [ρ pq] 0 0 [σ pq (lstO ps epq)] (ρD "int.__sub__" [ξi 0, ξi 1] 0 0 [] (ρD "list.__getitem__" [ρ dl, .ref (ξy 2)] 0 0 [σ dl (lstO ds edl), ςσ (ξy 2) { cls := .type "slice", data := .fields #[ξi 2, .none, .none] }] (ρD "list.__getitem__" [ρ dl, .ref (ξy 3)] 0 0 [σ dl (lstO ds edl), ςσ (ξy 3) { cls := .type "slice", data := .fields #[.none, ξi 2, .none] }] (νF [ςσ ((ξ 4).n 2 + 981) (lstO (((ξ 4).l)) 0), ςσ ((ξ 3).n 2 + 981) (lstO (((ξ 3).l)) 0), σ dl (lstO ds edl), σ wl (lstO ws ewl), σ pq (lstO ps epq), σ fr (frm P [("node", ju, ρ nd), ("change", jo, ρ m), ("done", jx, ξr 4), ("waiting", jt, ρ wl), ("here", kF, ρ h), ("is_left", kl, lo), ("parts", kD, ρ pq), ("part", kY, pa), ("first", (ξu 2), ξi 2), ("fresh", (ξu 3), ξr 3)])] (ξy 4) (ξt 4 1))))))) := κR
theorem rb_F10 : τB 67 (fTr (execsT ((sElse (lS28 2)).take 3) η28)) [ε dl (lstO ds edl), ε wl (lstO ws ewl), ε pq (lstO ps epq), ε fr (frm P (κκ [("here", kF, ρ h), ("is_left", kl, lo), ("parts", kD, ρ pq), ("part", kY, pa), ("first", ja, fi), ("fresh", jb, fe)]))] ο28 [wI, wI, wI, wL, wL] [[0], [2], [], [1, 0], [3, 0], [0, 2, 4, 5, 6, 7]]
  (ρD "len" [ρ dl] 0 0 [σ dl (lstO ds edl)] (ρD "len" [ρ pq] 0 0 [σ pq (lstO ps epq)] (ρD "int.__sub__" [ξi 0, ξi 1] 0 0 [] (ρD "list.__getitem__" [ρ dl, .ref (ξy 2)] 0 0 [σ dl (lstO ds edl), ςσ (ξy 2) { cls := .type "slice", data := .fields #[ξi 2, .none, .none] }] (ρD "list.__getitem__" [ρ dl, .ref (ξy 3)] 0 0 [σ dl (lstO ds edl), ςσ (ξy 3) { cls := .type "slice", data := .fields #[.none, ξi 2, .none] }] (νF [ςσ ((ξ 4).n 2 + 981) (lstO (((ξ 4).l)) 0), ςσ ((ξ 3).n 2 + 981) (lstO (((ξ 3).l)) 0), σ dl (lstO ds edl), σ wl (lstO ws ewl), σ pq (lstO ps epq), σ fr (frm P [("node", ju, ρ nd), ("change", jo, ρ m), ("done", jx, ξr 4), ("waiting", jt, ρ wl), ("here", kF, ρ h), ("is_left", kl, lo), ("parts", kD, ρ pq), ("part", kY, pa), ("first", ja, ξi 2), ("fresh", jb, ξr 3)])] (ξy 4) (ξt 4 1))))))) := κR
theorem rb_G5 : τB 14 (bTr (isTrueT (sTest (eS28 3)) η28 (evalT (sTest (eS28 3)) η28))) [ε dl (lstO ds edl), ε wl (lstO ws ewl), ε pq (lstO ps epq), ε fq (lstO fs efq), ε fr (frm P (κκ [("here", kF, ρ h), ("is_left", kl, lo), ("parts", kD, ρ pq), ("first", ja, fi), ("fresh", jb, ρ fq)]))] (dec 5 0x10014280) [wB] [[2, 3], [0, 1, 2, 3, 4]]
  (ρE 424 [ρ pq, ρ fq] 0 0 [σ pq (lstO ps epq), σ fq (lstO fs efq)] (.fin (.ok (.ret (.bool (!(ξ 0).b 0)))) [σ dl (lstO ds edl), σ wl (lstO ws ewl), σ pq (lstO ps epq), σ fq (lstO fs efq), σ fr (frm P (κκ [("here", kF, ρ h), ("is_left", kl, lo), ("parts", kD, ρ pq), ("first", ja, fi), ("fresh", jb, ρ fq)]))] (ξy 0) (ξu 0))) := κR
theorem rb_G10 : τB 14 (bTr (isTrueT (sTest (eS28 3)) η28 (evalT (sTest (eS28 3)) η28))) [ε dl (lstO ds edl), ε wl (lstO ws ewl), ε pq (lstO ps epq), ε fq (lstO fs efq), ε fr (frm P (κκ [("here", kF, ρ h), ("is_left", kl, lo), ("parts", kD, ρ pq), ("part", kY, pa), ("first", ja, fi), ("fresh", jb, ρ fq)]))] (dec 5 0x10014280) [wB] [[2, 3], [0, 1, 2, 3, 4]]
  (ρE 424 [ρ pq, ρ fq] 0 0 [σ pq (lstO ps epq), σ fq (lstO fs efq)] (.fin (.ok (.ret (.bool (!(ξ 0).b 0)))) [σ dl (lstO ds edl), σ wl (lstO ws ewl), σ pq (lstO ps epq), σ fq (lstO fs efq), σ fr (frm P (κκ [("here", kF, ρ h), ("is_left", kl, lo), ("parts", kD, ρ pq), ("part", kY, pa), ("first", ja, fi), ("fresh", jb, ρ fq)]))] (ξy 0) (ξu 0))) := κR
theorem rb_H : τB 24 (fTr (execsT ((sElse (lS28 2)).drop 4) η28)) [ε dl (lstO ds edl), ε wl o1, ε fr (frm P (κκ (("here", kF, ρ h) :: ("is_left", kl, lo) :: rest))), φ m (mT (.ref 891) (ρ s))] (dec 11 0x4080080c1810204083) [wR, wπ 0] [[], [0], [0, 1, 2]]
  (ρC (ρ m) [ρ h] 0 0 [] (ρD "list.append" [ρ dl, ξr 0] 0 0 [σ dl (lstO ds edl)] (νF [σ dl (lstO (((ξ 1).l)) ((ξ 1).n 40)), σ wl o1, σ fr (frm P (κκ (("here", kF, ρ h) :: ("is_left", kl, lo) :: rest)))] (ξy 0) (ξu 0)))) := κR
theorem rb_Pconst : τB 42 (vTr (methT (aBase (sTest (lS28 1))) "parts" (aPos (sTest (lS28 1))) (cPos (sTest (lS28 1))) (envF 28 0 431 430 "rebuilt.<locals>." fr) (ρ a) 0 [] [])) [ε b1 o1, ε b2 o2, ε b3 o3, φ da (dct P [("value", ku, v0)]), φ a (ins 66 (ψ da))] ο31 [] [[0, 2, 3, 4]]
  (δP 0 (ρF (ρz 1) [σσ z 1 (lstO [] 0), σ b1 o1, σ b2 o2, σ b3 o3] (ζz 2) (τt 1))) := κR
theorem rb_Ploc : τB 42 (vTr (methT (aBase (sTest (lS28 1))) "parts" (aPos (sTest (lS28 1))) (cPos (sTest (lS28 1))) (envF 28 0 431 430 "rebuilt.<locals>." fr) (ρ a) 0 [] [])) [ε b1 o1, ε b2 o2, ε b3 o3, φ da (dct P [("number", kM, v0)]), φ a (ins 85 (ψ da))] ο31 [] [[0, 2, 3, 4]]
  (δP 0 (ρF (ρz 1) [σσ z 1 (lstO [] 0), σ b1 o1, σ b2 o2, σ b3 o3] (ζz 2) (τt 1))) := κR
theorem rb_Pglob : τB 42 (vTr (methT (aBase (sTest (lS28 1))) "parts" (aPos (sTest (lS28 1))) (cPos (sTest (lS28 1))) (envF 28 0 431 430 "rebuilt.<locals>." fr) (ρ a) 0 [] [])) [ε b1 o1, ε b2 o2, ε b3 o3, φ da (dct P [("symbol", kE, v0)]), φ a (ins 104 (ψ da))] ο31 [] [[0, 2, 3, 4]]
  (δP 0 (ρF (ρz 1) [σσ z 1 (lstO [] 0), σ b1 o1, σ b2 o2, σ b3 o3] (ζz 2) (τt 1))) := κR
theorem rb_PsetLoc : τB 63 (vTr (methT (aBase (sTest (lS28 1))) "parts" (aPos (sTest (lS28 1))) (cPos (sTest (lS28 1))) (envF 28 0 431 430 "rebuilt.<locals>." fr) (ρ a) 0 [] [])) [ε b1 o1, ε b2 o2, ε b3 o3, φ da (dct P [("number", kM, v0), ("value", ku, ρ c)]), φ a (ins 137 (ψ da))] ο15 [] [[0, 2, 3, 4]]
  (δP 0 (ρF (ρz 1) [σσ z 1 (lstO [ρ c] 0), σ b1 o1, σ b2 o2, σ b3 o3] (ζz 2) (τt 2))) := κR
theorem rb_PsetGlob : τB 63 (vTr (methT (aBase (sTest (lS28 1))) "parts" (aPos (sTest (lS28 1))) (cPos (sTest (lS28 1))) (envF 28 0 431 430 "rebuilt.<locals>." fr) (ρ a) 0 [] [])) [ε b1 o1, ε b2 o2, ε b3 o3, φ da (dct P [("symbol", kE, v0), ("value", ku, ρ c)]), φ a (ins 170 (ψ da))] ο15 [] [[0, 2, 3, 4]]
  (δP 0 (ρF (ρz 1) [σσ z 1 (lstO [ρ c] 0), σ b1 o1, σ b2 o2, σ b3 o3] (ζz 2) (τt 2))) := κR
theorem rb_Pdefine : τB 63 (vTr (methT (aBase (sTest (lS28 1))) "parts" (aPos (sTest (lS28 1))) (cPos (sTest (lS28 1))) (envF 28 0 431 430 "rebuilt.<locals>." fr) (ρ a) 0 [] [])) [ε b1 o1, ε b2 o2, ε b3 o3, φ da (dct P [("symbol", kE, v0), ("value", ku, ρ c)]), φ a (ins 203 (ψ da))] ο15 [] [[0, 2, 3, 4]]
  (δP 0 (ρF (ρz 1) [σσ z 1 (lstO [ρ c] 0), σ b1 o1, σ b2 o2, σ b3 o3] (ζz 2) (τt 2))) := κR
theorem rb_Pite : τB 109 (vTr (methT (aBase (sTest (lS28 1))) "parts" (aPos (sTest (lS28 1))) (cPos (sTest (lS28 1))) (envF 28 0 431 430 "rebuilt.<locals>." fr) (ρ a) 0 [] [])) [ε b1 o1, ε b2 o2, ε b3 o3, φ da (dct P [("test", ji, ρ c), ("yes", jl, ρ e), ("no", jp, ρ f)]), φ a (ins 236 (ψ da))] (dec 80 0xa003060000000001800000000000c042800c180000000006000000000003010a003060000000001800000000000c04081000000000102800000005000000000140000000005) [] [[0, 2, 3, 4]]
  (δP 0 (ρF (ρz 1) [σσ z 1 (lstO [ρ c, ρ e, ρ f] 0), σ b1 o1, σ b2 o2, σ b3 o3] (ζz 2) (τt 4))) := κR
theorem rb_Plam {v1 : Value} : τB 63 (vTr (methT (aBase (sTest (lS28 1))) "parts" (aPos (sTest (lS28 1))) (cPos (sTest (lS28 1))) (envF 28 0 431 430 "rebuilt.<locals>." fr) (ρ a) 0 [] [])) [ε b1 o1, ε b2 o2, ε b3 o3, φ da (dct P [("label", jc, v0), ("params", kV, v1), ("rest", jg, v2), ("body", kP, ρ c)]), φ a (ins 283 (ψ da))] ο15 [] [[0, 2, 3, 4]]
  (δP 0 (ρF (ρz 1) [σσ z 1 (lstO [ρ c] 0), σ b1 o1, σ b2 o2, σ b3 o3] (ζz 2) (τt 2))) := κR
theorem rb_Pcall : τB 100 (vTr (methT (aBase (sTest (lS28 1))) "parts" (aPos (sTest (lS28 1))) (cPos (sTest (lS28 1))) (envF 28 0 431 430 "rebuilt.<locals>." fr) (ρ a) 0 [] [])) [ε b1 o1, ε b2 o2, ε b3 o3, φ l (lstO [ρ e] el), φ da (dct P [("operator", kR, ρ c), ("operands", kb, ρ l)]), φ a (ins 316 (ψ da))] (dec 71 0x1808630040010c0438010200000000008000000000004020c003870000000001c00000000000e04081000000000143000000006000000000180000000006) [] [[0, 3, 4, 5]]
  (δP 0 (ρF (ρz 2) [σσ z 2 (lstO [ρ c, ρ e] 0), σ b1 o1, σ b2 o2, σ b3 o3] (ζz 3) (τt 3))) := κR
theorem rb_Pseq : τB 67 (vTr (methT (aBase (sTest (lS28 1))) "parts" (aPos (sTest (lS28 1))) (cPos (sTest (lS28 1))) (envF 28 0 431 430 "rebuilt.<locals>." fr) (ρ a) 0 [] [])) [ε b1 o1, ε b2 o2, ε b3 o3, φ l (lstO [ρ c, ρ e] el), φ da (dct P [("items", jf, ρ l)]), φ a (ins 349 (ψ da))] ο23 [wO 4] [[4], [0, 2, 3, 4]]
  (δP 0 (ρC (.type "list") [ρ l] 1 3 [some (φ l (lstO [ρ c, ρ e] el))] (ρF (ξr 0) [ςσ ((ξ 0).n 2 + 981) (lstO [ρ c, ρ e] ((ξ 0).n 40)), σ b1 o1, σ b2 o2, σ b3 o3] (ξy 0) (ξu 0)))) := κR
theorem rb_Pprim1 : τB 67 (vTr (methT (aBase (sTest (lS28 1))) "parts" (aPos (sTest (lS28 1))) (cPos (sTest (lS28 1))) (envF 28 0 431 430 "rebuilt.<locals>." fr) (ρ a) 0 [] [])) [ε b1 o1, ε b2 o2, ε b3 o3, φ l (lstO [ρ c] el), φ da (dct P [("op", kO, v0), ("operands", kb, ρ l)]), φ a (ins 382 (ψ da))] ο23 [wO 4] [[4], [0, 2, 3, 4]]
  (δP 0 (ρC (.type "list") [ρ l] 1 3 [some (φ l (lstO [ρ c] el))] (ρF (ξr 0) [ςσ ((ξ 0).n 2 + 981) (lstO [ρ c] ((ξ 0).n 40)), σ b1 o1, σ b2 o2, σ b3 o3] (ξy 0) (ξu 0)))) := κR
theorem rb_Pprim2 : τB 67 (vTr (methT (aBase (sTest (lS28 1))) "parts" (aPos (sTest (lS28 1))) (cPos (sTest (lS28 1))) (envF 28 0 431 430 "rebuilt.<locals>." fr) (ρ a) 0 [] [])) [ε b1 o1, ε b2 o2, ε b3 o3, φ l (lstO [ρ c, ρ e] el), φ da (dct P [("op", kO, v0), ("operands", kb, ρ l)]), φ a (ins 382 (ψ da))] ο23 [wO 4] [[4], [0, 2, 3, 4]]
  (δP 0 (ρC (.type "list") [ρ l] 1 3 [some (φ l (lstO [ρ c, ρ e] el))] (ρF (ξr 0) [ςσ ((ξ 0).n 2 + 981) (lstO [ρ c, ρ e] ((ξ 0).n 40)), σ b1 o1, σ b2 o2, σ b3 o3] (ξy 0) (ξu 0)))) := κR
theorem rb_Pfix : τB 100 (vTr (methT (aBase (sTest (lS28 1))) "parts" (aPos (sTest (lS28 1))) (cPos (sTest (lS28 1))) (envF 28 0 431 430 "rebuilt.<locals>." fr) (ρ a) 0 [] [])) [ε b1 o1, ε b2 o2, ε b3 o3, φ l (lstO [ρ c] el), φ da (dct P [("numbers", kX, v0), ("lambdas", kW, ρ l), ("body", kP, ρ e)]), φ a (ins 415 (ψ da))] (dec 71 0x4301301800602183000e1c0000000007000000000003810c003870000000001c00000000000e04081000000000143000000006000000000180000000006) [] [[0, 3, 4, 5]]
  (δP 0 (ρF (ρz 2) [σσ z 2 (lstO [ρ c, ρ e] 0), σ b1 o1, σ b2 o2, σ b3 o3] (ζz 3) (τt 3))) := κR
theorem rb_WsetLoc : τB 224 (fTr (execsT (sBody (eS28 3)) η28)) [ε dl o1, ε wl o2, ε fq (lstO [ρ g0] efq), ε fr (frm P (κκ κw)), φ da (dct P [("number", kM, .int i ti), ("value", ku, ρ c)]), φ a (ins 137 (ψ da))] ο6 [] [[1, 2, 4, 5, 6, 7]]
  (δP 0 (δP 306 (νF [σσ z 2 (ins 137 (ζz 1)), σσ z 1 (dct P [("number", (τt 8), .int i ti), ("value", (τt 10), ρ g0)]), σ dl o1, σ wl o2, σ fq (lstO [ρ g0] efq), σ fr (frm P (κκ [("here", kF, ρz 2), ("is_left", kl, lo), ("parts", kD, po), ("part", kY, pa), ("first", ja, fi), ("fresh", jb, ρ fq)]))] (ζz 4) (τt 12)))) := κR
theorem rb_WsetGlob : τB 224 (fTr (execsT (sBody (eS28 3)) η28)) [ε dl o1, ε wl o2, ε fq (lstO [ρ g0] efq), ε fr (frm P (κκ κw)), φ da (dct P [("symbol", kE, .int i ti), ("value", ku, ρ c)]), φ a (ins 170 (ψ da))] ο6 [] [[1, 2, 4, 5, 6, 7]]
  (δP 0 (δP 306 (νF [σσ z 2 (ins 170 (ζz 1)), σσ z 1 (dct P [("symbol", (τt 8), .int i ti), ("value", (τt 10), ρ g0)]), σ dl o1, σ wl o2, σ fq (lstO [ρ g0] efq), σ fr (frm P (κκ [("here", kF, ρz 2), ("is_left", kl, lo), ("parts", kD, po), ("part", kY, pa), ("first", ja, fi), ("fresh", jb, ρ fq)]))] (ζz 4) (τt 12)))) := κR
theorem rb_Wdefine : τB 224 (fTr (execsT (sBody (eS28 3)) η28)) [ε dl o1, ε wl o2, ε fq (lstO [ρ g0] efq), ε fr (frm P (κκ κw)), φ da (dct P [("symbol", kE, .int i ti), ("value", ku, ρ c)]), φ a (ins 203 (ψ da))] ο6 [] [[1, 2, 4, 5, 6, 7]]
  (δP 0 (δP 306 (νF [σσ z 2 (ins 203 (ζz 1)), σσ z 1 (dct P [("symbol", (τt 8), .int i ti), ("value", (τt 10), ρ g0)]), σ dl o1, σ wl o2, σ fq (lstO [ρ g0] efq), σ fr (frm P (κκ [("here", kF, ρz 2), ("is_left", kl, lo), ("parts", kD, po), ("part", kY, pa), ("first", ja, fi), ("fresh", jb, ρ fq)]))] (ζz 4) (τt 12)))) := κR
theorem rb_Wite : τB 264 (fTr (execsT (sBody (eS28 3)) η28)) [ε dl o1, ε wl o2, ε fq (lstO [ρ g0, ρ g1, ρ g2] efq), ε fr (frm P (κκ κw)), φ da (dct P [("test", ji, ρ c), ("yes", jl, ρ e), ("no", jp, ρ f)]), φ a (ins 236 (ψ da))] (dec 191 0x20400060c180000800000000020009480040000000000020204183060000200000000008002520010000000000008081060c1800008000000000200094800400000000000202040810004080020400102000000000000000400100000000000000000000000a00000000000000000000e40000000000086c2000810201086c2000810201086c20008102010004080020400000000040a18000000030000000000c000000000304) [] [[1, 2, 4, 5, 6, 7]]
  (δP 0 (δP 306 (νF [σσ z 2 (ins 236 (ζz 1)), σσ z 1 (dct P [("test", (τt 10), ρ g0), ("yes", (τt 12), ρ g1), ("no", (τt 14), ρ g2)]), σ dl o1, σ wl o2, σ fq (lstO [ρ g0, ρ g1, ρ g2] efq), σ fr (frm P (κκ [("here", kF, ρz 2), ("is_left", kl, lo), ("parts", kD, po), ("part", kY, pa), ("first", ja, fi), ("fresh", jb, ρ fq)]))] (ζz 4) (τt 16)))) := κR
theorem rb_Wlam : τB 345 (fTr (execsT (sBody (eS28 3)) η28)) [ε dl o1, ε wl o2, ε fq (lstO [ρ g0] efq), ε fr (frm P (κκ κw)), φ da (dct P [("label", jc, .int i ti), ("params", kV, .ref v1), ("rest", jg, .int j tj), ("body", kP, ρ c)]), φ a (ins 283 (ψ da))] (dec 258 0x408000c183000010000000000400129000800000000000404083060c0000400000000010004a400200000000000101020c183000010000000000400129000800000000000404083060c0000400000000010004a40020000000000010102040800204001020008100040800000000000000100040000000000000000000000280000000000000000000390000000000021b080020408043000e1c0000000007000000000003810c003870000000001c00000000000e043000e1c0000000007000000000003810004080020400000000040a18000000030000000000c000000000304) [] [[1, 2, 4, 5, 6, 7]]
  (δP 0 (δP 306 (νF [σσ z 2 (ins 283 (ζz 1)), σσ z 1 (dct P [("label", (τt 12), .int i ti), ("params", (τt 14), .ref v1), ("rest", (τt 16), .int j tj), ("body", (τt 18), ρ g0)]), σ dl o1, σ wl o2, σ fq (lstO [ρ g0] efq), σ fr (frm P (κκ [("here", kF, ρz 2), ("is_left", kl, lo), ("parts", kD, po), ("part", kY, pa), ("first", ja, fi), ("fresh", jb, ρ fq)]))] (ζz 4) (τt 20)))) := κR
theorem rb_Wcall : τB 222 (fTr (execsT (sBody (eS28 3)) η28)) [ε dl o1, ε wl o2, ε fq (lstO [ρ g0, ρ g1] efq), ε fr (frm P (κκ κw)), φ da (dct P [("operator", kR, ρ c), ("operands", kb, ρ e)]), φ a (ins 316 (ψ da))] (dec 159 0x28500060c18000080000000002000948004000000000002020418306000020000000000800252001000000000000808102040010200081000000000000000200080000000000000000000000500000000000000000000720000000000050204081026c2800a14281086c20008102010004080020400000000040a18000000030000000000c000000000304) [] [[1, 2, 3, 6, 7, 8, 9]]
  (δP 0 (δP 306 (νF [σσ z 4 (ins 316 (ζz 3)), σσ z 3 (dct P [("operator", (τt 8), ρ g0), ("operands", (τt 10), ρz 2)]), σσ z 2 (lstO [ρ g1] 0), σ dl o1, σ wl o2, σ fq (lstO [ρ g0, ρ g1] efq), σ fr (frm P (κκ [("here", kF, ρz 4), ("is_left", kl, lo), ("parts", kD, po), ("part", kY, pa), ("first", ja, fi), ("fresh", jb, ρ fq)]))] (ζz 6) (τt 12)))) := κR
theorem rb_Wseq : τB 154 (fTr (execsT (sBody (eS28 3)) η28)) [ε dl o1, ε wl o2, ε fq (lstO [ρ g0, ρ g1] efq), ε fr (frm P (κκ κw)), φ da (dct P [("items", jf, ρ c)]), φ a (ins 349 (ψ da))] (dec 110 0x408000c1830000100000000004001290008000000000004040810200081000000000000000200080000000000000000000000500000000000000000000720000000000010004080020400000000040a18000000030000000000c000000000304) [] [[1, 2, 4, 5, 6, 7]]
  (δP 0 (δP 306 (νF [σσ z 2 (ins 349 (ζz 1)), σσ z 1 (dct P [("items", (τt 5), ρ fq)]), σ dl o1, σ wl o2, σ fq (lstO [ρ g0, ρ g1] efq), σ fr (frm P (κκ [("here", kF, ρz 2), ("is_left", kl, lo), ("parts", kD, po), ("part", kY, pa), ("first", ja, fi), ("fresh", jb, ρ fq)]))] (ζz 4) (τt 7)))) := κR
theorem rb_Wprim1 : τB 214 (fTr (execsT (sBody (eS28 3)) η28)) [ε dl o1, ε wl o2, ε fq (lstO [ρ g0] efq), ε fr (frm P (κκ κw)), φ da (dct P [("op", kO, .int i ti), ("operands", kb, ρ c)]), φ a (ins 382 (ψ da))] ο8 [] [[1, 2, 4, 5, 6, 7]]
  (δP 0 (δP 306 (νF [σσ z 2 (ins 382 (ζz 1)), σσ z 1 (dct P [("op", (τt 7), .int i ti), ("operands", (τt 9), ρ fq)]), σ dl o1, σ wl o2, σ fq (lstO [ρ g0] efq), σ fr (frm P (κκ [("here", kF, ρz 2), ("is_left", kl, lo), ("parts", kD, po), ("part", kY, pa), ("first", ja, fi), ("fresh", jb, ρ fq)]))] (ζz 4) (τt 11)))) := κR
theorem rb_Wprim2 : τB 214 (fTr (execsT (sBody (eS28 3)) η28)) [ε dl o1, ε wl o2, ε fq (lstO [ρ g0, ρ g1] efq), ε fr (frm P (κκ κw)), φ da (dct P [("op", kO, .int i ti), ("operands", kb, ρ c)]), φ a (ins 382 (ψ da))] ο8 [] [[1, 2, 4, 5, 6, 7]]
  (δP 0 (δP 306 (νF [σσ z 2 (ins 382 (ζz 1)), σσ z 1 (dct P [("op", (τt 7), .int i ti), ("operands", (τt 9), ρ fq)]), σ dl o1, σ wl o2, σ fq (lstO [ρ g0, ρ g1] efq), σ fr (frm P (κκ [("here", kF, ρz 2), ("is_left", kl, lo), ("parts", kD, po), ("part", kY, pa), ("first", ja, fi), ("fresh", jb, ρ fq)]))] (ζz 4) (τt 11)))) := κR
theorem rb_Wfix : τB 293 (fTr (execsT (sBody (eS28 3)) η28)) [ε dl o1, ε wl o2, ε fq (lstO [ρ g0, ρ g1] efq), ε fr (frm P (κκ κw)), φ da (dct P [("numbers", kX, .ref v1), ("lambdas", kW, ρ c), ("body", kP, ρ e)]), φ a (ins 415 (ψ da))] (dec 210 0x50a000c183000010000000000400129000800000000000404083060c0000400000000010004a400200000000000101020c183000010000000000400129000800000000000404081020008100040800204000000000000000800200000000000000000000001400000000000000000001c8000000000018d86001830622001850204081026c2800a1429100043000e1c0000000007000000000003810004080020400000000040a18000000030000000000c000000000304) [] [[1, 2, 3, 6, 7, 8, 9]]
  (δP 0 (δP 306 (νF [σσ z 4 (ins 415 (ζz 3)), σσ z 3 (dct P [("numbers", (τt 12), .ref v1), ("lambdas", (τt 14), ρz 2), ("body", (τt 16), ρ g1)]), σσ z 2 (lstO [ρ g0] 0), σ dl o1, σ wl o2, σ fq (lstO [ρ g0, ρ g1] efq), σ fr (frm P (κκ [("here", kF, ρz 4), ("is_left", kl, lo), ("parts", kD, po), ("part", kY, pa), ("first", ja, fi), ("fresh", jb, ρ fq)]))] (ζz 6) (τt 18)))) := κR
end
section
variable {P : Params} {ξ : Nat → Ans} {xs ys : List Value} {z tk d0 u0 ep p eq q je kT fr it tj ti jv r : Nat} {u1 u2 j i : Int} {rest : KV}
theorem sa_in : τH 14 (κC 424 [ρ p, ρ q]) [ε p (lstO xs ep), ε q (lstO ys eq)] (dec 8 0x2040010200000) [] [[1, 2, 0]]
  (δP 0 (.agn (.func (fBody (fAt 27 0)) (envF 27 0 424 423 "are_same_list.<locals>." ζ)) (d0 + 0) (u0 + 0) true [σ p (lstO xs ep), σ q (lstO ys eq), σ z (frm P [("ones", τ, ρ p), ("others", (τt 1), ρ q)])] (ζz 1) (τt 2))) := κR
theorem sa_0 : τB 23 (fTr (execsT ((fBody (fAt 27 0)).take 1) η27)) [ε p (lstO xs ep), ε q (lstO ys eq), ε fr (frm P [("ones", je, ρ p), ("others", kT, ρ q)])] (dec 10 0x81020c000020c000) [wI, wI, wV βF] [[0], [1], [], [0, 1, 2]]
  (ρD "len" [ρ p] 0 0 [σ p (lstO xs ep)] (ρD "len" [ρ q] 0 0 [σ q (lstO ys eq)] (ρD "int.__ne__" [ξi 0, ξi 1] 0 0 [] (νF [σ p (lstO xs ep), σ q (lstO ys eq), σ fr (frm P [("ones", je, ρ p), ("others", kT, ρ q)])] (ξy 2) (ξu 2))))) := κR
theorem sa_i : τB 17 (vTr (evalT (sTest (fS 27 0 1)) η27)) [ε p (lstO xs ep), ε q (lstO ys eq), ε fr (frm P [("ones", je, ρ p), ("others", kT, ρ q)])] (dec 7 0x40830000000) [wI, ωX (.ref (x.n 2 + 981)) [] [⟨(x.n 2 + 981), { cls := .type "range", data := .fields #[.int 0 (x.n 53), .int (x.i 0) (x.n 54), .int 1 (x.n 55)] }, true⟩]] [[0], [], [0, 1, 2, 3]]
  (ρD "len" [ρ p] 0 0 [σ p (lstO xs ep)] (ρC (.type "range") [ξi 0] 0 0 [] (ρF (ξr 1) [ςσ ((ξ 1).n 2 + 981) { cls := .type "range", data := .fields #[.int 0 ((ξ 1).n 53), .int ((ξ 1).i 0) ((ξ 1).n 54), .int 1 ((ξ 1).n 55)] }, σ p (lstO xs ep), σ q (lstO ys eq), σ fr (frm P [("ones", je, ρ p), ("others", kT, ρ q)])] (ξy 1) (ξu 1)))) := κR
theorem sa_a0 : τB 10 (uTr (assignT (sTgt (fS 27 0 1)) η27 (.int j tj))) [ε p (lstO xs ep), ε q (lstO ys eq), ε fr (frm P [("ones", je, ρ p), ("others", kT, ρ q)]), ε it { cls := .type "range_iterator", data := .fields #[.int u1 0, .int u2 0, .int 1 0] }] (dec 3 0xc180) [] [[0, 1, 2, 3]]
  (νF [σ p (lstO xs ep), σ q (lstO ys eq), σ fr (frm P [("ones", je, ρ p), ("others", kT, ρ q), ("at", τ, .int j tj)]), σ it { cls := .type "range_iterator", data := .fields #[.int u1 0, .int u2 0, .int 1 0] }] ζ (τt 1)) := κR
theorem sa_a1 : τB 10 (uTr (assignT (sTgt (fS 27 0 1)) η27 (.int j tj))) [ε p (lstO xs ep), ε q (lstO ys eq), ε fr (frm P [("ones", je, ρ p), ("others", kT, ρ q), ("at", jv, .int i ti)]), ε it { cls := .type "range_iterator", data := .fields #[.int u1 0, .int u2 0, .int 1 0] }] (dec 3 0xc180) [] [[0, 1, 2, 3]]
  (νF [σ p (lstO xs ep), σ q (lstO ys eq), σ fr (frm P [("ones", je, ρ p), ("others", kT, ρ q), ("at", jv, .int j tj)]), σ it { cls := .type "range_iterator", data := .fields #[.int u1 0, .int u2 0, .int 1 0] }] ζ (τt 1)) := κR
theorem sa_l : τB 12 (vTr (evalT (cL (sTest iS27)) η27)) [ε p (lstO xs ep), ε q (lstO ys eq), ε fr (frm P [("ones", je, ρ p), ("others", kT, ρ q), ("at", jv, .int i ti)]), ε it { cls := .type "range_iterator", data := .fields #[.int u1 0, .int u2 0, .int 1 0] }] (dec 6 0x810204183) [(wM fun x => (.ok (.ret ((x.v 0))), []))] [[0], [0, 1, 2, 3]]
  (ρD "list.__getitem__" [ρ p, .int i ti] 0 0 [σ p (lstO xs ep)] (.fin (.ok (.ret (((ξ 0).v 0)))) [σ p (lstO xs ep), σ q (lstO ys eq), σ fr (frm P [("ones", je, ρ p), ("others", kT, ρ q), ("at", jv, .int i ti)]), σ it { cls := .type "range_iterator", data := .fields #[.int u1 0, .int u2 0, .int 1 0] }] (ξy 0) (ξu 0))) := κR
theorem sa_r : τB 12 (vTr (evalT (cR (sTest iS27)) η27)) [ε p (lstO xs ep), ε q (lstO ys eq), ε fr (frm P [("ones", je, ρ p), ("others", kT, ρ q), ("at", jv, .int i ti)]), ε it { cls := .type "range_iterator", data := .fields #[.int u1 0, .int u2 0, .int 1 0] }] (dec 6 0x820408183) [(wM fun x => (.ok (.ret ((x.v 0))), []))] [[1], [0, 1, 2, 3]]
  (ρD "list.__getitem__" [ρ q, .int i ti] 0 0 [σ q (lstO ys eq)] (.fin (.ok (.ret (((ξ 0).v 0)))) [σ p (lstO xs ep), σ q (lstO ys eq), σ fr (frm P [("ones", je, ρ p), ("others", kT, ρ q), ("at", jv, .int i ti)]), σ it { cls := .type "range_iterator", data := .fields #[.int u1 0, .int u2 0, .int 1 0] }] (ξy 0) (ξu 0))) := κR
theorem sa_F : τB 4 (fTr (execsT (sBody iS27) η27)) [ε p (lstO xs ep), ε q (lstO ys eq), ε fr (frm P [("ones", je, ρ p), ("others", kT, ρ q), ("at", jv, .int i ti)])] ο32 [] [[0, 1, 2]]
  (ρF βF [σ p (lstO xs ep), σ q (lstO ys eq), σ fr (frm P [("ones", je, ρ p), ("others", kT, ρ q), ("at", jv, .int i ti)])] ζ τ) := κR
theorem sa_T0 : τB 4 (fTr (execsT ((fBody (fAt 27 0)).drop 2) η27)) [ε p (lstO xs ep), ε q (lstO ys eq), ε fr (frm P [("ones", je, ρ p), ("others", kT, ρ q)])] ο32 [] [[0, 1, 2]]
  (ρF βT [σ p (lstO xs ep), σ q (lstO ys eq), σ fr (frm P [("ones", je, ρ p), ("others", kT, ρ q)])] ζ τ) := κR
theorem sa_T1 : τB 4 (fTr (execsT ((fBody (fAt 27 0)).drop 2) η27)) [ε p (lstO xs ep), ε q (lstO ys eq), ε fr (frm P [("ones", je, ρ p), ("others", kT, ρ q), ("at", jv, .int i ti)])] ο32 [] [[0, 1, 2]]
  (ρF βT [σ p (lstO xs ep), σ q (lstO ys eq), σ fr (frm P [("ones", je, ρ p), ("others", kT, ρ q), ("at", jv, .int i ti)])] ζ τ) := κR
theorem sa_n : τB 16 (oTr (nextT (ρ it))) [ε it { cls := .type "range_iterator", data := .fields #[.int i 0, .int (Int.ofNat (r + 1)) 0, .int 1 0] }, ε p (lstO xs ep), ε q (lstO ys eq), ε fr (frm P rest)] (dec 11 0x408102040815804001) [] [[0, 1, 2, 3]]
  (ρF (.int i τ) [σ it { cls := .type "range_iterator", data := .fields #[.int (i + 1) 0, .int (Int.ofNat (r + 1) - 1) 0, .int 1 0] }, σ p (lstO xs ep), σ q (lstO ys eq), σ fr (frm P rest)] ζ (τt 1)) := κR
theorem sa_z : τB 16 (oTr (nextT (ρ it))) [ε it { cls := .type "range_iterator", data := .fields #[.int i 0, .int 0 0, .int 1 0] }, ε p (lstO xs ep), ε q (lstO ys eq), ε fr (frm P rest)] (dec 8 0x2040815804001) [] [[2, 3, 4, 5]]
  (νF [σ it { cls := .type "range_iterator", data := .fields #[.int i 0, .int 0 0, .int 1 0] }, σ p (lstO xs ep), σ q (lstO ys eq), σ fr (frm P rest)] (ζz 2) τ) := κR
end
section
variable {P : Params} {ξ : Nat → Ans} {z tk d0 u0 a ku da kM kE c e f ji jl jp jc kV jg kP el l kR kb jf t0 kO kX kW : Nat} {v0 v1 v2 : Value}
theorem folded_t : τC 150 (κC 905 [ρ a, .ref 952]) [] (dec 107 0x40000a000000000180040800000000000400000000818306000020000002000948004000000008081020400102000000000000000400100000000000000000000000a00000000000000000000e40000000000020008002040010200000) [wR] [[3, 2, 0], [3, 2, 0]]
  (δP 0 (δP 306 (ρE 431 [ρ a, ρz 4] 1 3 [σσ z 1 (dct P [("fold", (τt 5), .ref 952)]), σσ z 2 (ins 894 (ζz 1)), σσ z 4 (mT (.ref 891) (ρz 2))] (ρF (ξr 0) [σσ z 1 (dct P [("fold", (τt 5), .ref 952)]), σσ z 2 (ins 894 (ζz 1)), σσ z 4 (mT (.ref 891) (ρz 2))] (ξy 0) (ξu 0))))) := κR
theorem due_cT {v0 : VK} : τC 107 (κC 974 [ρ a]) [φ da (dct P [("value", ku, (vk v0))]), φ a (ins 66 (ψ da))] (dec 68 0x60020400000000010000000000008080800600204000000000100000000000080800100040090004002000c18000001800000000000c0810200000) [wQ, wV βT] [[], [], [0, 2, 1]]
  (δP 0 (ρE 969 [ρ a] 1 3 [] (ρE 945 [vk v0] 1 3 [] (ρF (ξa 1 1) [ςσ (ξz 1 1) (tupO [ξr 0, .ref (ξy 1)]), some ⟨((ξ 0).n 2 + 981), (tupO [ξi 0, .ref ((ξ 0).n 3 + 981), .ref ((ξ 0).n 4 + 981)]), false⟩, ςσ (ξy 1) (lstO [vk v0] 0)] (ξz 1 2) (ξt 1 1))))) := by cases v0 <;> kernel_rfl
theorem due_cF {v0 : VK} : τC 84 (κC 974 [ρ a]) [φ da (dct P [("value", ku, (vk v0))]), φ a (ins 66 (ψ da))] (dec 50 0x800600204000000000100000000000080800100040090004002000c18000001800000000000c0810200000) [wQ, wV βF] [[], [], [0, 2, 1]]
  (δP 0 (ρE 969 [ρ a] 1 3 [] (ρE 945 [vk v0] 1 3 [] (ρF (ξa 1 1) [ςσ (ξz 1 1) (tupO [ξr 0, .ref (ξy 1)]), some ⟨((ξ 0).n 2 + 981), (tupO [ξi 0, .ref ((ξ 0).n 3 + 981), .ref ((ξ 0).n 4 + 981)]), false⟩, ςσ (ξy 1) (lstO [] 0)] (ξz 1 2) (ξu 1))))) := by cases v0 <;> kernel_rfl
theorem due_loc : τC 240 (κC 974 [ρ a]) [φ da (dct P [("number", kM, v0)]), φ a (ins 85 (ψ da))] ο11 [wQ, wT 3] [[], [3], [0, 2, 1, 4]]
  (δP 0 (δP 1 (ρE 969 [ρ a] 1 3 [] (ρC (.type "tuple") [ξa 0 3] 1 3 [ςσ (ξz 0 3) (lstO [] 0)] (ρF (ξa 1 3) [ςσ (ξz 1 3) (tupO [ξa 1 1, ξa 1 2]), ςσ (ξz 1 1) (tupO [ξi 0, .ref ((ξ 0).n 3 + 981), ξr 1]), ςσ (ξz 1 2) (lstO [] 0), ςσ ((ξ 1).n 2 + 981) (tupO [])] (ξz 1 4) (ξu 1)))))) := κR
theorem due_glob : τC 240 (κC 974 [ρ a]) [φ da (dct P [("symbol", kE, v0)]), φ a (ins 104 (ψ da))] ο11 [wQ, wT 3] [[], [3], [0, 2, 1, 4]]
  (δP 0 (δP 1 (ρE 969 [ρ a] 1 3 [] (ρC (.type "tuple") [ξa 0 3] 1 3 [ςσ (ξz 0 3) (lstO [] 0)] (ρF (ξa 1 3) [ςσ (ξz 1 3) (tupO [ξa 1 1, ξa 1 2]), ςσ (ξz 1 1) (tupO [ξi 0, .ref ((ξ 0).n 3 + 981), ξr 1]), ςσ (ξz 1 2) (lstO [] 0), ςσ ((ξ 1).n 2 + 981) (tupO [])] (ξz 1 4) (ξu 1)))))) := κR
theorem due_setLoc : τC 341 (κC 974 [ρ a]) [φ da (dct P [("number", kM, v0), ("value", ku, ρ c)]), φ a (ins 137 (ψ da))] ο2 [wP, wQ, wT 3] [[], [], [3], [0, 2, 1, 4]]
  (δP 0 (δP 1 (ρE 974 [ρ c] 2 6 [] (ρE 969 [ρ a] 1 3 [] (ρC (.type "tuple") [ξa 1 3] 1 3 [ςσ (ξz 1 3) (lstO [.ref ((ξ 0).n 3 + 981)] 1)] (ρF (ξa 2 3) [ςσ (ξz 2 3) (tupO [ξa 2 1, ξa 2 2]), ςσ (ξz 2 1) (tupO [ξi 1, .ref ((ξ 1).n 3 + 981), ξr 2]), ςσ (ξz 2 2) (lstO [] 0), ςσ ((ξ 2).n 2 + 981) (tupO [.ref ((ξ 0).n 3 + 981)])] (ξz 2 4) (ξu 2))))))) := κR
theorem due_setGlob : τC 341 (κC 974 [ρ a]) [φ da (dct P [("symbol", kE, v0), ("value", ku, ρ c)]), φ a (ins 170 (ψ da))] ο2 [wP, wQ, wT 3] [[], [], [3], [0, 2, 1, 4]]
  (δP 0 (δP 1 (ρE 974 [ρ c] 2 6 [] (ρE 969 [ρ a] 1 3 [] (ρC (.type "tuple") [ξa 1 3] 1 3 [ςσ (ξz 1 3) (lstO [.ref ((ξ 0).n 3 + 981)] 1)] (ρF (ξa 2 3) [ςσ (ξz 2 3) (tupO [ξa 2 1, ξa 2 2]), ςσ (ξz 2 1) (tupO [ξi 1, .ref ((ξ 1).n 3 + 981), ξr 2]), ςσ (ξz 2 2) (lstO [] 0), ςσ ((ξ 2).n 2 + 981) (tupO [.ref ((ξ 0).n 3 + 981)])] (ξz 2 4) (ξu 2))))))) := κR
theorem due_define : τC 341 (κC 974 [ρ a]) [φ da (dct P [("symbol", kE, v0), ("value", ku, ρ c)]), φ a (ins 203 (ψ da))] ο2 [wP, wQ, wT 3] [[], [], [3], [0, 2, 1, 4]]
  (δP 0 (δP 1 (ρE 974 [ρ c] 2 6 [] (ρE 969 [ρ a] 1 3 [] (ρC (.type "tuple") [ξa 1 3] 1 3 [ςσ (ξz 1 3) (lstO [.ref ((ξ 0).n 3 + 981)] 1)] (ρF (ξa 2 3) [ςσ (ξz 2 3) (tupO [ξa 2 1, ξa 2 2]), ςσ (ξz 2 1) (tupO [ξi 1, .ref ((ξ 1).n 3 + 981), ξr 2]), ςσ (ξz 2 2) (lstO [] 0), ςσ ((ξ 2).n 2 + 981) (tupO [.ref ((ξ 0).n 3 + 981)])] (ξz 2 4) (ξu 2))))))) := κR
theorem due_ite : τC 531 (κC 974 [ρ a]) [φ da (dct P [("test", ji, ρ c), ("yes", jl, ρ e), ("no", jp, ρ f)]), φ a (ins 236 (ψ da))] (dec 352 0x2200b11000401100418306041831a0c1a50600180040812304004b312004891204081000c18d060d283000c0020409182002998a002850a0204080060c68306941800600102048c10016cc580162c581020400306341834a0c003001009e140008a143800000040810209982000810202005801200080180068d000000d0000000000068b0c1830b16000860c1c3064a1800600142854614001000c00306002850c142a50a00280081022308000800400102001020508112840010003060d18300040010004080060c203069418006002013c0400102041800810000000000400000000000201060020400000000010000000000008041800810000000000400000000000201020400000000020600000000c00000000030000000000c0890004002000c18000001800000000000c0810200000) [wP, wP, wP, wQ, wT 3] (φe 4 [3] [0, 2, 1, 4])
  (δP 0 (δP 1 (ρE 974 [ρ c] 2 6 [] (ρE 974 [ρ e] 2 6 [] (ρE 974 [ρ f] 2 6 [] (ρE 969 [ρ a] 1 3 [] (ρC (.type "tuple") [ξa 3 3] 1 3 [ςσ (ξz 3 3) (lstO [.ref ((ξ 0).n 3 + 981), .ref ((ξ 1).n 3 + 981), .ref ((ξ 2).n 3 + 981)] 3)] (ρF (ξa 4 3) [ςσ (ξz 4 3) (tupO [ξa 4 1, ξa 4 2]), ςσ (ξz 4 1) (tupO [ξi 3, .ref ((ξ 3).n 3 + 981), ξr 4]), ςσ (ξz 4 2) (lstO [] 0), ςσ ((ξ 4).n 2 + 981) (tupO [.ref ((ξ 0).n 3 + 981), .ref ((ξ 1).n 3 + 981), .ref ((ξ 2).n 3 + 981)])] (ξz 4 4) (ξu 4))))))))) := κR
theorem due_lam : τC 341 (κC 974 [ρ a]) [φ da (dct P [("label", jc, v0), ("params", kV, v1), ("rest", jg, v2), ("body", kP, ρ c)]), φ a (ins 283 (ψ da))] ο2 [wP, wQ, wT 3] [[], [], [3], [0, 2, 1, 4]]
  (δP 0 (δP 1 (ρE 974 [ρ c] 2 6 [] (ρE 969 [ρ a] 1 3 [] (ρC (.type "tuple") [ξa 1 3] 1 3 [ςσ (ξz 1 3) (lstO [.ref ((ξ 0).n 3 + 981)] 1)] (ρF (ξa 2 3) [ςσ (ξz 2 3) (tupO [ξa 2 1, ξa 2 2]), ςσ (ξz 2 1) (tupO [ξi 1, .ref ((ξ 1).n 3 + 981), ξr 2]), ςσ (ξz 2 2) (lstO [] 0), ςσ ((ξ 2).n 2 + 981) (tupO [.ref ((ξ 0).n 3 + 981)])] (ξz 2 4) (ξu 2))))))) := κR
theorem due_call : τC 450 (κC 974 [ρ a]) [φ l (lstO [ρ e] el), φ da (dct P [("operator", kR, ρ c), ("operands", kb, ρ l)]), φ a (ins 316 (ψ da))] (dec 293 0x110058880020088020c183020c18c060d283000c0020409182002598900244890204080060c60306941800600102048c10014cc5001428501020400306301834a0c003001009e12000891238000000408102099820008102020058012000801a0070e000000e0000000000070b0a1428b16000850a182854a1400500102044610001000800204002040a102250800200060c1a306000800200081000c184060d283000c004027808002040840210c0100042010a003060000000001800000000000c082000a140000000005000000000002810204000000000308000000010000000000400000000010089000400300102000000200000000000100810200000) [wP, wP, wQ, wT 3] [[], [], [], [3], [0, 2, 1, 4]]
  (δP 0 (δP 1 (ρE 974 [ρ c] 2 6 [] (ρE 974 [ρ e] 2 6 [] (ρE 969 [ρ a] 1 3 [] (ρC (.type "tuple") [ξa 2 3] 1 3 [ςσ (ξz 2 3) (lstO [.ref ((ξ 0).n 3 + 981), .ref ((ξ 1).n 3 + 981)] 2)] (ρF (ξa 3 3) [ςσ (ξz 3 3) (tupO [ξa 3 1, ξa 3 2]), ςσ (ξz 3 1) (tupO [ξi 2, .ref ((ξ 2).n 3 + 981), ξr 3]), ςσ (ξz 3 2) (lstO [] 0), ςσ ((ξ 3).n 2 + 981) (tupO [.ref ((ξ 0).n 3 + 981), .ref ((ξ 1).n 3 + 981)])] (ξz 3 4) (ξu 3)))))))) := κR
theorem due_seq : τC 417 (κC 974 [ρ a]) [φ l (lstO [ρ c, ρ e] el), φ da (dct P [("items", jf, ρ l)]), φ a (ins 349 (ψ da))] (dec 269 0x110058880020088020c183020c18c060d283000c0020409182002598900244890204080060c60306941800600102048c10014cc5001428501020400306301834a0c003001009e1200089123400000040810209982000810202005001200080180068d000000d0000000000068a0a1428a14000850a182854a1400500102044610001000800204002040a102250800200060c1a306000800200081000c184060d283000c0040278080020408108002850000000001400000000000a040000204000000000308000000010000000000400000000010089000400300102000000200000000000100810200000) [wO 2, wP, wP, wQ, wT 3] [[2], [], [], [], [3], [0, 2, 1, 4]]
  (δP 0 (δP 1 (ρC (.type "list") [ρ l] 2 6 [some (φ l (lstO [ρ c, ρ e] el))] (ρE 974 [ρ c] 2 6 [] (ρE 974 [ρ e] 2 6 [] (ρE 969 [ρ a] 1 3 [] (ρC (.type "tuple") [ξa 3 3] 1 3 [ςσ (ξz 3 3) (lstO [.ref ((ξ 1).n 3 + 981), .ref ((ξ 2).n 3 + 981)] 2)] (ρF (ξa 4 3) [ςσ (ξz 4 3) (tupO [ξa 4 1, ξa 4 2]), ςσ (ξz 4 1) (tupO [ξi 3, .ref ((ξ 3).n 3 + 981), ξr 4]), ςσ (ξz 4 2) (lstO [] 0), ςσ ((ξ 4).n 2 + 981) (tupO [.ref ((ξ 1).n 3 + 981), .ref ((ξ 2).n 3 + 981)])] (ξz 4 4) (ξu 4))))))))) := κR
theorem due_set : τC 469 (κC 974 [ρ a]) [φ l (lstO [ρ c, ρ e] el), φ da (dct P [("op", kO, .int 13 t0), ("operands", kb, ρ l)]), φ a (ins 382 (ψ da))] (dec 306 0x8802c44001004401060c181060c60306941800600102048c10012cc4801224481020400306301834a0c0030008102460800a662800a14280810200183180c1a506001800804f0900044891a00000020408104cc1000408101002802f0004000660000000000330000000003000d1a000000000680000000000345001200080180068d000000d0000000000068a0a1428a14000850a182854a1400500102044610001000800204002040a102250800200060c1a306000800200081000c184060d283000c0040278080020408108002850000000001400000000000a040000204000000000308000000010000000000400000000010089000400300102000000200000000000100810200000) [wO 2, wP, wP, wQ, wT 3] [[2], [], [], [], [3], [0, 2, 1, 4]]
  (δP 0 (δP 1 (ρC (.type "list") [ρ l] 2 6 [some (φ l (lstO [ρ c, ρ e] el))] (ρE 974 [ρ c] 2 6 [] (ρE 974 [ρ e] 2 6 [] (ρE 969 [ρ a] 1 3 [] (ρC (.type "tuple") [ξa 3 3] 1 3 [ςσ (ξz 3 3) (lstO [.ref ((ξ 1).n 3 + 981), .ref ((ξ 2).n 3 + 981)] 2)] (ρF (ξa 4 3) [ςσ (ξz 4 3) (tupO [ξa 4 1, ξa 4 2]), ςσ (ξz 4 1) (tupO [ξi 3, .ref ((ξ 3).n 3 + 981), ξr 4]), ςσ (ξz 4 2) (lstO [] 0), ςσ ((ξ 4).n 2 + 981) (tupO [.ref ((ξ 1).n 3 + 981), .ref ((ξ 2).n 3 + 981)])] (ξz 4 4) (ξu 4))))))))) := κR
theorem due_fix : τC 450 (κC 974 [ρ a]) [φ l (lstO [ρ c] el), φ da (dct P [("numbers", kX, v0), ("lambdas", kW, ρ l), ("body", kP, ρ e)]), φ a (ins 415 (ψ da))] (dec 293 0x110058880020088020c183020c18c060d283000c0020409182002598900244890204080060c60306941800600102048c10014cc5001428501020400306301834a0c003001009e12000891238000000408102099820008102020058012000801a0070e000000e0000000000070b0a1428b16000850a182854a1400500102044610001000800204002040a102250800200060c1a306000800200081000c184060d283000c004027808002040810804c04001008408002850000000001400000000000a042000a140000000005000000000002810204000000000308000000010000000000400000000010089000400300102000000200000000000100810200000) [wP, wP, wQ, wT 3] [[], [], [], [3], [0, 2, 1, 4]]
  (δP 0 (δP 1 (ρE 974 [ρ c] 2 6 [] (ρE 974 [ρ e] 2 6 [] (ρE 969 [ρ a] 1 3 [] (ρC (.type "tuple") [ξa 2 3] 1 3 [ςσ (ξz 2 3) (lstO [.ref ((ξ 0).n 3 + 981), .ref ((ξ 1).n 3 + 981)] 2)] (ρF (ξa 3 3) [ςσ (ξz 3 3) (tupO [ξa 3 1, ξa 3 2]), ςσ (ξz 3 1) (tupO [ξi 2, .ref ((ξ 2).n 3 + 981), ξr 3]), ςσ (ξz 3 2) (lstO [] 0), ςσ ((ξ 3).n 2 + 981) (tupO [.ref ((ξ 0).n 3 + 981), .ref ((ξ 1).n 3 + 981)])] (ξz 3 4) (ξu 3)))))))) := κR
end
noncomputable def cE66 : PySem.Expr := cL (bVal (sTest (fS 66 0 2)) 2)
noncomputable def cSc : PySem.Expr → Scope
  | .ListComp _ _ sc _ => sc
  | _ => default
noncomputable def cElt : PySem.Expr → PySem.Expr
  | .ListComp e _ _ _ => e
  | _ => x0
noncomputable def cTgt : PySem.Expr → PySem.Expr
  | .ListComp _ (⟨t, _, _, _⟩ :: _) _ _ => t
  | _ => x0
noncomputable def cIf : PySem.Expr → PySem.Expr
  | .ListComp _ (⟨_, _, c :: _, _⟩ :: _) _ _ => c
  | _ => x0
noncomputable def envC66 (fr cf : Nat) : Env := { scope := cSc cE66, locals := cf, globals := 3, cells := [], qual := "_law_due_of.<locals>.", func := none, code := .ref 973, frame := some fr, builtins := 0 }
section
variable {P : Params} {ξ : Nat → Ans} {z tk d0 u0 a c0 el l top kO kb da ke fr c1 dl t0 r0 edl kL r1 ol it ac cf fa kI b0 ev0 v0 b1 ev1 v1 : Nat} {op : Int} {o1 o2 : Obj} {vo : Value} {rest : KV} {vs0 vs1 : List Value} {x0 x1 : VK}
theorem du_in : τH 10 (κC 974 [ρ a]) [] (dec 5 0x10200000) [] [[0]]
  (δP 0 (.agn (.func (fBody (fAt 66 0)) (envF 66 0 974 973 "_law_due_of.<locals>." ζ)) (d0 + 0) (u0 + 0) true [σ z (frm P [("_law_node", τ, ρ a)])] (ζz 1) (τt 1))) := κR
theorem du_01 : τB 178 (fTr (execsT ((fBody (fAt 66 0)).take 2) η66)) [ε fr (frm P [("_law_node", ke, ρ a)]), φ l (lstO [ρ c0] el), φ da (dct P [("op", kO, .int op top), ("operands", kb, ρ l)]), φ a (ins 382 (ψ da))] (dec 116 0xa1428a14000850a182854a140050010204461000100040010200183080c1a506001800804f01000408102100050a00000000028000000000014080000408000000000610000000020000000000800000000020112000800600204000000400000000000201) [wO 2, ωX (.ref (x.n 2 + 981)) [] [⟨(x.n 2 + 981), (tupO [.ref (x.n 4 + 981), .ref (x.n 3 + 981)]), false⟩, ⟨(x.n 3 + 981), (lstO x.l (x.n 40)), false⟩]] [[2], [], [2, 3, 5, 9]]
  (δP 0 (ρC (.type "list") [ρ l] 1 3 [some (φ l (lstO [ρ c0] el))] (ρE 974 [ρ c0] 1 3 [] (νF [some ⟨((ξ 1).n 2 + 981), (tupO [.ref ((ξ 1).n 4 + 981), .ref ((ξ 1).n 3 + 981)]), false⟩, some ⟨((ξ 1).n 3 + 981), (lstO (((ξ 1).l)) ((ξ 1).n 40)), false⟩, ςσ (ξz 0 1) (lstO [ξr 1] 1), σ fr (frm P [("_law_node", ke, ρ a), ("_law_dues", (ξu 1), ξa 0 1)])] (ξz 1 2) (ξt 1 1))))) := κR
theorem du_02 : τB 212 (fTr (execsT ((fBody (fAt 66 0)).take 2) η66)) [ε fr (frm P [("_law_node", ke, ρ a)]), φ l (lstO [ρ c0, ρ c1] el), φ da (dct P [("op", kO, .int op top), ("operands", kb, ρ l)]), φ a (ins 382 (ψ da))] (dec 139 0x1c38718300010e1c4070e943800e003060c8c3000200180060c0050a182854a140050010204461000100040010200183080c1a506001800804f01000408102100050a00000000028000000000014080000408000000000610000000020000000000800000000020112000800600204000000400000000000201) [wO 2, ωX (.ref (x.n 2 + 981)) [] [⟨(x.n 2 + 981), (tupO [.ref (x.n 4 + 981), .ref (x.n 3 + 981)]), false⟩, ⟨(x.n 3 + 981), (lstO x.l (x.n 40)), false⟩], ωX (.ref (x.n 2 + 981)) [] [⟨(x.n 2 + 981), (tupO [.ref (x.n 4 + 981), .ref (x.n 3 + 981)]), false⟩, ⟨(x.n 3 + 981), (lstO x.l (x.n 40)), false⟩]] [[2], [], [], [2, 3, 4, 5, 7, 11]]
  (δP 0 (ρC (.type "list") [ρ l] 1 3 [some (φ l (lstO [ρ c0, ρ c1] el))] (ρE 974 [ρ c0] 1 3 [] (ρE 974 [ρ c1] 1 3 [] (νF [some ⟨((ξ 2).n 2 + 981), (tupO [.ref ((ξ 2).n 4 + 981), .ref ((ξ 2).n 3 + 981)]), false⟩, some ⟨((ξ 2).n 3 + 981), (lstO (((ξ 2).l)) ((ξ 2).n 40)), false⟩, some ⟨((ξ 1).n 2 + 981), (tupO [.ref ((ξ 1).n 4 + 981), .ref ((ξ 1).n 3 + 981)]), false⟩, some ⟨((ξ 1).n 3 + 981), (lstO (((ξ 1).l)) ((ξ 1).n 40)), false⟩, ςσ (ξz 0 1) (lstO [ξr 1, ξr 2] 2), σ fr (frm P [("_law_node", ke, ρ a), ("_law_dues", (ξu 2), ξa 0 1)])] (ξz 2 2) (ξt 2 1)))))) := κR
theorem du_a : τB 31 (bTr (isTrueT (bVal (sTest (fS 66 0 2)) 0) η66 (evalT (bVal (sTest (fS 66 0 2)) 0) η66))) [ε dl o1, ε fr (frm P (("_law_node", ke, ρ a) :: rest)), φ da (dct P [("op", kO, .int op top), ("operands", kb, vo)]), φ a (ins 382 (ψ da))] (dec 20 0x12000800600204000000400000000000202) [] [[0, 1]]
  (ρF βT [σ dl o1, σ fr (frm P (("_law_node", ke, ρ a) :: rest))] ζ (τt 1)) := κR
theorem du_b8 : τB 55 (bTr (isTrueT (bVal (sTest (fS 66 0 2)) 1) η66 (evalT (bVal (sTest (fS 66 0 2)) 1) η66))) [ε dl o1, ε fr (frm P (("_law_node", ke, ρ a) :: rest)), φ da (dct P [("op", kO, .int 8 t0), ("operands", kb, vo)]), φ a (ins 382 (ψ da))] ο12 [] [[0, 1]]
  (ρF βT [σ dl o1, σ fr (frm P (("_law_node", ke, ρ a) :: rest))] ζ (τt 3)) := κR
theorem du_b16 : τB 55 (bTr (isTrueT (bVal (sTest (fS 66 0 2)) 1) η66 (evalT (bVal (sTest (fS 66 0 2)) 1) η66))) [ε dl o1, ε fr (frm P (("_law_node", ke, ρ a) :: rest)), φ da (dct P [("op", kO, .int 16 t0), ("operands", kb, vo)]), φ a (ins 382 (ψ da))] ο12 [] [[0, 1]]
  (ρF βT [σ dl o1, σ fr (frm P (("_law_node", ke, ρ a) :: rest))] ζ (τt 3)) := κR
theorem du_b11 : τB 55 (bTr (isTrueT (bVal (sTest (fS 66 0 2)) 1) η66 (evalT (bVal (sTest (fS 66 0 2)) 1) η66))) [ε dl o1, ε fr (frm P (("_law_node", ke, ρ a) :: rest)), φ da (dct P [("op", kO, .int 11 t0), ("operands", kb, vo)]), φ a (ins 382 (ψ da))] ο12 [] [[0, 1]]
  (ρF βT [σ dl o1, σ fr (frm P (("_law_node", ke, ρ a) :: rest))] ζ (τt 3)) := κR
theorem du_b135 : τB 55 (bTr (isTrueT (bVal (sTest (fS 66 0 2)) 1) η66 (evalT (bVal (sTest (fS 66 0 2)) 1) η66))) [ε dl o1, ε fr (frm P (("_law_node", ke, ρ a) :: rest)), φ da (dct P [("op", kO, .int 135 t0), ("operands", kb, vo)]), φ a (ins 382 (ψ da))] ο12 [] [[0, 1]]
  (ρF βT [σ dl o1, σ fr (frm P (("_law_node", ke, ρ a) :: rest))] ζ (τt 3)) := κR
theorem du_b4 : τB 55 (bTr (isTrueT (bVal (sTest (fS 66 0 2)) 1) η66 (evalT (bVal (sTest (fS 66 0 2)) 1) η66))) [ε dl o1, ε fr (frm P (("_law_node", ke, ρ a) :: rest)), φ da (dct P [("op", kO, .int 4 t0), ("operands", kb, vo)]), φ a (ins 382 (ψ da))] ο12 [] [[0, 1]]
  (ρF βT [σ dl o1, σ fr (frm P (("_law_node", ke, ρ a) :: rest))] ζ (τt 3)) := κR
theorem du_b9 : τB 55 (bTr (isTrueT (bVal (sTest (fS 66 0 2)) 1) η66 (evalT (bVal (sTest (fS 66 0 2)) 1) η66))) [ε dl o1, ε fr (frm P (("_law_node", ke, ρ a) :: rest)), φ da (dct P [("op", kO, .int 9 t0), ("operands", kb, vo)]), φ a (ins 382 (ψ da))] ο12 [] [[0, 1]]
  (ρF βT [σ dl o1, σ fr (frm P (("_law_node", ke, ρ a) :: rest))] ζ (τt 3)) := κR
theorem du_21 : τB 23 (vTr (evalT (cL (bVal (sTest (fS 66 0 2)) 2)) η66)) [ε dl (lstO [ρ r0] edl), ε fr (frm P [("_law_node", ke, ρ a), ("_law_dues", kL, ρ dl)])] (dec 12 0x20408102780800204082) [(wM fun x => (.ok .next, [(0, (dct P [("_law_due", (x.n 53), ρ r0)])), (1, (lstO x.l (x.n 40))), (2, (iT .none (.int 1 0)))]))] [[2, 1, 0, 3], [1, 3, 4]]
  (.req (.compStart cE66 0 (ρ z) (ρz 1) (envC66 (ψ fr) (ζz 2))) (d0 + 0) (u0 + 0) true [σ z (iT (ρ dl) (.int 0 0)), σσ z 1 (lstO [] 0), σσ z 2 (dct P []), σ dl (lstO [ρ r0] edl)] (ρF (ρz 1) [σσ z 1 (lstO (((ξ 0).l)) ((ξ 0).n 40)), σ dl (lstO [ρ r0] edl), σ fr (frm P [("_law_node", ke, ρ a), ("_law_dues", kL, ρ dl)])] (ξy 0) (ξu 0))) := κR
theorem du_22 : τB 23 (vTr (evalT (cL (bVal (sTest (fS 66 0 2)) 2)) η66)) [ε dl (lstO [ρ r0, ρ r1] edl), ε fr (frm P [("_law_node", ke, ρ a), ("_law_dues", kL, ρ dl)])] (dec 12 0x20408102780800204082) [(wM fun x => (.ok .next, [(0, (dct P [("_law_due", (x.n 53), ρ r1)])), (1, (lstO x.l (x.n 40))), (2, (iT .none (.int 2 0)))]))] [[2, 1, 0, 3], [1, 3, 4]]
  (.req (.compStart cE66 0 (ρ z) (ρz 1) (envC66 (ψ fr) (ζz 2))) (d0 + 0) (u0 + 0) true [σ z (iT (ρ dl) (.int 0 0)), σσ z 1 (lstO [] 0), σσ z 2 (dct P []), σ dl (lstO [ρ r0, ρ r1] edl)] (ρF (ρz 1) [σσ z 1 (lstO (((ξ 0).l)) ((ξ 0).n 40)), σ dl (lstO [ρ r0, ρ r1] edl), σ fr (frm P [("_law_node", ke, ρ a), ("_law_dues", kL, ρ dl)])] (ξy 0) (ξu 0))) := κR
theorem du_r : τB 5 (vTr (evalT (cR (bVal (sTest (fS 66 0 2)) 2)) η66)) [ε ol o1, ε dl o2, ε fr (frm P (("_law_node", ke, ρ a) :: rest))] ο32 [] [[0, 1, 2, 3]]
  (ρF (ρ z) [σ z (lstO [] 0), σ ol o1, σ dl o2, σ fr (frm P (("_law_node", ke, ρ a) :: rest))] (ζz 1) τ) := κR
theorem du_n10 : τB 13 (oTr (nextT (ρ it))) [ε dl (lstO [ρ r0] edl), ε it (iT (ρ dl) (.int 0 0)), ε ac o1, ε cf (dct P [])] (dec 9 0x204041024a08002) [] [[0, 1, 2, 3]]
  (ρF (ρ r0) [σ dl (lstO [ρ r0] edl), σ it (iT (ρ dl) (.int 1 0)), σ ac o1, σ cf (dct P [])] ζ τ) := κR
theorem du_n11 : τB 18 (oTr (nextT (ρ it))) [ε dl (lstO [ρ r0] edl), ε it (iT (ρ dl) (.int 1 0)), ε ac o1, ε cf (dct P [("_law_due", kI, ρ r0)])] (dec 10 0x8204041024a08002) [] [[2, 3, 4, 5]]
  (νF [σ dl (lstO [ρ r0] edl), σ it (iT .none (.int 1 0)), σ ac o1, σ cf (dct P [("_law_due", kI, ρ r0)])] (ζz 2) τ) := κR
theorem du_n20 : τB 13 (oTr (nextT (ρ it))) [ε dl (lstO [ρ r0, ρ r1] edl), ε it (iT (ρ dl) (.int 0 0)), ε ac o1, ε cf (dct P [])] (dec 9 0x204041024a08002) [] [[0, 1, 2, 3]]
  (ρF (ρ r0) [σ dl (lstO [ρ r0, ρ r1] edl), σ it (iT (ρ dl) (.int 1 0)), σ ac o1, σ cf (dct P [])] ζ τ) := κR
theorem du_n21 : τB 13 (oTr (nextT (ρ it))) [ε dl (lstO [ρ r0, ρ r1] edl), ε it (iT (ρ dl) (.int 1 0)), ε ac o1, ε cf (dct P [("_law_due", kI, ρ r0)])] (dec 9 0x204041024a08002) [] [[0, 1, 2, 3]]
  (ρF (ρ r1) [σ dl (lstO [ρ r0, ρ r1] edl), σ it (iT (ρ dl) (.int 2 0)), σ ac o1, σ cf (dct P [("_law_due", kI, ρ r0)])] ζ τ) := κR
theorem du_n22 : τB 18 (oTr (nextT (ρ it))) [ε dl (lstO [ρ r0, ρ r1] edl), ε it (iT (ρ dl) (.int 2 0)), ε ac o1, ε cf (dct P [("_law_due", kI, ρ r1)])] (dec 10 0x8204041024a08002) [] [[2, 3, 4, 5]]
  (νF [σ dl (lstO [ρ r0, ρ r1] edl), σ it (iT .none (.int 2 0)), σ ac o1, σ cf (dct P [("_law_due", kI, ρ r1)])] (ζz 2) τ) := κR
theorem du_s10 : τB 10 (uTr (assignT (cTgt cE66) (envC66 fa (ψ cf)) (ρ r0))) [ε dl (lstO [ρ r0] edl), ε it (iT (ρ dl) (.int 1 0)), ε ac o1, ε cf (dct P [])] ο35 [] [[0, 1, 2, 3]]
  (νF [σ dl (lstO [ρ r0] edl), σ it (iT (ρ dl) (.int 1 0)), σ ac o1, σ cf (dct P [("_law_due", τ, ρ r0)])] ζ (τt 1)) := κR
theorem du_s20 : τB 10 (uTr (assignT (cTgt cE66) (envC66 fa (ψ cf)) (ρ r0))) [ε dl (lstO [ρ r0, ρ r1] edl), ε it (iT (ρ dl) (.int 1 0)), ε ac o1, ε cf (dct P [])] ο35 [] [[0, 1, 2, 3]]
  (νF [σ dl (lstO [ρ r0, ρ r1] edl), σ it (iT (ρ dl) (.int 1 0)), σ ac o1, σ cf (dct P [("_law_due", τ, ρ r0)])] ζ (τt 1)) := κR
theorem du_s21 : τB 10 (uTr (assignT (cTgt cE66) (envC66 fa (ψ cf)) (ρ r1))) [ε dl (lstO [ρ r0, ρ r1] edl), ε it (iT (ρ dl) (.int 2 0)), ε ac o1, ε cf (dct P [("_law_due", kI, ρ r0)])] ο35 [] [[0, 1, 2, 3]]
  (νF [σ dl (lstO [ρ r0, ρ r1] edl), σ it (iT (ρ dl) (.int 2 0)), σ ac o1, σ cf (dct P [("_law_due", kI, ρ r1)])] ζ (τt 1)) := κR
theorem du_l10 : τB 15 (vTr (evalT (cL (cIf cE66)) (envC66 fa (ψ cf)))) [ε dl (lstO [ρ r0] edl), ε it (iT (ρ dl) (.int 1 0)), ε ac o1, ε cf (dct P [("_law_due", kI, ρ r0)]), φ v0 (lstO vs0 ev0), φ r0 (tupO [ρ b0, ρ v0])] (dec 8 0xccc3000c18304) [] [[0, 1, 2, 3]]
  (ρF (ρ v0) [σ dl (lstO [ρ r0] edl), σ it (iT (ρ dl) (.int 1 0)), σ ac o1, σ cf (dct P [("_law_due", kI, ρ r0)])] ζ (τt 1)) := κR
theorem du_r10 : τB 5 (vTr (evalT (cR (cIf cE66)) (envC66 fa (ψ cf)))) [ε dl (lstO [ρ r0] edl), ε it (iT (ρ dl) (.int 1 0)), ε ac o1, ε cf (dct P [("_law_due", kI, ρ r0)]), φ v0 (lstO vs0 ev0), φ r0 (tupO [ρ b0, ρ v0])] ο32 [] [[0, 1, 2, 3, 4]]
  (ρF (ρ z) [σ z (lstO [] 0), σ dl (lstO [ρ r0] edl), σ it (iT (ρ dl) (.int 1 0)), σ ac o1, σ cf (dct P [("_law_due", kI, ρ r0)])] (ζz 1) τ) := κR
theorem du_e10 : τB 4 (vTr (evalT (cElt cE66) (envC66 fa (ψ cf)))) [ε dl (lstO [ρ r0] edl), ε it (iT (ρ dl) (.int 1 0)), ε ac o1, ε cf (dct P [("_law_due", kI, ρ r0)])] ο32 [] [[0, 1, 2, 3]]
  (ρF (.int 1 τ) [σ dl (lstO [ρ r0] edl), σ it (iT (ρ dl) (.int 1 0)), σ ac o1, σ cf (dct P [("_law_due", kI, ρ r0)])] ζ (τt 1)) := κR
theorem du_l20 : τB 15 (vTr (evalT (cL (cIf cE66)) (envC66 fa (ψ cf)))) [ε dl (lstO [ρ r0, ρ r1] edl), ε it (iT (ρ dl) (.int 1 0)), ε ac o1, ε cf (dct P [("_law_due", kI, ρ r0)]), φ v0 (lstO vs0 ev0), φ r0 (tupO [ρ b0, ρ v0]), φ v1 (lstO vs1 ev1), φ r1 (tupO [ρ b1, ρ v1])] (dec 8 0xccc3000c18304) [] [[0, 1, 2, 3]]
  (ρF (ρ v0) [σ dl (lstO [ρ r0, ρ r1] edl), σ it (iT (ρ dl) (.int 1 0)), σ ac o1, σ cf (dct P [("_law_due", kI, ρ r0)])] ζ (τt 1)) := κR
theorem du_r20 : τB 5 (vTr (evalT (cR (cIf cE66)) (envC66 fa (ψ cf)))) [ε dl (lstO [ρ r0, ρ r1] edl), ε it (iT (ρ dl) (.int 1 0)), ε ac o1, ε cf (dct P [("_law_due", kI, ρ r0)]), φ v0 (lstO vs0 ev0), φ r0 (tupO [ρ b0, ρ v0]), φ v1 (lstO vs1 ev1), φ r1 (tupO [ρ b1, ρ v1])] ο32 [] [[0, 1, 2, 3, 4]]
  (ρF (ρ z) [σ z (lstO [] 0), σ dl (lstO [ρ r0, ρ r1] edl), σ it (iT (ρ dl) (.int 1 0)), σ ac o1, σ cf (dct P [("_law_due", kI, ρ r0)])] (ζz 1) τ) := κR
theorem du_e20 : τB 4 (vTr (evalT (cElt cE66) (envC66 fa (ψ cf)))) [ε dl (lstO [ρ r0, ρ r1] edl), ε it (iT (ρ dl) (.int 1 0)), ε ac o1, ε cf (dct P [("_law_due", kI, ρ r0)])] ο32 [] [[0, 1, 2, 3]]
  (ρF (.int 1 τ) [σ dl (lstO [ρ r0, ρ r1] edl), σ it (iT (ρ dl) (.int 1 0)), σ ac o1, σ cf (dct P [("_law_due", kI, ρ r0)])] ζ (τt 1)) := κR
theorem du_l21 : τB 15 (vTr (evalT (cL (cIf cE66)) (envC66 fa (ψ cf)))) [ε dl (lstO [ρ r0, ρ r1] edl), ε it (iT (ρ dl) (.int 2 0)), ε ac o1, ε cf (dct P [("_law_due", kI, ρ r1)]), φ v0 (lstO vs0 ev0), φ r0 (tupO [ρ b0, ρ v0]), φ v1 (lstO vs1 ev1), φ r1 (tupO [ρ b1, ρ v1])] (dec 8 0x10cc4001020404) [] [[0, 1, 2, 3]]
  (ρF (ρ v1) [σ dl (lstO [ρ r0, ρ r1] edl), σ it (iT (ρ dl) (.int 2 0)), σ ac o1, σ cf (dct P [("_law_due", kI, ρ r1)])] ζ (τt 1)) := κR
theorem du_r21 : τB 5 (vTr (evalT (cR (cIf cE66)) (envC66 fa (ψ cf)))) [ε dl (lstO [ρ r0, ρ r1] edl), ε it (iT (ρ dl) (.int 2 0)), ε ac o1, ε cf (dct P [("_law_due", kI, ρ r1)]), φ v0 (lstO vs0 ev0), φ r0 (tupO [ρ b0, ρ v0]), φ v1 (lstO vs1 ev1), φ r1 (tupO [ρ b1, ρ v1])] ο32 [] [[0, 1, 2, 3, 4]]
  (ρF (ρ z) [σ z (lstO [] 0), σ dl (lstO [ρ r0, ρ r1] edl), σ it (iT (ρ dl) (.int 2 0)), σ ac o1, σ cf (dct P [("_law_due", kI, ρ r1)])] (ζz 1) τ) := κR
theorem du_e21 : τB 4 (vTr (evalT (cElt cE66) (envC66 fa (ψ cf)))) [ε dl (lstO [ρ r0, ρ r1] edl), ε it (iT (ρ dl) (.int 2 0)), ε ac o1, ε cf (dct P [("_law_due", kI, ρ r1)])] ο32 [] [[0, 1, 2, 3]]
  (ρF (.int 1 τ) [σ dl (lstO [ρ r0, ρ r1] edl), σ it (iT (ρ dl) (.int 2 0)), σ ac o1, σ cf (dct P [("_law_due", kI, ρ r1)])] ζ (τt 1)) := κR
theorem du_T10 : τB 131 (fTr (execsT (sBody (fS 66 0 2)) η66)) [ε dl (lstO [ρ r0] edl), ε fr (frm P [("_law_node", ke, ρ a), ("_law_dues", kL, ρ dl)]), φ l (lstO [ρ c0] el), φ da (dct P [("op", kO, .int op top), ("operands", kb, ρ l)]), φ a (ins 382 (ψ da)), φ v0 (lstO [vk x0] ev0), φ r0 (tupO [ρ b0, ρ v0])] (dec 83 0x1c3870004003060c08306101834a0c00300081024608000126c480122448a662800a14280810200183080c1a506001800804f01000408104100050a00000000028000000000014100) [wV (.none)] [[3], [5, 6]]
  (ρE 952 [.int op top, ρz 1] 0 0 [σσ z 1 (lstO [vk x0] 1)] (νF [σ dl (lstO [ρ r0] edl), σ fr (frm P [("_law_node", ke, ρ a), ("_law_dues", kL, ρ dl), ("_law_found", (ξu 0), .none)])] (ξy 0) (ξt 0 1))) := by cases x0 <;> kernel_rfl
theorem du_T11 : τB 150 (fTr (execsT (sBody (fS 66 0 2)) η66)) [ε dl (lstO [ρ r0] edl), ε fr (frm P [("_law_node", ke, ρ a), ("_law_dues", kL, ρ dl)]), φ l (lstO [ρ c0] el), φ da (dct P [("op", kO, .int op top), ("operands", kb, ρ l)]), φ a (ins 382 (ψ da)), φ v0 (lstO [vk x0] ev0), φ r0 (tupO [ρ b0, ρ v0])] (dec 94 0x8002cc080020408800204080004003060c08306101834a0c00300081024608000126c480122448a662800a14280810200183080c1a506001800804f01000408104100050a00000000028000000000014100) [ωX (.ref (x.n 2 + 981)) [] [⟨x.n 2 + 981, (tupO [.ref (x.n 3 + 981)]), false⟩], wV βF] [[3], [], [6, 7]]
  (ρE 952 [.int op top, ρz 1] 0 0 [σσ z 1 (lstO [vk x0] 1)] (ρE 945 [.ref ((ξ 0).n 3 + 981)] 0 0 [] (νF [σ dl (lstO [ρ r0] edl), σ fr (frm P [("_law_node", ke, ρ a), ("_law_dues", kL, ρ dl), ("_law_found", (ξu 0), ξr 0)])] (ξy 1) (ξu 1)))) := by cases x0 <;> kernel_rfl
theorem du_T12 : τB 193 (fTr (execsT (sBody (fS 66 0 2)) η66)) [ε dl (lstO [ρ r0] edl), ε fr (frm P [("_law_node", ke, ρ a), ("_law_dues", kL, ρ dl)]), φ l (lstO [ρ c0] el), φ da (dct P [("op", kO, .int op top), ("operands", kb, ρ l)]), φ a (ins 382 (ψ da)), φ v0 (lstO [vk x0] ev0), φ r0 (tupO [ρ b0, ρ v0])] ο13 [ωX (.ref (x.n 2 + 981)) [] [⟨x.n 2 + 981, (tupO [.bool (x.b 0)]), false⟩], wV βT, wB] [[3], [], [], [0, 2, 1, 4, 3]]
  (ρE 952 [.int op top, ρz 1] 0 0 [σσ z 1 (lstO [vk x0] 1)] (ρE 945 [ξb 0] 0 0 [] (ρE 959 [ξb 0] 0 0 [] (ρF (ξa 2 4) [ςσ (ξz 2 4) (tupO [ξa 2 2, ξa 2 3]), ςσ (ξz 2 2) (tupO [.int 0 196, .ref (ξy 2), ξa 2 1]), ςσ (ξz 2 3) (lstO [ξb 0] 0), ςσ (ξy 2) (tupO [ξb 2]), ςσ (ξz 2 1) (tupO [])] (ξz 2 5) (ξt 2 1))))) := by cases x0 <;> kernel_rfl
theorem du_T13 : τB 193 (fTr (execsT (sBody (fS 66 0 2)) η66)) [ε dl (lstO [ρ r0] edl), ε fr (frm P [("_law_node", ke, ρ a), ("_law_dues", kL, ρ dl)]), φ l (lstO [ρ c0] el), φ da (dct P [("op", kO, .int op top), ("operands", kb, ρ l)]), φ a (ins 382 (ψ da)), φ v0 (lstO [vk x0] ev0), φ r0 (tupO [ρ b0, ρ v0])] ο13 [ωX (.ref (x.n 2 + 981)) [] [⟨x.n 2 + 981, (tupO [.int (x.i 0) (x.n 50)]), false⟩], wV βT, wI] [[3], [], [], [0, 2, 1, 4, 3]]
  (ρE 952 [.int op top, ρz 1] 0 0 [σσ z 1 (lstO [vk x0] 1)] (ρE 945 [ξi 0] 0 0 [] (ρE 959 [ξi 0] 0 0 [] (ρF (ξa 2 4) [ςσ (ξz 2 4) (tupO [ξa 2 2, ξa 2 3]), ςσ (ξz 2 2) (tupO [.int 0 196, .ref (ξy 2), ξa 2 1]), ςσ (ξz 2 3) (lstO [ξi 0] 0), ςσ (ξy 2) (tupO [ξi 2]), ςσ (ξz 2 1) (tupO [])] (ξz 2 5) (ξt 2 1))))) := by cases x0 <;> kernel_rfl
theorem du_T20 : τB 181 (fTr (execsT (sBody (fS 66 0 2)) η66)) [ε dl (lstO [ρ r0, ρ r1] edl), ε fr (frm P [("_law_node", ke, ρ a), ("_law_dues", kL, ρ dl)]), φ l (lstO [ρ c0, ρ c1] el), φ da (dct P [("op", kO, .int op top), ("operands", kb, ρ l)]), φ a (ins 382 (ψ da)), φ v0 (lstO [vk x0] ev0), φ r0 (tupO [ρ b0, ρ v0]), φ v1 (lstO [vk x1] ev1), φ r1 (tupO [ρ b1, ρ v1])] (dec 118 0x3870e00080060c181060c20306941800600102048c100002cd8b002c58b18cc6001830601020400306101834a0c00300081024608000126c480122448a662800a14280810200183080c1a506001800804f01000408104100050a00000000028000000000014100) [wV (.none)] [[3], [5, 6]]
  (ρE 952 [.int op top, ρz 1] 0 0 [σσ z 1 (lstO [(vk x0), (vk x1)] 2)] (νF [σ dl (lstO [ρ r0, ρ r1] edl), σ fr (frm P [("_law_node", ke, ρ a), ("_law_dues", kL, ρ dl), ("_law_found", (ξu 0), .none)])] (ξy 0) (ξt 0 1))) := by cases x0 <;> cases x1 <;> kernel_rfl
theorem du_T21 : τB 200 (fTr (execsT (sBody (fS 66 0 2)) η66)) [ε dl (lstO [ρ r0, ρ r1] edl), ε fr (frm P [("_law_node", ke, ρ a), ("_law_dues", kL, ρ dl)]), φ l (lstO [ρ c0, ρ c1] el), φ da (dct P [("op", kO, .int op top), ("operands", kb, ρ l)]), φ a (ins 382 (ψ da)), φ v0 (lstO [vk x0] ev0), φ r0 (tupO [ρ b0, ρ v0]), φ v1 (lstO [vk x1] ev1), φ r1 (tupO [ρ b1, ρ v1])] (dec 129 0x10005981000408110004081000080060c181060c20306941800600102048c100002cd8b002c58b18cc6001830601020400306101834a0c00300081024608000126c480122448a662800a14280810200183080c1a506001800804f01000408104100050a00000000028000000000014100) [ωX (.ref (x.n 2 + 981)) [] [⟨x.n 2 + 981, (tupO [.ref (x.n 3 + 981)]), false⟩], wV βF] [[3], [], [6, 7]]
  (ρE 952 [.int op top, ρz 1] 0 0 [σσ z 1 (lstO [(vk x0), (vk x1)] 2)] (ρE 945 [.ref ((ξ 0).n 3 + 981)] 0 0 [] (νF [σ dl (lstO [ρ r0, ρ r1] edl), σ fr (frm P [("_law_node", ke, ρ a), ("_law_dues", kL, ρ dl), ("_law_found", (ξu 0), ξr 0)])] (ξy 1) (ξu 1)))) := by cases x0 <;> cases x1 <;> kernel_rfl
theorem du_T22 : τB 243 (fTr (execsT (sBody (fS 66 0 2)) η66)) [ε dl (lstO [ρ r0, ρ r1] edl), ε fr (frm P [("_law_node", ke, ρ a), ("_law_dues", kL, ρ dl)]), φ l (lstO [ρ c0, ρ c1] el), φ da (dct P [("op", kO, .int op top), ("operands", kb, ρ l)]), φ a (ins 382 (ψ da)), φ v0 (lstO [vk x0] ev0), φ r0 (tupO [ρ b0, ρ v0]), φ v1 (lstO [vk x1] ev1), φ r1 (tupO [ρ b1, ρ v1])] ο10 [ωX (.ref (x.n 2 + 981)) [] [⟨x.n 2 + 981, (tupO [.bool (x.b 0)]), false⟩], wV βT, wB] [[3], [], [], [0, 2, 1, 4, 3]]
  (ρE 952 [.int op top, ρz 1] 0 0 [σσ z 1 (lstO [(vk x0), (vk x1)] 2)] (ρE 945 [ξb 0] 0 0 [] (ρE 959 [ξb 0] 0 0 [] (ρF (ξa 2 4) [ςσ (ξz 2 4) (tupO [ξa 2 2, ξa 2 3]), ςσ (ξz 2 2) (tupO [.int 0 196, .ref (ξy 2), ξa 2 1]), ςσ (ξz 2 3) (lstO [ξb 0] 0), ςσ (ξy 2) (tupO [ξb 2]), ςσ (ξz 2 1) (tupO [])] (ξz 2 5) (ξt 2 1))))) := by cases x0 <;> cases x1 <;> kernel_rfl
theorem du_T23 : τB 243 (fTr (execsT (sBody (fS 66 0 2)) η66)) [ε dl (lstO [ρ r0, ρ r1] edl), ε fr (frm P [("_law_node", ke, ρ a), ("_law_dues", kL, ρ dl)]), φ l (lstO [ρ c0, ρ c1] el), φ da (dct P [("op", kO, .int op top), ("operands", kb, ρ l)]), φ a (ins 382 (ψ da)), φ v0 (lstO [vk x0] ev0), φ r0 (tupO [ρ b0, ρ v0]), φ v1 (lstO [vk x1] ev1), φ r1 (tupO [ρ b1, ρ v1])] ο10 [ωX (.ref (x.n 2 + 981)) [] [⟨x.n 2 + 981, (tupO [.int (x.i 0) (x.n 50)]), false⟩], wV βT, wI] [[3], [], [], [0, 2, 1, 4, 3]]
  (ρE 952 [.int op top, ρz 1] 0 0 [σσ z 1 (lstO [(vk x0), (vk x1)] 2)] (ρE 945 [ξi 0] 0 0 [] (ρE 959 [ξi 0] 0 0 [] (ρF (ξa 2 4) [ςσ (ξz 2 4) (tupO [ξa 2 2, ξa 2 3]), ςσ (ξz 2 2) (tupO [.int 0 196, .ref (ξy 2), ξa 2 1]), ςσ (ξz 2 3) (lstO [ξi 0] 0), ςσ (ξy 2) (tupO [ξi 2]), ςσ (ξz 2 1) (tupO [])] (ξz 2 5) (ξt 2 1))))) := by cases x0 <;> cases x1 <;> kernel_rfl
theorem du_R1 : τB 132 (fTr (execsT ((fBody (fAt 66 0)).drop 3) η66)) [ε dl (lstO [ρ r0] edl), ε fr (frm P (("_law_node", ke, ρ a) :: ("_law_dues", kL, ρ dl) :: rest)), φ l (lstO [ρ c0] el), φ da (dct P [("op", kO, .int op top), ("operands", kb, ρ l)]), φ a (ins 382 (ψ da)), φ r0 (tupO [ρ b0, ρ v0])] (dec 78 0x8802c44001004401060c181060c38306941800600102048c10018cc60018306010204003061c1834a0c003001009e080008408140000004081020998200081020200100) [wQ, wT 3] [[], [3], [0, 2, 1, 4]]
  (ρE 969 [ρ a] 0 0 [] (ρC (.type "tuple") [ξa 0 3] 0 0 [ςσ (ξz 0 3) (lstO [ρ b0] 1)] (ρF (ξa 1 3) [ςσ (ξz 1 3) (tupO [ξa 1 1, ξa 1 2]), ςσ (ξz 1 1) (tupO [ξi 0, .ref ((ξ 0).n 3 + 981), ξr 1]), ςσ (ξz 1 2) (lstO [] 0), ςσ ((ξ 1).n 2 + 981) (tupO [ρ b0])] (ξz 1 4) (ξu 1)))) := κR
theorem du_R2 : τB 170 (fTr (execsT ((fBody (fAt 66 0)).drop 3) η66)) [ε dl (lstO [ρ r0, ρ r1] edl), ε fr (frm P (("_law_node", ke, ρ a) :: ("_law_dues", kL, ρ dl) :: rest)), φ l (lstO [ρ c0, ρ c1] el), φ da (dct P [("op", kO, .int op top), ("operands", kb, ρ l)]), φ a (ins 382 (ψ da)), φ r0 (tupO [ρ b0, ρ v0]), φ r1 (tupO [ρ b1, ρ v1])] (dec 105 0x110058880020088020c183020c187060d283000c0020409182003598d003468d0204080060c38306941800600102048c10018cc60018306010204003061c1834a0c003001009e080008408140000004081020998200081020200100) [wQ, wT 3] [[], [3], [0, 2, 1, 4]]
  (ρE 969 [ρ a] 0 0 [] (ρC (.type "tuple") [ξa 0 3] 0 0 [ςσ (ξz 0 3) (lstO [ρ b0, ρ b1] 2)] (ρF (ξa 1 3) [ςσ (ξz 1 3) (tupO [ξa 1 1, ξa 1 2]), ςσ (ξz 1 1) (tupO [ξi 0, .ref ((ξ 0).n 3 + 981), ξr 1]), ςσ (ξz 1 2) (lstO [] 0), ςσ ((ξ 1).n 2 + 981) (tupO [ρ b0, ρ b1])] (ξz 1 4) (ξu 1)))) := κR
end
section
variable {w : World} {s₀ : Shared} {h₀ : Heap} {mt : List Addr} {F₀ F : Gh}
theorem sel_len : ∀ (ss : List Nat) (M : List Ent), sel ss M = ss.map (nth M)
  | [], _ => rfl
  | i :: r, M => by rw [List.map_cons, ← sel_len r M]; rfl
theorem canV_of_calls {s : Spec} {c : Code} {d u : Nat} {g : Bool} {ss : List Nat} {L : List (Option Ent)} {idx : List Nat} {own : List (Addr × Obj)} {Post : Gh → Value → List (Addr × Obj) → Nat → Nat → Nat → Nat → Prop}
    (hc : Calls w s₀ F own c d u g Post) (hn : idx.Nodup) (hL : ∀ M, sel ss M = L → idx.map (nth M) = own.map fun p => ςσ (p.1) p.2)
    (hs : ∀ v F' own' z tk z' tk' M, F.le F' → own'.map (·.1) = own.map (·.1) → Post F' v own' z tk z' tk' → 981 ≤ z' → 2050 ≤ tk' → sel ss M = L →
      ∃ x N, s.p x M z tk = ⟨.ok (.ret v), idx.zip (own'.map (·.2)), N, z', tk'⟩ ∧ s.P F F' x ∧ ∀ i e, nth N i = some e → e.own = false ∧ F' e.a e.o)
    (hB : ∀ h, Holds F h → 981 ≤ h.objs.size) : CanV w s₀ h₀ mt F₀ c d u g F ss L s := by
  intro M sz tk hsel h R ht D hR
  have hi := hL M hsel
  have hl : idx.length = own.length := by have := congrArg List.length hi; simpa using this
  have at1 : ∀ (k : Nat) (p : Addr × Obj), own[k]? = some p → ∃ j, idx[k]? = some j ∧ nth M j = ςσ (p.1) p.2 := by
    intro k p q
    have z : (own.map fun p => some (⟨p.1, p.2, true⟩ : Ent))[k]? = some (ςσ (p.1) p.2) := by rw [List.getElem?_map, q]; rfl
    rw [← hi, List.getElem?_map] at z
    obtain ⟨j, hj, e⟩ := Option.map_eq_some_iff.mp z
    exact ⟨j, hj, e⟩
  refine node_of_code (code_toks (hc h tk _ ht D.holds (fun p hp => ?_) ?_ fun v F' h' tk' own' a1 a2 a3 a4 a6 a7 a8 T₁ => ?_))
  · obtain ⟨k, hk⟩ := List.getElem?_of_mem hp
    obtain ⟨j, _, hj⟩ := at1 k p hk
    exact ⟨D.at_ j _ hj, D.own j _ hj rfl⟩
  · refine List.pairwise_iff_getElem.mpr fun i j hi1 hj1 hlt e => ?_
    simp only [List.getElem_map] at e
    have hne : i ≠ j := Nat.ne_of_lt hlt
    rw [List.length_map] at hi1 hj1
    obtain ⟨i', x1, x2⟩ := at1 i own[i] (List.getElem?_eq_getElem hi1)
    obtain ⟨j', y1, y2⟩ := at1 j own[j] (List.getElem?_eq_getElem hj1)
    have hne' : i' ≠ j' := by
      rintro rfl
      obtain ⟨l1, e1⟩ := List.getElem?_eq_some_iff.mp x1
      obtain ⟨l2, e2⟩ := List.getElem?_eq_some_iff.mp y1
      exact hne ((List.getElem_inj hn).mp (e1.trans e2.symm))
    exact D.ne i' j' _ _ x2 y2 hne' rfl e
  · have T' : 2050 ≤ tk' := Nat.le_trans ht T₁
    obtain ⟨x, N, e1, e2, e3⟩ := hs v F' own' h.objs.size tk h'.objs.size tk' M a1 a6 a8 (hB h' fun a o e => a2 a o (a1 a o e)) T' hsel
    have hsz : h.objs.size = sz := D.size
    have D' := D.behind hn hi a1 a2 a3 a4 a6 a7 (N := N) (fun i e q => .inl (e3 i e q)) (fun i j e e' q Z Z w => by rw [(e3 i e q).1] at w; cases w)
    have z := hR x F' h' a1 e2
    rw [← hsz, e1] at z
    exact z D'
noncomputable def tupS (i : Nat) : Spec := ⟨ωX (.ref (x.n 2 + 981)) [] [⟨x.n 2 + 981, tupOf M i, true⟩], fun Z Z Z => True⟩
noncomputable def lstS (i : Nat) : Spec := ⟨ωX (.ref (x.n 2 + 981)) [] [⟨x.n 2 + 981, lstOf M i (x.n 40), true⟩], fun Z Z Z => True⟩
theorem Rep.newOwn {M : List Ent} {sz : Nat} {h h' : Heap} {a : Addr} {o : Obj} (D : Rep h₀ mt F₀ F M sz h) (hK : ∀ b o, h.get? b = some o → h'.get? b = some o) (ha : h.get? a = none) (ho : h'.get? a = some o) :
    Rep h₀ mt F₀ F (⟨a, o, true⟩ :: M) h'.objs.size h' := by
  have z := D.behind (F' := F) (own := []) (own' := []) (idx := []) (N := [⟨a, o, true⟩]) (h' := h') List.nodup_nil rfl (fun Z Z e => e) (fun b o' e => hK _ _ (D.holds b o' e)) (fun b o' e Z => hK b o' e) (fun Z Z e => .inl e) rfl ωp
    (fun i e q => by
      cases i with
      | zero => cases q; exact .inr ⟨rfl, ha, ho, fun o' hF => by have := D.holds _ _ hF; rw [ha] at this; cases this⟩
      | succ i => cases i <;> cases q)
    (fun i j e e' q q' hne Z => by
      cases i with
      | zero => cases j with
        | zero => exact absurd rfl hne
        | succ j => cases j <;> cases q'
      | succ i => cases i <;> cases q)
  exact z
theorem sub981 {n : Nat} (h : 981 ≤ n) : ∃ z, n = z + 981 := ⟨n - 981, by omega⟩
theorem sub2050 {n : Nat} (h : 2050 ≤ n) : ∃ z, n = z + 2050 := ⟨n - 2050, by omega⟩
theorem can_tuple (hB : ∀ h, Holds F h → 981 ≤ h.objs.size) {d u : Nat} {g : Bool} {i : Nat} {l : Addr} {xs : Array Value} {k : Nat} {ow : Bool} (hsz : xs.size ≤ sizeLine) :
    CanV w s₀ h₀ mt F₀ (.call (.type "tuple") ⟨[.ref l], []⟩) d u g F [i] [some ⟨l, { cls := .type "list", data := .seq xs k }, ow⟩] (tupS i) := by
  intro M sz tk hsel h R ht D hR
  have hi : nth M i = some ⟨l, { cls := .type "list", data := .seq xs k }, ow⟩ := (List.cons.inj hsel).1
  have hl := D.at_ i _ hi
  refine node_of_wp (call_tuple_list (s := sto s₀ h tk) (l := l) (items := xs) (Q := fun v s' => R (.ok (.ret v)) s') (E := fun Z Z => False) ⟨_, hl, rfl, k, rfl⟩ (fun h' hk => ?_) hsz) (fun Z Z q => q) (fun Z Z q => q.elim)
  have hH : Holds F h' := fun a o e => hk _ _ (D.holds a o e)
  obtain ⟨z, hz⟩ := sub981 (hB h' hH)
  obtain ⟨t, rfl⟩ := sub2050 ht
  have ha : h.get? h'.objs.size = none := by
    cases q : h.get? h'.objs.size with
    | none => rfl
    | some o => exact absurd (Heap.lt_size (hk _ _ q)) (Nat.lt_irrefl _)
  have D' := D.newOwn (h' := h'.push { cls := .type "tuple", data := .seq xs }) (fun b o e => Heap.get?_push_of_some _ (hk b o e)) ha (Heap.get?_push_size _ rfl)
  have y := hR ⟨fun j => match j with | 0 => z + 1 | 1 => t | _ => z, fun Z => 0, fun Z => .none, fun Z => default, fun Z => true⟩ F (h'.push { cls := .type "tuple", data := .seq xs }) (fun Z Z e => e) trivial
  have et : tupOf M i = { cls := .type "tuple", data := .seq xs } := by unfold tupOf seqOf; rw [hi]
  simp only [tupS, et, updAll, appM] at y
  rw [Heap.size_push, hz] at D'
  rw [show z + 1 + 981 = z + 981 + 1 by omega] at y
  rw [hz]
  exact y D'
theorem can_list (hB : ∀ h, Holds F h → 981 ≤ h.objs.size) {d u : Nat} {g : Bool} {i : Nat} {l : Addr} {xs : Array Value} {k : Nat} {ow : Bool} (hsz : xs.size ≤ sizeLine) :
    CanV w s₀ h₀ mt F₀ (.call (.type "list") ⟨[.ref l], []⟩) d u g F [i] [some ⟨l, { cls := .type "list", data := .seq xs k }, ow⟩] (lstS i) := by
  intro M sz tk hsel h R ht D hR
  have hi : nth M i = some ⟨l, { cls := .type "list", data := .seq xs k }, ow⟩ := (List.cons.inj hsel).1
  have hl := D.at_ i _ hi
  refine node_of_wp (call_list_seq (s := sto s₀ h tk) (items := xs) (Q := fun v s' => R (.ok (.ret v)) s') (E := fun Z Z => False) l (.inl rfl) hl rfl rfl (fun h' c' hk hx => ?_) hsz) (fun Z Z q => q) (fun Z Z q => q.elim)
  have hH : Holds F h' := fun a o e => hk _ _ (D.holds a o e)
  obtain ⟨z, hz⟩ := sub981 (hB h' hH)
  obtain ⟨z2, hz2⟩ := sub981 (hB h D.holds)
  obtain ⟨t, rfl⟩ := sub2050 ht
  have ha : h.get? h.objs.size = none := by
    cases q : h.get? h.objs.size with
    | none => rfl
    | some o => exact absurd (Heap.lt_size q) (Nat.lt_irrefl _)
  have D' := D.newOwn (h' := h') hk ha hx
  have y := hR ⟨fun j => match j with | 0 => z | 1 => t | 2 => z2 | _ => c', fun Z => 0, fun Z => .none, fun Z => default, fun Z => true⟩ F h' (fun Z Z e => e) trivial
  have et : lstOf M i c' = { cls := .type "list", data := .seq xs c' } := by unfold lstOf seqOf; rw [hi]
  simp only [lstS, et, updAll, appM] at y
  rw [hz] at D'
  show R (.ok (.ret (.ref h.objs.size))) _
  rw [hz2] at D' ⊢
  exact y D'
end
open PySem.Spec
inductive PV where
  | bool (b : Bool) | int (i : Int) | empty | unspec | eof | char (k : Int) | pair (i : Int)
inductive T where
  | const (v : PV) | loc (n : Int) | glob (n : Int)
  | setLoc (n : Int) (t : T) | setGlob (n : Int) (t : T) | define (n : Int) (t : T)
  | ite (a b c : T)
  | lam (l p r : Int) (t : T) | lam0 (l r : Int) (t : T)
  | call (a b : T) | seq (a b : T) | prim1 (op : Int) (a : T) | prim2 (op : Int) (a b : T) | fix (n : Int) (a b : T)
section
variable (P : Params) (F : Gh)
def Inst (c a d : Nat) (kvs : List (PySem.Str × Nat × Value)) : Prop := F (ψ d) (dct P kvs) ∧ F (ψ a) (ins c (ψ d))
noncomputable def PVAt : Value → PV → Prop
  | v, .bool b => v = .bool b
  | v, .int i => ∃ t, v = .int i t
  | v, .empty => v = .ref 454
  | v, .unspec => v = .ref 457
  | v, .eof => v = .ref 460
  | v, .char k => ∃ a d kt t, v = ρ a ∧ Inst P F 520 a d [("code", kt, .int k t)]
  | v, .pair i => ∃ a d k1 k2 t, v = ρ a ∧ Inst P F 499 a d [("car", k1, .int i t), ("cdr", k2, .ref 454)]
def ListAt (l : Nat) (vs : List Value) : Prop := ∃ k, F (ψ l) (lstO vs k)
inductive NdC (a : Nat) (v : PV) : Prop | mk (d k : Nat) (x : Value) (p : PVAt P F x v) (h : Inst P F 66 a d [("value", k, x)])
inductive NdN (c : Nat) (s : PySem.Str) (a : Nat) (n : Int) : Prop | mk (d k t : Nat) (h : Inst P F c a d [(s, k, .int n t)])
inductive NdV (R : Nat → Prop) (cl : Nat) (s : PySem.Str) (a : Nat) (n : Int) : Prop | mk (d k1 k2 t c : Nat) (n1 : R c) (h : Inst P F cl a d [(s, k1, .int n t), ("value", k2, ρ c)])
inductive NdI (R1 R2 R3 : Nat → Prop) (a : Nat) : Prop | mk (d k1 k2 k3 c e f : Nat) (n1 : R1 c) (n2 : R2 e) (n3 : R3 f) (h : Inst P F 236 a d [("test", k1, ρ c), ("yes", k2, ρ e), ("no", k3, ρ f)])
inductive NdL (R : Nat → Prop) (a : Nat) (l p r : Int) : Prop | mk (d k1 k2 k3 k4 t1 t2 t3 c q : Nat) (n1 : R c) (x : ListAt F q [.int p t2]) (h : Inst P F 283 a d [("label", k1, .int l t1), ("params", k2, ρ q), ("rest", k3, .int r t3), ("body", k4, ρ c)])
inductive NdL0 (R : Nat → Prop) (a : Nat) (l r : Int) : Prop | mk (d k1 k2 k3 k4 t1 t3 c q : Nat) (n1 : R c) (x : ListAt F q []) (h : Inst P F 283 a d [("label", k1, .int l t1), ("params", k2, ρ q), ("rest", k3, .int r t3), ("body", k4, ρ c)])
inductive NdA (R1 R2 : Nat → Prop) (a : Nat) : Prop | mk (d k1 k2 c e q : Nat) (n1 : R1 c) (n2 : R2 e) (x : ListAt F q [ρ e]) (h : Inst P F 316 a d [("operator", k1, ρ c), ("operands", k2, ρ q)])
inductive NdS (R1 R2 : Nat → Prop) (a : Nat) : Prop | mk (d k c e q : Nat) (n1 : R1 c) (n2 : R2 e) (x : ListAt F q [ρ c, ρ e]) (h : Inst P F 349 a d [("items", k, ρ q)])
inductive NdP (R : Nat → Prop) (a : Nat) (op : Int) : Prop | mk (d k1 k2 t c q : Nat) (n1 : R c) (x : ListAt F q [ρ c]) (h : Inst P F 382 a d [("op", k1, .int op t), ("operands", k2, ρ q)])
inductive NdP2 (R1 R2 : Nat → Prop) (a : Nat) (op : Int) : Prop | mk (d k1 k2 t c e q : Nat) (n1 : R1 c) (n2 : R2 e) (x : ListAt F q [ρ c, ρ e]) (h : Inst P F 382 a d [("op", k1, .int op t), ("operands", k2, ρ q)])
inductive NdF (R1 R2 : Nat → Prop) (a : Nat) (n : Int) : Prop | mk (d k1 k2 k3 t c e q m : Nat) (n1 : R1 c) (n2 : R2 e) (x : ListAt F q [ρ c]) (y : ListAt F m [.int n t]) (h : Inst P F 415 a d [("numbers", k1, ρ m), ("lambdas", k2, ρ q), ("body", k3, ρ e)])
noncomputable def NodeAt : Nat → T → Prop
  | a, .const v => NdC P F a v
  | a, .loc n => NdN P F 85 "number" a n
  | a, .glob n => NdN P F 104 "symbol" a n
  | a, .setLoc n x => NdV P F (fun c => NodeAt c x) 137 "number" a n
  | a, .setGlob n x => NdV P F (fun c => NodeAt c x) 170 "symbol" a n
  | a, .define n x => NdV P F (fun c => NodeAt c x) 203 "symbol" a n
  | a, .ite x y z => NdI P F (fun c => NodeAt c x) (fun c => NodeAt c y) (fun c => NodeAt c z) a
  | a, .lam l p r x => NdL P F (fun c => NodeAt c x) a l p r
  | a, .lam0 l r x => NdL0 P F (fun c => NodeAt c x) a l r
  | a, .call x y => NdA P F (fun c => NodeAt c x) (fun c => NodeAt c y) a
  | a, .seq x y => NdS P F (fun c => NodeAt c x) (fun c => NodeAt c y) a
  | a, .prim1 op x => NdP P F (fun c => NodeAt c x) a op
  | a, .prim2 op x y => NdP2 P F (fun c => NodeAt c x) (fun c => NodeAt c y) a op
  | a, .fix n x y => NdF P F (fun c => NodeAt c x) (fun c => NodeAt c y) a n
end
section
variable {P : Params} {F F' : Gh}
theorem Inst.mono {c a d : Nat} {kvs : List (PySem.Str × Nat × Value)} (l : F.le F') (h : Inst P F c a d kvs) : Inst P F' c a d kvs := ⟨l _ _ h.1, l _ _ h.2⟩
theorem ListAt.mono {q : Nat} {vs : List Value} (l : F.le F') (h : ListAt F q vs) : ListAt F' q vs := let ⟨k, e⟩ := h; ⟨k, l _ _ e⟩
theorem PVAt.mono (l : F.le F') {p : PV} {v : Value} (h : PVAt P F v p) : PVAt P F' v p := by
  cases p with
  | char k => obtain ⟨a, d, kt, t, e, h⟩ := h; exact ⟨a, d, kt, t, e, h.mono l⟩
  | pair i => obtain ⟨a, d, k1, k2, t, e, h⟩ := h; exact ⟨a, d, k1, k2, t, e, h.mono l⟩
  | _ => exact h
theorem NodeAt.mono (l : F.le F') {t : T} : ∀ {a : Nat}, NodeAt P F a t → NodeAt P F' a t := by
  induction t with
  | const v => intro a h; cases h with | mk d k x p h => exact ⟨d, k, x, p.mono l, h.mono l⟩
  | loc n => intro a h; cases h with | mk d k t h => exact ⟨d, k, t, h.mono l⟩
  | glob n => intro a h; cases h with | mk d k t h => exact ⟨d, k, t, h.mono l⟩
  | setLoc n x i => intro a h; cases h with | mk d k1 k2 t c n h => exact ⟨d, k1, k2, t, c, i n, h.mono l⟩
  | setGlob n x i => intro a h; cases h with | mk d k1 k2 t c n h => exact ⟨d, k1, k2, t, c, i n, h.mono l⟩
  | define n x i => intro a h; cases h with | mk d k1 k2 t c n h => exact ⟨d, k1, k2, t, c, i n, h.mono l⟩
  | ite x y z i1 i2 i3 => intro a h; cases h with | mk d k1 k2 k3 c e f n1 n2 n3 h => exact ⟨d, k1, k2, k3, c, e, f, i1 n1, i2 n2, i3 n3, h.mono l⟩
  | lam a b c x i => intro a h; cases h with | mk d k1 k2 k3 k4 t1 t2 t3 c q n x h => exact ⟨d, k1, k2, k3, k4, t1, t2, t3, c, q, i n, x.mono l, h.mono l⟩
  | lam0 a b x i => intro a h; cases h with | mk d k1 k2 k3 k4 t1 t3 c q n x h => exact ⟨d, k1, k2, k3, k4, t1, t3, c, q, i n, x.mono l, h.mono l⟩
  | call x y i1 i2 => intro a h; cases h with | mk d k1 k2 c e q n1 n2 x h => exact ⟨d, k1, k2, c, e, q, i1 n1, i2 n2, x.mono l, h.mono l⟩
  | seq x y i1 i2 => intro a h; cases h with | mk d k c e q n1 n2 x h => exact ⟨d, k, c, e, q, i1 n1, i2 n2, x.mono l, h.mono l⟩
  | prim1 op x i => intro a h; cases h with | mk d k1 k2 t c q n x h => exact ⟨d, k1, k2, t, c, q, i n, x.mono l, h.mono l⟩
  | prim2 op x y i1 i2 => intro a h; cases h with | mk d k1 k2 t c e q n1 n2 x h => exact ⟨d, k1, k2, t, c, e, q, i1 n1, i2 n2, x.mono l, h.mono l⟩
  | fix n x y i1 i2 => intro a h; cases h with | mk d k1 k2 k3 t c e q m n1 n2 x y h => exact ⟨d, k1, k2, k3, t, c, e, q, m, i1 n1, i2 n2, x.mono l, y.mono l, h.mono l⟩
def DatAt (F : Gh) (v : Value) (d : PyData) : Prop := ∀ h, Holds F h → ∃ as, Reads h v d as
def DatAll (F : Gh) (vs : List Value) (ds : List PyData) : Prop := ∀ h, Holds F h → ∃ as, ReadsAll h vs ds as
theorem Holds.le {h : Heap} (l : F.le F') (H : Holds F' h) : Holds F h := fun a o e => H a o (l a o e)
theorem DatAt.mono {v : Value} {d : PyData} (l : F.le F') (h : DatAt F v d) : DatAt F' v d := fun x H => h x (H.le l)
theorem DatAt.bool (b : Bool) : DatAt F (.bool b) (.bool b) := fun Z Z => ⟨_, .bool b⟩
theorem DatAt.int (i : Int) (t : Nat) : DatAt F (.int i t) (.int i) := fun Z Z => ⟨_, .int i t⟩
theorem DatAt.str (s : PySem.Str) (t : Nat) : DatAt F (.str s t) (.str s) := fun Z Z => ⟨_, .str s t⟩
theorem DatAll.nil : DatAll F [] [] := fun Z Z => ⟨_, .nil⟩
theorem DatAll.cons {v : Value} {vs : List Value} {d : PyData} {ds : List PyData} (h : DatAt F v d) (r : DatAll F vs ds) : DatAll F (v :: vs) (d :: ds) := fun x H => by
  obtain ⟨as, h1⟩ := h x H
  obtain ⟨bs, h2⟩ := r x H
  exact ⟨_, .cons h1 h2⟩
theorem DatAt.tup {a k : Nat} {xs : Array Value} {ds : List PyData} (h : F a { cls := .type "tuple", data := .seq xs k }) (r : DatAll F xs.toList ds) : DatAt F (.ref a) (.tuple ds) := fun x H => by
  obtain ⟨as, h1⟩ := r x H
  exact ⟨_, .tuple (H _ _ h) rfl rfl h1⟩
end
noncomputable def plainD : PV → PyData
  | .bool b => .bool b
  | .int i => .int i
  | .empty => .str "empty"
  | .unspec => .str "unspecified"
  | .eof => .str "eof"
  | .char k => .tuple [.str "char", .int k]
  | .pair i => .tuple [.str "pair", .int i, .str "empty"]
noncomputable def toldD : T → PyData
  | .const v => .tuple [.int 0, .tuple [plainD v], .tuple []]
  | .loc n => .tuple [.int 1, .tuple [.int n], .tuple []]
  | .glob n => .tuple [.int 2, .tuple [.int n], .tuple []]
  | .setLoc n t => .tuple [.int 3, .tuple [.int n], .tuple [toldD t]]
  | .setGlob n t => .tuple [.int 4, .tuple [.int n], .tuple [toldD t]]
  | .define n t => .tuple [.int 5, .tuple [.int n], .tuple [toldD t]]
  | .ite a b c => .tuple [.int 6, .tuple [], .tuple [toldD a, toldD b, toldD c]]
  | .lam l p r t => .tuple [.int 7, .tuple [.int l, .tuple [.int p], .int r], .tuple [toldD t]]
  | .lam0 l r t => .tuple [.int 7, .tuple [.int l, .tuple [], .int r], .tuple [toldD t]]
  | .call a b => .tuple [.int 8, .tuple [], .tuple [toldD a, toldD b]]
  | .seq a b => .tuple [.int 9, .tuple [], .tuple [toldD a, toldD b]]
  | .prim1 op a => .tuple [.int 10, .tuple [.int op], .tuple [toldD a]]
  | .prim2 op a b => .tuple [.int 10, .tuple [.int op], .tuple [toldD a, toldD b]]
  | .fix n a b => .tuple [.int 11, .tuple [.tuple [.int n]], .tuple [toldD a, toldD b]]
noncomputable def hT : T → Nat
  | .const _ => 0 | .loc _ => 0 | .glob _ => 0
  | .setLoc _ t => hT t + 1 | .setGlob _ t => hT t + 1 | .define _ t => hT t + 1
  | .ite a b c => max (hT a) (max (hT b) (hT c)) + 1
  | .lam _ _ _ t => hT t + 1 | .lam0 _ _ t => hT t + 1
  | .call a b => max (hT a) (hT b) + 1 | .seq a b => max (hT a) (hT b) + 1
  | .prim1 _ a => hT a + 1 | .prim2 _ a b => max (hT a) (hT b) + 1 | .fix _ a b => max (hT a) (hT b) + 1
noncomputable def ansOf (z t : Nat) (n : Nat → Nat) (i : Int) (s : PySem.Str) (b : Bool) : Ans := ⟨fun j => match j with | 0 => z | 1 => t | j => n j, fun Z => i, fun Z => .none, fun Z => s, fun Z => b⟩
noncomputable def rS (Q : Gh → Gh → Nat → Prop) : Spec := ⟨ωX (.ref (x.n 2 + 981)) [] [], fun F F' x => Q F F' (x.n 2)⟩
noncomputable def bS (Q : Gh → Gh → Bool → Prop) : Spec := ⟨ωX (.bool (x.b 0)) [] [], fun F F' x => Q F F' (x.b 0)⟩
noncomputable def iS (Q : Gh → Gh → Int → Prop) : Spec := ⟨ωX (.int (x.i 0) (x.n 50)) [] [], fun F F' x => Q F F' (x.i 0)⟩
noncomputable def sS (Q : Gh → Gh → PySem.Str → Prop) : Spec := ⟨ωX (.str (x.s 0) (x.n 50)) [] [], fun F F' x => Q F F' (x.s 0)⟩
noncomputable def vS (v : Value) : Spec := ⟨ωX v [] [], fun Z Z Z => True⟩
section
variable {P : Params} {F : Gh} {w : World} {s₀ : Shared} {h₀ : Heap} {mt : List Addr} {F₀ : Gh} {c : Code} {d u : Nat} {g : Bool} {Post : Gh → Value → List (Addr × Obj) → Nat → Nat → Nat → Nat → Prop}
theorem canV_plain (b : BaseIn P F) {s : Spec} (hc : Calls w s₀ F [] c d u g Post)
    (hs : ∀ v F' z tk z' t', F.le F' → Post F' v [] z tk (ψ z') (t' + 2050) → ∃ x, (∀ M, s.p x M z tk = ⟨.ok (.ret v), [], [], z' + 981, t' + 2050⟩) ∧ s.P F F' x) : CanV w s₀ h₀ mt F₀ c d u g F [] [] s := by
  refine canV_of_calls (idx := []) hc List.nodup_nil (fun Z Z => rfl) (fun v F' own' z tk z' tk' M l hm hP h1 h2 Z => ?_) fun h H => b.size H
  obtain rfl : own' = [] := by simpa using hm
  obtain ⟨z1, rfl⟩ := sub981 h1
  obtain ⟨t1, rfl⟩ := sub2050 h2
  obtain ⟨x, e, y⟩ := hs v F' z tk z1 t1 l hP
  exact ⟨x, [], e M, y, fun i e q => by cases q⟩
theorem can_ref (b : BaseIn P F) {Q : Gh → Gh → Nat → Prop} (hc : Calls w s₀ F [] c d u g fun F' v Z Z Z Z Z => ∃ r, v = ρ r ∧ Q F F' r) : CanV w s₀ h₀ mt F₀ c d u g F [] [] (rS Q) :=
  canV_plain b hc fun v F' z tk z' t' Z hP => by
    obtain ⟨r, rfl, q⟩ := hP
    exact ⟨ansOf z' t' (fun Z => r) 0 default true, fun Z => rfl, q⟩
theorem can_bool (b : BaseIn P F) {Q : Gh → Gh → Bool → Prop} (hc : Calls w s₀ F [] c d u g fun F' v Z Z Z Z Z => ∃ r, v = .bool r ∧ Q F F' r) : CanV w s₀ h₀ mt F₀ c d u g F [] [] (bS Q) :=
  canV_plain b hc fun v F' z tk z' t' Z hP => by
    obtain ⟨r, rfl, q⟩ := hP
    exact ⟨ansOf z' t' (fun Z => 0) 0 default r, fun Z => rfl, q⟩
theorem can_int (b : BaseIn P F) {Q : Gh → Gh → Int → Prop} (hc : Calls w s₀ F [] c d u g fun F' v Z Z Z Z Z => ∃ r t, v = .int r t ∧ Q F F' r) : CanV w s₀ h₀ mt F₀ c d u g F [] [] (iS Q) :=
  canV_plain b hc fun v F' z tk z' t' Z hP => by
    obtain ⟨r, t, rfl, q⟩ := hP
    exact ⟨ansOf z' t' (fun Z => t) r default true, fun Z => rfl, q⟩
theorem can_str (b : BaseIn P F) {Q : Gh → Gh → PySem.Str → Prop} (hc : Calls w s₀ F [] c d u g fun F' v Z Z Z Z Z => ∃ r t, v = .str r t ∧ Q F F' r) : CanV w s₀ h₀ mt F₀ c d u g F [] [] (sS Q) :=
  canV_plain b hc fun v F' z tk z' t' Z hP => by
    obtain ⟨r, t, rfl, q⟩ := hP
    exact ⟨ansOf z' t' (fun Z => t) 0 r true, fun Z => rfl, q⟩
theorem can_val (b : BaseIn P F) {v : Value} (hc : Calls w s₀ F [] c d u g fun Z v' Z Z Z Z Z => v' = v) : CanV w s₀ h₀ mt F₀ c d u g F [] [] (vS v) :=
  canV_plain b hc fun v' F' z tk z' t' Z hP => by
    obtain rfl := hP
    exact ⟨ansOf z' t' (fun Z => 0) 0 default true, fun Z => rfl, trivial⟩
theorem Calls.mono {own : List (Addr × Obj)} {Post' : Gh → Value → List (Addr × Obj) → Nat → Nat → Nat → Nat → Prop} (h : Calls w s₀ F own c d u g Post) (x : ∀ F' v o a b c d, Post F' v o a b c d → Post' F' v o a b c d) : Calls w s₀ F own c d u g Post' :=
  fun h' tk R ht hF ho hn hR => h h' tk R ht hF ho hn fun v F' h'' tk' own' a1 a2 a3 a4 a5 a6 a7 => hR v F' h'' tk' own' a1 a2 a3 a4 a5 a6 (x _ _ _ _ _ _ _ a7)
end
inductive AllF (F : Gh) : List (Addr × Obj) → Prop
  | nil : AllF F []
  | cons {a : Addr} {o : Obj} {r : List (Addr × Obj)} (h : F a o) (t : AllF F r) : AllF F ((a, o) :: r)
theorem AllF.mem {F : Gh} {l : List (Addr × Obj)} (h : AllF F l) : ∀ p ∈ l, F p.1 p.2 := by
  induction h with
  | nil => intro p q; cases q
  | cons h _ ih =>
    intro p q
    cases q with
    | head => exact h
    | tail _ q => exact ih p q
def Spec.at (s : Spec) (x : Ans) (F : Gh) : Prop := ∃ F1 F2 : Gh, F2.le F ∧ s.P F1 F2 x
def HA (A B : Gh → Prop) (F : Gh) : Prop := A F ∧ B F
def HT (_ : Gh) : Prop := True
theorem pX {A : Prop} {F : Gh} (h : ∃ F1 F2 : Gh, F2.le F ∧ A) : A := by cases h with | mk _ _ h => exact h.2
theorem pY {s : Spec} {x : Ans} {F : Gh} {X : Prop} (h : s.at x F) (k : ∀ F1 F2 : Gh, F2.le F → s.P F1 F2 x → X) : X := by cases h with | mk A B h => exact k A B h.1 h.2
theorem dl {d K k : Nat} (h : d + K < 1000) (e : Nat.ble k K = true := by rfl) : d + k < recursionLimit := lt1 h e
section
variable (w : World) (s₀ : Shared) (h₀ : Heap) (P : Params) (F₀ : Gh) (Q : Gh → Value → Prop)
noncomputable def FG : (Gh → Prop) → List (List Nat) → List Spec → (Nat → Ans) → Nat → View → Prop
  | H, ss, sp, ξ, i, .dep d o => d < recursionLimit ∧ FG H ss sp ξ i o
  | H, ss, sp, ξ, i, .req c d u g L o => match sp with
    | [] => False
    | s :: sp => (∀ F', F₀.le F' → BaseIn P F' → H F' → CanV w s₀ h₀ [] F₀ c d u g F' (hd1 ss) L s) ∧ FG (HA H (s.at (ξ i))) (tl1 ss) sp ξ (i + 1) o
  | H, _, _, _, _, .fin r L _ _ => match r with
    | .ok (.ret v) => ∀ F', F₀.le F' → BaseIn P F' → H F' → Q (addF [] F' L) v
    | _ => False
  | _, _, _, _, _, _ => False
end
section
variable {w : World} {s₀ : Shared} {h₀ : Heap} {P : Params} {F₀ : Gh} {Q : Gh → Value → Prop}
theorem FG.good {QA : Gh → Code → Nat → Nat → Bool → List (Option Ent) → Nat → Nat → Prop} : ∀ (V : View) (H : Gh → Prop) (ss : List (List Nat)) (sp : List Spec) (ξ ξ' : Nat → Ans) (i : Nat) (F1 : Gh), (∀ j, ξ' j = ξ (i + j)) → F₀.le F1 → BaseIn P F1 → (∀ G G' : Gh, G.le G' → H G → H G') → H F1 → FG w s₀ h₀ P F₀ Q H ss sp ξ i V →
    GoodV w s₀ h₀ [] F₀ (fun F' r L sz' tk' => ∃ (v : Value) (own' : List (Addr × Obj)), r = .ok (.ret v) ∧ own'.map (·.1) = ([] : List (Addr × Obj)).map (·.1) ∧ (∀ p ∈ own', ∃ q, some (⟨p.1, p.2, q⟩ : Ent) ∈ L) ∧ Q (addF (([] : List (Addr × Obj)).map (·.1)) F' L) v) QA ss sp ξ' F1 V
  | .dep d o, H, ss, sp, ξ, ξ', i, F1, e, l, b, m, h, g => ⟨g.1, FG.good o H ss sp ξ ξ' i F1 e l b m h g.2⟩
  | .req c d u gg L o, H, ss, [], ξ, ξ', i, F1, e, l, b, m, h, g => g.elim
  | .req c d u gg L o, H, ss, s :: sp, ξ, ξ', i, F1, e, l, b, m, h, g => ⟨g.1 F1 l b h, fun F' l' p =>
      FG.good o (HA H (s.at (ξ i))) (tl1 ss) sp ξ (fun j => ξ' (j + 1)) (i + 1) F' (fun j => by rw [e, Nat.add_assoc, Nat.add_comm 1 j]) (fun a o q => l' a o (l a o q)) (b.le l')
        (fun G G' q x => ⟨m G G' q x.1, let ⟨A, B, y, z⟩ := x.2; ⟨A, B, fun a o q' => q a o (y a o q'), z⟩⟩) ⟨m _ _ l' h, F1, F', fun Z Z q => q, e 0 ▸ p⟩ g.2⟩
  | .fin r L sz tk, H, ss, sp, ξ, ξ', i, F1, e, l, b, m, h, g => by
    cases r with
    | error _ => exact g.elim
    | ok f =>
      cases f with
      | ret v => exact ⟨v, [], rfl, rfl, ωp, g F1 l b h⟩
      | _ => exact g.elim
  | .agn .., _, _, _, _, _, _, _, _, _, _, _, _, g => g.elim
  | .bad .., _, _, _, _, _, _, _, _, _, _, _, _, g => g.elim
theorem flat {F : Gh} (hb : BaseIn P F) (hw : w.params = P) {fz : List (Addr × Obj)} (sp : List Spec) {c : Code} {d u n : Nat} {orc : List Nat} {pl : List (Ans → List Ent → Nat → Nat → Resp)} {ss : List (List Nat)} {Vw : Nat → Nat → (Nat → Ans) → View} (hp : sp.map Spec.p = pl) (hf : AllF F fz)
    (E : ∀ {z tk : Nat} {ξ : Nat → Ans}, TC P z tk d u ξ n c (entFz fz) orc pl ss (Vw z tk ξ)) (G : ∀ (h : Heap) (z tk : Nat) (ξ : Nat → Ans), h.objs.size = z + 981 → FG w s₀ h P F Q HT ss sp ξ 0 (Vw z tk ξ)) :
    Calls w s₀ F [] c d u true fun F' v Z Z Z Z Z => Q F' v :=
  calls_of_run (okay hb w hw) (own := []) (fz := fz) hp (fun Z H => hb.size H) hf.mem (fun Z Z Z => E) fun h z tk ξ hz => FG.good _ _ _ _ _ _ 0 F (fun j => by rw [Nat.zero_add]) (fun Z Z e => e) hb (fun Z Z Z Z => trivial) trivial (G h z tk ξ hz)
end
def PlainPost (p : PV) (F' : Gh) (v : Value) : Prop := match p with
  | .bool b => v = .bool b
  | .int i => ∃ t, v = .int i t
  | .empty => ∃ t, v = .str "empty" t
  | .unspec => ∃ t, v = .str "unspecified" t
  | .eof => ∃ t, v = .str "eof" t
  | p => ∃ r, v = ρ r ∧ DatAt F' (ρ r) (plainD p)
inductive ToldPost (D : PyData) (F' : Gh) (v : Value) : Prop
  | mk (r t r1 r2 : Nat) (k : Int) (own kids : PyData) (e : v = ρ r) (d : D = .tuple [.int k, own, kids]) (f : F' (ψ r) (tupO [.int k t, ρ r1, ρ r2])) (o : DatAt F' (ρ r1) own) (q : DatAt F' (ρ r2) kids)
theorem ToldPost.dat {D : PyData} {F' : Gh} {v : Value} (h : ToldPost D F' v) : ∃ r, v = ρ r ∧ DatAt F' (ρ r) D := by
  cases h with | mk r _ _ _ _ _ _ e d f o k => exact ⟨r, e, d ▸ DatAt.tup f (.cons (.int _ _) (.cons o (.cons k .nil)))⟩
theorem shown {F : Gh} {L : List (Option Ent)} {a : Addr} {o : Obj} {w : Bool} (h : some (⟨a, o, w⟩ : Ent) ∈ L) : addF [] F L a o := .inr ⟨by simp, w, h⟩
theorem addF_le {mt : List Addr} {F : Gh} {L : List (Option Ent)} : F.le (addF mt F L) := fun Z Z e => .inl e
theorem sizeLine_lt {n : Nat} (h : n ≤ 1000) : n ≤ sizeLine := Nat.le_trans h δ
section
variable {H : Gh → Prop} {c : Code} {d u : Nat}
theorem γT {g : Bool} {i : Nat} {l : Addr} {xs : Array Value} {k : Nat} {ow : Bool} (hs : xs.size ≤ 1000 := by simp) : ∀ F', F.le F' → BaseIn P F' → H F' → CanV w s₀ h₀ mt F₀ (.call (.type "tuple") ⟨[.ref l], []⟩) d u g F' [i] [some ⟨l, { cls := .type "list", data := .seq xs k }, ow⟩] (tupS i) :=
  fun Z Z b Z => can_tuple (fun Z H => b.size H) (sizeLine_lt hs)
theorem γL {g : Bool} {i : Nat} {l : Addr} {xs : Array Value} {k : Nat} {ow : Bool} (hs : xs.size ≤ 1000 := by simp) : ∀ F', F.le F' → BaseIn P F' → H F' → CanV w s₀ h₀ mt F₀ (.call (.type "list") ⟨[.ref l], []⟩) d u g F' [i] [some ⟨l, { cls := .type "list", data := .seq xs k }, ow⟩] (lstS i) :=
  fun Z Z b Z => can_list (fun Z H => b.size H) (sizeLine_lt hs)
theorem γR {D : PyData} (h : ∀ F', F.le F' → Cs w s₀ F' c d u fun F' v => ToldPost D F' v) : ∀ F', F.le F' → BaseIn P F' → H F' → CanV w s₀ h₀ mt F₀ c d u true F' [] [] (rS fun Z F' r => DatAt F' (ρ r) D) :=
  fun F l b Z => can_ref b ((h F l).mono fun Z Z Z Z Z Z Z h => h.dat)
theorem γC {v : Value} (h : ∀ F', F.le F' → Cs w s₀ F' c d u fun Z v' => v' = v) : ∀ F', F.le F' → BaseIn P F' → H F' → CanV w s₀ h₀ mt F₀ c d u true F' [] [] (vS v) :=
  fun F l b Z => can_val b (h F l)
theorem pZ {D : PyData} {x : Ans} {mt : List Addr} {L : List (Option Ent)} (h : (rS fun Z F' r => DatAt F' (ρ r) D).at x F) : DatAt (addF mt F L) (.ref (x.n 2 + 981)) D := pY h fun Z Z l q => DatAt.mono addF_le (DatAt.mono l q)
end
section
variable {P : Params} {F : Gh} {w : World} {s₀ : Shared}
theorem told_cbool_c (b : Bool) (ku da a : Nat) (hb : BaseIn P F) (hw : w.params = P) (d0 u0 : Nat) (hd : d0 + 2 < 1000) (f0 : F (ψ da) (dct P [("value", ku, .bool b)])) (f1 : F (ψ a) (ins 66 (ψ da))) (Ip : hC 959 [.bool b] 1 3 fun F' v => ∃ r, v = .bool r ∧ r = b) : χK 969 [ρ a] fun F' v => ToldPost (.tuple [.int 0, .tuple [.bool b], .tuple []]) F' v :=
  flat hb hw [bS fun Z Z r => r = b, tupS 2, tupS 3] rfl (φf f0 f1) told_cbool fun h Z Z ξ Z => ⟨dl hd, fun F0 l00 b0 Z => can_bool b0 (Ip F0 l00), γT, dl hd, γT, fun Z Z Z h3 => ⟨_, _, _, _, _, _, _, rfl, rfl, σ0, (DatAt.tup σ1 (.cons (by rw [show (ξ 0).b 0 = b from (pX h3.1.1.2)]; exact DatAt.bool b) .nil)), (DatAt.tup σ2 .nil)⟩⟩
theorem told_cint_c (ti : Nat) (i : Int) (ku da a : Nat) (hb : BaseIn P F) (hw : w.params = P) (d0 u0 : Nat) (hd : d0 + 2 < 1000) (f0 : F (ψ da) (dct P [("value", ku, .int i ti)])) (f1 : F (ψ a) (ins 66 (ψ da))) (Ip : hC 959 [.int i ti] 1 3 fun F' v => ∃ r t, v = .int r t ∧ r = i) : χK 969 [ρ a] fun F' v => ToldPost (.tuple [.int 0, .tuple [.int i], .tuple []]) F' v :=
  flat hb hw [iS fun Z Z r => r = i, tupS 2, tupS 3] rfl (φf f0 f1) told_cint fun h Z Z ξ Z => ⟨dl hd, fun F0 l00 b0 Z => can_int b0 (Ip F0 l00), γT, dl hd, γT, fun Z Z Z h3 => ⟨_, _, _, _, _, _, _, rfl, rfl, σ0, (DatAt.tup σ1 (.cons (by rw [show (ξ 0).i 0 = i from (pX h3.1.1.2)]; exact DatAt.int i _) .nil)), (DatAt.tup σ2 .nil)⟩⟩
theorem told_cstr_c (v ku da a : Nat) (hb : BaseIn P F) (hw : w.params = P) (d0 u0 : Nat) (hd : d0 + 2 < 1000) (f0 : F (ψ da) (dct P [("value", ku, .ref v)])) (f1 : F (ψ a) (ins 66 (ψ da))) {x : PySem.Str} (Ip : hC 959 [.ref v] 1 3 fun F' v => ∃ r t, v = .str r t ∧ r = x) : χK 969 [ρ a] fun F' v => ToldPost (.tuple [.int 0, .tuple [.str x], .tuple []]) F' v :=
  flat hb hw [sS fun Z Z r => r = x, tupS 2, tupS 3] rfl (φf f0 f1) told_cstr fun h Z Z ξ Z => ⟨dl hd, fun F0 l00 b0 Z => can_str b0 (Ip F0 l00), γT, dl hd, γT, fun Z Z Z h3 => ⟨_, _, _, _, _, _, _, rfl, rfl, σ0, (DatAt.tup σ1 (.cons (by rw [show (ξ 0).s 0 = x from (pX h3.1.1.2)]; exact DatAt.str x _) .nil)), (DatAt.tup σ2 .nil)⟩⟩
theorem told_cref_c (v ku da a : Nat) (hb : BaseIn P F) (hw : w.params = P) (d0 u0 : Nat) (hd : d0 + 2 < 1000) (f0 : F (ψ da) (dct P [("value", ku, .ref v)])) (f1 : F (ψ a) (ins 66 (ψ da))) {D : PyData} (Ip : hC 959 [.ref v] 1 3 fun F' v => ∃ r, v = ρ r ∧ DatAt F' (ρ r) D) : χK 969 [ρ a] fun F' v => ToldPost (.tuple [.int 0, .tuple [D], .tuple []]) F' v :=
  flat hb hw [rS fun Z F' r => DatAt F' (ρ r) D, tupS 2, tupS 3] rfl (φf f0 f1) told_cref fun h Z Z Z Z => ⟨dl hd, fun F0 l00 b0 Z => can_ref b0 (Ip F0 l00), γT, dl hd, γT, fun Z Z Z h3 => ⟨_, _, _, _, _, _, _, rfl, rfl, σ0, (DatAt.tup σ1 (.cons (pZ h3.1.1.2) .nil)), (DatAt.tup σ2 .nil)⟩⟩
theorem told_loc_c (ti : Nat) (i : Int) (kM da a : Nat) (hb : BaseIn P F) (hw : w.params = P) (d0 u0 : Nat) (hd : d0 + 2 < 1000) (f0 : F (ψ da) (dct P [("number", kM, .int i ti)])) (f1 : F (ψ a) (ins 85 (ψ da))) : χK 969 [ρ a] fun F' v => ToldPost (.tuple [.int 1, .tuple [.int i], .tuple []]) F' v :=
  flat hb hw [tupS 1, tupS 3] rfl (φf f0 f1) told_loc fun h Z Z Z Z => ⟨dl hd, γT, dl hd, γT, fun Z Z Z Z => ⟨_, _, _, _, _, _, _, rfl, rfl, σ0, (DatAt.tup σ1 (.cons (.int _ _) .nil)), (DatAt.tup σ2 .nil)⟩⟩
theorem told_glob_c (ti : Nat) (i : Int) (kE da a : Nat) (hb : BaseIn P F) (hw : w.params = P) (d0 u0 : Nat) (hd : d0 + 2 < 1000) (f0 : F (ψ da) (dct P [("symbol", kE, .int i ti)])) (f1 : F (ψ a) (ins 104 (ψ da))) : χK 969 [ρ a] fun F' v => ToldPost (.tuple [.int 2, .tuple [.int i], .tuple []]) F' v :=
  flat hb hw [tupS 0, tupS 3] rfl (φf f0 f1) told_glob fun h Z Z Z Z => ⟨dl hd, γT, dl hd, γT, fun Z Z Z Z => ⟨_, _, _, _, _, _, _, rfl, rfl, σ0, (DatAt.tup σ1 (.cons (.int _ _) .nil)), (DatAt.tup σ2 .nil)⟩⟩
theorem told_setLoc_c (c ti : Nat) (i : Int) (kM ku da a : Nat) (hb : BaseIn P F) (hw : w.params = P) (d0 u0 : Nat) (hd : d0 + 2 < 1000) (f0 : F (ψ da) (dct P [("number", kM, .int i ti), ("value", ku, ρ c)])) (f1 : F (ψ a) (ins 137 (ψ da))) {Dc : PyData} (Ic : hC 969 [ρ c] 2 6 fun F' v => ToldPost Dc F' v) : χK 969 [ρ a] fun F' v => ToldPost (.tuple [.int 3, .tuple [.int i], .tuple [Dc]]) F' v :=
  flat hb hw [tupS 1, rS fun Z F' r => DatAt F' (ρ r) Dc, tupS 3] rfl (φf f0 f1) told_setLoc fun h Z Z Z Z => ⟨dl hd, γT, dl hd, γR Ic, γT, fun Z Z Z h3 => ⟨_, _, _, _, _, _, _, rfl, rfl, σ0, (DatAt.tup σ1 (.cons (.int _ _) .nil)), (DatAt.tup σ2 (.cons (pZ h3.1.2) .nil))⟩⟩
theorem told_setGlob_c (c ti : Nat) (i : Int) (kE ku da a : Nat) (hb : BaseIn P F) (hw : w.params = P) (d0 u0 : Nat) (hd : d0 + 2 < 1000) (f0 : F (ψ da) (dct P [("symbol", kE, .int i ti), ("value", ku, ρ c)])) (f1 : F (ψ a) (ins 170 (ψ da))) {Dc : PyData} (Ic : hC 969 [ρ c] 2 6 fun F' v => ToldPost Dc F' v) : χK 969 [ρ a] fun F' v => ToldPost (.tuple [.int 4, .tuple [.int i], .tuple [Dc]]) F' v :=
  flat hb hw [tupS 0, rS fun Z F' r => DatAt F' (ρ r) Dc, tupS 3] rfl (φf f0 f1) told_setGlob fun h Z Z Z Z => ⟨dl hd, γT, dl hd, γR Ic, γT, fun Z Z Z h3 => ⟨_, _, _, _, _, _, _, rfl, rfl, σ0, (DatAt.tup σ1 (.cons (.int _ _) .nil)), (DatAt.tup σ2 (.cons (pZ h3.1.2) .nil))⟩⟩
theorem told_define_c (c ti : Nat) (i : Int) (kE ku da a : Nat) (hb : BaseIn P F) (hw : w.params = P) (d0 u0 : Nat) (hd : d0 + 2 < 1000) (f0 : F (ψ da) (dct P [("symbol", kE, .int i ti), ("value", ku, ρ c)])) (f1 : F (ψ a) (ins 203 (ψ da))) {Dc : PyData} (Ic : hC 969 [ρ c] 2 6 fun F' v => ToldPost Dc F' v) : χK 969 [ρ a] fun F' v => ToldPost (.tuple [.int 5, .tuple [.int i], .tuple [Dc]]) F' v :=
  flat hb hw [tupS 0, rS fun Z F' r => DatAt F' (ρ r) Dc, tupS 3] rfl (φf f0 f1) told_define fun h Z Z Z Z => ⟨dl hd, γT, dl hd, γR Ic, γT, fun Z Z Z h3 => ⟨_, _, _, _, _, _, _, rfl, rfl, σ0, (DatAt.tup σ1 (.cons (.int _ _) .nil)), (DatAt.tup σ2 (.cons (pZ h3.1.2) .nil))⟩⟩
theorem told_ite_c (c e f ji jl jp da a : Nat) (hb : BaseIn P F) (hw : w.params = P) (d0 u0 : Nat) (hd : d0 + 2 < 1000) (f0 : F (ψ da) (dct P [("test", ji, ρ c), ("yes", jl, ρ e), ("no", jp, ρ f)])) (f1 : F (ψ a) (ins 236 (ψ da))) {Dc : PyData} (Ic : hC 969 [ρ c] 2 6 fun F' v => ToldPost Dc F' v) {De : PyData} (Ie : hC 969 [ρ e] 2 6 fun F' v => ToldPost De F' v) {Df : PyData} (If : hC 969 [ρ f] 2 6 fun F' v => ToldPost Df F' v) : χK 969 [ρ a] fun F' v => ToldPost (.tuple [.int 6, .tuple [], .tuple [Dc, De, Df]]) F' v :=
  flat hb hw [tupS 2, rS fun Z F' r => DatAt F' (ρ r) Dc, rS fun Z F' r => DatAt F' (ρ r) De, rS fun Z F' r => DatAt F' (ρ r) Df, tupS 3] rfl (φf f0 f1) told_ite fun h Z Z Z Z => ⟨dl hd, γT, dl hd, γR Ic, γR Ie, γR If, γT, fun Z Z Z h5 => ⟨_, _, _, _, _, _, _, rfl, rfl, σ0, (DatAt.tup σ1 .nil), (DatAt.tup σ2 (.cons (pZ h5.1.1.1.2) (.cons (pZ h5.1.1.2) (.cons (pZ h5.1.2) .nil))))⟩⟩
theorem told_lam_c (c tp : Nat) (p : Int) (el l ti : Nat) (i : Int) (tr : Nat) (r : Int) (jc kV jg kP da a : Nat) (hb : BaseIn P F) (hw : w.params = P) (d0 u0 : Nat) (hd : d0 + 2 < 1000) (f0 : F (ψ l) (lstO [.int p tp] el)) (f1 : F (ψ da) (dct P [("label", jc, .int i ti), ("params", kV, ρ l), ("rest", jg, .int r tr), ("body", kP, ρ c)])) (f2 : F (ψ a) (ins 283 (ψ da))) {Dc : PyData} (Ic : hC 969 [ρ c] 2 6 fun F' v => ToldPost Dc F' v) : χK 969 [ρ a] fun F' v => ToldPost (.tuple [.int 7, .tuple [.int i, .tuple [.int p], .int r], .tuple [Dc]]) F' v :=
  flat hb hw [tupS 4, tupS 0, rS fun Z F' r => DatAt F' (ρ r) Dc, tupS 3] rfl (φf f0 f1 f2) told_lam fun h Z Z Z Z => ⟨dl hd, γT, γT, dl hd, γR Ic, γT, fun Z Z Z h4 => ⟨_, _, _, _, _, _, _, rfl, rfl, σ0, (DatAt.tup σ1 (.cons (.int _ _) (.cons (DatAt.tup (shown μ3) (.cons (.int _ _) .nil)) (.cons (.int _ _) .nil)))), (DatAt.tup σ2 (.cons (pZ h4.1.2) .nil))⟩⟩
theorem told_lam0_c (c el l ti : Nat) (i : Int) (tr : Nat) (r : Int) (jc kV jg kP da a : Nat) (hb : BaseIn P F) (hw : w.params = P) (d0 u0 : Nat) (hd : d0 + 2 < 1000) (f0 : F (ψ l) (lstO [] el)) (f1 : F (ψ da) (dct P [("label", jc, .int i ti), ("params", kV, ρ l), ("rest", jg, .int r tr), ("body", kP, ρ c)])) (f2 : F (ψ a) (ins 283 (ψ da))) {Dc : PyData} (Ic : hC 969 [ρ c] 2 6 fun F' v => ToldPost Dc F' v) : χK 969 [ρ a] fun F' v => ToldPost (.tuple [.int 7, .tuple [.int i, .tuple [], .int r], .tuple [Dc]]) F' v :=
  flat hb hw [tupS 4, tupS 0, rS fun Z F' r => DatAt F' (ρ r) Dc, tupS 3] rfl (φf f0 f1 f2) told_lam0 fun h Z Z Z Z => ⟨dl hd, γT, γT, dl hd, γR Ic, γT, fun Z Z Z h4 => ⟨_, _, _, _, _, _, _, rfl, rfl, σ0, (DatAt.tup σ1 (.cons (.int _ _) (.cons (DatAt.tup (shown μ3) .nil) (.cons (.int _ _) .nil)))), (DatAt.tup σ2 (.cons (pZ h4.1.2) .nil))⟩⟩
theorem told_call_c (c e el l kR kb da a : Nat) (hb : BaseIn P F) (hw : w.params = P) (d0 u0 : Nat) (hd : d0 + 2 < 1000) (f0 : F (ψ l) (lstO [ρ e] el)) (f1 : F (ψ da) (dct P [("operator", kR, ρ c), ("operands", kb, ρ l)])) (f2 : F (ψ a) (ins 316 (ψ da))) {Dc : PyData} (Ic : hC 969 [ρ c] 2 6 fun F' v => ToldPost Dc F' v) {De : PyData} (Ie : hC 969 [ρ e] 2 6 fun F' v => ToldPost De F' v) : χK 969 [ρ a] fun F' v => ToldPost (.tuple [.int 8, .tuple [], .tuple [Dc, De]]) F' v :=
  flat hb hw [tupS 2, rS fun Z F' r => DatAt F' (ρ r) Dc, rS fun Z F' r => DatAt F' (ρ r) De, tupS 3] rfl (φf f0 f1 f2) told_call fun h Z Z Z Z => ⟨dl hd, γT, dl hd, γR Ic, γR Ie, γT, fun Z Z Z h4 => ⟨_, _, _, _, _, _, _, rfl, rfl, σ0, (DatAt.tup σ1 .nil), (DatAt.tup σ2 (.cons (pZ h4.1.1.2) (.cons (pZ h4.1.2) .nil)))⟩⟩
theorem told_seq_c (c e el l jf da a : Nat) (hb : BaseIn P F) (hw : w.params = P) (d0 u0 : Nat) (hd : d0 + 2 < 1000) (f0 : F (ψ l) (lstO [ρ c, ρ e] el)) (f1 : F (ψ da) (dct P [("items", jf, ρ l)])) (f2 : F (ψ a) (ins 349 (ψ da))) {Dc : PyData} (Ic : hC 969 [ρ c] 2 6 fun F' v => ToldPost Dc F' v) {De : PyData} (Ie : hC 969 [ρ e] 2 6 fun F' v => ToldPost De F' v) : χK 969 [ρ a] fun F' v => ToldPost (.tuple [.int 9, .tuple [], .tuple [Dc, De]]) F' v :=
  flat hb hw [tupS 2, lstS 6, rS fun Z F' r => DatAt F' (ρ r) Dc, rS fun Z F' r => DatAt F' (ρ r) De, tupS 3] rfl (φf f0 f1 f2) told_seq fun h Z Z Z Z => ⟨dl hd, γT, dl hd, γL, γR Ic, γR Ie, γT, fun Z Z Z h5 => ⟨_, _, _, _, _, _, _, rfl, rfl, σ0, (DatAt.tup σ1 .nil), (DatAt.tup σ2 (.cons (pZ h5.1.1.2) (.cons (pZ h5.1.2) .nil)))⟩⟩
theorem told_prim1_c (c el l ti : Nat) (i : Int) (kO kb da a : Nat) (hb : BaseIn P F) (hw : w.params = P) (d0 u0 : Nat) (hd : d0 + 2 < 1000) (f0 : F (ψ l) (lstO [ρ c] el)) (f1 : F (ψ da) (dct P [("op", kO, .int i ti), ("operands", kb, ρ l)])) (f2 : F (ψ a) (ins 382 (ψ da))) {Dc : PyData} (Ic : hC 969 [ρ c] 2 6 fun F' v => ToldPost Dc F' v) : χK 969 [ρ a] fun F' v => ToldPost (.tuple [.int 10, .tuple [.int i], .tuple [Dc]]) F' v :=
  flat hb hw [tupS 0, lstS 7, rS fun Z F' r => DatAt F' (ρ r) Dc, tupS 3] rfl (φf f0 f1 f2) told_prim1 fun h Z Z Z Z => ⟨dl hd, γT, dl hd, γL, γR Ic, γT, fun Z Z Z h4 => ⟨_, _, _, _, _, _, _, rfl, rfl, σ0, (DatAt.tup σ1 (.cons (.int _ _) .nil)), (DatAt.tup σ2 (.cons (pZ h4.1.2) .nil))⟩⟩
theorem told_prim2_c (c e el l ti : Nat) (i : Int) (kO kb da a : Nat) (hb : BaseIn P F) (hw : w.params = P) (d0 u0 : Nat) (hd : d0 + 2 < 1000) (f0 : F (ψ l) (lstO [ρ c, ρ e] el)) (f1 : F (ψ da) (dct P [("op", kO, .int i ti), ("operands", kb, ρ l)])) (f2 : F (ψ a) (ins 382 (ψ da))) {Dc : PyData} (Ic : hC 969 [ρ c] 2 6 fun F' v => ToldPost Dc F' v) {De : PyData} (Ie : hC 969 [ρ e] 2 6 fun F' v => ToldPost De F' v) : χK 969 [ρ a] fun F' v => ToldPost (.tuple [.int 10, .tuple [.int i], .tuple [Dc, De]]) F' v :=
  flat hb hw [tupS 0, lstS 7, rS fun Z F' r => DatAt F' (ρ r) Dc, rS fun Z F' r => DatAt F' (ρ r) De, tupS 3] rfl (φf f0 f1 f2) told_prim2 fun h Z Z Z Z => ⟨dl hd, γT, dl hd, γL, γR Ic, γR Ie, γT, fun Z Z Z h5 => ⟨_, _, _, _, _, _, _, rfl, rfl, σ0, (DatAt.tup σ1 (.cons (.int _ _) .nil)), (DatAt.tup σ2 (.cons (pZ h5.1.1.2) (.cons (pZ h5.1.2) .nil)))⟩⟩
theorem told_fix_c (c e el l tp : Nat) (p : Int) (en n kX kW kP da a : Nat) (hb : BaseIn P F) (hw : w.params = P) (d0 u0 : Nat) (hd : d0 + 2 < 1000) (f0 : F (ψ l) (lstO [ρ c] el)) (f1 : F (ψ n) (lstO [.int p tp] en)) (f2 : F (ψ da) (dct P [("numbers", kX, ρ n), ("lambdas", kW, ρ l), ("body", kP, ρ e)])) (f3 : F (ψ a) (ins 415 (ψ da))) {Dc : PyData} (Ic : hC 969 [ρ c] 2 6 fun F' v => ToldPost Dc F' v) {De : PyData} (Ie : hC 969 [ρ e] 2 6 fun F' v => ToldPost De F' v) : χK 969 [ρ a] fun F' v => ToldPost (.tuple [.int 11, .tuple [.tuple [.int p]], .tuple [Dc, De]]) F' v :=
  flat hb hw [tupS 5, tupS 0, rS fun Z F' r => DatAt F' (ρ r) Dc, rS fun Z F' r => DatAt F' (ρ r) De, tupS 3] rfl (φf f0 f1 f2 f3) told_fix fun h Z Z Z Z => ⟨dl hd, γT, γT, dl hd, γR Ic, γR Ie, γT, fun Z Z Z h5 => ⟨_, _, _, _, _, _, _, rfl, rfl, σ0, (DatAt.tup σ1 (.cons (DatAt.tup (shown μ3) (.cons (.int _ _) .nil)) .nil)), (DatAt.tup σ2 (.cons (pZ h5.1.1.2) (.cons (pZ h5.1.2) .nil)))⟩⟩
end
section
variable {P : Params} {F : Gh} {w : World} {s₀ : Shared}
theorem plain_bool_c (b : Bool) (hb : BaseIn P F) (hw : w.params = P) (d0 u0 : Nat) (hd : d0 + 0 < 1000)   : χK 959 [.bool b] fun F' v => PlainPost (.bool b) F' v :=
  flat hb hw [] rfl .nil plain_bool fun Z Z Z Z Z => ⟨dl hd, fun Z Z Z Z => rfl⟩
theorem plain_int_c (ti : Nat) (i : Int) (hb : BaseIn P F) (hw : w.params = P) (d0 u0 : Nat) (hd : d0 + 0 < 1000)   : χK 959 [.int i ti] fun F' v => PlainPost (.int i) F' v :=
  flat hb hw [] rfl .nil plain_int fun Z Z Z Z Z => ⟨dl hd, fun Z Z Z Z => ⟨_, rfl⟩⟩
theorem plain_empty_c  (hb : BaseIn P F) (hw : w.params = P) (d0 u0 : Nat) (hd : d0 + 0 < 1000)   : χK 959 [.ref 454] fun F' v => PlainPost (.empty) F' v :=
  flat hb hw [] rfl .nil plain_empty fun Z Z Z Z Z => ⟨dl hd, fun Z Z Z Z => ⟨_, rfl⟩⟩
theorem plain_unspec_c  (hb : BaseIn P F) (hw : w.params = P) (d0 u0 : Nat) (hd : d0 + 0 < 1000)   : χK 959 [.ref 457] fun F' v => PlainPost (.unspec) F' v :=
  flat hb hw [] rfl .nil plain_unspec fun Z Z Z Z Z => ⟨dl hd, fun Z Z Z Z => ⟨_, rfl⟩⟩
theorem plain_eof_c  (hb : BaseIn P F) (hw : w.params = P) (d0 u0 : Nat) (hd : d0 + 0 < 1000)   : χK 959 [.ref 460] fun F' v => PlainPost (.eof) F' v :=
  flat hb hw [] rfl .nil plain_eof fun Z Z Z Z Z => ⟨dl hd, fun Z Z Z Z => ⟨_, rfl⟩⟩
theorem plain_char_c (ti : Nat) (i : Int) (jd da a : Nat) (hb : BaseIn P F) (hw : w.params = P) (d0 u0 : Nat) (hd : d0 + 0 < 1000) (f0 : F (ψ da) (dct P [("code", jd, .int i ti)])) (f1 : F (ψ a) (ins 520 (ψ da)))  : χK 959 [ρ a] fun F' v => PlainPost (.char i) F' v :=
  flat hb hw [] rfl (φf f0 f1) plain_char fun Z Z Z Z Z => ⟨dl hd, fun Z Z Z Z => ⟨_, rfl, DatAt.tup σ0 (.cons (.str _ _) (.cons (.int _ _) .nil))⟩⟩
theorem plain_pair_c (ti : Nat) (i : Int) (jr js da a : Nat) (hb : BaseIn P F) (hw : w.params = P) (d0 u0 : Nat) (hd : d0 + 1 < 1000) (f0 : F (ψ da) (dct P [("car", jr, .int i ti), ("cdr", js, .ref 454)])) (f1 : F (ψ a) (ins 499 (ψ da)))  : χK 959 [ρ a] fun F' v => PlainPost (.pair i) F' v :=
  flat hb hw [iS fun Z Z r => r = i, sS fun Z Z r => r = "empty"] rfl (φf f0 f1) plain_pair fun h Z Z ξ Z => ⟨dl hd, fun Z Z b0 Z => can_int b0 (plain_int_c ti i b0 hw (d0 + 1) (u0 + 3) ω|>.mono fun Z Z Z Z Z Z Z h => let ⟨t, e⟩ := h; ⟨i, t, e, rfl⟩), fun Z Z b1 Z => can_str b1 (plain_empty_c b1 hw (d0 + 1) (u0 + 3) ω|>.mono fun Z Z Z Z Z Z Z h => let ⟨t, e⟩ := h; ⟨"empty", t, e, rfl⟩), fun Z Z Z h2 => ⟨_, rfl, DatAt.tup σ0 (.cons (.str _ _) (.cons (by rw [show (ξ 0).i 0 = i from (pX h2.1.2)]; exact .int _ _) (.cons (by rw [show (ξ 1).s 0 = "empty" from (pX h2.2)]; exact .str _ _) .nil)))⟩⟩
theorem plain_calls (hb : BaseIn P F) (hw : w.params = P) (d0 u0 : Nat) (hd : d0 + 1 < 1000) {v : Value} {p : PV} (hp : PVAt P F v p) : χK 959 [v] fun F' v => PlainPost p F' v := by
  cases p with
  | bool b => obtain rfl := hp; exact plain_bool_c b hb hw d0 u0 ω
  | int i => obtain ⟨t, rfl⟩ := hp; exact plain_int_c t i hb hw d0 u0 ω
  | empty => obtain rfl := hp; exact plain_empty_c hb hw d0 u0 ω
  | unspec => obtain rfl := hp; exact plain_unspec_c hb hw d0 u0 ω
  | eof => obtain rfl := hp; exact plain_eof_c hb hw d0 u0 ω
  | char k => obtain ⟨a, d, kt, t, rfl, f1, f2⟩ := hp; exact plain_char_c t k kt d a hb hw d0 u0 ω f1 f2
  | pair i => obtain ⟨a, d, k1, k2, t, rfl, f1, f2⟩ := hp; exact plain_pair_c t i k1 k2 d a hb hw d0 u0 hd f1 f2
noncomputable def atB : PV → Bool
  | .eof => false | .pair _ => false | _ => true
theorem atom_bool_c (b : Bool) (hb : BaseIn P F) (hw : w.params = P) (d0 u0 : Nat) (hd : d0 + 1 < 1000)   : χK 665 [.bool b] fun F' v => v = .bool true :=
  flat hb hw [] rfl .nil atom_bool fun Z Z Z Z Z => ⟨dl hd, dl hd, fun Z Z Z Z => rfl⟩
theorem atom_int_c (ti : Nat) (i : Int) (hb : BaseIn P F) (hw : w.params = P) (d0 u0 : Nat) (hd : d0 + 1 < 1000)   : χK 665 [.int i ti] fun F' v => v = .bool true :=
  flat hb hw [] rfl .nil atom_int fun Z Z Z Z Z => ⟨dl hd, dl hd, fun Z Z Z Z => rfl⟩
theorem atom_empty_c  (hb : BaseIn P F) (hw : w.params = P) (d0 u0 : Nat) (hd : d0 + 1 < 1000)   : χK 665 [.ref 454] fun F' v => v = .bool true :=
  flat hb hw [] rfl .nil atom_empty fun Z Z Z Z Z => ⟨dl hd, dl hd, fun Z Z Z Z => rfl⟩
theorem atom_unspec_c  (hb : BaseIn P F) (hw : w.params = P) (d0 u0 : Nat) (hd : d0 + 1 < 1000)   : χK 665 [.ref 457] fun F' v => v = .bool true :=
  flat hb hw [] rfl .nil atom_unspec fun Z Z Z Z Z => ⟨dl hd, dl hd, fun Z Z Z Z => rfl⟩
theorem atom_eof_c  (hb : BaseIn P F) (hw : w.params = P) (d0 u0 : Nat) (hd : d0 + 1 < 1000)   : χK 665 [.ref 460] fun F' v => v = .bool false :=
  flat hb hw [] rfl .nil atom_eof fun Z Z Z Z Z => ⟨dl hd, dl hd, fun Z Z Z Z => rfl⟩
theorem atom_char_c (ti : Nat) (i : Int) (jd da a : Nat) (hb : BaseIn P F) (hw : w.params = P) (d0 u0 : Nat) (hd : d0 + 1 < 1000) (f0 : F (ψ da) (dct P [("code", jd, .int i ti)])) (f1 : F (ψ a) (ins 520 (ψ da)))  : χK 665 [ρ a] fun F' v => v = .bool true :=
  flat hb hw [] rfl (φf f0 f1) atom_char fun Z Z Z Z Z => ⟨dl hd, dl hd, fun Z Z Z Z => rfl⟩
theorem atom_pair_c (v v' : Value) (jr js da a : Nat) (hb : BaseIn P F) (hw : w.params = P) (d0 u0 : Nat) (hd : d0 + 1 < 1000) (f0 : F (ψ da) (dct P [("car", jr, v), ("cdr", js, v')])) (f1 : F (ψ a) (ins 499 (ψ da)))  : χK 665 [ρ a] fun F' v => v = .bool false :=
  flat hb hw [] rfl (φf f0 f1) atom_pair fun Z Z Z Z Z => ⟨dl hd, dl hd, fun Z Z Z Z => rfl⟩
theorem atom_calls (hb : BaseIn P F) (hw : w.params = P) (d0 u0 : Nat) (hd : d0 + 1 < 1000) {v : Value} {p : PV} (hp : PVAt P F v p) : χK 665 [v] fun Z v => v = .bool (atB p) := by
  cases p with
  | bool b => obtain rfl := hp; exact atom_bool_c b hb hw d0 u0 ω
  | int i => obtain ⟨t, rfl⟩ := hp; exact atom_int_c t i hb hw d0 u0 ω
  | empty => obtain rfl := hp; exact atom_empty_c hb hw d0 u0 ω
  | unspec => obtain rfl := hp; exact atom_unspec_c hb hw d0 u0 ω
  | eof => obtain rfl := hp; exact atom_eof_c hb hw d0 u0 ω
  | char k => obtain ⟨a, d, kt, t, rfl, f1, f2⟩ := hp; exact atom_char_c t k kt d a hb hw d0 u0 ω f1 f2
  | pair i => obtain ⟨a, d, k1, k2, t, rfl, f1, f2⟩ := hp; exact atom_pair_c (.int i t) (.ref 454) k1 k2 d a hb hw d0 u0 ω f1 f2
theorem isplain_bool_c (b : Bool) (hb : BaseIn P F) (hw : w.params = P) (d0 u0 : Nat) (hd : d0 + 0 < 1000)   : χK 945 [.bool b] fun F' v => v = .bool true :=
  flat hb hw [] rfl .nil isplain_bool fun Z Z Z Z Z => ⟨dl hd, fun Z Z Z Z => rfl⟩
theorem isplain_int_c (ti : Nat) (i : Int) (hb : BaseIn P F) (hw : w.params = P) (d0 u0 : Nat) (hd : d0 + 0 < 1000)   : χK 945 [.int i ti] fun F' v => v = .bool true :=
  flat hb hw [] rfl .nil isplain_int fun Z Z Z Z Z => ⟨dl hd, fun Z Z Z Z => rfl⟩
theorem isplain_empty_c  (hb : BaseIn P F) (hw : w.params = P) (d0 u0 : Nat) (hd : d0 + 0 < 1000)   : χK 945 [.ref 454] fun F' v => v = .bool true :=
  flat hb hw [] rfl .nil isplain_empty fun Z Z Z Z Z => ⟨dl hd, fun Z Z Z Z => rfl⟩
theorem isplain_unspec_c  (hb : BaseIn P F) (hw : w.params = P) (d0 u0 : Nat) (hd : d0 + 0 < 1000)   : χK 945 [.ref 457] fun F' v => v = .bool true :=
  flat hb hw [] rfl .nil isplain_unspec fun Z Z Z Z Z => ⟨dl hd, fun Z Z Z Z => rfl⟩
theorem isplain_eof_c  (hb : BaseIn P F) (hw : w.params = P) (d0 u0 : Nat) (hd : d0 + 0 < 1000)   : χK 945 [.ref 460] fun F' v => v = .bool false :=
  flat hb hw [] rfl .nil isplain_eof fun Z Z Z Z Z => ⟨dl hd, fun Z Z Z Z => rfl⟩
theorem isplain_char_c (ti : Nat) (i : Int) (jd da a : Nat) (hb : BaseIn P F) (hw : w.params = P) (d0 u0 : Nat) (hd : d0 + 0 < 1000) (f0 : F (ψ da) (dct P [("code", jd, .int i ti)])) (f1 : F (ψ a) (ins 520 (ψ da)))  : χK 945 [ρ a] fun F' v => v = .bool true :=
  flat hb hw [] rfl (φf f0 f1) isplain_char fun Z Z Z Z Z => ⟨dl hd, fun Z Z Z Z => rfl⟩
theorem isplain_pair_c (v v' : Value) (jr js da a : Nat) (hb : BaseIn P F) (hw : w.params = P) (d0 u0 : Nat) (hd : d0 + 0 < 1000) (f0 : F (ψ da) (dct P [("car", jr, v), ("cdr", js, v')])) (f1 : F (ψ a) (ins 499 (ψ da)))  : χK 945 [ρ a] fun F' v => v = .bool false :=
  flat hb hw [] rfl (φf f0 f1) isplain_pair fun Z Z Z Z Z => ⟨dl hd, fun Z Z Z Z => rfl⟩
theorem isplain_calls (hb : BaseIn P F) (hw : w.params = P) (d0 u0 : Nat) (hd : d0 + 1 < 1000) {v : Value} {p : PV} (hp : PVAt P F v p) : χK 945 [v] fun Z v => v = .bool (atB p) := by
  cases p with
  | bool b => obtain rfl := hp; exact isplain_bool_c b hb hw d0 u0 ω
  | int i => obtain ⟨t, rfl⟩ := hp; exact isplain_int_c t i hb hw d0 u0 ω
  | empty => obtain rfl := hp; exact isplain_empty_c hb hw d0 u0 ω
  | unspec => obtain rfl := hp; exact isplain_unspec_c hb hw d0 u0 ω
  | eof => obtain rfl := hp; exact isplain_eof_c hb hw d0 u0 ω
  | char k => obtain ⟨a, d, kt, t, rfl, f1, f2⟩ := hp; exact isplain_char_c t k kt d a hb hw d0 u0 ω f1 f2
  | pair i => obtain ⟨a, d, k1, k2, t, rfl, f1, f2⟩ := hp; exact isplain_pair_c (.int i t) (.ref 454) k1 k2 d a hb hw d0 u0 ω f1 f2
theorem told_all (t : T) : ∀ {F : Gh} {a : Nat} (hb : BaseIn P F) (hw : w.params = P) (n : NodeAt P F a t) (d0 u0 : Nat) (hd : d0 + 2 * hT t + 4 < 1000), χK 969 [ρ a] fun F' v => ToldPost (toldD t) F' v := by
  induction t with
  | const v =>
    intro F a hb hw n d0 u0 hd
    obtain ⟨d, k, x, p, f0, f1⟩ := n
    cases v with
    | bool b => obtain rfl := p; exact told_cbool_c b k d a hb hw d0 u0 ω f0 f1 fun F' l => (plain_bool_c b (hb.le l) hw _ _ ω).mono fun Z Z Z Z Z Z Z e => ⟨b, e, rfl⟩
    | int i => obtain ⟨t, rfl⟩ := p; exact told_cint_c t i k d a hb hw d0 u0 ω f0 f1 fun F' l => (plain_int_c t i (hb.le l) hw _ _ ω).mono fun _ _ _ _ _ _ _ ⟨t, e⟩ => ⟨i, t, e, rfl⟩
    | empty => obtain rfl := p; exact told_cstr_c 454 k d a hb hw d0 u0 ω f0 f1 fun F' l => (plain_empty_c (hb.le l) hw _ _ ω).mono fun _ _ _ _ _ _ _ ⟨t, e⟩ => ⟨_, t, e, rfl⟩
    | unspec => obtain rfl := p; exact told_cstr_c 457 k d a hb hw d0 u0 ω f0 f1 fun F' l => (plain_unspec_c (hb.le l) hw _ _ ω).mono fun _ _ _ _ _ _ _ ⟨t, e⟩ => ⟨_, t, e, rfl⟩
    | eof => obtain rfl := p; exact told_cstr_c 460 k d a hb hw d0 u0 ω f0 f1 fun F' l => (plain_eof_c (hb.le l) hw _ _ ω).mono fun _ _ _ _ _ _ _ ⟨t, e⟩ => ⟨_, t, e, rfl⟩
    | char i => obtain ⟨a', d', kt, t, rfl, h⟩ := p; exact told_cref_c (ψ a') k d a hb hw d0 u0 ω f0 f1 fun F' l => (plain_calls (hb.le l) hw _ _ ω (p := .char i) ⟨a', d', kt, t, rfl, h.mono l⟩).mono fun Z Z Z Z Z Z Z e => e
    | pair i => obtain ⟨a', d', k1, k2, t, rfl, h⟩ := p; exact told_cref_c (ψ a') k d a hb hw d0 u0 ω f0 f1 fun F' l => (plain_calls (hb.le l) hw _ _ ω (p := .pair i) ⟨a', d', k1, k2, t, rfl, h.mono l⟩).mono fun Z Z Z Z Z Z Z e => e
  | loc n =>
    intro F a hb hw n d0 u0 hd
    obtain ⟨d, k, t, f0, f1⟩ := n
    exact told_loc_c t n k d a hb hw d0 u0 ω f0 f1
  | glob n =>
    intro F a hb hw n d0 u0 hd
    obtain ⟨d, k, t, f0, f1⟩ := n
    exact told_glob_c t n k d a hb hw d0 u0 ω f0 f1
  | setLoc n x i1 =>
    intro F a hb hw n d0 u0 hd
    obtain ⟨d, k1, k2, t, c, n1, f0, f1⟩ := n
    exact told_setLoc_c c t n k1 k2 d a hb hw d0 u0 ω f0 f1 (fun F' l => i1 (hb.le l) hw (n1.mono l) _ _ (by simp only [hT] at hd; omega))
  | setGlob n x i1 =>
    intro F a hb hw n d0 u0 hd
    obtain ⟨d, k1, k2, t, c, n1, f0, f1⟩ := n
    exact told_setGlob_c c t n k1 k2 d a hb hw d0 u0 ω f0 f1 (fun F' l => i1 (hb.le l) hw (n1.mono l) _ _ (by simp only [hT] at hd; omega))
  | define n x i1 =>
    intro F a hb hw n d0 u0 hd
    obtain ⟨d, k1, k2, t, c, n1, f0, f1⟩ := n
    exact told_define_c c t n k1 k2 d a hb hw d0 u0 ω f0 f1 (fun F' l => i1 (hb.le l) hw (n1.mono l) _ _ (by simp only [hT] at hd; omega))
  | ite x y z i1 i2 i3 =>
    intro F a hb hw n d0 u0 hd
    obtain ⟨d, k1, k2, k3, c, e, f, n1, n2, n3, f0, f1⟩ := n
    exact told_ite_c c e f k1 k2 k3 d a hb hw d0 u0 ω f0 f1 (fun F' l => i1 (hb.le l) hw (n1.mono l) _ _ (by simp only [hT] at hd; omega)) (fun F' l => i2 (hb.le l) hw (n2.mono l) _ _ (by simp only [hT] at hd; omega)) (fun F' l => i3 (hb.le l) hw (n3.mono l) _ _ (by simp only [hT] at hd; omega))
  | lam l p r x i1 =>
    intro F a hb hw n d0 u0 hd
    obtain ⟨d, k1, k2, k3, k4, t1, t2, t3, c, q, n1, ⟨e, x1⟩, f0, f1⟩ := n
    exact told_lam_c c t2 p e q t1 l t3 r k1 k2 k3 k4 d a hb hw d0 u0 ω x1 f0 f1 (fun F' l => i1 (hb.le l) hw (n1.mono l) _ _ (by simp only [hT] at hd; omega))
  | lam0 l r x i1 =>
    intro F a hb hw n d0 u0 hd
    obtain ⟨d, k1, k2, k3, k4, t1, t3, c, q, n1, ⟨e, x1⟩, f0, f1⟩ := n
    exact told_lam0_c c e q t1 l t3 r k1 k2 k3 k4 d a hb hw d0 u0 ω x1 f0 f1 (fun F' l => i1 (hb.le l) hw (n1.mono l) _ _ (by simp only [hT] at hd; omega))
  | call x y i1 i2 =>
    intro F a hb hw n d0 u0 hd
    obtain ⟨d, k1, k2, c, e, q, n1, n2, ⟨g, x1⟩, f0, f1⟩ := n
    exact told_call_c c e g q k1 k2 d a hb hw d0 u0 ω x1 f0 f1 (fun F' l => i1 (hb.le l) hw (n1.mono l) _ _ (by simp only [hT] at hd; omega)) (fun F' l => i2 (hb.le l) hw (n2.mono l) _ _ (by simp only [hT] at hd; omega))
  | seq x y i1 i2 =>
    intro F a hb hw n d0 u0 hd
    obtain ⟨d, k, c, e, q, n1, n2, ⟨g, x1⟩, f0, f1⟩ := n
    exact told_seq_c c e g q k d a hb hw d0 u0 ω x1 f0 f1 (fun F' l => i1 (hb.le l) hw (n1.mono l) _ _ (by simp only [hT] at hd; omega)) (fun F' l => i2 (hb.le l) hw (n2.mono l) _ _ (by simp only [hT] at hd; omega))
  | prim1 op x i1 =>
    intro F a hb hw n d0 u0 hd
    obtain ⟨d, k1, k2, t, c, q, n1, ⟨g, x1⟩, f0, f1⟩ := n
    exact told_prim1_c c g q t op k1 k2 d a hb hw d0 u0 ω x1 f0 f1 (fun F' l => i1 (hb.le l) hw (n1.mono l) _ _ (by simp only [hT] at hd; omega))
  | prim2 op x y i1 i2 =>
    intro F a hb hw n d0 u0 hd
    obtain ⟨d, k1, k2, t, c, e, q, n1, n2, ⟨g, x1⟩, f0, f1⟩ := n
    exact told_prim2_c c e g q t op k1 k2 d a hb hw d0 u0 ω x1 f0 f1 (fun F' l => i1 (hb.le l) hw (n1.mono l) _ _ (by simp only [hT] at hd; omega)) (fun F' l => i2 (hb.le l) hw (n2.mono l) _ _ (by simp only [hT] at hd; omega))
  | fix n x y i1 i2 =>
    intro F a hb hw n d0 u0 hd
    obtain ⟨d, k1, k2, k3, t, c, e, q, m, n1, n2, ⟨g, x1⟩, ⟨g2, x2⟩, f0, f1⟩ := n
    exact told_fix_c c e g q t n g2 m k1 k2 k3 d a hb hw d0 u0 ω x1 x2 f0 f1 (fun F' l => i1 (hb.le l) hw (n1.mono l) _ _ (by simp only [hT] at hd; omega)) (fun F' l => i2 (hb.le l) hw (n2.mono l) _ _ (by simp only [hT] at hd; omega))
end
section
theorem Rep.kept {M : List Ent} {sz : Nat} {h h' : Heap} (D : Rep h₀ mt F₀ F M sz h) (hK : ∀ b o, h.get? b = some o → h'.get? b = some o) : Rep h₀ mt F₀ F M h'.objs.size h' :=
  D.behind (F' := F) (own := []) (own' := []) (idx := []) (N := []) (h' := h') List.nodup_nil rfl (fun Z Z e => e) (fun b o' e => hK _ _ (D.holds b o' e)) (fun b o' e Z => hK b o' e) (fun Z Z e => .inl e) rfl ωp
    (fun i e q => by cases i <;> cases q) (fun i j e e' q => by cases i <;> cases q)
structure Shows (D : PyData) : Prop where
  s : D.showable = true
  n : D.hasDict = false
  z : D.shown.length ≤ sizeLine
  d : D.depth ≤ 100
theorem repr_any {h : Heap} {v : Value} {D : PyData} {as : List Addr} (r : Reads h v D as) (S : Shows D) {d u : Nat} (hu : u + 200 < 9900) {tk : Nat} {Q : Value → Shared → Prop}
    (hQ : ∀ h' u' tk', (∀ b o, h.get? b = some o → h'.get? b = some o) → Q (.str D.shown u') (sto s₀ h' tk')) : wpAny (pwm w) (AA d u true) (call (.builtin "repr") [v]) Q (fun Z Z => False) (sto s₀ h tk) := by
  have hd := S.d
  have hl : cLine = 9900 := rfl
  have hA : (AA d u true).units + (D.depth + 1) < cLine := by show u + (D.depth + 1) < cLine; omega
  cases r with
  | none => exact PySem.P.repr_of_none (hQ _ _ _ fun Z Z e => e)
  | bool b => exact PySem.P.repr_of_bool (hQ _ _ _ fun Z Z e => e)
  | int i t => exact PySem.P.repr_of_int (of_decide_eq_true S.s) (hQ _ _ _ fun Z Z e => e)
  | str x t => exact PySem.P.repr_of_str (hQ _ _ _ fun Z Z e => e) S.z
  | list h1 h2 h3 h4 => exact repr_of_reads' (.list h1 h2 h3 h4) S.s (PyData.noDict_hsm S.n) rfl hA (fun Z Z e => e) (fun h' u' tk' hk => hQ h' u' tk' hk) S.z
  | tuple h1 h2 h3 h4 => exact repr_of_reads' (.tuple h1 h2 h3 h4) S.s (PyData.noDict_hsm S.n) rfl hA (fun Z Z e => e) (fun h' u' tk' hk => hQ h' u' tk' hk) S.z
  | dict h1 h2 h3 h4 h5 => exact repr_of_reads' (.dict h1 h2 h3 h4 h5) S.s (PyData.noDict_hsm S.n) rfl hA (fun Z Z e => e) (fun h' u' tk' hk => hQ h' u' tk' hk) S.z
theorem can_repr (b : BaseIn P F) {v : Value} {D : PyData} (hv : DatAt F v D) (S : Shows D) {d u : Nat} (hu : u + 200 < 9900) : CanV w s₀ h₀ mt F₀ (.call (.builtin "repr") ⟨[v], []⟩) d u true F [] [] (sS fun Z Z r => r = D.shown) := by
  intro M sz tk hsel h R ht Dd hR
  obtain ⟨as, r⟩ := hv h Dd.holds
  refine node_toks (node_of_wp (repr_any (Q := fun v s' => (sto s₀ h tk).toks ≤ s'.toks → R (.ok (.ret v)) s') r S hu fun h' u' tk' hk hle => ?_) (fun v s' q t => q t) (fun Z Z q => q.elim))
  have hle' : tk ≤ tk' := hle
  obtain ⟨t, rfl⟩ : ∃ t, tk' = t + 2050 := ⟨tk' - 2050, by omega⟩
  have D' := Dd.kept hk
  obtain ⟨z, hz⟩ := sub981 (b.size D'.holds)
  have y := hR ⟨fun j => match j with | 0 => z | 1 => t | _ => u', fun Z => 0, fun Z => .none, fun Z => D.shown, fun Z => true⟩ F h' (fun Z Z e => e) rfl
  rw [hz] at D'
  exact y D'
theorem str_eq_c (x y : PySem.Str) (tx ty : Nat) (hb : BaseIn P F) (hw : w.params = P) (d0 u0 : Nat) : Cs w s₀ F (.call (.builtin "str.__eq__") ⟨[.str x tx, .str y ty], []⟩) d0 u0 fun Z v => v = .bool (eqS x y) := by
  refine calls_of_run (okay hb w hw) (own := []) (fz := []) (sp := []) rfl (fun h H => hb.size H) ωp (fun z tk ξ => str_eq) ?_
  intro h z tk ξ hz
  exact ⟨_, [], rfl, rfl, ωp, rfl⟩
theorem str_ne_c (x y : PySem.Str) (tx ty : Nat) (hb : BaseIn P F) (hw : w.params = P) (d0 u0 : Nat) : Cs w s₀ F (.call (.builtin "str.__ne__") ⟨[.str x tx, .str y ty], []⟩) d0 u0 fun Z v => v = .bool (neS x y) := by
  refine calls_of_run (okay hb w hw) (own := []) (fz := []) (sp := []) rfl (fun h H => hb.size H) ωp (fun z tk ξ => str_ne) ?_
  intro h z tk ξ hz
  exact ⟨_, [], rfl, rfl, ωp, rfl⟩
end
structure SmD (n m : Nat) (D : PyData) : Prop where
  s : D.showable = true
  d : D.hasDict = false
  n : D.shown.length ≤ n
  m : D.depth ≤ m
structure SmL (n m : Nat) (Ds : List PyData) : Prop where
  s : PyData.showableAll Ds = true
  d : PyData.hasDictAll Ds = false
  n : ((PyData.shownAll Ds).map (·.length)).sum + 2 * (PyData.shownAll Ds).length ≤ n
  m : PyData.depthAll Ds ≤ m
theorem SmD.mono {n m n' m' : Nat} {D : PyData} (h : SmD n m D) (hn : n ≤ n') (hm : m ≤ m') : SmD n' m' D := ⟨h.s, h.d, Nat.le_trans h.n hn, Nat.le_trans h.m hm⟩
theorem SmL.nil {m : Nat} : SmL 0 m [] := ⟨rfl, rfl, Nat.le_refl _, Nat.zero_le _⟩
theorem SmL.cons {a b m : Nat} {D : PyData} {Ds : List PyData} (h : SmD a m D) (r : SmL b m Ds) : SmL (a + b + 2) m (D :: Ds) := by
  refine ⟨?_, ?_, ?_, ?_⟩
  · show (D.showable && PyData.showableAll Ds) = true
    rw [h.s, r.s]; rfl
  · show (D.hasDict || PyData.hasDictAll Ds) = false
    rw [h.d, r.d]; rfl
  · have h1 := h.n
    have h2 := r.n
    simp only [PyData.shownAll, List.map_cons, List.sum_cons, List.length_cons]
    omega
  · have h1 := h.m
    have h2 := r.m
    simp only [PyData.depthAll]
    omega
theorem SmD.tup {a m : Nat} {Ds : List PyData} (h : SmL a m Ds) : SmD (a + 3) (m + 1) (.tuple Ds) := by
  refine ⟨h.s, h.d, ?_, ?_⟩
  · have h1 := tupleText_len_le (PyData.shownAll Ds)
    have h2 := h.n
    show (tupleText (PyData.shownAll Ds)).length ≤ _
    omega
  · have h1 := h.m
    simp only [PyData.depth]
    omega
theorem log2_lt {i : Int} (h : i.natAbs < 2 ^ 80) : i.natAbs.log2 < 1920 := by
  by_cases h0 : i.natAbs = 0
  · rw [h0]; decide
  · exact (Nat.log2_lt h0).mpr (Nat.lt_of_lt_of_le h (Nat.pow_le_pow_right δ δ))
theorem SmD.int {m : Nat} {i : Int} (h : i.natAbs < 2 ^ 80) : SmD 81 m (.int i) := by
  refine ⟨decide_eq_true (log2_lt h), rfl, ?_, Nat.zero_le _⟩
  show (PySem.Str.ofString (toString i)).length ≤ 81
  rw [PySem.ofString_length]
  refine int_text_length_le (k := 80) δ ?_
  by_cases h0 : i.natAbs = 0
  · rw [h0]; decide
  · exact (Nat.log2_lt h0).mpr h
theorem SmD.bool {m : Nat} {b : Bool} : SmD 81 m (.bool b) := ⟨rfl, rfl, by cases b <;> decide, Nat.zero_le _⟩
theorem SmD.str {m : Nat} {x : PySem.Str} (h : (reprText x).length ≤ 81) : SmD 81 m (.str x) := ⟨rfl, rfl, h, Nat.zero_le _⟩
theorem SmD.shows {n m : Nat} {D : PyData} (h : SmD n m D) (hn : n ≤ 16777216) (hm : m ≤ 100) : Shows D := ⟨h.s, h.d, Nat.le_trans h.n hn, Nat.le_trans h.m hm⟩
def okI (i : Int) : Prop := i.natAbs < 2 ^ 80
noncomputable def okPV : PV → Prop
  | .int i => okI i | .char i => okI i | .pair i => okI i | _ => True
theorem plain_sm {p : PV} (h : okPV p) : SmD 300 3 (plainD p) := by
  cases p with
  | bool b => exact SmD.bool.mono δ (Nat.le_refl _)
  | int i => exact (SmD.int h).mono δ (Nat.le_refl _)
  | empty => exact (SmD.str (by decide +kernel)).mono δ (Nat.le_refl _)
  | unspec => exact (SmD.str (by decide +kernel)).mono δ (Nat.le_refl _)
  | eof => exact (SmD.str (by decide +kernel)).mono δ (Nat.le_refl _)
  | char i => exact (SmD.tup (.cons (m := 2) (SmD.str (by decide +kernel)) (.cons (SmD.int h) .nil))).mono δ δ
  | pair i => exact (SmD.tup (.cons (m := 2) (SmD.str (by decide +kernel)) (.cons (SmD.int h) (.cons (SmD.str (by decide +kernel)) .nil)))).mono δ δ
theorem plain_shows {p : PV} (h : okPV p) : Shows (plainD p) := (plain_sm h).shows δ δ
noncomputable def okT : T → Prop
  | .const v => okPV v | .loc n => okI n | .glob n => okI n
  | .setLoc n t => okI n ∧ okT t | .setGlob n t => okI n ∧ okT t | .define n t => okI n ∧ okT t
  | .ite a b c => okT a ∧ okT b ∧ okT c
  | .lam l p r t => okI l ∧ okI p ∧ okI r ∧ okT t | .lam0 l r t => okI l ∧ okI r ∧ okT t
  | .call a b => okT a ∧ okT b | .seq a b => okT a ∧ okT b | .prim1 op a => okI op ∧ okT a
  | .prim2 op a b => okI op ∧ okT a ∧ okT b | .fix n a b => okI n ∧ okT a ∧ okT b
noncomputable def szT : T → Nat
  | .const _ => 1 | .loc _ => 1 | .glob _ => 1
  | .setLoc _ t => szT t + 1 | .setGlob _ t => szT t + 1 | .define _ t => szT t + 1
  | .ite a b c => szT a + szT b + szT c + 1
  | .lam _ _ _ t => szT t + 1 | .lam0 _ _ t => szT t + 1
  | .call a b => szT a + szT b + 1 | .seq a b => szT a + szT b + 1 | .prim1 _ a => szT a + 1
  | .prim2 _ a b => szT a + szT b + 1 | .fix _ a b => szT a + szT b + 1
theorem told_sm : ∀ {t : T}, okT t → SmD (600 * szT t) (2 * hT t + 5) (toldD t)
  | .const v, h => (SmD.tup (.cons (SmD.int δ) (.cons (SmD.tup (.cons (plain_sm h) .nil)) (.cons (SmD.tup (m := 3) .nil) .nil)))).mono (by simp only [szT]; omega) (by simp only [hT]; omega)
  | .loc n, h => (SmD.tup (.cons (SmD.int δ) (.cons (SmD.tup (.cons (SmD.int h) .nil)) (.cons (SmD.tup (m := 3) .nil) .nil)))).mono (by simp only [szT]; omega) (by simp only [hT]; omega)
  | .glob n, h => (SmD.tup (.cons (SmD.int δ) (.cons (SmD.tup (.cons (SmD.int h) .nil)) (.cons (SmD.tup (m := 3) .nil) .nil)))).mono (by simp only [szT]; omega) (by simp only [hT]; omega)
  | .setLoc n t, h => (SmD.tup (.cons (SmD.int δ) (.cons (SmD.tup (.cons (SmD.int h.1) .nil)) (.cons (SmD.tup (.cons (told_sm h.2) .nil)) .nil)))).mono (by simp only [szT]; omega) (by simp only [hT]; omega)
  | .setGlob n t, h => (SmD.tup (.cons (SmD.int δ) (.cons (SmD.tup (.cons (SmD.int h.1) .nil)) (.cons (SmD.tup (.cons (told_sm h.2) .nil)) .nil)))).mono (by simp only [szT]; omega) (by simp only [hT]; omega)
  | .define n t, h => (SmD.tup (.cons (SmD.int δ) (.cons (SmD.tup (.cons (SmD.int h.1) .nil)) (.cons (SmD.tup (.cons (told_sm h.2) .nil)) .nil)))).mono (by simp only [szT]; omega) (by simp only [hT]; omega)
  | .ite a b c, h => (SmD.tup (.cons (SmD.int δ) (.cons (SmD.tup .nil) (.cons (SmD.tup (m := 2 * hT (.ite a b c) + 3) (.cons ((told_sm h.1).mono (Nat.le_refl _) (by simp only [hT]; omega)) (.cons ((told_sm h.2.1).mono (Nat.le_refl _) (by simp only [hT]; omega)) (.cons ((told_sm h.2.2).mono (Nat.le_refl _) (by simp only [hT]; omega)) .nil)))) .nil)))).mono (by simp only [szT]; omega) (by simp only [hT]; omega)
  | .lam l p r t, h => (SmD.tup (.cons (SmD.int δ) (.cons (SmD.tup (m := 2 * hT t + 5) (.cons (SmD.int h.1) (.cons (SmD.tup (.cons (SmD.int h.2.1) .nil)) (.cons (SmD.int h.2.2.1) .nil)))) (.cons (SmD.tup (.cons (told_sm h.2.2.2) .nil)) .nil)))).mono (by simp only [szT]; omega) (by simp only [hT]; omega)
  | .lam0 l r t, h => (SmD.tup (.cons (SmD.int δ) (.cons (SmD.tup (m := 2 * hT t + 5) (.cons (SmD.int h.1) (.cons (SmD.tup .nil) (.cons (SmD.int h.2.1) .nil)))) (.cons (SmD.tup (.cons (told_sm h.2.2) .nil)) .nil)))).mono (by simp only [szT]; omega) (by simp only [hT]; omega)
  | .call a b, h => (SmD.tup (.cons (SmD.int δ) (.cons (SmD.tup .nil) (.cons (SmD.tup (m := 2 * hT (.call a b) + 3) (.cons ((told_sm h.1).mono (Nat.le_refl _) (by simp only [hT]; omega)) (.cons ((told_sm h.2).mono (Nat.le_refl _) (by simp only [hT]; omega)) .nil))) .nil)))).mono (by simp only [szT]; omega) (by simp only [hT]; omega)
  | .seq a b, h => (SmD.tup (.cons (SmD.int δ) (.cons (SmD.tup .nil) (.cons (SmD.tup (m := 2 * hT (.seq a b) + 3) (.cons ((told_sm h.1).mono (Nat.le_refl _) (by simp only [hT]; omega)) (.cons ((told_sm h.2).mono (Nat.le_refl _) (by simp only [hT]; omega)) .nil))) .nil)))).mono (by simp only [szT]; omega) (by simp only [hT]; omega)
  | .prim1 op a, h => (SmD.tup (.cons (SmD.int δ) (.cons (SmD.tup (.cons (SmD.int h.1) .nil)) (.cons (SmD.tup (.cons (told_sm h.2) .nil)) .nil)))).mono (by simp only [szT]; omega) (by simp only [hT]; omega)
  | .prim2 op a b, h => (SmD.tup (.cons (SmD.int δ) (.cons (SmD.tup (.cons (SmD.int h.1) .nil)) (.cons (SmD.tup (m := 2 * hT (.prim2 op a b) + 3) (.cons ((told_sm h.2.1).mono (Nat.le_refl _) (by simp only [hT]; omega)) (.cons ((told_sm h.2.2).mono (Nat.le_refl _) (by simp only [hT]; omega)) .nil))) .nil)))).mono (by simp only [szT]; omega) (by simp only [hT]; omega)
  | .fix n a b, h => (SmD.tup (.cons (SmD.int δ) (.cons (SmD.tup (m := 2 * hT (.fix n a b) + 3) (.cons (SmD.tup (m := 2 * hT (.fix n a b) + 2) (.cons (SmD.int h.1) .nil)) .nil)) (.cons (SmD.tup (m := 2 * hT (.fix n a b) + 3) (.cons ((told_sm h.2.1).mono (Nat.le_refl _) (by simp only [hT]; omega)) (.cons ((told_sm h.2.2).mono (Nat.le_refl _) (by simp only [hT]; omega)) .nil))) .nil)))).mono (by simp only [szT]; omega) (by simp only [hT]; omega)
section
variable {P : Params} {F : Gh} {w : World} {s₀ : Shared}
inductive FR | none | pair | val (p : PV)
noncomputable def foldR (op : Int) (vs : List PV) : FR :=
  if op = 8 then match vs with
    | [v] => .val (.bool (match v with | .bool b => !b | _ => false))
    | _ => .none
  else if op = 4 then match vs with
    | [v, w] => .val (.bool (eqS (plainD v).shown (plainD w).shown))
    | _ => .none
  else if op = 16 then match vs with
    | [v] => .val (.bool (match v with | .empty => true | _ => false))
    | _ => .none
  else if op = 135 then match vs with
    | [.char k] => .val (.int k)
    | _ => .none
  else if op = 9 then .pair
  else .none
def FoldPost (P : Params) (r : FR) (F' : Gh) (v : Value) : Prop := match r with
  | .val p => ∃ l x, v = ρ l ∧ F' (ψ l) (tupO [x]) ∧ PVAt P F' x p
  | .none => v = .none
  | .pair => ∃ l a d v1 v2 k1 k2, v = ρ l ∧ F' (ψ l) (tupO [ρ a]) ∧ Inst P F' 499 a d [("car", k1, v1), ("cdr", k2, v2)]
theorem fold_not_true_c (to el l : Nat) (hb : BaseIn P F) (hw : w.params = P) (d0 u0 : Nat) (hd : d0 + 0 < 1000) (f0 : F (ψ l) (lstO [.bool true] el))  : χK 952 [.int (8) to, ρ l] fun F' v => FoldPost P (.val βF) F' v :=
  flat hb hw [] rfl (φf f0) fold_not_true fun Z Z Z Z Z => ⟨dl hd, fun Z Z Z Z => ⟨_, _, rfl, σ0, rfl⟩⟩
theorem fold_not_false_c (to el l : Nat) (hb : BaseIn P F) (hw : w.params = P) (d0 u0 : Nat) (hd : d0 + 0 < 1000) (f0 : F (ψ l) (lstO [.bool false] el))  : χK 952 [.int (8) to, ρ l] fun F' v => FoldPost P (.val βT) F' v :=
  flat hb hw [] rfl (φf f0) fold_not_false fun Z Z Z Z Z => ⟨dl hd, fun Z Z Z Z => ⟨_, _, rfl, σ0, rfl⟩⟩
theorem fold_not_int_c (to ti : Nat) (i : Int) (el l : Nat) (hb : BaseIn P F) (hw : w.params = P) (d0 u0 : Nat) (hd : d0 + 0 < 1000) (f0 : F (ψ l) (lstO [.int i ti] el))  : χK 952 [.int (8) to, ρ l] fun F' v => FoldPost P (.val βF) F' v :=
  flat hb hw [] rfl (φf f0) fold_not_int fun Z Z Z Z Z => ⟨dl hd, fun Z Z Z Z => ⟨_, _, rfl, σ0, rfl⟩⟩
theorem fold_not_empty_c (to el l : Nat) (hb : BaseIn P F) (hw : w.params = P) (d0 u0 : Nat) (hd : d0 + 0 < 1000) (f0 : F (ψ l) (lstO [.ref 454] el))  : χK 952 [.int (8) to, ρ l] fun F' v => FoldPost P (.val βF) F' v :=
  flat hb hw [] rfl (φf f0) fold_not_empty fun Z Z Z Z Z => ⟨dl hd, fun Z Z Z Z => ⟨_, _, rfl, σ0, rfl⟩⟩
theorem fold_not_unspec_c (to el l : Nat) (hb : BaseIn P F) (hw : w.params = P) (d0 u0 : Nat) (hd : d0 + 0 < 1000) (f0 : F (ψ l) (lstO [.ref 457] el))  : χK 952 [.int (8) to, ρ l] fun F' v => FoldPost P (.val βF) F' v :=
  flat hb hw [] rfl (φf f0) fold_not_unspec fun Z Z Z Z Z => ⟨dl hd, fun Z Z Z Z => ⟨_, _, rfl, σ0, rfl⟩⟩
theorem fold_not_char_c (to ti : Nat) (i : Int) (jd da a el l : Nat) (hb : BaseIn P F) (hw : w.params = P) (d0 u0 : Nat) (hd : d0 + 0 < 1000) (f0 : F (ψ da) (dct P [("code", jd, .int i ti)])) (f1 : F (ψ a) (ins 520 (ψ da))) (f2 : F (ψ l) (lstO [ρ a] el))  : χK 952 [.int (8) to, ρ l] fun F' v => FoldPost P (.val βF) F' v :=
  flat hb hw [] rfl (φf f0 f1 f2) fold_not_char fun Z Z Z Z Z => ⟨dl hd, fun Z Z Z Z => ⟨_, _, rfl, σ0, rfl⟩⟩
theorem fold_null_bool_c (to : Nat) (b : Bool) (el l : Nat) (hb : BaseIn P F) (hw : w.params = P) (d0 u0 : Nat) (hd : d0 + 0 < 1000) (f0 : F (ψ l) (lstO [.bool b] el))  : χK 952 [.int (16) to, ρ l] fun F' v => FoldPost P (.val βF) F' v :=
  flat hb hw [] rfl (φf f0) fold_null_bool fun Z Z Z Z Z => ⟨dl hd, fun Z Z Z Z => ⟨_, _, rfl, σ0, rfl⟩⟩
theorem fold_null_int_c (to ti : Nat) (i : Int) (el l : Nat) (hb : BaseIn P F) (hw : w.params = P) (d0 u0 : Nat) (hd : d0 + 0 < 1000) (f0 : F (ψ l) (lstO [.int i ti] el))  : χK 952 [.int (16) to, ρ l] fun F' v => FoldPost P (.val βF) F' v :=
  flat hb hw [] rfl (φf f0) fold_null_int fun Z Z Z Z Z => ⟨dl hd, fun Z Z Z Z => ⟨_, _, rfl, σ0, rfl⟩⟩
theorem fold_null_empty_c (to el l : Nat) (hb : BaseIn P F) (hw : w.params = P) (d0 u0 : Nat) (hd : d0 + 0 < 1000) (f0 : F (ψ l) (lstO [.ref 454] el))  : χK 952 [.int (16) to, ρ l] fun F' v => FoldPost P (.val βT) F' v :=
  flat hb hw [] rfl (φf f0) fold_null_empty fun Z Z Z Z Z => ⟨dl hd, fun Z Z Z Z => ⟨_, _, rfl, σ0, rfl⟩⟩
theorem fold_null_unspec_c (to el l : Nat) (hb : BaseIn P F) (hw : w.params = P) (d0 u0 : Nat) (hd : d0 + 0 < 1000) (f0 : F (ψ l) (lstO [.ref 457] el))  : χK 952 [.int (16) to, ρ l] fun F' v => FoldPost P (.val βF) F' v :=
  flat hb hw [] rfl (φf f0) fold_null_unspec fun Z Z Z Z Z => ⟨dl hd, fun Z Z Z Z => ⟨_, _, rfl, σ0, rfl⟩⟩
theorem fold_null_char_c (to ti : Nat) (i : Int) (jd da a el l : Nat) (hb : BaseIn P F) (hw : w.params = P) (d0 u0 : Nat) (hd : d0 + 0 < 1000) (f0 : F (ψ da) (dct P [("code", jd, .int i ti)])) (f1 : F (ψ a) (ins 520 (ψ da))) (f2 : F (ψ l) (lstO [ρ a] el))  : χK 952 [.int (16) to, ρ l] fun F' v => FoldPost P (.val βF) F' v :=
  flat hb hw [] rfl (φf f0 f1 f2) fold_null_char fun Z Z Z Z Z => ⟨dl hd, fun Z Z Z Z => ⟨_, _, rfl, σ0, rfl⟩⟩
theorem fold_c2i_bool_c (to : Nat) (b : Bool) (el l : Nat) (hb : BaseIn P F) (hw : w.params = P) (d0 u0 : Nat) (hd : d0 + 0 < 1000) (f0 : F (ψ l) (lstO [.bool b] el))  : χK 952 [.int (135) to, ρ l] fun F' v => FoldPost P (.none) F' v :=
  flat hb hw [] rfl (φf f0) fold_c2i_bool fun Z Z Z Z Z => ⟨dl hd, fun Z Z Z Z => rfl⟩
theorem fold_c2i_int_c (to ti : Nat) (i : Int) (el l : Nat) (hb : BaseIn P F) (hw : w.params = P) (d0 u0 : Nat) (hd : d0 + 0 < 1000) (f0 : F (ψ l) (lstO [.int i ti] el))  : χK 952 [.int (135) to, ρ l] fun F' v => FoldPost P (.none) F' v :=
  flat hb hw [] rfl (φf f0) fold_c2i_int fun Z Z Z Z Z => ⟨dl hd, fun Z Z Z Z => rfl⟩
theorem fold_c2i_empty_c (to el l : Nat) (hb : BaseIn P F) (hw : w.params = P) (d0 u0 : Nat) (hd : d0 + 0 < 1000) (f0 : F (ψ l) (lstO [.ref 454] el))  : χK 952 [.int (135) to, ρ l] fun F' v => FoldPost P (.none) F' v :=
  flat hb hw [] rfl (φf f0) fold_c2i_empty fun Z Z Z Z Z => ⟨dl hd, fun Z Z Z Z => rfl⟩
theorem fold_c2i_unspec_c (to el l : Nat) (hb : BaseIn P F) (hw : w.params = P) (d0 u0 : Nat) (hd : d0 + 0 < 1000) (f0 : F (ψ l) (lstO [.ref 457] el))  : χK 952 [.int (135) to, ρ l] fun F' v => FoldPost P (.none) F' v :=
  flat hb hw [] rfl (φf f0) fold_c2i_unspec fun Z Z Z Z Z => ⟨dl hd, fun Z Z Z Z => rfl⟩
theorem fold_c2i_char_c (to ti : Nat) (i : Int) (jd da a el l : Nat) (hb : BaseIn P F) (hw : w.params = P) (d0 u0 : Nat) (hd : d0 + 0 < 1000) (f0 : F (ψ da) (dct P [("code", jd, .int i ti)])) (f1 : F (ψ a) (ins 520 (ψ da))) (f2 : F (ψ l) (lstO [ρ a] el))  : χK 952 [.int (135) to, ρ l] fun F' v => FoldPost P (.val (.int i)) F' v :=
  flat hb hw [] rfl (φf f0 f1 f2) fold_c2i_char fun Z Z Z Z Z => ⟨dl hd, fun Z Z Z Z => ⟨_, _, rfl, σ0, ⟨_, rfl⟩⟩⟩
theorem fold_car_c (to : Nat) (v : Value) (el l : Nat) (hb : BaseIn P F) (hw : w.params = P) (d0 u0 : Nat) (hd : d0 + 0 < 1000) (f0 : F (ψ l) (lstO [v] el))  : χK 952 [.int (11) to, ρ l] fun F' v => FoldPost P (.none) F' v :=
  flat hb hw [] rfl (φf f0) fold_car fun Z Z Z Z Z => ⟨dl hd, fun Z Z Z Z => rfl⟩
theorem fold_cons_c {k k2 : VK} (to el l : Nat) (hb : BaseIn P F) (hw : w.params = P) (d0 u0 : Nat) (hd : d0 + 306 < 1000) (f0 : F (ψ l) (lstO [vk k, vk k2] el)) : χK 952 [.int 9 to, ρ l] fun F' v => FoldPost P .pair F' v :=
  flat hb hw [] rfl (φf f0) fold_cons fun Z Z Z Z Z => ⟨dl hd, dl hd, fun Z Z Z Z => ⟨_, _, _, _, _, _, _, rfl, σ0, σ2, σ1⟩⟩
noncomputable def PkA (D : PyData) (F' : Gh) : PK → Value → Prop
  | .b _, v => ∃ r, v = .bool r ∧ DatAt F' (.bool r) D
  | .i _ _, v => ∃ r t, v = .int r t ∧ ∀ t, DatAt F' (.int r t) D
  | .s _, v => ∃ r t, v = .str r t ∧ ∀ t, DatAt F' (.str r t) D
  | .r _, v => ∃ r, v = ρ r ∧ DatAt F' (ρ r) D
noncomputable def pkP (D : PyData) (F' : Gh) : PK → Ans → Prop
  | .b _, x => DatAt F' (.bool (x.b 0)) D
  | .i _ _, x => ∀ t, DatAt F' (.int (x.i 0) t) D
  | .s _, x => ∀ t, DatAt F' (.str (x.s 0) t) D
  | .r _, x => DatAt F' (.ref (x.n 2 + 981)) D
theorem pkP.dat {D : PyData} {F' G : Gh} {k : PK} {x : Ans} (h : pkP D F' k x) (l : F'.le G) : DatAt G (pkR k x) D := by
  cases k with
  | b _ => exact DatAt.mono l h
  | i _ _ => exact DatAt.mono l (h _)
  | s _ => exact DatAt.mono l (h _)
  | r _ => exact DatAt.mono l h
noncomputable def pkS (k : PK) (D : PyData) : Mine.Spec := ⟨pkW k, fun Z F' x => pkP D F' k x⟩
theorem can_pk {h₀ : Heap} {F₀ : Gh} {c : Code} {d u : Nat} (b : BaseIn P F) {k : PK} {D : PyData} (hc : Cs w s₀ F c d u fun F' v => PkA D F' k v) : CanV w s₀ h₀ [] F₀ c d u true F [] [] (pkS k D) := by
  cases k with
  | b _ => exact can_bool (Q := fun Z F' r => DatAt F' (.bool r) D) b hc
  | i _ _ => exact can_int (Q := fun Z F' r => ∀ t, DatAt F' (.int r t) D) b hc
  | s _ => exact can_str (Q := fun Z F' r => ∀ t, DatAt F' (.str r t) D) b hc
  | r _ => exact can_ref (Q := fun Z F' r => DatAt F' (ρ r) D) b hc
theorem fold_eq_c {k k2 : PK} {D D2 : PyData} (to el l : Nat) (hb : BaseIn P F) (hw : w.params = P) (d0 u0 : Nat) (hd : d0 + 1 < 1000) (f0 : F (ψ l) (lstO [pkV k, pkV k2] el)) (hu : u0 + 300 < 9900) (S : Shows D) (S2 : Shows D2)
    (I : hC 959 [pkV k] 1 3 fun F' v => PkA D F' k v) (I2 : hC 959 [pkV k2] 1 3 fun F' v => PkA D2 F' k2 v) :
    χK 952 [.int 4 to, ρ l] fun F' v => FoldPost P (.val (.bool (eqS D.shown D2.shown))) F' v :=
  flat hb hw [pkS k D, sS fun Z Z r => r = D.shown, pkS k2 D2, sS fun Z Z r => r = D2.shown, bS fun Z Z r => r = eqS D.shown D2.shown] rfl (φf f0) fold_eq fun Z Z Z ξ Z => ⟨dl hd, fun F0 l0 b0 Z => can_pk b0 (I F0 l0), fun Z Z b1 h1 => can_repr b1 (pY h1.2 fun Z Z l q => pkP.dat q l) S ω, fun F2 l2 b2 Z => can_pk b2 (I2 F2 l2), fun Z Z b3 h3 => can_repr b3 (pY h3.2 fun Z Z l q => pkP.dat q l) S2 ω, fun Z Z b4 h4 => can_bool b4 ((str_eq_c _ _ _ _ b4 hw _ _).mono fun Z Z Z Z Z Z Z e => ⟨_, e, (show (ξ 1).s 0 = _ from (pX h4.1.1.2)) ▸ (show (ξ 3).s 0 = _ from (pX h4.2)) ▸ rfl⟩), fun Z Z Z h5 => ⟨_, _, rfl, σ0, congrArg Value.bool (pX h5.2)⟩⟩
theorem pk_of {v : Value} {p : PV} (hp : PVAt P F v p) (ha : atB p = true) : ∃ k, v = pkV k ∧ ∀ F' u, PlainPost p F' u → PkA (plainD p) F' k u := by
  cases p with
  | bool x => exact ⟨.b x, hp, fun Z u e => ⟨x, e, DatAt.bool _⟩⟩
  | int x =>
    obtain ⟨t, rfl⟩ := hp
    exact ⟨.i x t, rfl, fun Z u e => e.elim fun t e => ⟨x, t, e, DatAt.int x⟩⟩
  | empty => exact ⟨.s 454, hp, fun Z u e => e.elim fun t e => ⟨_, t, e, DatAt.str _⟩⟩
  | unspec => exact ⟨.s 457, hp, fun Z u e => e.elim fun t e => ⟨_, t, e, DatAt.str _⟩⟩
  | char x =>
    obtain ⟨a, d, k, t, rfl, f⟩ := hp
    exact ⟨.r (ψ a), rfl, fun Z u e => e⟩
  | eof => cases ha
  | pair i => cases ha
theorem fold_calls1 (hb : BaseIn P F) (hw : w.params = P) (d0 u0 : Nat) (hd : d0 + 400 < 1000) (hu : u0 + 300 < 9900) {op : Int} (ho : op = 8 ∨ op = 16 ∨ op = 11 ∨ op = 135) {to l : Nat} {v : Value} {p : PV} (hp : PVAt P F v p) (ha : atB p = true) (hl : ListAt F l [v]) : χK 952 [.int op to, ρ l] fun F' v => FoldPost P (foldR op [p]) F' v := by
  obtain ⟨el, hl⟩ := hl
  rcases ho with rfl | rfl | rfl | rfl
  · cases p with
    | bool x =>
      obtain rfl := hp
      cases x
      · exact fold_not_false_c to el l hb hw d0 u0 ω hl
      · exact fold_not_true_c to el l hb hw d0 u0 ω hl
    | int x =>
      obtain ⟨t, rfl⟩ := hp
      exact fold_not_int_c to t x el l hb hw d0 u0 ω hl
    | empty =>
      obtain rfl := hp
      exact fold_not_empty_c to el l hb hw d0 u0 ω hl
    | unspec =>
      obtain rfl := hp
      exact fold_not_unspec_c to el l hb hw d0 u0 ω hl
    | char x =>
      obtain ⟨a, d, k, t, rfl, f⟩ := hp
      exact fold_not_char_c to t x k d a el l hb hw d0 u0 ω f.1 f.2 hl
    | eof => cases ha
    | pair i => cases ha
  · cases p with
    | bool x =>
      obtain rfl := hp
      exact fold_null_bool_c to x el l hb hw d0 u0 ω hl
    | int x =>
      obtain ⟨t, rfl⟩ := hp
      exact fold_null_int_c to t x el l hb hw d0 u0 ω hl
    | empty =>
      obtain rfl := hp
      exact fold_null_empty_c to el l hb hw d0 u0 ω hl
    | unspec =>
      obtain rfl := hp
      exact fold_null_unspec_c to el l hb hw d0 u0 ω hl
    | char x =>
      obtain ⟨a, d, k, t, rfl, f⟩ := hp
      exact fold_null_char_c to t x k d a el l hb hw d0 u0 ω f.1 f.2 hl
    | eof => cases ha
    | pair i => cases ha
  · exact fold_car_c to v el l hb hw d0 u0 ω hl
  · cases p with
    | bool x =>
      obtain rfl := hp
      exact fold_c2i_bool_c to x el l hb hw d0 u0 ω hl
    | int x =>
      obtain ⟨t, rfl⟩ := hp
      exact fold_c2i_int_c to t x el l hb hw d0 u0 ω hl
    | empty =>
      obtain rfl := hp
      exact fold_c2i_empty_c to el l hb hw d0 u0 ω hl
    | unspec =>
      obtain rfl := hp
      exact fold_c2i_unspec_c to el l hb hw d0 u0 ω hl
    | char x =>
      obtain ⟨a, d, k, t, rfl, f⟩ := hp
      exact fold_c2i_char_c to t x k d a el l hb hw d0 u0 ω f.1 f.2 hl
    | eof => cases ha
    | pair i => cases ha
theorem fold_calls2 (hb : BaseIn P F) (hw : w.params = P) (d0 u0 : Nat) (hd : d0 + 400 < 1000) (hu : u0 + 300 < 9900) {op : Int} (ho : op = 4 ∨ op = 9) {to l : Nat} {v w' : Value} {p q : PV} (hp : PVAt P F v p) (hq : PVAt P F w' q) (ha : atB p = true) (ha' : atB q = true) (op1 : okPV p) (oq : okPV q) (hl : ListAt F l [v, w']) : χK 952 [.int op to, ρ l] fun F' v => FoldPost P (foldR op [p, q]) F' v := by
  obtain ⟨el, hl⟩ := hl
  obtain ⟨k, rfl, hk⟩ := pk_of hp ha
  obtain ⟨k2, rfl, hk2⟩ := pk_of hq ha'
  rcases ho with rfl | rfl
  · exact fold_eq_c to el l hb hw d0 u0 ω hl ω (plain_shows op1) (plain_shows oq) (fun F' l' => (plain_calls (hb.le l') hw _ _ ω (hp.mono l')).mono fun F' v Z Z Z Z Z q => hk F' v q) (fun F' l' => (plain_calls (hb.le l') hw _ _ ω (hq.mono l')).mono fun F' v Z Z Z Z Z q => hk2 F' v q)
  · obtain ⟨j, e⟩ := vk_pk k
    obtain ⟨j2, e2⟩ := vk_pk k2
    rw [e, e2] at hl
    exact fold_cons_c to el l hb hw d0 u0 ω hl
end
section
noncomputable def notOwn (M : List Ent) (F : Gh) : Gh := fun a o => F a o ∧ ∀ i e, nth M i = some e → e.own = true → e.a ≠ a
theorem Rep.frz {M : List Ent} {sz : Nat} {h h' : Heap} {ss : List Nat} (D : Rep h₀ mt F₀ F M sz h) {F' : Gh} (hF : (Mine.addF mt F (sel ss M)).le F') (hH : Holds F' h') (hK : Keeps h h' []) (hA : Above (Mine.addF mt F (sel ss M)) F' h) {N : List Ent}
    (hN : ∀ i e, nth N i = some e → e.own = false ∧ F' e.a e.o ∧ ∀ a w, some (⟨a, e.o, w⟩ : Ent) ∉ sel ss M) :
    Rep h₀ mt F₀ (notOwn M F') (appM N M) h'.objs.size h' ∧ F'.le (Mine.addF mt (notOwn M F') (sel ss M)) := by
  have notN : ∀ i e, nth N i = some e → ∀ j e', nth M j = some e' → e'.own = true → e'.a ≠ e.a := fun i e hi j e' hj ho q => by
    obtain ⟨_, y, n⟩ := hN i e hi
    rcases hA _ _ y with (z | ⟨_, w', z⟩) | z
    · exact D.own j e' hj ho _ (q ▸ z)
    · exact n _ _ z
    · rw [← q, D.at_ j e' hj] at z; cases z
  constructor
  · exact D.behind (F' := notOwn M F') (own := []) (own' := []) (idx := []) (N := N) List.nodup_nil rfl (fun a o x => ⟨hF _ _ (.inl x), fun i e hi ho q => D.own i e hi ho o (q ▸ x)⟩) (fun a o x => hH _ _ x.1) hK
      (fun a o x => by
        rcases hA _ _ x.1 with (z | ⟨_, w', z⟩) | z
        · exact .inl z
        · obtain ⟨i, hi⟩ := sel_mem z
          cases w' with
          | false => exact .inl (D.fz i _ hi rfl)
          | true => exact absurd rfl (x.2 i _ hi rfl)
        · exact .inr z)
      rfl ωp (fun i e q => .inl ⟨(hN i e q).1, (hN i e q).2.1, notN i e q⟩) (fun i j e e' q Z Z w' => by rw [(hN i e q).1] at w'; cases w')
  · intro a o x
    by_cases hx : ∃ i e, nth M i = some e ∧ e.own = true ∧ e.a = a
    · obtain ⟨i, e, hi, ho, rfl⟩ := hx
      rcases hA _ _ x with (z | z) | z
      · exact absurd z (D.own i e hi ho o)
      · exact .inr z
      · rw [D.at_ i e hi] at z; cases z
    · exact .inl ⟨x, fun i e hi ho q => hx ⟨i, e, hi, ho, q⟩⟩
theorem canV_frz (hB : ∀ h, Holds F h → 981 ≤ h.objs.size) {s : Spec} {c : Code} {d u : Nat} {g : Bool} {ss : List Nat} {L : List (Option Ent)} {Post : Gh → Value → List (Addr × Obj) → Nat → Nat → Nat → Nat → Prop}
    (hc : Calls w s₀ (addF mt F L) [] c d u g Post)
    (hs : ∀ v F' z tk z' t', (addF mt F L).le F' → Post F' v [] z tk (ψ z') (t' + 2050) → ∃ x N, (∀ M, s.p x M z tk = ⟨.ok (.ret v), [], N, z' + 981, t' + 2050⟩) ∧ (∀ G, F'.le (addF mt G L) → s.P F G x) ∧ (∀ i e, nth N i = some e → e.own = false ∧ F' e.a e.o ∧ ∀ a w, some (⟨a, e.o, w⟩ : Ent) ∉ L)) :
    CanV w s₀ h₀ mt F₀ c d u g F ss L s := by
  intro M sz tk hsel h R ht D hR
  subst hsel
  obtain ⟨a1, a2, a3⟩ := D.addF ss
  refine node_of_code (code_toks (hc h tk _ ht a2 ωp List.nodup_nil fun v F' h' tk' own' b1 b2 b3 b4 b6 b7 b8 T₁ => ?_))
  obtain rfl : own' = [] := by simpa using b6
  have hsz : h.objs.size = sz := D.size
  have T' : 2050 ≤ tk' := Nat.le_trans ht T₁
  obtain ⟨z1, hz⟩ := sub981 (hB h' fun a o e => b2 a o (b1 a o (.inl e)))
  obtain ⟨t1, rfl⟩ := sub2050 T'
  rw [hsz, hz] at b8
  obtain ⟨x, N, e1, e2, e3⟩ := hs v F' _ _ _ _ b1 b8
  obtain ⟨D', le'⟩ := D.frz b1 b2 b3 b4 e3
  have z := hR x (notOwn M F') h' (fun a o x => ⟨b1 _ _ (.inl x), fun i e hi ho q => D.own i e hi ho o (q ▸ x)⟩) (e2 _ le')
  rw [e1 M] at z
  rw [hz] at D'
  exact z D'
def CallsR (w : World) (s₀ : Shared) (F : Gh) (own : List (Addr × Obj)) (c : Code) (d u : Nat) (g : Bool) (Post : Gh → Result → List (Addr × Obj) → Prop) : Prop :=
  ∀ (h : Heap) (tk : Nat) (R : Result → Shared → Prop), 2050 ≤ tk → Holds F h → (∀ p ∈ own, h.get? p.1 = some p.2 ∧ ∀ o, ¬ F p.1 o) → (own.map (·.1)).Nodup →
    (∀ r F' h' tk' own', F.le F' → Holds F' h' → Keeps h h' (own.map (·.1)) → Above F F' h → own'.map (·.1) = own.map (·.1) → (∀ p ∈ own', h'.get? p.1 = some p.2) → Dom h h' → Post F' r own' → R r (sto s₀ h' tk')) →
    codeAny (pwm w) (AA d u g) c R (sto s₀ h tk)
theorem Calls.ofR {own : List (Addr × Obj)} {c : Code} {d u : Nat} {g : Bool} {Post : Gh → Value → List (Addr × Obj) → Prop} (h : CallsR w s₀ F own c d u g fun F' r own' => ∃ v, r = .ok (.ret v) ∧ Post F' v own') :
    Calls w s₀ F own c d u g fun F' v own' Z Z Z Z => Post F' v own' :=
  fun h' tk R ht hF ho hn hR => h h' tk R ht hF ho hn fun r F' h'' tk' own' a1 a2 a3 a4 a5 a6 Z a7 => by
    obtain ⟨v, rfl, q⟩ := a7
    exact hR v F' h'' tk' own' a1 a2 a3 a4 a5 a6 q
theorem CallsR.mono {own : List (Addr × Obj)} {c : Code} {d u : Nat} {g : Bool} {Post Post' : Gh → Result → List (Addr × Obj) → Prop} (h : CallsR w s₀ F own c d u g Post) (x : ∀ F' r o, Post F' r o → Post' F' r o) : CallsR w s₀ F own c d u g Post' :=
  fun h' tk R ht hF ho hn hR => h h' tk R ht hF ho hn fun r F' h'' tk' own' a1 a2 a3 a4 a5 a6 a8 a7 => hR r F' h'' tk' own' a1 a2 a3 a4 a5 a6 a8 (x _ _ _ a7)
theorem callsR_of_run {V : Cx} (O : Okay w V F) {own fz : List (Addr × Obj)} {c : Code} {d u : Nat} {g : Bool} {Post : Gh → Result → List (Addr × Obj) → Prop} {n : Nat} {orc : List Nat} {pl : List (Ans → List Ent → Nat → Nat → Resp)} {ss : List (List Nat)} {sp : List Heap → List Spec}
    {Vw : Nat → Nat → (Nat → Ans) → View} (hp : ∀ h, (sp h).map Spec.p = pl) (hB : ∀ h, Holds F h → 981 ≤ h.objs.size) (hf : ∀ p ∈ fz, F p.1 p.2)
    (E : ∀ z tk ξ, Chk (run V n c d u g [] (V.den c) (entOwn own ++ entFz fz) (ψ z) (tk + 2050) orc pl ξ) ss (Vw z tk ξ))
    (G : ∀ (h : Heap) (z tk : Nat) (ξ : Nat → Ans), h.objs.size = z + 981 → (∀ p ∈ own, h.get? p.1 = some p.2) → GoodV w s₀ h (own.map (·.1)) F
        (fun F' r L Z Z => ∃ own', own'.map (·.1) = own.map (·.1) ∧ (∀ p ∈ own', ∃ q, some (⟨p.1, p.2, q⟩ : Ent) ∈ L) ∧ Post (addF (own.map (·.1)) F' L) r own')
        (fun F' c' d' u' g' L Z Z => ∃ own', own'.map (·.1) = own.map (·.1) ∧ (∀ p ∈ own', ∃ q, some (⟨p.1, p.2, q⟩ : Ent) ∈ L) ∧ CallsR w s₀ (addF (own.map (·.1)) F' L) own' c' d' u' g' Post) ss (sp [h]) ξ F (Vw z tk ξ)) :
    CallsR w s₀ F own c d u g Post := by
  intro h tk R ht hF ho hn hR
  obtain ⟨t, rfl⟩ : ∃ t, tk = t + 2050 := ⟨tk - 2050, by omega⟩
  obtain ⟨z, hz⟩ : ∃ z, h.objs.size = z + 981 := ⟨h.objs.size - 981, by have := hB h hF; omega⟩
  have D := Rep.start (fz := fz) hF ho hn hf
  rw [hz] at D
  refine code_of_run O ht (hp [h]) D (E z t) (fun ξ => G h z t ξ hz fun p hp => (ho p hp).1) ?_ ?_
  · rintro F' r M ss' sz tk' h' ⟨own', hm, hs, hP⟩ T' D'
    obtain ⟨a1, a2, a3⟩ := D'.addF ss'
    refine hR r _ h' tk' own' a1 a2 D'.keep a3 hm (fun p hp => ?_) D'.dom hP
    obtain ⟨q, hq⟩ := hs p hp
    obtain ⟨i, hi⟩ := sel_mem hq
    exact D'.at_ i _ hi
  · rintro F' c' d' u' g' M ss' sz tk' h' ⟨own', hm, hs, hP⟩ T' D'
    obtain ⟨a1, a2, a3⟩ := D'.addF ss'
    refine hP h' tk' R T' a2 (fun p hp => ?_) (by rw [hm]; exact hn) fun r F'' h'' tk'' own'' b1 b2 b3 b4 b5 b6 b8 b7 => ?_
    · obtain ⟨q, hq⟩ := hs p hp
      obtain ⟨i, hi⟩ := sel_mem hq
      have hpm : p.1 ∈ own.map (·.1) := by rw [← hm]; exact List.mem_map_of_mem hp
      refine ⟨D'.at_ i _ hi, fun o x => ?_⟩
      rcases x with x | ⟨x, _⟩
      · obtain ⟨p0, hp0, e0⟩ := List.mem_map.mp hpm
        rcases D'.above _ _ x with y | y
        · exact (ho p0 hp0).2 o (e0 ▸ y)
        · rw [← e0, (ho p0 hp0).1] at y; cases y
      · exact x hpm
    · refine hR r F'' h'' tk'' own'' (fun a o x => b1 _ _ (a1 _ _ x)) b2 (fun b o x y => b3 b o (D'.keep b o x y) (by rw [hm]; exact y)) (fun a o x => ?_) (b5.trans hm) b6 (fun a o x => let ⟨o', y⟩ := D'.dom a o x; b8 a o' y) b7
      rcases b4 _ _ x with y | y
      · exact a3 _ _ y
      · refine .inr ?_
        cases q : h.get? a with
        | none => rfl
        | some o' =>
          obtain ⟨o₁, z1⟩ := D'.dom _ _ q
          rw [y] at z1; cases z1
end
theorem under_blk (d u : Nat) (g : Bool) : (AA d u g).under blk = AA d u g := by
  cases g <;> rfl
section
theorem Rep.pick {M N : List Ent} {sz : Nat} {h : Heap} {ss : List Nat} (D : Rep h₀ mt F₀ F M sz h) (hn : ss.Nodup) (hs : sel ss M = N.map some) : Rep h₀ mt F₀ F N sz h := by
  have key : ∀ i e, nth N i = some e → ∃ j, ss[i]? = some j ∧ nth M j = some e := by
    intro i e hi
    rw [nth_get] at hi
    have : (sel ss M)[i]? = some (some e) := by rw [hs, List.getElem?_map, hi]; rfl
    rw [sel_len, List.getElem?_map] at this
    obtain ⟨j, hj, e'⟩ := Option.map_eq_some_iff.mp this
    exact ⟨j, hj, e'⟩
  refine ⟨D.size, D.holds, D.le, fun i e hi => ?_, fun i e hi w => ?_, fun i e hi w => ?_, fun i j e e' hi hj hne w => ?_, D.keep, fun i e hi w => ?_, D.above, D.dom⟩
  · obtain ⟨j, _, hj⟩ := key i e hi; exact D.at_ j e hj
  · obtain ⟨j, _, hj⟩ := key i e hi; exact D.fz j e hj w
  · obtain ⟨j, _, hj⟩ := key i e hi; exact D.own j e hj w
  · obtain ⟨i', a1, a2⟩ := key i e hi
    obtain ⟨j', b1, b2⟩ := key j e' hj
    refine D.ne i' j' e e' a2 b2 (fun q => ?_) w
    subst q
    obtain ⟨l1, e1⟩ := List.getElem?_eq_some_iff.mp a1
    obtain ⟨l2, e2⟩ := List.getElem?_eq_some_iff.mp b1
    exact hne ((List.getElem_inj hn).mp (e1.trans e2.symm))
  · obtain ⟨j, _, hj⟩ := key i e hi; exact D.fresh j e hj w
theorem good_of_viewN {Q : Gh → Result → List (Option Ent) → Nat → Nat → Prop} {QA : Gh → Code → Nat → Nat → Bool → List (Option Ent) → Nat → Nat → Prop} : ∀ (o : Out) (ss : List (List Nat)) (sp : List Spec) (ξ : Nat → Ans) (F : Gh), (∀ l ∈ ss, l.Nodup) →
    obsL o = obsR o → qtL o = qtR o → stkL o = stkR o → askL o = askR o → GoodV w s₀ h₀ mt F₀ Q QA ss sp ξ F (view ss o) →
    GoodO w s₀ h₀ mt F₀ (fun F r M sz tk => ∃ ss : List Nat, ss.Nodup ∧ Q F r (sel ss M) sz tk) (fun F c d u g M sz tk => ∃ ss : List Nat, ss.Nodup ∧ QA F c d u g (sel ss M) sz tk) sp ξ F o
  | .agn .., ss, _, _, _, hn, _, _, _, _, H => ⟨hd1 ss, by cases ss with | nil => exact List.nodup_nil | cons l r => exact hn l (.head _), H⟩
  | .fin .., ss, _, _, _, hn, _, _, _, _, H => ⟨hd1 ss, by cases ss with | nil => exact List.nodup_nil | cons l r => exact hn l (.head _), H⟩
  | .ob a b o, ss, sp, ξ, F, hn, h1, h2, h3, h4, H => ⟨(List.cons.inj h1).1, good_of_viewN o ss sp ξ F hn (List.cons.inj h1).2 h2 h3 h4 H⟩
  | .qt a b o, ss, sp, ξ, F, hn, h1, h2, h3, h4, H => ⟨(List.cons.inj h2).1, good_of_viewN o ss sp ξ F hn h1 (List.cons.inj h2).2 h3 h4 H⟩
  | .stk k k' d o, ss, sp, ξ, F, hn, h1, h2, h3, h4, H => ⟨(List.cons.inj h3).1, H.1, good_of_viewN o ss sp ξ F hn h1 h2 (List.cons.inj h3).2 h4 H.2⟩
  | .ask a b a' b' o, ss, sp, ξ, F, hn, h1, h2, h3, h4, H => ⟨(List.cons.inj h4).1, (List.cons.inj (List.cons.inj h4).2).1, good_of_viewN o ss sp ξ F hn h1 h2 h3 (List.cons.inj (List.cons.inj h4).2).2 H⟩
  | .req c d u g M sz tk o, ss, [], ξ, F, _, h1, h2, h3, h4, H => H
  | .req c d u g M sz tk o, ss, s :: sp, ξ, F, hn, h1, h2, h3, h4, H => ⟨H.1 M sz tk rfl, fun F' hF hP => good_of_viewN o (tl1 ss) sp _ F' (by cases ss with | nil => exact fun Z x => by cases x | cons l r => exact fun x hx => hn x (.tail _ hx)) h1 h2 h3 h4 (H.2 F' hF hP)⟩
  | .bad .., _, _, _, _, _, _, _, _, _, H => H
theorem leaf {α : Type} (enc : α → Flow) {X : Sem α} {V : Cx} (O : Okay w V F₀) {d u : Nat} {g : Bool} {n : Nat} {orc : List Nat} {pl : List (Ans → List Ent → Nat → Nat → Resp)} {ss : List (List Nat)} {sp : List Spec} {M : List Ent} {sz tk : Nat} (ht : 2050 ≤ tk) {h : Heap}
    {T : Sem Fin} {Q : α → Shared → Prop} {E : Value → Shared → Prop} {Vw : (Nat → Ans) → View} (hT : T = X.bind fun a => .pure (.done (enc a))) (hp : sp.map Spec.p = pl) (hn : ∀ l ∈ ss, l.Nodup) (D : Rep h₀ mt F₀ F M sz h)
    (C : ∀ ξ, Chk (run V n blk d u g [] T M sz tk orc pl ξ) ss (Vw ξ))
    (G : ∀ ξ, GoodV w s₀ h₀ mt F₀ (fun F' r L sz' tk' => ∃ f, r = .ok f ∧ ∀ a, enc a = f → ∀ h', 2050 ≤ tk' → (∀ N : List Ent, L = N.map some → Rep h₀ mt F₀ F' N sz' h') → Q a (sto s₀ h' tk')) (fun Z Z Z Z Z Z Z Z => False) ss sp ξ F (Vw ξ)) :
    wpAny (pwm w) (AA d u g) X Q E (sto s₀ h tk) := by
  subst hT
  subst hp
  have key := sound (w := w) (s₀ := s₀) (h₀ := h₀) (mt := mt) (R := fun r s' => ∃ f, r = .ok f ∧ ∀ a, enc a = f → Q a s') O
    (Q := fun F r M sz tk => ∃ ss : List Nat, ss.Nodup ∧ (fun F' r L sz' tk' => ∃ f, r = .ok f ∧ ∀ a, enc a = f → ∀ h', 2050 ≤ tk' → (∀ N : List Ent, L = N.map some → Rep h₀ mt F₀ F' N sz' h') → Q a (sto s₀ h' tk')) F r (sel ss M) sz tk) (QA := fun F c d u g M sz tk => ∃ ss : List Nat, ss.Nodup ∧ (fun Z Z Z Z Z Z Z Z => False) F c d u g (sel ss M) sz tk)
    (fun F r M sz tk h' ⟨ss, hss, f, e, q⟩ T' D' => ⟨f, e, fun a e' => q a e' h' T' fun N hN => D'.pick hss hN⟩) (fun Z Z Z Z Z Z Z Z Z q => let ⟨_, _, q⟩ := q; q.elim) n blk d u g [] (X.bind fun a => .pure (.done (enc a))) M sz tk orc sp F h (fun ξ => ?_) ht D
  · intro Γ p hΓ
    have z := key Γ p (by rw [under_blk]; exact hΓ)
    have z' : Sem.wp (pwm w) Γ (X >>= fun a => (.pure (.done (enc a)) : Sem Fin)) (fun a Z s' => postC w (AA d u g) (endK w (fun r s' => ∃ f, r = .ok f ∧ ∀ a, enc a = f → Q a s') []) a s') (fun e Z s' => postE (endK w (fun r s' => ∃ f, r = .ok f ∧ ∀ a, enc a = f → Q a s') []) e s') p (sto s₀ h tk) := z
    rw [Sem.wp_bind'] at z'
    refine Sem.wp_mono _ Γ X (fun a p' s' q => ?_) (fun e p' s' q => ?_) p _ z'
    · obtain ⟨f, e, q⟩ := (show ∃ f, (.ok (enc a) : Result) = .ok f ∧ ∀ a, enc a = f → Q a s' from q)
      cases e
      exact q a rfl
    · obtain ⟨f, e, _⟩ := (show ∃ f, (.error e : Result) = .ok f ∧ ∀ a, enc a = f → Q a s' from q)
      cases e
  · have e := C ξ
    simp only [Chk, Prod.mk.injEq] at e
    obtain ⟨e1, e2, e3, e4, e5⟩ := e
    exact good_of_viewN _ ss sp ξ F hn e1 e2 e3 e4 (by rw [e5]; exact G ξ)
theorem code_seg {V : Cx} (O : Okay w V F₀) {c : Code} {d u : Nat} {g : Bool} {n : Nat} {orc : List Nat} {pl : List (Ans → List Ent → Nat → Nat → Resp)} {ss : List (List Nat)} {sp : List Spec} {M : List Ent} {sz tk : Nat} (ht : 2050 ≤ tk) {h : Heap} {R : Result → Shared → Prop}
    {Vw : (Nat → Ans) → View} (hp : sp.map Spec.p = pl) (hn : ∀ l ∈ ss, l.Nodup) (D : Rep h₀ mt F₀ F M sz h)
    (C : ∀ ξ, Chk (run V n c d u g [] (V.den c) M sz tk orc pl ξ) ss (Vw ξ))
    (G : ∀ ξ, GoodV w s₀ h₀ mt F₀ (fun F' r L sz' tk' => ∀ h', 2050 ≤ tk' → (∀ N : List Ent, L = N.map some → Rep h₀ mt F₀ F' N sz' h') → R r (sto s₀ h' tk'))
      (fun F' c' d' u' g' L sz' tk' => ∀ h', 2050 ≤ tk' → (∀ N : List Ent, L = N.map some → Rep h₀ mt F₀ F' N sz' h') → codeAny (pwm w) (AA d' u' g') c' R (sto s₀ h' tk')) ss sp ξ F (Vw ξ)) :
    codeAny (pwm w) (AA d u g) c R (sto s₀ h tk) := by
  subst hp
  refine code_of (κ := []) (R := R) ?_
  have key := sound (w := w) (s₀ := s₀) (h₀ := h₀) (mt := mt) (R := R) O
    (Q := fun F r M sz tk => ∃ ss : List Nat, ss.Nodup ∧ (fun F' r L sz' tk' => ∀ h', 2050 ≤ tk' → (∀ N : List Ent, L = N.map some → Rep h₀ mt F₀ F' N sz' h') → R r (sto s₀ h' tk')) F r (sel ss M) sz tk)
    (QA := fun F c d u g M sz tk => ∃ ss : List Nat, ss.Nodup ∧ (fun F' c' d' u' g' L sz' tk' => ∀ h', 2050 ≤ tk' → (∀ N : List Ent, L = N.map some → Rep h₀ mt F₀ F' N sz' h') → codeAny (pwm w) (AA d' u' g') c' R (sto s₀ h' tk')) F c d u g (sel ss M) sz tk)
    (fun F r M sz tk h' ⟨ss, hss, q⟩ T' D' => q h' T' fun N hN => D'.pick hss hN) (fun F c d u g M sz tk h' ⟨ss, hss, q⟩ T' D' => q h' T' fun N hN => D'.pick hss hN) n c d u g [] (V.den c) M sz tk orc sp F h (fun ξ => ?_) ht D
  · rw [O.den] at key
    exact key
  · have e := C ξ
    simp only [Chk, Prod.mk.injEq] at e
    obtain ⟨e1, e2, e3, e4, e5⟩ := e
    exact good_of_viewN _ ss sp ξ F hn e1 e2 e3 e4 (by rw [e5]; exact G ξ)
theorem nth_mem {M : List Ent} {e : Ent} (h : e ∈ M) : ∃ i, nth M i = some e := by
  obtain ⟨i, hi⟩ := List.getElem?_of_mem h
  exact ⟨i, (nth_get M i).trans hi⟩
theorem Rep.addF' {M : List Ent} {sz : Nat} {h : Heap} (D : Rep h₀ mt F₀ F M sz h) : F₀.le (Mine.addF mt F (M.map some)) ∧ Holds (Mine.addF mt F (M.map some)) h ∧ Above F₀ (Mine.addF mt F (M.map some)) h₀ := by
  have z := D.addF (List.range M.length)
  have e : sel (List.range M.length) M = M.map some := by
    rw [sel_len]
    refine List.ext_getElem? fun i => ?_
    rw [List.getElem?_map, List.getElem?_map]
    by_cases q : i < M.length
    · rw [List.getElem?_range q, List.getElem?_eq_getElem q]
      simp only [Option.map_some, nth_get, List.getElem?_eq_getElem q]
    · rw [List.getElem?_eq_none (by simpa using q), List.getElem?_eq_none ω]; rfl
  rw [e] at z
  exact z
theorem callsR_intro {own fz : List (Addr × Obj)} {c : Code} {d u : Nat} {g : Bool} {Post : Gh → Result → List (Addr × Obj) → Prop} (hB : ∀ h, Holds F h → 981 ≤ h.objs.size) (hf : ∀ p ∈ fz, F p.1 p.2)
    (H : ∀ (h : Heap) (z t : Nat) (R : Result → Shared → Prop), Rep h (own.map (·.1)) F F (entOwn own ++ entFz fz) (ψ z) h →
      (∀ (r : Result) (F' : Gh) (N : List Ent) (sz' tk' : Nat) (h' : Heap) (own' : List (Addr × Obj)), 2050 ≤ tk' → Rep h (own.map (·.1)) F F' N sz' h' → own'.map (·.1) = own.map (·.1) → (∀ p ∈ own', ∃ q, (⟨p.1, p.2, q⟩ : Ent) ∈ N) → Post (addF (own.map (·.1)) F' (N.map some)) r own' → R r (sto s₀ h' tk')) →
      codeAny (pwm w) (AA d u g) c R (σt h t)) : CallsR w s₀ F own c d u g Post := by
  intro h tk R ht hF ho hn hR
  obtain ⟨t, rfl⟩ := sub2050 ht
  obtain ⟨z, hz⟩ := sub981 (hB h hF)
  have D := Rep.start (fz := fz) hF ho hn hf
  rw [hz] at D
  refine H h z t R D fun r F' N sz' tk' h' own' T' D' hm hs hP => ?_
  obtain ⟨a1, a2, a3⟩ := D'.addF'
  refine hR r _ h' tk' own' a1 a2 D'.keep a3 hm (fun p hp => ?_) D'.dom hP
  obtain ⟨q, hq⟩ := hs p hp
  obtain ⟨i, hi⟩ := nth_mem hq
  exact D'.at_ i _ hi
end
noncomputable def LQ (s₀ : Shared) (h₀ : Heap) (mt : List Addr) (F₀ : Gh) {α : Type} (enc : α → Flow) (Q : α → Shared → Prop) : Gh → Result → List (Option Ent) → Nat → Nat → Prop :=
  fun F' r L sz' tk' => ∃ f, r = .ok f ∧ ∀ a, enc a = f → ∀ h', 2050 ≤ tk' → (∀ N : List Ent, L = N.map some → Rep h₀ mt F₀ F' N sz' h') → Q a (sto s₀ h' tk')
noncomputable def LA : Gh → Code → Nat → Nat → Bool → List (Option Ent) → Nat → Nat → Prop := fun Z Z Z Z Z Z Z Z => False
noncomputable def nodB (ss : List (List Nat)) : Bool := ss.all fun l => decide l.Nodup
theorem nod_of {ss : List (List Nat)} (h : nodB ss = true) : ∀ l ∈ ss, l.Nodup := fun l hl => of_decide_eq_true (List.all_eq_true.mp h l hl)
section
section
variable {d u n : Nat} {orc : List Nat} {pl : List (Ans → List Ent → Nat → Nat → Resp)} {ss : List (List Nat)} {sp : List Spec} {M : List Ent} {sz t : Nat} {h : Heap} {E : Value → Shared → Prop} {Vw : (Nat → Ans) → View}
theorem lfG {α : Type} (enc : α → Flow) {X : Sem α} {T : Sem Fin} (hT : T = X.bind fun a => .pure (.done (enc a))) (hb : BaseIn P F₀) (hw : w.params = P) {Q : α → Shared → Prop} (hp : sp.map Spec.p = pl) (hn : nodB ss = true) (D : Rep h₀ mt F₀ F M sz h) (C : ∀ ξ, Chk (run (cx P) n blk d u true [] T M sz (t + 2050) orc pl ξ) ss (Vw ξ))
    (G : ∀ ξ, GoodV w s₀ h₀ mt F₀ (LQ s₀ h₀ mt F₀ enc Q) LA ss sp ξ F (Vw ξ)) : wpAny (pwm w) (AA d u true) X Q E (σt h t) :=
  leaf enc (okay hb w hw) (Nat.le_add_left _ _) hT hp (nod_of hn) D C G
theorem lfV (hb : BaseIn P F₀) (hw : w.params = P) {e : PySem.Expr} {env : Env} {Q : Value → Shared → Prop} (hp : sp.map Spec.p = pl) (hn : nodB ss = true) (D : Rep h₀ mt F₀ F M sz h) (C : ∀ ξ, Chk (run (cx P) n blk d u true [] (vTr (evalT e env)) M sz (t + 2050) orc pl ξ) ss (Vw ξ))
    (G : ∀ ξ, GoodV w s₀ h₀ mt F₀ (LQ s₀ h₀ mt F₀ (fun v => .ret v) Q) LA ss sp ξ F (Vw ξ)) : wpAny (pwm w) (AA d u true) (eval e env) Q E (σt h t) := lfG _ (vTr_eval _ _) hb hw hp hn D C G
theorem lfM (hb : BaseIn P F₀) (hw : w.params = P) {o : PySem.Expr} {nm : PySem.Str} {ap p : Pos} {env : Env} {ov : Value} {q : Nat} {as : List (Bool × Sem Value)} {kw : List (Option PySem.Str × Sem Value)} {Q : Value → Shared → Prop} (hp : sp.map Spec.p = pl) (hn : nodB ss = true) (D : Rep h₀ mt F₀ F M sz h) (C : ∀ ξ, Chk (run (cx P) n blk d u true [] (vTr (methT o nm ap p env ov q as kw)) M sz (t + 2050) orc pl ξ) ss (Vw ξ))
    (G : ∀ ξ, GoodV w s₀ h₀ mt F₀ (LQ s₀ h₀ mt F₀ (fun v => .ret v) Q) LA ss sp ξ F (Vw ξ)) : wpAny (pwm w) (AA d u true) (methodCall o nm ap p env ov q as kw) Q E (σt h t) := lfG _ (vTr_meth _ _ _ _ _ _ _ _ _) hb hw hp hn D C G
theorem lfB (hb : BaseIn P F₀) (hw : w.params = P) {e : PySem.Expr} {env : Env} {Q : Bool → Shared → Prop} (hp : sp.map Spec.p = pl) (hn : nodB ss = true) (D : Rep h₀ mt F₀ F M sz h) (C : ∀ ξ, Chk (run (cx P) n blk d u true [] (bTr (isTrueT e env (evalT e env))) M sz (t + 2050) orc pl ξ) ss (Vw ξ))
    (G : ∀ ξ, GoodV w s₀ h₀ mt F₀ (LQ s₀ h₀ mt F₀ (fun b => .ret (.bool b)) Q) LA ss sp ξ F (Vw ξ)) : wpAny (pwm w) (AA d u true) (isTrue e env (eval e env)) Q E (σt h t) := lfG _ (bTr_isTrue _ _) hb hw hp hn D C G
theorem lfF (hb : BaseIn P F₀) (hw : w.params = P) {b : List Stmt} {env : Env} {Q : Flow → Shared → Prop} (hp : sp.map Spec.p = pl) (hn : nodB ss = true) (D : Rep h₀ mt F₀ F M sz h) (C : ∀ ξ, Chk (run (cx P) n blk d u true [] (fTr (execsT b env)) M sz (t + 2050) orc pl ξ) ss (Vw ξ))
    (G : ∀ ξ, GoodV w s₀ h₀ mt F₀ (LQ s₀ h₀ mt F₀ (fun f => f) Q) LA ss sp ξ F (Vw ξ)) : wpAny (pwm w) (AA d u true) (execs b env) Q E (σt h t) := lfG _ (fTr_execs _ _) hb hw hp hn D C G
theorem lfU (hb : BaseIn P F₀) (hw : w.params = P) {e : PySem.Expr} {env : Env} {v : Value} {Q : Unit → Shared → Prop} (hp : sp.map Spec.p = pl) (hn : nodB ss = true) (D : Rep h₀ mt F₀ F M sz h) (C : ∀ ξ, Chk (run (cx P) n blk d u true [] (uTr (assignT e env v)) M sz (t + 2050) orc pl ξ) ss (Vw ξ))
    (G : ∀ ξ, GoodV w s₀ h₀ mt F₀ (LQ s₀ h₀ mt F₀ (fun Z => .next) Q) LA ss sp ξ F (Vw ξ)) : wpAny (pwm w) (AA d u true) (assign e env v) Q E (σt h t) := lfG _ (uTr_assign _ _ _) hb hw hp hn D C G
theorem lfW (hb : BaseIn P F₀) (hw : w.params = P) {x : PySem.Str} {env : Env} {v : Value} {Q : Unit → Shared → Prop} (hp : sp.map Spec.p = pl) (hn : nodB ss = true) (D : Rep h₀ mt F₀ F M sz h) (C : ∀ ξ, Chk (run (cx P) n blk d u true [] (uTr (storeT env x v)) M sz (t + 2050) orc pl ξ) ss (Vw ξ))
    (G : ∀ ξ, GoodV w s₀ h₀ mt F₀ (LQ s₀ h₀ mt F₀ (fun Z => .next) Q) LA ss sp ξ F (Vw ξ)) : wpAny (pwm w) (AA d u true) (storeName env x v) Q E (σt h t) := lfG _ (uTr_store _ _ _) hb hw hp hn D C G
theorem lfO (hb : BaseIn P F₀) (hw : w.params = P) {v : Value} {Q : Option Value → Shared → Prop} (hp : sp.map Spec.p = pl) (hn : nodB ss = true) (D : Rep h₀ mt F₀ F M sz h) (C : ∀ ξ, Chk (run (cx P) n blk d u true [] (oTr (nextT v)) M sz (t + 2050) orc pl ξ) ss (Vw ξ))
    (G : ∀ ξ, GoodV w s₀ h₀ mt F₀ (LQ s₀ h₀ mt F₀ encO Q) LA ss sp ξ F (Vw ξ)) : wpAny (pwm w) (AA d u true) (pyNext v) Q E (σt h t) := lfG _ (oTr_next _) hb hw hp hn D C G
end
section
variable {N : List Ent} {F' : Gh} {sz' tk' : Nat}
theorem qV {Q : Value → Shared → Prop} {v : Value} (K : ∀ h' t, Rep h₀ mt F₀ F' N sz' h' → Q v (σt h' t)) : LQ s₀ h₀ mt F₀ (fun v => .ret v) Q F' (.ok (.ret v)) (N.map some) sz' tk' :=
  ⟨_, rfl, fun a ea h' T D => by cases ea; obtain ⟨t, rfl⟩ := sub2050 T; exact K h' t (D _ rfl)⟩
theorem qB {Q : Bool → Shared → Prop} {b : Bool} (K : ∀ h' t, Rep h₀ mt F₀ F' N sz' h' → Q b (σt h' t)) : LQ s₀ h₀ mt F₀ (fun b => .ret (.bool b)) Q F' (.ok (.ret (.bool b))) (N.map some) sz' tk' :=
  ⟨_, rfl, fun a ea h' T D => by cases ea; obtain ⟨t, rfl⟩ := sub2050 T; exact K h' t (D _ rfl)⟩
theorem qF {Q : Flow → Shared → Prop} {f : Flow} (K : ∀ h' t, Rep h₀ mt F₀ F' N sz' h' → Q f (σt h' t)) : LQ s₀ h₀ mt F₀ (fun f => f) Q F' (.ok f) (N.map some) sz' tk' :=
  ⟨_, rfl, fun a ea h' T D => by cases ea; obtain ⟨t, rfl⟩ := sub2050 T; exact K h' t (D _ rfl)⟩
theorem qU {Q : Unit → Shared → Prop} (K : ∀ h' t, Rep h₀ mt F₀ F' N sz' h' → Q () (σt h' t)) : LQ s₀ h₀ mt F₀ (fun Z => .next) Q F' (.ok .next) (N.map some) sz' tk' :=
  ⟨_, rfl, fun a ea h' T D => by obtain ⟨t, rfl⟩ := sub2050 T; exact K h' t (D _ rfl)⟩
theorem qO {Q : Option Value → Shared → Prop} {v : Value} (K : ∀ h' t, Rep h₀ mt F₀ F' N sz' h' → Q (some v) (σt h' t)) : LQ s₀ h₀ mt F₀ encO Q F' (.ok (.ret v)) (N.map some) sz' tk' :=
  ⟨_, rfl, fun a ea h' T D => by
    cases a with
    | none => cases ea
    | some v => cases ea; obtain ⟨t, rfl⟩ := sub2050 T; exact K h' t (D _ rfl)⟩
theorem qN {Q : Option Value → Shared → Prop} (K : ∀ h' t, Rep h₀ mt F₀ F' N sz' h' → Q none (σt h' t)) : LQ s₀ h₀ mt F₀ encO Q F' (.ok .next) (N.map some) sz' tk' :=
  ⟨_, rfl, fun a ea h' T D => by
    cases a with
    | some v => cases ea
    | none => obtain ⟨t, rfl⟩ := sub2050 T; exact K h' t (D _ rfl)⟩
theorem Rep.sz {M : List Ent} {sz : Nat} {h : Heap} (hb : BaseIn P F₀) (D : Rep h₀ mt F₀ F M sz h) : ∃ z, sz = z + 981 := sub981 (D.size ▸ hb.size fun a o e => D.holds a o (D.le a o e))
theorem qVz (hb : BaseIn P F₀) {Q : Value → Shared → Prop} {v : Value} (K : ∀ h' z t, Rep h₀ mt F₀ F' N (ψ z) h' → Q v (σt h' t)) : LQ s₀ h₀ mt F₀ (fun v => .ret v) Q F' (.ok (.ret v)) (N.map some) sz' tk' :=
  qV fun h' t D => by obtain ⟨z, rfl⟩ := D.sz hb; exact K h' z t D
theorem qBz (hb : BaseIn P F₀) {Q : Bool → Shared → Prop} {b : Bool} (K : ∀ h' z t, Rep h₀ mt F₀ F' N (ψ z) h' → Q b (σt h' t)) : LQ s₀ h₀ mt F₀ (fun b => .ret (.bool b)) Q F' (.ok (.ret (.bool b))) (N.map some) sz' tk' :=
  qB fun h' t D => by obtain ⟨z, rfl⟩ := D.sz hb; exact K h' z t D
theorem qFz (hb : BaseIn P F₀) {Q : Flow → Shared → Prop} {f : Flow} (K : ∀ h' z t, Rep h₀ mt F₀ F' N (ψ z) h' → Q f (σt h' t)) : LQ s₀ h₀ mt F₀ (fun f => f) Q F' (.ok f) (N.map some) sz' tk' :=
  qF fun h' t D => by obtain ⟨z, rfl⟩ := D.sz hb; exact K h' z t D
theorem qUz (hb : BaseIn P F₀) {Q : Unit → Shared → Prop} (K : ∀ h' z t, Rep h₀ mt F₀ F' N (ψ z) h' → Q () (σt h' t)) : LQ s₀ h₀ mt F₀ (fun Z => .next) Q F' (.ok .next) (N.map some) sz' tk' :=
  qU fun h' t D => by obtain ⟨z, rfl⟩ := D.sz hb; exact K h' z t D
theorem qOz (hb : BaseIn P F₀) {Q : Option Value → Shared → Prop} {v : Value} (K : ∀ h' z t, Rep h₀ mt F₀ F' N (ψ z) h' → Q (some v) (σt h' t)) : LQ s₀ h₀ mt F₀ encO Q F' (.ok (.ret v)) (N.map some) sz' tk' :=
  qO fun h' t D => by obtain ⟨z, rfl⟩ := D.sz hb; exact K h' z t D
theorem qNz (hb : BaseIn P F₀) {Q : Option Value → Shared → Prop} (K : ∀ h' z t, Rep h₀ mt F₀ F' N (ψ z) h' → Q none (σt h' t)) : LQ s₀ h₀ mt F₀ encO Q F' (.ok .next) (N.map some) sz' tk' :=
  qN fun h' t D => by obtain ⟨z, rfl⟩ := D.sz hb; exact K h' z t D
end
end
theorem Rep.pk {M : List Ent} {sz : Nat} {h : Heap} (D : Rep h₀ mt F₀ F M sz h) (ss : List Nat) (N : List Ent) (hs : sel ss M = N.map some) (hn : ss.Nodup := by decide) : Rep h₀ mt F₀ F N sz h := D.pick hn hs
section
variable {d u : Nat} {g : Bool}
theorem setN_congr {f f' : Obj → Obj} : ∀ {M : List Ent} {i : Nat} {e : Ent}, nth M i = some e → f e.o = f' e.o → setN f M i = setN f' M i
  | [], _, _, h, _ => by cases h
  | a :: r, 0, e, h, q => by cases h; show (⟨_, _, _⟩ : Ent) :: r = ⟨_, _, _⟩ :: r; rw [q]
  | a :: r, i + 1, e, h, q => by
    show a :: setN f r i = a :: setN f' r i
    rw [setN_congr (M := r) h q]
theorem can_up (hB : ∀ h, Holds F h → 981 ≤ h.objs.size) {i : Nat} {a : Addr} {o : Obj} {f : Obj → Obj} {o' : Nat → Obj} {k : Nat} {fn v : Value} {args : List Value}
    (H : ∀ (h : Heap) (tk : Nat) (Q : Value → Shared → Prop), 2050 ≤ tk → h.get? a = some o → (∀ tk', tk ≤ tk' → Q v (sto s₀ (h.update a f) tk')) → wpAny (pwm w) (AA d u g) (call fn args) Q (fun Z Z => False) (sto s₀ h tk))
    (hf : f o = o' k) (hz : (f o).isFreed = false) :
    CanV w s₀ h₀ mt F₀ (.call fn ⟨args, []⟩) d u g F [i] [ςσ a o] ⟨ωX v [(i, o' (x.n 40))] [], fun Z Z Z => True⟩ := by
  intro M sz tk hsel h R ht D hR
  have hi : nth M i = ςσ a o := (List.cons.inj hsel).1
  refine node_of_wp (H h tk (fun v s' => R (.ok (.ret v)) s') ht (D.at_ i _ hi) fun tk' hle => ?_) (fun Z Z q => q) (fun Z Z q => q.elim)
  have D' := D.update hi rfl hz
  rw [setN_congr (f' := fun Z => o' k) hi hf] at D'
  obtain ⟨z, hz'⟩ := sub981 (hB h D.holds)
  obtain ⟨t, rfl⟩ := sub2050 (Nat.le_trans ht hle)
  have hsz : sz = z + 981 := D.size ▸ hz'
  subst hsz
  exact hR ⟨fun j => match j with | 0 => z | 1 => t | _ => k, fun Z => 0, fun Z => .none, fun Z => default, fun Z => true⟩ F _ (fun Z Z e => e) trivial D'
theorem can_same (hB : ∀ h, Holds F h → 981 ≤ h.objs.size) {ss : List Nat} {L : List (Option Ent)} {fn : Value} {args : List Value} {sp : Spec} {v : Nat → Value} (x : Nat → Nat → Nat → Ans)
    (H : ∀ (h : Heap) (tk : Nat) (Q : Value → Shared → Prop), 2050 ≤ tk → (∀ a o w, some (⟨a, o, w⟩ : Ent) ∈ L → h.get? a = some o) → (∀ t tk', tk ≤ tk' → Q (v t) (sto s₀ h tk')) → wpAny (pwm w) (AA d u g) (call fn args) Q (fun Z Z => False) (sto s₀ h tk))
    (hs : ∀ t z tk M sz tk0, sp.p (x t z tk) M sz tk0 = ⟨.ok (.ret (v t)), [], [], z + 981, tk + 2050⟩ ∧ sp.P F F (x t z tk)) :
    CanV w s₀ h₀ mt F₀ (.call fn ⟨args, []⟩) d u g F ss L sp := by
  intro M sz tk hsel h R ht D hR
  refine node_of_wp (H h tk (fun v s' => R (.ok (.ret v)) s') ht (fun a o w' hm => ?_) fun tt tk' hle => ?_) (fun Z Z q => q) (fun Z Z q => q.elim)
  · rw [← hsel] at hm
    obtain ⟨i, hi⟩ := sel_mem hm
    exact D.at_ i _ hi
  · obtain ⟨z, hz'⟩ := sub981 (hB h D.holds)
    obtain ⟨t, rfl⟩ := sub2050 (Nat.le_trans ht hle)
    have hsz : sz = z + 981 := D.size ▸ hz'
    subst hsz
    obtain ⟨e1, e2⟩ := hs tt z t M (ψ z) tk
    have y := hR (x tt z t) F h (fun Z Z e => e) e2
    rw [e1] at y
    exact y D
noncomputable def xI (i : Int) (t z tk : Nat) : Ans := ⟨fun j => match j with | 0 => z | 1 => tk | _ => t, fun Z => i, fun Z => .none, fun Z => default, fun Z => true⟩
theorem can_mod (hB : ∀ h, Holds F h → 981 ≤ h.objs.size) {a b : Int} {t t' : Nat} (hb : b ≠ 0) : CanV w s₀ h₀ mt F₀ (.call (.builtin "int.__mod__") ⟨[.int a t, .int b t'], []⟩) d u g F [] [] (iS fun Z Z r => r = a.fmod b) :=
  can_same hB (v := fun t => .int (a.fmod b) t) (xI (a.fmod b)) (fun h tk Q ht Z hQ => wpAny_mono (call_int_mod (Q := Q) hb (hQ tk (tk + 1) (Nat.le_succ _))) (fun Z Z q => q.2) fun Z Z q => q) fun t z tk M sz tk0 => ⟨rfl, rfl⟩
theorem can_fdiv (hB : ∀ h, Holds F h → 981 ≤ h.objs.size) {a b : Int} {t t' : Nat} (hb : b ≠ 0) (hs : b.natAbs < 1073741824) : CanV w s₀ h₀ mt F₀ (.call (.builtin "int.__floordiv__") ⟨[.int a t, .int b t'], []⟩) d u g F [] [] (iS fun Z Z r => r = a.fdiv b) :=
  can_same hB (v := fun t => .int (a.fdiv b) t) (xI (a.fdiv b)) (fun h tk Q ht Z hQ => wpAny_mono (call_int_floordiv (Q := Q) hb (hQ tk (tk + 1) (Nat.le_succ _)) (.inl (PyProof.noPylong_small hs))) (fun Z Z q => q.2) fun Z Z q => q) fun t z tk M sz tk0 => ⟨rfl, rfl⟩
theorem pop0_is (y : Value) (vs : List Value) (e : Nat) : ∃ k, Obj.mapSeq (fun xs => xs.eraseIdxIfInBounds 0) (lstO (y :: vs) e) = lstO vs k := by
  have q : (y :: vs).toArray.eraseIdxIfInBounds 0 = vs.toArray := by simp
  exact ⟨if vs.toArray.size == (y :: vs).toArray.size then e else e + 1, by unfold Obj.mapSeq; simp only [q]⟩
noncomputable def popS (i : Nat) (y : Value) (vs : List Value) : Spec := ⟨ωX y [(i, lstO vs (x.n 40))] [], fun Z Z Z => True⟩
theorem Rep.weak {M : List Ent} {sz : Nat} {h : Heap} (D : Rep h₀ mt F₀ F M sz h) (ho : (M.all fun e => e.own) = true) : Rep h₀ mt F₀ F₀ M sz h := by
  have hown : ∀ i e, nth M i = some e → e.own = true := fun i e hi => by
    rw [nth_get] at hi
    exact List.all_eq_true.mp ho e (List.mem_of_getElem? hi)
  exact ⟨D.size, fun a o e => D.holds a o (D.le a o e), fun Z Z e => e, D.at_, fun i e hi w => absurd (hown i e hi) (by rw [w]; decide), fun i e hi w o x => D.own i e hi w o (D.le _ _ x), D.ne, D.keep, D.fresh, fun Z Z e => .inl e, D.dom⟩
theorem can_pop0 (hB : ∀ h, Holds F h → 981 ≤ h.objs.size) {i l e t : Nat} {y : Value} {vs : List Value} (hsz : vs.length + 1 ≤ sizeLine) :
    CanV w s₀ h₀ mt F₀ (.call (.builtin "list.pop") ⟨[.ref l, .int 0 t], []⟩) d u g F [i] [ςσ l (lstO (y :: vs) e)] (popS i y vs) := by
  obtain ⟨k, hk⟩ := pop0_is y vs e
  refine can_up hB (o' := fun k => lstO vs k) (f := Obj.mapSeq fun xs => xs.eraseIdxIfInBounds 0) (k := k) (fun h tk Q ht hl hQ => ?_) hk (by rw [hk]; rfl)
  exact call_meets (S := _) PySem.F.slot_list_pop ⟨_, hl, rfl⟩ PySem.F.entry_list_pop (PySem.F.args_list_pop_2 _ _) (PySem.MeetsSeq.list_pop_at l _ e 0 t 0 y δ (by unfold seqIndex?; simp) (by simp) (by simpa using hsz)) ⟨hl, hQ tk (Nat.le_refl _)⟩
def Deck (vs : List Value) (n : Nat) : Prop := ∃ ns, IntsAre vs ns ∧ (∀ k ∈ ns, (0 : Int) ≤ k) ∧ vs.length ≤ n
noncomputable def drO (P : Params) (l : Nat) (m : Int) (k1 k2 tm : Nat) : Obj := { cls := .type "frame", data := .dict #[⟨PyData.keyHash P "_law_deck", .str "_law_deck" k1, ρ l⟩, ⟨PyData.keyHash P "_law_many", .str "_law_many" k2, .int m tm⟩] 2 }
noncomputable abbrev drE (fr : Nat) : Env := envF 56 0 912 911 "_law_draw.<locals>." (ψ fr)
theorem sizeLine_is : sizeLine = 16777216 := rfl
section
variable (w : World) (s₀ : Shared) (h₀ : Heap) (mt : List Addr) (F : Gh) (P : Params) (l fr : Nat) (m : Int) (k1 k2 tm n : Nat)
def DrI (vs : List Value) (s : Shared) : Prop := ∃ e z tk h, s = σt h tk ∧ Deck vs n ∧ Rep h₀ mt F F [ε l (lstO vs e), ε fr (drO P l m k1 k2 tm)] (ψ z) h
end
noncomputable def sPos : Stmt → Pos
  | .While _ _ _ p => p
  | .If _ _ _ p => p
  | .For _ _ _ _ p => p
  | _ => ⟨0, 0, 0, 0⟩
def isWh (s : Stmt) : Prop := s = .While (sTest s) (sBody s) (sElse s) (sPos s)
def isIf (s : Stmt) : Prop := s = .If (sTest s) (sBody s) (sElse s) (sPos s)
def isFor (s : Stmt) : Prop := s = .For (sTgt s) (sTest s) (sBody s) (sElse s) (sPos s)
noncomputable def ePos : PySem.Expr → Pos
  | .Compare _ _ _ p => p
  | .BoolOp _ _ p => p
  | _ => ⟨0, 0, 0, 0⟩
def isAnd (e : PySem.Expr) : Prop := e = .BoolOp .And [bVal e 0, bVal e 1] (ePos e)
def isOr (e : PySem.Expr) : Prop := e = .BoolOp .Or [bVal e 0, bVal e 1] (ePos e)
def isCmp (o : CmpOp) (e : PySem.Expr) : Prop := (e, behindInMarks o (cR e)) = (.Compare (cL e) [o] [cR e] (ePos e), false)
section
variable {M : Model} {A : Around} {E : Value → Shared → Prop} {s : Shared} {env : Env}
theorem w_and {e : PySem.Expr} (he : isAnd e) {Q : Bool → Shared → Prop}
    (h : wpAny M A (isTrue (bVal e 0) env (eval (bVal e 0) env)) (fun c s' => if c then wpAny M A (isTrue (bVal e 1) env (eval (bVal e 1) env)) Q E s' else Q false s') E s) : wpAny M A (isTrue e env (eval e env)) Q E s := by
  generalize hw : eval e env = whole
  rw [(show _ = _ from he)]
  refine isTrue_and (wpAny_mono h (fun c s' q => ?_) fun Z Z q => q)
  cases c with
  | false => exact q
  | true => exact isTrue_and (wpAny_mono q (fun c s' q => by cases c with | false => exact q | true => exact isTrue_and_nil q) fun Z Z q => q)
theorem w_or {e : PySem.Expr} (he : isOr e) {Q : Bool → Shared → Prop}
    (h : wpAny M A (isTrue (bVal e 0) env (eval (bVal e 0) env)) (fun c s' => if c then Q true s' else wpAny M A (isTrue (bVal e 1) env (eval (bVal e 1) env)) Q E s') E s) : wpAny M A (isTrue e env (eval e env)) Q E s := by
  generalize hw : eval e env = whole
  rw [(show _ = _ from he)]
  refine isTrue_or (wpAny_mono h (fun c s' q => ?_) fun Z Z q => q)
  cases c with
  | true => exact q
  | false => exact isTrue_or (wpAny_mono q (fun c s' q => by cases c with | true => exact q | false => exact isTrue_or_nil q) fun Z Z q => q)
theorem w_cmp {o : CmpOp} {e : PySem.Expr} (he : isCmp o e) {Q : Bool → Shared → Prop}
    (h : wpAny M A (eval (cL e) env) (fun a s₁ => wpAny M A (eval (cR e) env) (fun b s₂ => wpAny M A (compareOp o a b) (fun v s₃ => ∃ r, v = .bool r ∧ Q r s₃) E s₂) E s₁) E s) : wpAny M A (isTrue e env (eval e env)) Q E s := by
  generalize hw : eval e env = whole
  have h1 : e = _ := congrArg Prod.fst he
  have h2 : behindInMarks o (cR e) = false := congrArg Prod.snd he
  rw [h1]
  refine wpAny_isTrue_Compare1 (wpAny_mono h (fun a s₁ q => wpAny_mono q (fun b s₂ q => wpAny_mono q (fun v s₃ q => ?_) fun Z Z q => q) fun Z Z q => q) fun Z Z q => q) h2
  obtain ⟨r, rfl, q⟩ := q
  exact wpAny_truthy_bool q
theorem w_if {st : Stmt} {rest : List Stmt} (he : isIf st) {Q : Flow → Shared → Prop}
    (h : wpAny M A (isTrue (sTest st) env (eval (sTest st) env)) (fun b s' => wpAny M A (execs (if b then sBody st else sElse st) env) (fun f s' => match f with | .next => wpAny M A (execs rest env) Q E s' | f => Q f s') E s') E s) : wpAny M A (execs (st :: rest) env) Q E s := by
  refine wpAny_execs_cons ?_
  rw [(show _ = _ from he)]
  exact wpAny_If (wpAny_mono h (fun b s' q => by cases b <;> exact q) fun Z Z q => q)
end
theorem draw_w : isWh (fS 56 0 0) := by delta isWh; kernel_rfl
theorem draw_t : isAnd (sTest (fS 56 0 0)) := by delta isAnd; kernel_rfl
theorem draw_c : isCmp .NotEq (bVal (sTest (fS 56 0 0)) 0) := by delta isCmp; kernel_rfl
theorem draw_i : isIf (fS 56 0 1) := by delta isIf; kernel_rfl
theorem draw_j : isCmp .Eq (sTest (fS 56 0 1)) := by delta isCmp; kernel_rfl
theorem draw_body : fBody (fAt 56 0) = fS 56 0 0 :: fS 56 0 1 :: (fBody (fAt 56 0)).drop 2 := κR
theorem draw_else : sElse (fS 56 0 0) = [] := κR
theorem draw_else1 : sElse (fS 56 0 1) = [] := κR
theorem draw_while (hb : BaseIn P F) (hw : w.params = P) (hu : u + 100 < 9900) {l fr k1 k2 tm n : Nat} {m : Int} (hn : n ≤ 1000) {R : Result → Shared → Prop} (hR : ∀ vs s', DrI s₀ h₀ mt F P l fr m k1 k2 tm n vs s' → R (.ok .next) s')
    {vs : List Value} {s : Shared} (hI : DrI s₀ h₀ mt F P l fr m k1 k2 tm n vs s) : codeAny (pwm w) (AA d u true) (.whileLoop (sTest (fS 56 0 0)) (sBody (fS 56 0 0)) (sElse (fS 56 0 0)) (drE fr)) R s := by
  refine codeAny_whileLoop (fun k s => ∃ vs, vs.length = k ∧ DrI s₀ h₀ mt F P l fr m k1 k2 tm n vs s) ?_ vs.length ⟨vs, rfl, hI⟩
  rintro k s ⟨vs, hk, e, z, tk, h, rfl, ⟨ns, hI, h0, hl⟩, D⟩
  have hle : 2050 ≤ tk + 2050 := by omega
  refine w_and draw_t (w_cmp draw_c ?_)
  refine leaf (fun v => .ret v) (okay hb w hw) hle (vTr_eval _ _) (sp := []) rfl δ D (fun ξ => draw_l1) fun ξ => ⟨_, rfl, fun a ea h' T' D' => ?_⟩
  cases ea
  have D := D' [_, _] rfl
  refine leaf (fun v => .ret v) (okay hb w hw) hle (vTr_eval _ _) (sp := []) rfl δ D (fun ξ => draw_r1) fun ξ => ⟨_, rfl, fun a ea h' T' D' => ?_⟩
  cases ea
  have D := D' [_, _, _] rfl
  rw [show z + 981 + 1 = (z + 1) + 981 by omega] at D
  refine ne_intsK (ns := ns) (ms := []) ⟨_, D.at_ 1 _ rfl, rfl, e, rfl⟩ hI ⟨_, D.at_ 0 _ rfl, rfl, 0, rfl⟩ .nil (by show u + 64 < 9900; omega) ⟨_, rfl, ?_⟩
  have D := D.pk [1, 2] [_, _] rfl
  cases hI with
  | nil =>
    show wpAny _ _ (execs (sElse (fS 56 0 0)) _) _ _ _
    rw [draw_else]
    exact wpAny_execs_nil (hR [] _ ⟨e, z + 1, tk, _, rfl, ⟨[], .nil, h0, hl⟩, D⟩)
  | @cons c tc vs ns hI =>
    refine leaf (fun b => .ret (.bool b)) (okay hb w hw) hle (bTr_isTrue _ _) (sp := []) rfl δ D (fun ξ => draw_t2) fun ξ => ⟨_, rfl, fun a ea h' T' D' => ?_⟩
    cases ea
    have D := D' [_, _] rfl
    obtain ⟨t1, e1⟩ := sub2050 T'
    rw [e1] at T' ⊢
    cases hc : (c == 0) with
    | false =>
      show wpAny _ _ (execs (sElse (fS 56 0 0)) _) _ _ _
      rw [draw_else]
      exact wpAny_execs_nil (hR (.int c tc :: vs) _ ⟨e, z + 1, _, _, rfl, ⟨c :: ns, .cons c tc hI, h0, hl⟩, D⟩)
    | true =>
      show wpAny _ _ (execs (sBody (fS 56 0 0)) _) _ _ _
      refine leaf (fun f => f) (okay hb w hw) T' (fTr_execs _ _) (sp := [popS 0 (.int c tc) vs]) rfl δ D (fun ξ => draw_b1)
        fun ξ => ⟨can_pop0 (fun h H => hb.size H) (by have := sizeLine_is; simp only [List.length_cons] at hl; omega), fun F₁ l₁ p₁ => ⟨_, rfl, fun a ea h' T' D' => ?_⟩⟩
      cases ea
      have D := D' [_, _] rfl
      have D := D.weak rfl
      obtain ⟨z2, ez⟩ := D.sz hb
      obtain ⟨t2, e2⟩ := sub2050 T'
      rw [ez] at D
      rw [e2]
      exact ⟨vs.length, by simp only [List.length_cons] at hk; omega, vs, rfl, _, z2, t2, _, rfl, ⟨ns, hI, fun k hk => h0 k (.tail _ hk), by simp only [List.length_cons] at hl; omega⟩, D⟩
theorem mapSet_is (c v : Value) (vs : List Value) (e : Nat) : Obj.mapSeq (fun x => x.setIfInBounds 0 v) (lstO (c :: vs) e) = lstO (v :: vs) e := by
  have q : (c :: vs).toArray.setIfInBounds 0 v = (v :: vs).toArray := by simp
  unfold Obj.mapSeq
  simp only [q]
  simp
def DrawPost (l : Nat) (m : Int) (n : Nat) (v : Value) (own : List (Addr × Obj)) : Prop := ∃ r t vs e, v = .int r t ∧ 0 ≤ r ∧ r < m ∧ Deck vs n ∧ own = [(l + 981, lstO vs e)]
theorem draw_calls (hb : BaseIn P F) (hw : w.params = P) (d0 u0 : Nat) (hd : d0 + 1 < 1000) (hu : u0 + 200 < 9900) {l e tm n : Nat} {m : Int} {vs : List Value} (hn : n ≤ 1000) (hm : 0 < m) (hm2 : m < 1000000) (hv : Deck vs n) :
    CallsR w s₀ F [(l + 981, lstO vs e)] (κC 912 [ρ l, .int m tm]) d0 u0 true fun Z r own => ∃ v, r = .ok (.ret v) ∧ DrawPost l m n v own := by
  refine callsR_intro (fz := []) (fun h H => hb.size H) ωp fun h z t R D hR => ?_
  refine code_seg (okayh hb w hw) ω (sp := []) rfl δ D (fun ξ => draw_in) fun ξ => ⟨by show d0 + 0 < 1000; omega, fun h' T' D' => ?_⟩
  have D := D' [_, _] rfl
  obtain ⟨z1, ez⟩ := D.sz hb
  rw [ez] at D
  obtain ⟨t1, e1⟩ := sub2050 T'
  rw [e1] at T' ⊢
  have D := D.pk [1, 0] [_, _] rfl
  refine codeAny_func ?_
  rw [draw_body]
  refine wpAny_execs_cons ?_
  rw [(show _ = _ from draw_w)]
  refine wpAny_While (draw_while (h₀ := h) (mt := [l + 981]) (F := F) (vs := vs) hb hw (by show u0 + 3 + 100 < 9900; omega) (k1 := t + 2050) (k2 := t + 2050 + 1) (tm := tm) (n := n) (m := m) (l := l) (fr := z) hn (fun vs' s' hI => ?_) ⟨e, z1, t1, h', rfl, hv, D⟩)
  obtain ⟨e', z', tk', h1, rfl, ⟨ns, hI, h0, hl⟩, D⟩ := hI
  have hle : 2050 ≤ tk' + 2050 := by omega
  refine w_if draw_i (w_cmp draw_j ?_)
  refine leaf (d := d0 + 1) (u := u0 + 3) (g := true) (fun v => .ret v) (okay hb w hw) hle (vTr_eval _ _) (sp := []) rfl δ D (fun ξ => draw_l3) fun ξ => ⟨_, rfl, fun a ea h' T' D' => ?_⟩
  cases ea
  have D := D' [_, _] rfl
  refine leaf (d := d0 + 1) (u := u0 + 3) (g := true) (fun v => .ret v) (okay hb w hw) hle (vTr_eval _ _) (sp := []) rfl δ D (fun ξ => draw_r3) fun ξ => ⟨_, rfl, fun a ea h' T' D' => ?_⟩
  cases ea
  have D := D' [_, _, _] rfl
  rw [show z' + 981 + 1 = (z' + 1) + 981 by omega] at D
  refine eq_intsK (ns := ns) (ms := []) ⟨_, D.at_ 1 _ rfl, rfl, e', rfl⟩ hI ⟨_, D.at_ 0 _ rfl, rfl, 0, rfl⟩ .nil (by show u0 + 3 + 64 < 9900; omega) ⟨_, rfl, ?_⟩
  have D := D.pk [1, 2] [_, _] rfl
  cases hI with
  | nil =>
    show wpAny _ _ (execs (sBody (fS 56 0 1)) _) _ _ _
    refine leaf (d := d0 + 1) (u := u0 + 3) (g := true) (fun f => f) (okay hb w hw) hle (fTr_execs _ _) (sp := []) rfl δ D (fun ξ => draw_z) fun ξ => ⟨_, rfl, fun a ea h' T' D' => ?_⟩
    cases ea
    have D := D' [_, _] rfl
    exact hR _ _ _ _ _ _ [(l + 981, lstO [] e')] T' D rfl (al1 (⟨true, .head _⟩)) ⟨_, rfl, 0, _, [], e', rfl, Int.le_refl _, hm, ⟨[], .nil, h0, hl⟩, rfl⟩
  | @cons c tc vs ns hI =>
    show wpAny _ _ (execs (sElse (fS 56 0 1)) _) _ _ _
    rw [draw_else1]
    refine wpAny_execs_nil ?_
    have hc := h0 c (.head _)
    refine leaf (d := d0 + 1) (u := u0 + 3) (g := true) (fun f => f) (okay hb w hw) hle (fTr_execs _ _) (sp := [iS fun Z Z r => r = c.fmod m, iS fun Z Z r => r = c.fdiv m]) rfl δ D (fun ξ => draw_e)
      fun ξ => ⟨can_mod (fun h H => hb.size H) ω, fun F₁ l₁ p₁ => ⟨can_fdiv (fun h H => (hb.le l₁).size H) ω ω, fun F₂ l₂ p₂ => ⟨_, rfl, fun a ea h' T' D' => ?_⟩⟩⟩
    cases ea
    have D := D' [_, _] rfl
    have q1 : (ξ 0).i 0 = c.fmod m := p₁
    have q2 : (ξ 1).i 0 = c.fdiv m := p₂
    rw [q1, q2] at D
    rw [q1]
    have em := mapSet_is (.int c tc) (.int (c.fdiv m) ((ξ 1).n 50)) vs e'
    exact hR _ _ _ _ _ _ [(l + 981, lstO (.int (c.fdiv m) ((ξ 1).n 50) :: vs) e')] T' D rfl (by
        intro p hp; simp only [μμ] at hp; subst hp
        refine ⟨true, ?_⟩
        rw [← em]
        exact .head _)
      ⟨_, rfl, _, _, _, e', rfl, Int.fmod_nonneg_of_pos _ hm, Int.fmod_lt_of_pos _ hm, ⟨_, .cons _ _ hI, fun k hk => by
        rcases List.mem_cons.mp hk with rfl | hk
        · exact Int.fdiv_nonneg hc (Int.le_of_lt hm)
        · exact h0 k (.tail _ hk), by simpa using hl⟩, rfl⟩
end
section
variable {d u : Nat} {g : Bool}
theorem updAll_app : ∀ (l : List (Nat × Obj)) (k : List (Nat × Obj)) (M : List Ent), updAll (l ++ k) M = updAll k (updAll l M)
  | [], _, _ => rfl
  | p :: r, k, M => updAll_app r k (setN (fun Z => p.2) M p.1)
theorem updAll_other : ∀ (l : List (Nat × Obj)) (M : List Ent) (j : Nat), (∀ p ∈ l, p.1 ≠ j) → nth (updAll l M) j = nth M j
  | [], _, _, _ => rfl
  | p :: r, M, j, h => by
    show nth (updAll r (setN (fun Z => p.2) M p.1)) j = _
    rw [updAll_other r _ j fun q hq => h q (.tail _ hq), nth_setN, if_neg (h p (.head _))]
theorem setN_same : ∀ {M : List Ent} {j : Nat} {e : Ent}, nth M j = some e → setN (fun Z => e.o) M j = M
  | [], _, _, h => by cases h
  | a :: r, 0, e, h => by cases h; rfl
  | a :: r, j + 1, e, h => by show a :: setN (fun Z => e.o) r j = _; rw [setN_same (M := r) h]
theorem updAll_last {l : List (Nat × Obj)} {M : List Ent} {j : Nat} {e : Ent} (hj : nth M j = some e) (h : ∀ p ∈ l, p.1 ≠ j) : updAll (l ++ [(j, e.o)]) M = updAll l M := by
  rw [updAll_app]
  exact setN_same ((updAll_other l M j h).trans hj)
theorem canV_of_callsR (hB : ∀ h, Holds F h → 981 ≤ h.objs.size) {s : Mine.Spec} {c : Code} {ss : List Nat} {own : List (Addr × Obj)} {Post : Gh → Result → List (Addr × Obj) → Prop}
    (hc : CallsR w s₀ F own c d u g Post) (hn : ss.Nodup)
    (hs : ∀ r F' own' z t, F.le F' → own'.map (·.1) = own.map (·.1) → Post F' r own' → ∃ x N up, (∀ M z0 t0, s.p x M z0 t0 = ⟨r, up, N, z + 981, t + 2050⟩) ∧ (∀ M, sel ss M = own.map (fun p => ςσ (p.1) p.2) → updAll up M = updAll (ss.zip (own'.map (·.2))) M) ∧ s.P F F' x ∧ ∀ i e, nth N i = some e → e.own = false ∧ F' e.a e.o) :
    CanV w s₀ h₀ mt F₀ c d u g F ss (own.map fun p => ςσ (p.1) p.2) s := by
  intro M sz tk hsel h R ht D hR
  have hi : ss.map (nth M) = own.map fun p => ςσ (p.1) p.2 := by rw [← sel_len]; exact hsel
  have hl : ss.length = own.length := by have := congrArg List.length hi; simpa using this
  have at1 : ∀ (k : Nat) (p : Addr × Obj), own[k]? = some p → ∃ j, ss[k]? = some j ∧ nth M j = ςσ (p.1) p.2 := by
    intro k p q
    have z : (own.map fun p => some (⟨p.1, p.2, true⟩ : Ent))[k]? = some (ςσ (p.1) p.2) := by rw [List.getElem?_map, q]; rfl
    rw [← hi, List.getElem?_map] at z
    obtain ⟨j, hj, e⟩ := Option.map_eq_some_iff.mp z
    exact ⟨j, hj, e⟩
  refine node_of_code (code_toks (hc h tk _ ht D.holds (fun p hp => ?_) ?_ fun r F' h' tk' own' a1 a2 a3 a4 a6 a7 Z a8 T₁ => ?_))
  · obtain ⟨k, hk⟩ := List.getElem?_of_mem hp
    obtain ⟨j, _, hj⟩ := at1 k p hk
    exact ⟨D.at_ j _ hj, D.own j _ hj rfl⟩
  · refine List.pairwise_iff_getElem.mpr fun i j hi1 hj1 hlt e => ?_
    simp only [List.getElem_map] at e
    have hne : i ≠ j := Nat.ne_of_lt hlt
    rw [List.length_map] at hi1 hj1
    obtain ⟨i', x1, x2⟩ := at1 i own[i] (List.getElem?_eq_getElem hi1)
    obtain ⟨j', y1, y2⟩ := at1 j own[j] (List.getElem?_eq_getElem hj1)
    have hne' : i' ≠ j' := by
      rintro rfl
      obtain ⟨l1, e1⟩ := List.getElem?_eq_some_iff.mp x1
      obtain ⟨l2, e2⟩ := List.getElem?_eq_some_iff.mp y1
      exact hne ((List.getElem_inj hn).mp (e1.trans e2.symm))
    exact D.ne i' j' _ _ x2 y2 hne' rfl e
  · have T' : 2050 ≤ tk' := Nat.le_trans ht T₁
    obtain ⟨z, hz⟩ := sub981 (hB h' fun a o e => a2 a o (a1 a o e))
    obtain ⟨t, rfl⟩ := sub2050 T'
    obtain ⟨x, N, up, e1, e2, e3, e4⟩ := hs r F' own' z t a1 a6 a8
    have D' := D.behind hn hi a1 a2 a3 a4 a6 a7 (N := N) (fun i e q => .inl (e4 i e q)) (fun i j e e' q Z Z w => by rw [(e4 i e q).1] at w; cases w)
    have y := hR x F' h' a1 e3
    rw [e1] at y
    rw [hz, ← e2 M hsel] at D'
    exact y D'
theorem nd1 {i : Nat} : [i].Nodup := List.nodup_cons.mpr ⟨by simp, List.nodup_nil⟩
noncomputable def mkA (n : Nat → Nat) (i : Nat → Int) (vs : List Value) (b : Bool := true) (v : Value := .none) : Ans := ⟨n, i, fun j => if j < 100 then v else vs.getD (j - 100) .none, fun Z => default, fun Z => b⟩
theorem mkA_l {n : Nat → Nat} {i : Nat → Int} {vs : List Value} {b : Bool} {v : Value} (h : n 41 = vs.length) : (mkA n i vs b v).l = vs := by
  unfold Ans.l mkA
  simp only [h]
  refine List.ext_getElem? fun j => ?_
  rw [List.getElem?_map]
  by_cases q : j < vs.length
  · rw [List.getElem?_range q, List.getElem?_eq_getElem q]
    simp [List.getD, List.getElem?_eq_getElem q, show ¬ (j + 100 < 100) by omega]
    try omega
  · rw [List.getElem?_eq_none (by simpa using q), List.getElem?_eq_none ω]; rfl
noncomputable def drawS (i : Nat) (m : Int) (n : Nat) : Mine.Spec := ⟨ωX (.int (x.i 0) (x.n 50)) [(i, lstO x.l (x.n 40))] [], fun Z Z x => Deck x.l n ∧ 0 ≤ x.i 0 ∧ x.i 0 < m⟩
theorem can_draw (hb : BaseIn P F) (hw : w.params = P) (hd : d + 1 < 1000) (hu : u + 200 < 9900) {i l e tm n : Nat} {m : Int} {vs : List Value} (hn : n ≤ 1000) (hm : 0 < m) (hm2 : m < 1000000) (hv : Deck vs n) :
    CanV w s₀ h₀ mt F₀ (κC 912 [ρ l, .int m tm]) d u true F [i] [σ l (lstO vs e)] (drawS i m n) := by
  refine canV_of_callsR (own := [(l + 981, lstO vs e)]) (fun h H => hb.size H) (draw_calls hb hw d u hd hu hn hm hm2 hv) nd1 fun r F' own' z t l' hm' hP => ?_
  obtain ⟨v, rfl, r, tr, vs', e', rfl, h1, h2, h3, rfl⟩ := hP
  refine ⟨mkA (fun j => match j with | 0 => z | 1 => t | 40 => e' | 41 => vs'.length | _ => tr) (fun Z => r) vs', [], [(i, lstO vs' e')], fun M z0 t0 => ?_, fun M Z => rfl, ⟨?_, h1, h2⟩, fun i e q => by cases i <;> cases q⟩
  · show (⟨_, [(i, lstO (Ans.l _) _)], _, _, _⟩ : Resp) = _
    rw [mkA_l (by rfl)]; rfl
  · show Deck (Ans.l _) n
    rw [mkA_l (by rfl)]; exact h3
theorem call_getitem {prog : Program} {A : Around} {E : Value → Shared → Prop} {s : Shared} {l : Addr} {items : Array Value} {k : Int} {t : Tok} {x : Value} {Q : Value → Shared → Prop} (hl : s.heap.IsList l items)
    (h0 : 0 ≤ k) (hfit : k < 2 ^ 63) (hx : items[k.toNat]? = some x) (h : Q x s) : wpAny (model prog w) A (call (.builtin "list.__getitem__") [.ref l, .int k t]) Q E s := by
  obtain ⟨o, ho, hc, ne, hd⟩ := id hl
  refine wpAny_call_entry slot_list_getitem hl.typeIs entry_list_getitem ?_ (args_list_getitem _ _)
  show wpAny _ _ (Builtin.List.listSubscript? (.int k t) >>= _) _ _ s
  refine wpAny_bind (wpAny_listSubscript_int (fitsIndex_of h0 hfit) ?_)
  clear hfit
  obtain ⟨j, rfl⟩ := Int.eq_ofNat_of_zero_le h0
  have hx' : items[j]? = some x := hx
  show wpAny _ _ ((seqItemAt l j >>= fun r => pure (r.map (j, ·))) >>= _) _ _ s
  refine wpAny_bind (wpAny_bind (wpAny_seqItemAt ho hd (wpAny_pure ?_)))
  rw [hx']
  first
    | exact wpAny_bind (wpAny_pure (wpAny_pure ⟨x, rfl, h⟩))
    | exact wpAny_pure ⟨x, rfl, h⟩
noncomputable def gS (xs : List Value) : Mine.Spec := ⟨ωX (x.v 0) [] [], fun Z Z x => x.v 0 ∈ xs⟩
theorem can_len (hB : ∀ h, Holds F h → 981 ≤ h.objs.size) {i q e : Nat} {xs : List Value} {ow : Bool} (hz : xs.length < 1000) : CanV w s₀ h₀ mt F₀ (.call (.builtin "len") ⟨[.ref q], []⟩) d u g F [i] [some ⟨q, lstO xs e, ow⟩] (iS fun Z Z r => r = xs.length) :=
  can_same hB (v := fun t => .int xs.length t) (xI xs.length) (fun h tk Q ht hL hQ => call_len_list (items := xs.toArray) ⟨_, hL _ _ _ (.head _), rfl, e, rfl⟩ (by simp only [List.size_toArray]; omega) (hQ (tk + 1) (tk + 2) ω)) fun t z tk M sz tk0 => ⟨rfl, rfl⟩
theorem can_getitem (hB : ∀ h, Holds F h → 981 ≤ h.objs.size) {i q e t : Nat} {xs : List Value} {ow : Bool} {k : Int} (h0 : 0 ≤ k) (h1 : k < xs.length) (hz : xs.length < 1000) : CanV w s₀ h₀ mt F₀ (.call (.builtin "list.__getitem__") ⟨[.ref q, .int k t], []⟩) d u g F [i] [some ⟨q, lstO xs e, ow⟩] (gS xs) := by
  obtain ⟨j, rfl⟩ := Int.eq_ofNat_of_zero_le h0
  have hj : j < xs.length := by omega
  refine can_same hB (v := fun Z => xs[j]) (fun t z tk => mkA (fun j => match j with | 0 => z | 1 => tk | _ => t) (fun Z => 0) [] true xs[j]) (fun h tk Q ht hL hQ => call_getitem (items := xs.toArray) ⟨_, hL _ _ _ (.head _), rfl, e, rfl⟩ h0 ω (by simp [hj]) (hQ 0 tk (Nat.le_refl _))) fun t z tk M sz tk0 => ⟨rfl, List.getElem_mem hj⟩
def OnePost (l q n e : Nat) (xs : List Value) (F' : Gh) (r : Result) (own : List (Addr × Obj)) : Prop := ∃ v vs e', r = .ok (.ret v) ∧ v ∈ xs ∧ Deck vs n ∧ own = [(l + 981, lstO vs e'), (q + 981, lstO xs e)]
theorem one_calls (hb : BaseIn P F) (hw : w.params = P) (d0 u0 : Nat) (hd : d0 + 2 < 1000) (hu : u0 + 300 < 9900) {l e q eq n : Nat} {vs xs : List Value} (hn : n ≤ 1000) (h0 : 0 < xs.length) (h1 : xs.length < 1000) (hv : Deck vs n) :
    CallsR w s₀ F [(l + 981, lstO vs e), (q + 981, lstO xs eq)] (κC 924 [ρ l, ρ q]) d0 u0 true (OnePost l q n eq xs) := by
  refine callsR_intro (fz := []) (fun h H => hb.size H) ωp fun h z t R D hR => ?_
  refine code_seg (okay hb w hw) ω (sp := [iS fun Z Z r => r = xs.length, drawS 1 xs.length n, gS xs]) rfl δ D (fun ξ => one_o) fun ξ =>
    ⟨by show d0 + 0 < 1000; omega, can_len (fun h H => hb.size H) h1, fun F₁ l₁ p₁ => ⟨?_, fun F₂ l₂ p₂ => ⟨?_, fun F₃ l₃ p₃ h' T' D' => ?_⟩⟩⟩
  · have p : (ξ 0).i 0 = xs.length := p₁
    rw [p]
    exact can_draw (hb.le l₁) hw ω ω hn ω ω hv
  · exact can_getitem (fun h H => ((hb.le l₁).le l₂).size H) p₂.2.1 p₂.2.2 h1
  · exact hR _ _ _ _ _ _ [(l + 981, lstO (ξ 1).l ((ξ 1).n 40)), (q + 981, lstO xs eq)] T' (D' [_, _] rfl) rfl (by
      intro p hp; simp only [μμ] at hp
      rcases hp with rfl | rfl
      · exact ⟨true, .head _⟩
      · exact ⟨true, μ1⟩) ⟨_, _, _, rfl, p₃, p₂.1, rfl⟩
end
section
variable {d u : Nat} {g : Bool}
def Wv (v : Value) : Prop := (∃ b, v = .bool b) ∨ (∃ i t, v = .int i t) ∨ ∃ a, v = .ref a
theorem mkW {v : Value} (h : Wv v) (z t k : Nat) (vs : List Value) : ∃ x : Ans, x.n 0 = z ∧ x.n 1 = t ∧ x.n 40 = k ∧ x.w = v ∧ x.l = vs := by
  rcases h with ⟨b, rfl⟩ | ⟨i, t', rfl⟩ | ⟨a, rfl⟩
  · exact ⟨mkA (fun j => match j with | 0 => z | 1 => t | 40 => k | 41 => vs.length | _ => 0) (fun Z => 0) vs b, rfl, rfl, rfl, rfl, mkA_l rfl⟩
  · exact ⟨mkA (fun j => match j with | 0 => z | 1 => t | 40 => k | 41 => vs.length | 60 => 1 | _ => t') (fun Z => i) vs, rfl, rfl, rfl, rfl, mkA_l rfl⟩
  · exact ⟨mkA (fun j => match j with | 0 => z | 1 => t | 40 => k | 41 => vs.length | 60 => 2 | _ => a) (fun Z => 0) vs, rfl, rfl, rfl, rfl, mkA_l rfl⟩
noncomputable def oneS (i : Nat) (xs : List Value) (n : Nat) : Mine.Spec := ⟨ωX x.w [(i, lstO x.l (x.n 40))] [], fun Z Z x => x.w ∈ xs ∧ Deck x.l n⟩
theorem nd2 {i j : Nat} (h : i ≠ j) : [i, j].Nodup := List.nodup_cons.mpr ⟨by simpa using h, nd1⟩
theorem can_one (hb : BaseIn P F) (hw : w.params = P) (hd : d + 2 < 1000) (hu : u + 300 < 9900) {i j l e q eq n : Nat} (hij : i ≠ j) {vs xs : List Value} (hn : n ≤ 1000) (h0 : 0 < xs.length) (h1 : xs.length < 1000) (hW : ∀ v ∈ xs, Wv v) (hv : Deck vs n) :
    CanV w s₀ h₀ mt F₀ (κC 924 [ρ l, ρ q]) d u true F [i, j] [σ l (lstO vs e), σ q (lstO xs eq)] (oneS i xs n) := by
  refine canV_of_callsR (own := [(l + 981, lstO vs e), (q + 981, lstO xs eq)]) (fun h H => hb.size H) (one_calls hb hw d u hd hu hn h0 h1 hv) (nd2 hij) fun r F' own' z t l' hm' hP => ?_
  obtain ⟨v, vs', e', rfl, h2, h3, rfl⟩ := hP
  obtain ⟨x, e1, e2, e3, e4, e5⟩ := mkW (hW v h2) z t e' vs'
  refine ⟨x, [], [(i, lstO vs' e')], fun M z0 t0 => ?_, fun M hM => ?_, ⟨e4 ▸ h2, e5 ▸ h3⟩, fun i e q => by cases i <;> cases q⟩
  · show (⟨.ok (.ret x.w), [(i, lstO x.l (x.n 40))], [], x.n 0 + 981, x.n 1 + 2050⟩ : Resp) = _
    rw [e1, e2, e3, e4, e5]
  · have hj : nth M j = σ q (lstO xs eq) := (List.cons.inj (List.cons.inj hM).2).1
    exact (updAll_last (l := [(i, lstO vs' e')]) hj fun p hp => by simp only [List.mem_singleton] at hp; subst hp; exact hij).symm
theorem onef_calls (hb : BaseIn P F) (hw : w.params = P) (d0 u0 : Nat) (hd : d0 + 2 < 1000) (hu : u0 + 300 < 9900) {l e q eq n : Nat} {vs xs : List Value} (hn : n ≤ 1000) (h0 : 0 < xs.length) (h1 : xs.length < 1000) (hv : Deck vs n) (hx : F (ψ q) (lstO xs eq)) :
    CallsR w s₀ F [(l + 981, lstO vs e)] (κC 924 [ρ l, ρ q]) d0 u0 true fun Z r own => ∃ v vs e', r = .ok (.ret v) ∧ v ∈ xs ∧ Deck vs n ∧ own = [(l + 981, lstO vs e')] := by
  refine callsR_intro (fz := [(q + 981, lstO xs eq)]) (fun h H => hb.size H) (by intro p hp; simp only [List.mem_singleton] at hp; subst hp; exact hx) fun h z t R D hR => ?_
  refine code_seg (okay hb w hw) ω (sp := [iS fun Z Z r => r = xs.length, drawS 1 xs.length n, gS xs]) rfl δ D (fun ξ => one_f) fun ξ =>
    ⟨by show d0 + 0 < 1000; omega, can_len (fun h H => hb.size H) h1, fun F₁ l₁ p₁ => ⟨?_, fun F₂ l₂ p₂ => ⟨?_, fun F₃ l₃ p₃ h' T' D' => ?_⟩⟩⟩
  · have p : (ξ 0).i 0 = xs.length := p₁
    rw [p]
    exact can_draw (hb.le l₁) hw ω ω hn ω ω hv
  · exact can_getitem (fun h H => ((hb.le l₁).le l₂).size H) p₂.2.1 p₂.2.2 h1
  · exact hR _ _ _ _ _ _ [(l + 981, lstO (ξ 1).l ((ξ 1).n 40))] T' (D' [_, _] rfl) rfl (by
      intro p hp; simp only [μμ] at hp
      subst hp
      exact ⟨true, .head _⟩) ⟨_, _, _, rfl, p₃, p₂.1, rfl⟩
def Word (op m : Int) : Prop := (m = 1 ∧ (op = 8 ∨ op = 16 ∨ op = 11 ∨ op = 135)) ∨ (m = 2 ∧ (op = 4 ∨ op = 9 ∨ op = 13))
def Words (F : Gh) (wd : Nat) : Prop := ∃ xs k, F (ψ wd) (lstO xs k) ∧ 0 < xs.length ∧ xs.length < 1000 ∧ ∀ v ∈ xs, ∃ p op m t1 t2, v = ρ p ∧ F (ψ p) (tupO [.int op t1, .int m t2]) ∧ Word op m
theorem Words.le {F F' : Gh} {wd : Nat} (l : F.le F') (h : Words F wd) : Words F' wd := by
  obtain ⟨xs, k, h1, h2, h3, h4⟩ := h
  exact ⟨xs, k, l _ _ h1, h2, h3, fun v hv => let ⟨p, op, m, t1, t2, e, x, y⟩ := h4 v hv; ⟨p, op, m, t1, t2, e, l _ _ x, y⟩⟩
noncomputable def wordS (i n : Nat) : Mine.Spec := ⟨ωX (.ref (x.n 2 + 981)) [(i, lstO x.l (x.n 40))] [⟨(x.n 2 + 981), (tupO [.int (x.i 0) (x.n 53), .int (x.i 1) (x.n 54)]), false⟩], fun Z Z x => Word (x.i 0) (x.i 1) ∧ Deck x.l n⟩
theorem can_word (hb : BaseIn P F) (hw : w.params = P) (hd : d + 2 < 1000) (hu : u + 300 < 9900) {i l e wd n : Nat} {vs : List Value} (hn : n ≤ 1000) (hv : Deck vs n) (hW : Words F wd) {ss : List Nat} {L : List (Option Ent)} (hs : ss = [i]) (hL : L = [σ l (lstO vs e)]) :
    CanV w s₀ h₀ mt F₀ (κC 924 [ρ l, ρ wd]) d u true F ss L (wordS i n) := by
  subst hs hL
  obtain ⟨xs, k, h1, h2, h3, h4⟩ := hW
  refine canV_of_callsR (own := [(l + 981, lstO vs e)]) (fun h H => hb.size H) (onef_calls hb hw d u hd hu hn h2 h3 hv h1) nd1 fun r F' own' z t l' hm' hP => ?_
  obtain ⟨v, vs', e', rfl, h5, h6, rfl⟩ := hP
  obtain ⟨p, op, m, t1, t2, rfl, h7, h8⟩ := h4 v h5
  refine ⟨mkA (fun j => match j with | 0 => z | 1 => t | 2 => p | 40 => e' | 41 => vs'.length | 53 => t1 | 54 => t2 | _ => 0) (fun j => match j with | 0 => op | _ => m) vs', [φ p (tupO [.int op t1, .int m t2])], [(i, lstO vs' e')], fun M z0 t0 => ?_, fun M Z => rfl, ⟨h8, ?_⟩, fun i e q => ?_⟩
  · show (⟨_, [(i, lstO (Ans.l _) _)], _, _, _⟩ : Resp) = _
    rw [mkA_l (by rfl)]; rfl
  · show Deck (Ans.l _) n
    rw [mkA_l (by rfl)]; exact h6
  · cases i with
    | zero => cases q; exact ⟨rfl, l' _ _ h7⟩
    | succ i => cases i <;> cases q
noncomputable def newS (i : Nat) (wv : Value) (r a b : Int) : Mine.Spec := ⟨ωX (.int (x.i 0) (x.n 50)) [(i, lstO [.int (x.i 1) (x.n 51), .int (x.i 2) (x.n 52), wv] (x.n 42))] [], fun Z Z x => x.i 0 = r ∧ x.i 1 = a ∧ x.i 2 = b⟩
theorem can_new_of (hb : BaseIn P F) {i st est ta tb ti k : Nat} {a b r a' b' : Int} {wv : Value}
    (hc : CallsR w s₀ F [(st + 981, lstO [.int a ta, .int b tb, wv] est)] (κC 931 [ρ st, .int k ti]) d u true fun Z x own => ∃ t t1 t2 e, x = .ok (.ret (.int r t)) ∧ own = [(st + 981, lstO [.int a' t1, .int b' t2, wv] e)]) :
    CanV w s₀ h₀ mt F₀ (κC 931 [ρ st, .int k ti]) d u true F [i] [σ st (lstO [.int a ta, .int b tb, wv] est)] (newS i wv r a' b') := by
  refine canV_of_callsR (own := [(st + 981, lstO [.int a ta, .int b tb, wv] est)]) (fun h H => hb.size H) hc nd1 fun x F' own' z t l' hm' hP => ?_
  obtain ⟨tt, t1, t2, e, rfl, rfl⟩ := hP
  exact ⟨mkA (fun j => match j with | 0 => z | 1 => t | 42 => e | 51 => t1 | 52 => t2 | _ => tt) (fun j => match j with | 0 => r | 1 => a' | _ => b') [], [], [(i, lstO [.int a' t1, .int b' t2, wv] e)], fun M z0 t0 => rfl, fun M Z => rfl, ⟨rfl, rfl, rfl⟩, fun i e q => by cases i <;> cases q⟩
theorem can_new0 (hb : BaseIn P F) (hw : w.params = P) (hd : d + 2 < 1000) {i st est ta tb ti : Nat} {a b : Int} {wv : Value} :
    CanV w s₀ h₀ mt F₀ (κC 931 [ρ st, .int 0 ti]) d u true F [i] [σ st (lstO [.int a ta, .int b tb, wv] est)] (newS i wv (a + 1) (a + 1) b) := by
  refine can_new_of hb (k := 0) (callsR_intro (fz := []) (fun h H => hb.size H) ωp fun h z t R D hR => ?_)
  exact code_seg (okay hb w hw) ω (sp := []) rfl δ D (fun ξ => new_0) fun ξ =>
    ⟨by show d + 0 < 1000; omega, fun h' T' D' => hR _ _ _ _ _ _ [(st + 981, lstO [.int (a + 1) (t + 2050 + 3), .int b tb, wv] est)] T' (D' [_] rfl) rfl (by intro p hp; simp only [List.mem_singleton] at hp; subst hp; exact ⟨true, .head _⟩) ⟨_, _, _, _, rfl, rfl⟩⟩
theorem can_new1 (hb : BaseIn P F) (hw : w.params = P) (hd : d + 2 < 1000) {i st est ta tb ti : Nat} {a b : Int} {wv : Value} :
    CanV w s₀ h₀ mt F₀ (κC 931 [ρ st, .int 1 ti]) d u true F [i] [σ st (lstO [.int a ta, .int b tb, wv] est)] (newS i wv (b + 1) a (b + 1)) := by
  refine can_new_of hb (k := 1) (callsR_intro (fz := []) (fun h H => hb.size H) ωp fun h z t R D hR => ?_)
  exact code_seg (okay hb w hw) ω (sp := []) rfl δ D (fun ξ => new_1) fun ξ =>
    ⟨by show d + 0 < 1000; omega, fun h' T' D' => hR _ _ _ _ _ _ [(st + 981, lstO [.int a ta, .int (b + 1) (t + 2050 + 3), wv] est)] T' (D' [_] rfl) rfl (by intro p hp; simp only [List.mem_singleton] at hp; subst hp; exact ⟨true, .head _⟩) ⟨_, _, _, _, rfl, rfl⟩⟩
end
noncomputable def wfT : T → Prop
  | .const _ => True | .loc _ => True | .glob _ => True
  | .setLoc _ t => wfT t | .setGlob _ t => wfT t | .define _ t => wfT t
  | .ite a b c => wfT a ∧ wfT b ∧ wfT c
  | .lam _ _ _ t => wfT t | .lam0 _ _ t => wfT t
  | .call a b => wfT a ∧ wfT b | .seq a b => wfT a ∧ wfT b
  | .prim1 op a => (op = 8 ∨ op = 16 ∨ op = 11 ∨ op = 135) ∧ wfT a
  | .prim2 op a b => (op = 4 ∨ op = 9 ∨ op = 13) ∧ wfT a ∧ wfT b
  | .fix _ a b => wfT a ∧ wfT b
noncomputable def SZ : Nat → Nat
  | 0 => 1
  | k + 1 => 3 * SZ k + 3
noncomputable def KK : Nat → Nat
  | 0 => 0
  | k + 1 => 2 * KK k + 2
def Good (t : T) (k : Nat) : Prop := okT t ∧ wfT t ∧ hT t ≤ 2 * k ∧ szT t ≤ SZ k
theorem SZ_pos : ∀ k, 1 ≤ SZ k
  | 0 => Nat.le_refl _
  | k + 1 => by show 1 ≤ 3 * SZ k + 3; omega
def Known (ks : List Value) (n : Nat) : Prop := ∃ ns, IntsAre ks ns ∧ (∀ k ∈ ns, okI k) ∧ ks.length ≤ n
section
variable {d u : Nat} {g : Bool}
noncomputable def addS (xs ys : List Value) : Mine.Spec := ⟨ωX (.ref (x.n 2 + 981)) [] [⟨(x.n 2 + 981), (lstO x.l 0), true⟩], fun Z Z x => x.l = xs ++ ys⟩
theorem can_ladd (hB : ∀ h, Holds F h → 981 ≤ h.objs.size) {i j q q' e e' : Nat} {xs ys : List Value} {o1 o2 : Bool} (hz : xs.length + ys.length < 1000) :
    CanV w s₀ h₀ mt F₀ (.call (.builtin "list.__add__") ⟨[.ref q, .ref q'], []⟩) d u g F [i, j] [some ⟨q, lstO xs e, o1⟩, some ⟨q', lstO ys e', o2⟩] (addS xs ys) := by
  intro M sz tk hsel h R ht D hR
  have hi : nth M i = some ⟨q, lstO xs e, o1⟩ := (List.cons.inj hsel).1
  have hj : nth M j = some ⟨q', lstO ys e', o2⟩ := (List.cons.inj (List.cons.inj hsel).2).1
  obtain ⟨z, hz'⟩ := sub981 (hB h D.holds)
  obtain ⟨t, rfl⟩ := sub2050 ht
  have ha : h.get? h.objs.size = none := by
    cases q : h.get? h.objs.size with
    | none => rfl
    | some o => exact absurd (Heap.lt_size q) (Nat.lt_irrefl _)
  have em : ({ cls := .type "list", data := .seq (xs.toArray ++ ys.toArray) } : Obj) = lstO (xs ++ ys) 0 := by
    have q : xs.toArray ++ ys.toArray = (xs ++ ys).toArray := by simp
    rw [q]
  have D' := D.newOwn (h' := h.push { cls := .type "list", data := .seq (xs.toArray ++ ys.toArray) }) (fun b o e => Heap.get?_push_of_some _ e) ha (Heap.get?_push_size _ rfl)
  have y := hR (mkA (fun j => match j with | 0 => z + 1 | 1 => t | 2 => z | 41 => (xs ++ ys).length | _ => 0) (fun Z => 0) (xs ++ ys)) F (h.push { cls := .type "list", data := .seq (xs.toArray ++ ys.toArray) }) (fun Z Z e => e) (mkA_l rfl)
  refine node_of_wp (call_meets (Q := fun v s' => R (.ok (.ret v)) s') (E := fun Z Z => False) PySem.F.slot_list_add ⟨_, D.at_ i _ hi, rfl⟩ PySem.F.entry_list_add (PySem.F.args_list_add_2 _ _) (list_addW q q' xs.toArray ys.toArray e e' none none #[] #[] (by simp only [List.size_toArray]; have := sizeLine_is; omega)) ⟨D.at_ i _ hi, D.at_ j _ hj, ?_⟩) (fun Z Z q => q) (fun Z Z q => q.elim)
  show R (.ok (.ret (.ref h.objs.size))) _
  rw [Heap.size_push, hz', em] at D'
  rw [hz', em]
  rw [em] at y
  have e5 : (mkA (fun j => match j with | 0 => z + 1 | 1 => t | 2 => z | 41 => (xs ++ ys).length | _ => 0) (fun Z => 0) (xs ++ ys)).l = xs ++ ys := mkA_l rfl
  simp only [addS, e5] at y
  refine y ?_
  show Rep _ _ _ _ (ε z _ :: M) (z + 1 + 981) _
  rw [show z + 1 + 981 = z + 981 + 1 by omega]
  exact D'
theorem Known.mono {ks : List Value} {n m : Nat} (h : Known ks n) (hm : n ≤ m) : Known ks m := let ⟨ns, a, b, c⟩ := h; ⟨ns, a, b, Nat.le_trans c hm⟩
theorem Known.app {ks : List Value} {n t : Nat} {v : Int} (h : Known ks n) (hv : okI v) : Known (ks ++ [.int v t]) (n + 1) := by
  obtain ⟨ns, a, b, c⟩ := h
  exact ⟨ns ++ [v], a.append (.cons _ _ .nil), fun k hk => (List.mem_append.mp hk).elim (b k) fun h => by simp only [List.mem_singleton] at h; subst h; exact hv, by simp only [List.length_append, List.length_singleton]; omega⟩
noncomputable def kaddS (n : Nat) : Mine.Spec := ⟨(addS [] []).p, fun Z Z x => Known x.l n⟩
theorem can_kadd (hB : ∀ h, Holds F h → 981 ≤ h.objs.size) {i j q q' e e' n : Nat} {xs ys : List Value} {o1 o2 : Bool} (hz : xs.length + ys.length < 1000) (hk : Known (xs ++ ys) n) :
    CanV w s₀ h₀ mt F₀ (.call (.builtin "list.__add__") ⟨[.ref q, .ref q'], []⟩) d u g F [i, j] [some ⟨q, lstO xs e, o1⟩, some ⟨q', lstO ys e', o2⟩] (kaddS n) :=
  fun M sz tk hsel h R ht D hR => can_ladd (e := e) (e' := e') (o1 := o1) (o2 := o2) hB hz M sz tk hsel h R ht D fun x F' h' l p r => hR x F' h' l (show Known x.l n by rw [show x.l = xs ++ ys from p]; exact hk) r
theorem can_gt' (b : BaseIn P F) (hw : w.params = P) {i j : Int} {t t' : Nat} {r : Bool} (h : (decide (i > j)) = r) : CanV w s₀ h₀ mt F₀ (.call (.builtin "int.__gt__") ⟨[.int i t, .int j t'], []⟩) d u true F [] [] (vS (.bool r)) := by
  refine can_val b (calls_of_run (okay b w hw) (own := []) (fz := []) (sp := []) rfl (fun h H => b.size H) ωp (fun z tk ξ => int_gt) ?_)
  intro h' z tk ξ hz
  exact ⟨_, [], rfl, rfl, ωp, congrArg Value.bool h⟩
theorem can_sub (b : BaseIn P F) (hw : w.params = P) {i j : Int} {t t' : Nat} : CanV w s₀ h₀ mt F₀ (.call (.builtin "int.__sub__") ⟨[.int i t, .int j t'], []⟩) d u true F [] [] (iS fun Z Z r => r = i - j) := by
  refine can_int b (calls_of_run (okay b w hw) (own := []) (fz := []) (sp := []) rfl (fun h H => b.size H) ωp (fun z tk ξ => int_sub) ?_)
  intro h' z tk ξ hz
  exact ⟨_, [], rfl, rfl, ωp, _, _, rfl, rfl⟩
noncomputable abbrev NOwn (l st q w : Nat) (vs : List Value) (e : Nat) (a : Int) (ta : Nat) (b : Int) (tb est : Nat) (ks : List Value) (eq : Nat) : List (Addr × Obj) := [(l + 981, lstO vs e), (st + 981, lstO [.int a ta, .int b tb, .ref w] est), (q + 981, lstO ks eq)]
def NodePost (P : Params) (l st q w n : Nat) (a b : Int) (ks : List Value) (eq k : Nat) (F' : Gh) (r : Result) (own : List (Addr × Obj)) : Prop := ∃ x t vs e1 a' b' ta tb e2, r = .ok (.ret (ρ x)) ∧ NodeAt P F' x t ∧ Good t k ∧ Deck vs n ∧ a ≤ a' ∧ a' ≤ a + KK k ∧ b ≤ b' ∧ b' ≤ b + KK k ∧ own = NOwn l st q w vs e1 a' ta b' tb e2 ks eq
noncomputable def nodeS (P : Params) (i1 i2 w n : Nat) (la ua lb ub : Int) (k : Nat) : Mine.Spec := ⟨ωX (.ref (x.n 2 + 981)) [(i1, lstO x.l (x.n 40)), (i2, lstO [.int (x.i 1) (x.n 51), .int (x.i 2) (x.n 52), .ref w] (x.n 42))] [],
  fun Z F' x => Deck x.l n ∧ (∃ t, NodeAt P F' (x.n 2) t ∧ Good t k) ∧ la ≤ x.i 1 ∧ x.i 1 ≤ ua ∧ lb ≤ x.i 2 ∧ x.i 2 ≤ ub⟩
def NodeC (P : Params) (w : World) (s₀ : Shared) (k : Nat) : Prop := ∀ (F : Gh) (d0 u0 : Nat), k ≤ 8 → BaseIn P F → d0 + 3 * k + 310 < 1000 → u0 + 10 * k + 400 < 9900 → ∀ (l st q wd n e ta tb est eq td : Nat) (a b : Int) (vs ks : List Value), n ≤ 1000 → Words F wd → Deck vs n → Known ks (40 - 2 * k) → 0 ≤ a → a + KK k < 1000000 → 0 ≤ b → b + KK k < 1000000 →
  CallsR w s₀ F (NOwn l st q (ψ wd) vs e a ta b tb est ks eq) (κC 964 [ρ l, ρ st, ρ q, .int k td]) d0 u0 true (NodePost P l st q (ψ wd) n a b ks eq k)
theorem nd3 {i j k : Nat} (h1 : i ≠ j) (h2 : i ≠ k) (h3 : j ≠ k) : [i, j, k].Nodup := List.nodup_cons.mpr ⟨by simp [h1, h2], nd2 h3⟩
theorem can_node {k : Nat} (H : NodeC P w s₀ k) (hk8 : k ≤ 8) (hb : BaseIn P F) (hd : d + 3 * k + 310 < 1000) (hu : u + 10 * k + 400 < 9900) {i1 i2 i3 l st q wd n e ta tb est eq td : Nat} {a b kk : Int} {vs ks : List Value} (h1 : i1 ≠ i2) (h2 : i1 ≠ i3) (h3 : i2 ≠ i3) (hn : n ≤ 1000) (hW : Words F wd) (hv : Deck vs n) (hk : Known ks (40 - 2 * k)) (ha : 0 ≤ a) (ha' : a + KK k < 1000000) (hb0 : 0 ≤ b) (hb' : b + KK k < 1000000) (ek : kk = k) {la ua lb ub : Int} (q1 : la ≤ a) (q2 : a + KK k ≤ ua) (q3 : lb ≤ b) (q4 : b + KK k ≤ ub) :
    CanV w s₀ h₀ mt F₀ (κC 964 [ρ l, ρ st, ρ q, .int kk td]) d u true F [i1, i2, i3] [σ l (lstO vs e), σ st (lstO [.int a ta, .int b tb, ρ wd] est), σ q (lstO ks eq)] (nodeS P i1 i2 (ψ wd) n la ua lb ub k) := by
  subst ek
  refine canV_of_callsR (own := NOwn l st q (ψ wd) vs e a ta b tb est ks eq) (fun h H => hb.size H) (H F d u hk8 hb hd hu l st q wd n e ta tb est eq td a b vs ks hn hW hv hk ha ha' hb0 hb') (nd3 h1 h2 h3) fun r F' own' z t l' hm' hP => ?_
  obtain ⟨x, tr, vs', e1, a', b', ta', tb', e2, rfl, p1, p2, p3, p4, p5, p6, p7, rfl⟩ := hP
  refine ⟨mkA (fun j => match j with | 0 => z | 1 => t | 2 => x | 40 => e1 | 41 => vs'.length | 42 => e2 | 51 => ta' | 52 => tb' | _ => 0) (fun j => match j with | 1 => a' | _ => b') vs', [], [(i1, lstO vs' e1), (i2, lstO [.int a' ta', .int b' tb', ρ wd] e2)], fun M z0 t0 => ?_, fun M hM => ?_, ⟨?_, ⟨tr, p1, p2⟩, Int.le_trans q1 p4, Int.le_trans p5 q2, Int.le_trans q3 p6, Int.le_trans p7 q4⟩, fun i e q => by cases i <;> cases q⟩
  · show (⟨_, [(i1, lstO (Ans.l _) _), _], _, _, _⟩ : Resp) = _
    rw [mkA_l (by rfl)]; rfl
  · have hj : nth M i3 = σ q (lstO ks eq) := (List.cons.inj (List.cons.inj (List.cons.inj hM).2).2).1
    exact (updAll_last (l := [(i1, lstO vs' e1), (i2, lstO [.int a' ta', .int b' tb', ρ wd] e2)]) hj fun p hp => by
      simp only [μμ] at hp
      rcases hp with rfl | rfl
      · exact h2
      · exact h3).symm
  · show Deck (Ans.l _) n
    rw [mkA_l (by rfl)]; exact p3
end
section
variable {d u : Nat} {g : Bool}
theorem nth_some {N : List Ent} {i : Nat} {e : Ent} (h : nth N i = some e) : e ∈ N := by
  rw [nth_get] at h
  exact List.mem_of_getElem? h
theorem addF_le' {mt : List Addr} {F : Gh} {L : List (Option Ent)} : F.le (addF mt F L) := fun Z Z e => .inl e
theorem Rep.fact3 {N : List Ent} {sz : Nat} {h : Heap} {l st q a : Addr} {o o1 o2 o3 : Obj} {i m : Nat} (D : Rep h₀ [l, st, q] F₀ F N sz h) (h1 : nth N m = ςσ l o1) (h2 : nth N (m + 1) = ςσ st o2) (h3 : nth N (m + 2) = ςσ q o3)
    (hi : nth N i = ςσ a o) (hlt : i ≠ m ∧ i ≠ m + 1 ∧ i ≠ m + 2) : Mine.addF [l, st, q] F (N.map some) a o := by
  refine .inr ⟨fun hm => ?_, true, List.mem_map_of_mem (nth_some hi)⟩
  simp only [μμ] at hm
  rcases hm with rfl | rfl | rfl
  · exact D.ne i m _ _ hi h1 hlt.1 rfl rfl
  · exact D.ne i (m + 1) _ _ hi h2 hlt.2.1 rfl rfl
  · exact D.ne i (m + 2) _ _ hi h3 hlt.2.2 rfl rfl
theorem Rep.facts3 {N : List Ent} {sz : Nat} {h : Heap} {l st q : Addr} {o1 o2 o3 : Obj} {m : Nat} (D : Rep h₀ [l, st, q] F₀ F N sz h) (h1 : nth N m = ςσ l o1) (h2 : nth N (m + 1) = ςσ st o2) (h3 : nth N (m + 2) = ςσ q o3) :
    ∃ G, G = Mine.addF [l, st, q] F (N.map some) ∧ F.le G ∧ ∀ i a o, nth N i = ςσ a o → (i ≠ m ∧ i ≠ m + 1 ∧ i ≠ m + 2) → G a o := ⟨_, rfl, addF_le', fun Z Z Z hi hlt => D.fact3 h1 h2 h3 hi hlt⟩
noncomputable abbrev NE (P : Params) (l st q wd fr : Nat) (vs : List Value) (el : Nat) (a : Int) (ta : Nat) (b : Int) (tb est : Nat) (ks : List Value) (eq : Nat) (deep : Int) (td : Nat) (kvs : List (PySem.Str × Nat × Value)) : List Ent :=
  [ε l (lstO vs el), ε st (lstO [.int a ta, .int b tb, ρ wd] est), ε q (lstO ks eq), ε fr (frm P kvs), ⟨fr + 981 + 1, celO (ρ l), true⟩, ⟨fr + 981 + 2, celO (ρ st), true⟩, ⟨fr + 981 + 3, celO (ρ q), true⟩, ⟨fr + 981 + 4, celO (.int deep td), true⟩]
structure NC (w : World) (s₀ : Shared) (P : Params) (F : Gh) (h : Heap) (l st q wd n k d u : Nat) (Qf : Flow → Shared → Prop) (ks : List Value) (eq : Nat) (A B : Int) : Prop where
  hb : BaseIn P F
  hw : w.params = P
  hd : d + 3 * k + 309 < 1000
  hu : u + 10 * k + 397 < 9900
  hn : n ≤ 1000
  hk8 : k ≤ 8
  hW : Words F wd
  hk : Known ks (40 - 2 * k)
  hA : A + KK k < 1000000
  hA0 : 0 ≤ A
  hB : B + KK k < 1000000
  hB0 : 0 ≤ B
  IH : ∀ j, k = j + 1 → NodeC P w s₀ j
  hE : ∀ x t F' N vs e1 a ta b tb e2 sz' tk' h', 2050 ≤ tk' → Rep h [l + 981, st + 981, q + 981] F F' N sz' h' → (ε l (lstO vs e1) : Ent) ∈ N → (ε st (lstO [.int a ta, .int b tb, ρ wd] e2) : Ent) ∈ N → (ε q (lstO ks eq) : Ent) ∈ N →
    NodeAt P (addF [l + 981, st + 981, q + 981] F' (N.map some)) x t → Good t k → Deck vs n → A ≤ a → a ≤ A + KK k → B ≤ b → b ≤ B + KK k → Qf (.ret (ρ x)) (sto s₀ h' tk')
structure NI (P : Params) (F : Gh) (h : Heap) (l st q wd n k : Nat) (ks : List Value) (eq : Nat) (A B : Int) (F' : Gh) (vs : List Value) (el : Nat) (a : Int) (ta : Nat) (b : Int) (tb est fr td : Nat) (kvs : List (PySem.Str × Nat × Value)) (more : List Ent) (sz : Nat) (h' : Heap) : Prop where
  D : Rep h [l + 981, st + 981, q + 981] F F' (more ++ NE P l st q wd fr vs el a ta b tb est ks eq k td kvs) sz h'
  hv : Deck vs n
  a0 : A ≤ a
  a1 : a ≤ A + KK k
  b0 : B ≤ b
  b1 : b ≤ B + KK k
theorem okI_of {i : Int} (h0 : 0 ≤ i) (h1 : i < 2000000) : okI i := by
  unfold okI
  have : (2 : Nat) ^ 80 = 1208925819614629174706176 := by decide
  omega
theorem ints_wv {ks : List Value} {n : Nat} (h : Known ks n) : ∀ v ∈ ks, Wv v := fun v hv => by
  obtain ⟨ns, h1, h2, h3⟩ := h
  obtain ⟨i, t, rfl⟩ := h1.all v hv
  exact .inr (.inl ⟨i, t, rfl⟩)
theorem known_at {ks : List Value} {n : Nat} (h : Known ks n) {v : Value} (hv : v ∈ ks) : ∃ i t, v = .int i t ∧ okI i := by
  obtain ⟨ns, h1, h2, _⟩ := h
  obtain ⟨j, hj⟩ := List.getElem?_of_mem hv
  obtain ⟨i, t, rfl, hi⟩ := h1.at j v hj
  exact ⟨i, t, rfl, h2 i (List.mem_of_getElem? hi)⟩
variable {h h' : Heap} {l st q wd n k : Nat} {Qf : Flow → Shared → Prop} {Ef : Value → Shared → Prop} {ks vs : List Value} {eq el ta tb est fr td kw z t ty : Nat} {A B a b y : Int} {F₁ : Gh}
theorem nb_C (c : NC w s₀ P F h l st q wd n k d u Qf ks eq A B) (i : NI P F h l st q wd n k ks eq A B F₁ vs el a ta b tb est fr td [("_law_way", kw, .int y ty)] [] (ψ z) h') :
    wpAny (pwm w) (AA d u true) (execs (sBody (fS 64 0 1)) ηN) Qf Ef (σt h' t) := by
  have hd := c.hd
  have hu := c.hu
  have hb₁ := c.hb.le i.D.le
  refine leaf (fun f => f) (okay c.hb w c.hw) ω (fTr_execs _ _) (sp := [oneS 7 [.int 0 (t + 2050), .int 7 (t + 2050 + 1), .bool true, .bool false, .ref 454, .ref (z + 981 + 1), .ref 457, .ref 460, .ref (z + 981 + 4)] n]) rfl δ i.D
    (fun ξ => no_C) fun ξ => ⟨by show d + 305 < 1000; omega, by show d + 305 < 1000; omega,
      can_one hb₁ c.hw ω ω δ c.hn (by simp) (by simp) (fun v hv => by
        simp only [μμ] at hv
        rcases hv with rfl | rfl | rfl | rfl | rfl | rfl | rfl | rfl | rfl
        · exact .inr (.inl ⟨_, _, rfl⟩)
        · exact .inr (.inl ⟨_, _, rfl⟩)
        · exact .inl ⟨_, rfl⟩
        · exact .inl ⟨_, rfl⟩
        all_goals exact .inr (.inr ⟨_, rfl⟩)) i.hv, fun F₂ l₂ p₂ => ⟨by show d + 305 < 1000; omega, _, rfl, fun f ef h'' T' D' => ?_⟩⟩
  cases ef
  have D := D' [_, _, _, _, _, _, _, _, _, _] rfl
  obtain ⟨G, hG, lG, fx⟩ := D.facts3 (m := 7) rfl rfl rfl
  have node : ∀ v, okPV v → PVAt P G (ξ 0).w v → ∃ tr, NodeAt P G ((ξ 0).n 0 + 1) tr ∧ Good tr k := fun v ho hv =>
    ⟨.const v, ⟨_, _, _, hv, fx 1 _ _ rfl δ, fx 0 _ _ rfl δ⟩, ho, trivial, by simp [hT], SZ_pos k⟩
  have pv : ∃ tr, NodeAt P G ((ξ 0).n 0 + 1) tr ∧ Good tr k := by
    have hm : (ξ 0).w ∈ _ := p₂.1
    simp only [μμ] at hm
    rcases hm with e | e | e | e | e | e | e | e | e
    · exact node (.int 0) (okI_of δ δ) ⟨_, e⟩
    · exact node (.int 7) (okI_of δ δ) ⟨_, e⟩
    · exact node βT trivial e
    · exact node βF trivial e
    · exact node .empty trivial e
    · exact node (.char 65) (okI_of δ δ) ⟨z + 1, z, _, _, e, fx 6 _ _ rfl δ, fx 5 _ _ rfl δ⟩
    · exact node .unspec trivial e
    · exact node .eof trivial e
    · exact node (.pair 1) (okI_of δ δ) ⟨z + 4, z + 3, _, _, _, e, fx 4 _ _ rfl δ, fx 3 _ _ rfl δ⟩
  obtain ⟨tr, n1, n2⟩ := pv
  rw [hG] at n1
  exact c.hE _ _ _ _ _ _ _ _ _ _ _ _ _ _ T' D (nth_some (i := 7) rfl) (nth_some (i := 8) rfl) (nth_some (i := 9) rfl) n1 n2 p₂.2 i.a0 i.a1 i.b0 i.b1
theorem nb_D (c : NC w s₀ P F h l st q wd n k d u Qf ks eq A B) (i : NI P F h l st q wd n k ks eq A B F₁ vs el a ta b tb est fr td [("_law_way", kw, .int y ty)] [] (ψ z) h') (h0 : 0 < ks.length) :
    wpAny (pwm w) (AA d u true) (execs (sBody (fS 64 0 2)) ηN) Qf Ef (σt h' t) := by
  have hd := c.hd
  have hu := c.hu
  have hb₁ := c.hb.le i.D.le
  have hkl : ks.length < 1000 := by obtain ⟨_, _, _, x⟩ := c.hk; omega
  refine leaf (fun f => f) (okay c.hb w c.hw) ω (fTr_execs _ _) (sp := [oneS 0 ks n]) rfl δ i.D
    (fun ξ => no_D) fun ξ => ⟨can_one hb₁ c.hw ω ω δ c.hn h0 hkl (ints_wv c.hk) i.hv, fun F₂ l₂ p₂ => ⟨by show d + 305 < 1000; omega, _, rfl, fun f ef h'' T' D' => ?_⟩⟩
  cases ef
  have D := D' [_, _, _, _, _] rfl
  obtain ⟨G, hG, lG, fx⟩ := D.facts3 (m := 2) rfl rfl rfl
  obtain ⟨m, tm, e, hm⟩ := known_at c.hk (show (ξ 0).w ∈ ks from p₂.1)
  have f1 := fx 1 _ _ rfl δ
  rw [e] at f1
  have n1 : NodeAt P G ((ξ 0).n 0 + 1) (.loc m) := ⟨_, _, _, f1, fx 0 _ _ rfl δ⟩
  rw [hG] at n1
  exact c.hE _ _ _ _ _ _ _ _ _ _ _ _ _ _ T' D (nth_some (i := 2) rfl) (nth_some (i := 3) rfl) (nth_some (i := 4) rfl) n1 ⟨hm, trivial, by simp [hT], SZ_pos k⟩ p₂.2 i.a0 i.a1 i.b0 i.b1
end
theorem execs_app (b : List Stmt) (env : Env) : ∀ a : List Stmt, execs (a ++ b) env = (execs a env >>= fun f => match f with | .next => execs b env | f => pure f)
  | [] => rfl
  | x :: r => by
    rw [List.cons_append, execs_cons, execs_cons, execs_app b env r]
    refine Eq.trans ?_ (Sem.bind_assoc _ _ _).symm
    refine congrArg (Sem.bind (exec x env)) (funext fun f => ?_)
    cases f <;> rfl
theorem w_app {M : Model} {A : Around} {E : Value → Shared → Prop} {s : Shared} {env : Env} {a b : List Stmt} {Q : Flow → Shared → Prop}
    (h : wpAny M A (execs a env) (fun f s' => match f with | .next => wpAny M A (execs b env) Q E s' | f => Q f s') E s) : wpAny M A (execs (a ++ b) env) Q E s := by
  rw [execs_app]
  refine wpAny_bind (wpAny_mono h (fun f s' q => ?_) fun Z Z q => q)
  cases f <;> first | exact q | exact wpAny_pure q
section
variable {w : World} {s₀ : Shared} {P : Params} {F F₁ : Gh} {d u : Nat}
variable {h h' : Heap} {l st q wd n k : Nat} {Qf : Flow → Shared → Prop} {Ef : Value → Shared → Prop} {ks vs : List Value} {eq el ta tb est fr td kw z t ty : Nat} {A B a b y : Int}
theorem KK_s (j : Nat) : KK (j + 1) = 2 * KK j + 2 := rfl
theorem SZ_s (j : Nat) : SZ (j + 1) = 3 * SZ j + 3 := rfl
theorem nb_E2 {op : Int} {top tm kO km j : Nat} (c : NC w s₀ P F h l st q wd n k d u Qf ks eq A B) (hj : k = j + 1) (ho : op = 8 ∨ op = 16 ∨ op = 11 ∨ op = 135) (i : NI P F h l st q wd n k ks eq A B F₁ vs el a ta b tb est fr td [("_law_way", kw, .int y ty), ("_law_op", kO, .int op top), ("_law_many", km, .int 1 tm)] [] (ψ z) h') (ea : a = A) (eb : b = B) :
    wpAny (pwm w) (AA d u true) (execs ((sBody (fS 64 0 3)).drop 1) ηN) Qf Ef (σt h' t) := by
  have hd := c.hd
  have hu := c.hu
  have hK := KK_s j
  have hA := c.hA
  have hB := c.hB
  have hA0 := c.hA0
  have hB0 := c.hB0
  have hk8 := c.hk8
  have hb₁ := c.hb.le i.D.le
  have hW := c.hW.le i.D.le
  have IH := c.IH j hj
  subst ea eb
  rw [hj, hK] at hA hB
  refine leaf (fun f => f) (okay c.hb w c.hw) ω (fTr_execs _ _) (sp := [iS fun Z Z r => r = (k : Int) - 1, nodeS P 4 5 (ψ wd) n a (a + KK j) b (b + KK j) j]) rfl δ i.D
    (fun ξ => no_E2) fun ξ => ⟨can_sub hb₁ c.hw, fun F₂ l₂ p₂ =>
      ⟨can_node IH ω (hb₁.le l₂) ω ω δ δ δ c.hn (hW.le l₂) i.hv (c.hk.mono ω) hA0 ω hB0 ω (by have : (ξ 0).i 0 = (k : Int) - 1 := p₂; omega) (Int.le_refl _) (Int.le_refl _) (Int.le_refl _) (Int.le_refl _), fun F₃ l₃ p₃ =>
      ⟨by show d + 305 < 1000; omega, _, rfl, fun f ef h'' T' D' => ?_⟩⟩⟩
  cases ef
  have D := D' [_, _, _, _, _, _, _] rfl
  obtain ⟨G, hG, lG, fx⟩ := D.facts3 (m := 4) rfl rfl rfl
  have p₃ : Deck (ξ 1).l n ∧ (∃ t, NodeAt P F₃ ((ξ 1).n 2) t ∧ Good t j) ∧ a ≤ (ξ 1).i 1 ∧ (ξ 1).i 1 ≤ a + KK j ∧ b ≤ (ξ 1).i 2 ∧ (ξ 1).i 2 ≤ b + KK j := p₃
  obtain ⟨q1, ⟨tr, q2, q3, q4, q5, q6⟩, q7, q8, q9, q10⟩ := p₃
  have n1 : NodeAt P G ((ξ 1).n 0 + 3) (.prim1 op tr) := ⟨_, _, _, _, _, _, q2.mono lG, ⟨_, fx 3 _ _ rfl δ⟩, fx 1 _ _ rfl δ, fx 0 _ _ rfl δ⟩
  rw [hG] at n1
  have hop : okI op := okI_of ω ω
  have hS := SZ_s j
  exact c.hE _ _ _ _ _ _ _ _ _ _ _ _ _ _ T' D (nth_some (i := 4) rfl) (nth_some (i := 5) rfl) (nth_some (i := 6) rfl) n1 ⟨⟨hop, q3⟩, ⟨ho, q4⟩, by simp only [hT]; omega, by rw [hj, hS]; simp only [szT]; omega⟩ q1 q7 (by rw [hj, hK]; omega) q9 (by rw [hj, hK]; omega)
theorem nb_E3 {op : Int} {top tm kO km j : Nat} (c : NC w s₀ P F h l st q wd n k d u Qf ks eq A B) (hj : k = j + 1) (ho : op = 4 ∨ op = 9 ∨ op = 13) (i : NI P F h l st q wd n k ks eq A B F₁ vs el a ta b tb est fr td [("_law_way", kw, .int y ty), ("_law_op", kO, .int op top), ("_law_many", km, .int 2 tm)] [] (ψ z) h') (ea : a = A) (eb : b = B) :
    wpAny (pwm w) (AA d u true) (execs ((sBody (fS 64 0 3)).drop 1) ηN) Qf Ef (σt h' t) := by
  have hd := c.hd
  have hu := c.hu
  have hK := KK_s j
  have hA := c.hA
  have hB := c.hB
  have hA0 := c.hA0
  have hB0 := c.hB0
  have hk8 := c.hk8
  have hb₁ := c.hb.le i.D.le
  have hW := c.hW.le i.D.le
  have IH := c.IH j hj
  have hS := SZ_s j
  subst ea eb
  rw [hj, hK] at hA hB
  refine lfF c.hb c.hw (sp := [iS fun Z Z r => r = (k : Int) - 1, nodeS P 4 5 (ψ wd) n a (a + KK j) b (b + KK j) j, iS fun Z Z r => r = (k : Int) - 1, nodeS P 4 5 (ψ wd) n a (a + 2 * KK j) b (b + 2 * KK j) j]) rfl δ i.D
    (fun ξ => no_E3) fun ξ => ⟨can_sub hb₁ c.hw, fun F₂ l₂ p₂ =>
      ⟨can_node IH ω (hb₁.le l₂) ω ω δ δ δ c.hn (hW.le l₂) (i.hv) (c.hk.mono ω) hA0 ω hB0 ω (by have := (show (ξ 0).i 0 = (k : Int) - 1 from p₂); omega) (Int.le_refl _) (Int.le_refl _) (Int.le_refl _) (Int.le_refl _), fun F₃ l₃ p₃ => ?_⟩⟩
  have p₃ : Deck (ξ 1).l n ∧ (∃ t, NodeAt P F₃ ((ξ 1).n 2) t ∧ Good t j) ∧ a ≤ (ξ 1).i 1 ∧ (ξ 1).i 1 ≤ a + KK j ∧ b ≤ (ξ 1).i 2 ∧ (ξ 1).i 2 ≤ b + KK j := p₃
  obtain ⟨q1, ⟨tr, q2, q3, q4, q5, q6⟩, q7, q8, q9, q10⟩ := p₃
  refine ⟨can_sub ((hb₁.le l₂).le l₃) c.hw, fun F₄ l₄ p₄ => ⟨can_node IH ω (((hb₁.le l₂).le l₃).le l₄) ω ω δ δ δ c.hn (((hW.le l₂).le l₃).le l₄) (q1) (c.hk.mono ω) ω ω ω ω (by have := (show (ξ 2).i 0 = (k : Int) - 1 from p₄); omega) ω ω ω ω, fun F₅ l₅ p₅ => ?_⟩⟩
  have p₅ : Deck (ξ 3).l n ∧ (∃ t, NodeAt P F₅ ((ξ 3).n 2) t ∧ Good t j) ∧ a ≤ (ξ 3).i 1 ∧ (ξ 3).i 1 ≤ a + 2 * KK j ∧ b ≤ (ξ 3).i 2 ∧ (ξ 3).i 2 ≤ b + 2 * KK j := p₅
  obtain ⟨r1, ⟨tr', r2, r3, r4, r5, r6⟩, r7, r8, r9, r10⟩ := p₅
  refine ⟨by show d + 305 < 1000; omega, qF (N := ν7) fun h'' t' D => ?_⟩
  obtain ⟨G, hG, lG, fx⟩ := D.facts3 (m := 4) rfl rfl rfl
  have n1 : NodeAt P G ((ξ 3).n 0 + 3) (.prim2 op tr tr') := ⟨_, _, _, _, _, _, _, ((q2.mono l₄).mono l₅).mono lG, r2.mono lG, ⟨_, fx 3 _ _ rfl δ⟩, fx 1 _ _ rfl δ, fx 0 _ _ rfl δ⟩
  rw [hG] at n1
  have hop : okI op := okI_of ω ω
  exact c.hE _ _ _ _ _ _ _ _ _ _ _ _ _ _ (Nat.le_add_left _ _) D (nth_some (i := 4) rfl) (nth_some (i := 5) rfl) (nth_some (i := 6) rfl) n1 ⟨⟨hop, q3, r3⟩, ⟨ho, q4, r4⟩, by simp only [hT]; omega, by rw [hj, hS]; simp only [szT]; omega⟩ r1 r7 (by rw [hj, hK]; omega) r9 (by rw [hj, hK]; omega)
theorem nb_H {j : Nat} (c : NC w s₀ P F h l st q wd n k d u Qf ks eq A B) (hj : k = j + 1) (i : NI P F h l st q wd n k ks eq A B F₁ vs el a ta b tb est fr td [("_law_way", kw, .int y ty)] [] (ψ z) h') (ea : a = A) (eb : b = B)
    (hN : ∀ (F' : Gh) (vs : List Value) (el : Nat) (a : Int) (ta : Nat) (b : Int) (tb est p1 p2 pl epl kp z t : Nat) (h'' : Heap) (tr tr' : T), NI P F h l st q wd n k ks eq A B F' vs el a ta b tb est fr td [("_law_way", kw, .int y ty), ("_law_parts", kp, ρ pl)] [ε pl (lstO [ρ p1, ρ p2] epl)] (ψ z) h'' →
      NodeAt P F' p1 tr → Good tr j → NodeAt P F' p2 tr' → Good tr' j → Qf .next (σt h'' t)) :
    wpAny (pwm w) (AA d u true) (execs (((fBody (fAt 64 0)).drop 6).take 1) ηN) Qf Ef (σt h' t) := by
  have hd := c.hd
  have hu := c.hu
  have hK := KK_s j
  have hA := c.hA
  have hB := c.hB
  have hA0 := c.hA0
  have hB0 := c.hB0
  have hk8 := c.hk8
  have hb₁ := c.hb.le i.D.le
  have hW := c.hW.le i.D.le
  have IH := c.IH j hj
  have hS := SZ_s j
  subst ea eb
  rw [hj, hK] at hA hB
  refine lfF c.hb c.hw (sp := [iS fun Z Z r => r = (k : Int) - 1, nodeS P 4 5 (ψ wd) n a (a + KK j) b (b + KK j) j, iS fun Z Z r => r = (k : Int) - 1, nodeS P 4 5 (ψ wd) n a (a + 2 * KK j) b (b + 2 * KK j) j]) rfl δ i.D
    (fun ξ => no_H) fun ξ => ⟨can_sub hb₁ c.hw, fun F₂ l₂ p₂ =>
      ⟨can_node IH ω (hb₁.le l₂) ω ω δ δ δ c.hn (hW.le l₂) (i.hv) (c.hk.mono ω) hA0 ω hB0 ω (by have := (show (ξ 0).i 0 = (k : Int) - 1 from p₂); omega) (Int.le_refl _) (Int.le_refl _) (Int.le_refl _) (Int.le_refl _), fun F₃ l₃ p₃ => ?_⟩⟩
  have p₃ : Deck (ξ 1).l n ∧ (∃ t, NodeAt P F₃ ((ξ 1).n 2) t ∧ Good t j) ∧ a ≤ (ξ 1).i 1 ∧ (ξ 1).i 1 ≤ a + KK j ∧ b ≤ (ξ 1).i 2 ∧ (ξ 1).i 2 ≤ b + KK j := p₃
  obtain ⟨q1, ⟨tr, q2, q3, q4, q5, q6⟩, q7, q8, q9, q10⟩ := p₃
  refine ⟨can_sub ((hb₁.le l₂).le l₃) c.hw, fun F₄ l₄ p₄ => ⟨can_node IH ω (((hb₁.le l₂).le l₃).le l₄) ω ω δ δ δ c.hn (((hW.le l₂).le l₃).le l₄) (q1) (c.hk.mono ω) ω ω ω ω (by have := (show (ξ 2).i 0 = (k : Int) - 1 from p₄); omega) ω ω ω ω, fun F₅ l₅ p₅ => ?_⟩⟩
  have p₅ : Deck (ξ 3).l n ∧ (∃ t, NodeAt P F₅ ((ξ 3).n 2) t ∧ Good t j) ∧ a ≤ (ξ 3).i 1 ∧ (ξ 3).i 1 ≤ a + 2 * KK j ∧ b ≤ (ξ 3).i 2 ∧ (ξ 3).i 2 ≤ b + 2 * KK j := p₅
  obtain ⟨r1, ⟨tr', r2, r3, r4, r5, r6⟩, r7, r8, r9, r10⟩ := p₅
  refine qFz c.hb (N := ν9) fun h'' z3 t3 D => ?_
  exact hN F₅ (ξ 3).l _ _ _ _ _ _ ((ξ 1).n 2) ((ξ 3).n 2) (z + 2) 2 _ z3 t3 h'' tr tr' ⟨D, r1, r7, by rw [hj, hK]; omega, r9, by rw [hj, hK]; omega⟩ ((q2.mono l₄).mono l₅) ⟨q3, q4, q5, q6⟩ r2 ⟨r3, r4, r5, r6⟩
theorem nb_F {j : Nat} (c : NC w s₀ P F h l st q wd n k d u Qf ks eq A B) (hj : k = j + 1) (i : NI P F h l st q wd n k ks eq A B F₁ vs el a ta b tb est fr td [("_law_way", kw, .int y ty)] [] (ψ z) h') (ea : a = A) (eb : b = B) :
    wpAny (pwm w) (AA d u true) (execs (sBody (fS 64 0 4)) ηN) Qf Ef (σt h' t) := by
  have hd := c.hd
  have hu := c.hu
  have hK := KK_s j
  have hA := c.hA
  have hB := c.hB
  have hA0 := c.hA0
  have hB0 := c.hB0
  have hk8 := c.hk8
  have hb₁ := c.hb.le i.D.le
  have hW := c.hW.le i.D.le
  have IH := c.IH j hj
  have hS := SZ_s j
  have hkl : ks.length < 900 := by obtain ⟨_, _, _, x⟩ := c.hk; omega
  subst ea eb
  rw [hj, hK] at hA hB
  refine lfF c.hb c.hw (sp := [newS 1 (ρ wd) (a + 1) (a + 1) b, newS 1 (ρ wd) (b + 1) (a + 1) (b + 1), kaddS (40 - 2 * j), iS fun Z Z r => r = (k : Int) - 1, nodeS P 7 8 (ψ wd) n a (a + 1 + KK j) b (b + 1 + KK j) j, drawS 10 3 n]) rfl δ i.D
    (fun ξ => no_F) fun ξ => ⟨can_new0 hb₁ c.hw ω, fun F₂ l₂ p₂ => ?_⟩
  have b₂ := hb₁.le l₂
  obtain ⟨e0, e1, e2⟩ : (ξ 0).i 0 = a + 1 ∧ (ξ 0).i 1 = a + 1 ∧ (ξ 0).i 2 = b := p₂
  refine ⟨by rw [e1, e2]; exact can_new1 b₂ c.hw ω, fun F₃ l₃ p₃ => ?_⟩
  have b₃ := b₂.le l₃
  obtain ⟨f0, f1, f2⟩ : (ξ 1).i 0 = b + 1 ∧ (ξ 1).i 1 = a + 1 ∧ (ξ 1).i 2 = b + 1 := p₃
  refine ⟨can_kadd (fun h H => b₃.size H) (by simp only [List.length_singleton]; omega) ((c.hk.app (okI_of ω ω)).mono ω), fun F₄ l₄ p₄ => ⟨can_sub (b₃.le l₄) c.hw, fun F₅ l₅ p₅ => ?_⟩⟩
  have b₅ := (b₃.le l₄).le l₅
  have p₄ : Known (ξ 2).l (40 - 2 * j) := p₄
  have p₅ : (ξ 3).i 0 = (k : Int) - 1 := p₅
  refine ⟨can_node IH ω b₅ ω ω δ δ δ c.hn ((((hW.le l₂).le l₃).le l₄).le l₅) i.hv p₄ ω ω ω ω ω ω ω ω ω, fun F₆ l₆ p₆ => ⟨by show d + 305 < 1000; omega, ?_⟩⟩
  have p₆ : Deck (ξ 4).l n ∧ (∃ t, NodeAt P F₆ ((ξ 4).n 2) t ∧ Good t j) ∧ a ≤ (ξ 4).i 1 ∧ (ξ 4).i 1 ≤ a + 1 + KK j ∧ b ≤ (ξ 4).i 2 ∧ (ξ 4).i 2 ≤ b + 1 + KK j := p₆
  obtain ⟨q1, ⟨tr, q2, q3, q4, q5, q6⟩, q7, q8, q9, q10⟩ := p₆
  refine ⟨can_draw (b₅.le l₆) c.hw ω ω c.hn δ δ q1, fun F₇ l₇ p₇ => ⟨by show d + 305 < 1000; omega, by show d + 305 < 1000; omega, qF (N := ν13) fun h'' t' D => ?_⟩⟩
  obtain ⟨r1, r2, r3⟩ : Deck (ξ 5).l n ∧ 0 ≤ (ξ 5).i 0 ∧ (ξ 5).i 0 < 3 := p₇
  obtain ⟨G, hG, lG, fx⟩ := D.facts3 (m := 10) rfl rfl rfl
  have nl : NodeAt P G ((ξ 4).n 0 + 1) (.lam ((ξ 1).i 0) ((ξ 0).i 0) (-1) tr) := ⟨_, _, _, _, _, _, _, _, _, (ξ 1).n 0 + 4, (q2.mono l₇).mono lG, ⟨_, fx 9 _ _ rfl δ⟩, fx 6 _ _ rfl δ, fx 5 _ _ rfl δ⟩
  have ng : NodeAt P G ((ξ 5).n 0 + 1) (.glob ((ξ 5).i 0)) := ⟨_, _, _, fx 4 _ _ rfl δ, fx 3 _ _ rfl δ⟩
  have n1 : NodeAt P G ((ξ 5).n 0 + 5) (.call (.lam ((ξ 1).i 0) ((ξ 0).i 0) (-1) tr) (.glob ((ξ 5).i 0))) := ⟨(ξ 5).n 0 + 4, _, _, (ξ 4).n 0 + 1, (ξ 5).n 0 + 1, (ξ 5).n 0 + 3, nl, ng, ⟨_, fx 2 _ _ rfl δ⟩, fx 1 _ _ rfl δ, fx 0 _ _ rfl δ⟩
  rw [hG] at n1
  exact c.hE _ _ _ _ _ _ _ _ _ _ _ _ _ _ (Nat.le_add_left _ _) D (nth_some (i := 10) rfl) (nth_some (i := 11) rfl) (nth_some (i := 12) rfl) n1 ⟨⟨⟨okI_of ω ω, okI_of ω ω, by unfold okI; decide, q3⟩, okI_of ω ω⟩, ⟨q4, trivial⟩, by simp only [hT]; omega, by rw [hj, hS]; simp only [szT]; omega⟩ r1 q7 (by rw [hj, hK]; omega) q9 (by rw [hj, hK]; omega)
theorem nb_G {j : Nat} (c : NC w s₀ P F h l st q wd n k d u Qf ks eq A B) (hj : k = j + 1) (i : NI P F h l st q wd n k ks eq A B F₁ vs el a ta b tb est fr td [("_law_way", kw, .int y ty)] [] (ψ z) h') (ea : a = A) (eb : b = B) :
    wpAny (pwm w) (AA d u true) (execs (sBody (fS 64 0 5)) ηN) Qf Ef (σt h' t) := by
  have hd := c.hd
  have hu := c.hu
  have hK := KK_s j
  have hA := c.hA
  have hB := c.hB
  have hA0 := c.hA0
  have hB0 := c.hB0
  have hk8 := c.hk8
  have hb₁ := c.hb.le i.D.le
  have hW := c.hW.le i.D.le
  have IH := c.IH j hj
  have hS := SZ_s j
  have hkl : ks.length < 900 := by obtain ⟨_, _, _, x⟩ := c.hk; omega
  subst ea eb
  rw [hj, hK] at hA hB
  refine leaf (fun f => f) (okay c.hb w c.hw) ω (fTr_execs _ _) (sp := [newS 1 (ρ wd) (a + 1) (a + 1) b, newS 1 (ρ wd) (b + 1) (a + 1) (b + 1), newS 1 (ρ wd) (a + 2) (a + 2) (b + 1), kaddS (40 - 2 * j), iS fun Z Z r => r = (k : Int) - 1, nodeS P 7 8 (ψ wd) n a (a + 2 + KK j) b (b + 1 + KK j) j, kaddS (40 - 2 * j), iS fun Z Z r => r = (k : Int) - 1, nodeS P 14 15 (ψ wd) n a (a + 2 + 2 * KK j) b (b + 1 + 2 * KK j) j]) rfl δ i.D
    (fun ξ => no_G) fun ξ => ⟨can_new0 hb₁ c.hw ω, fun F₂ l₂ p₂ => ?_⟩
  have b₂ := hb₁.le l₂
  obtain ⟨e0, e1, e2⟩ : (ξ 0).i 0 = a + 1 ∧ (ξ 0).i 1 = a + 1 ∧ (ξ 0).i 2 = b := p₂
  refine ⟨by rw [e1, e2]; exact can_new1 b₂ c.hw ω, fun F₃ l₃ p₃ => ?_⟩
  have b₃ := b₂.le l₃
  obtain ⟨f0, f1, f2⟩ : (ξ 1).i 0 = b + 1 ∧ (ξ 1).i 1 = a + 1 ∧ (ξ 1).i 2 = b + 1 := p₃
  refine ⟨by rw [f1, f2, show a + 2 = a + 1 + 1 by omega]; exact can_new0 b₃ c.hw ω, fun F₄ l₄ p₄ => ?_⟩
  have b₄ := b₃.le l₄
  obtain ⟨g0, g1, g2⟩ : (ξ 2).i 0 = a + 2 ∧ (ξ 2).i 1 = a + 2 ∧ (ξ 2).i 2 = b + 1 := p₄
  have o0 : okI ((ξ 0).i 0) := okI_of ω ω
  have o1 : okI ((ξ 1).i 0) := okI_of ω ω
  have o2 : okI ((ξ 2).i 0) := okI_of ω ω
  refine ⟨can_kadd (fun h H => b₄.size H) (by simp only [List.length_cons, List.length_nil]; omega) (by have z := (c.hk.app (t := (ξ 0).n 50) o0).app (t := (ξ 2).n 50) o2; rw [List.append_assoc] at z; exact z.mono ω), fun F₅ l₅ p₅ => ⟨can_sub (b₄.le l₅) c.hw, fun F₆ l₆ p₆ => ?_⟩⟩
  have b₆ := (b₄.le l₅).le l₆
  have p₅ : Known (ξ 3).l (40 - 2 * j) := p₅
  have p₆ : (ξ 4).i 0 = (k : Int) - 1 := p₆
  have hW₆ := ((((hW.le l₂).le l₃).le l₄).le l₅).le l₆
  refine ⟨can_node IH ω b₆ ω ω δ δ δ c.hn hW₆ i.hv p₅ ω ω ω ω ω ω ω ω ω, fun F₇ l₇ p₇ => ⟨by show d + 305 < 1000; omega, ?_⟩⟩
  have p₇ : Deck (ξ 5).l n ∧ (∃ t, NodeAt P F₇ ((ξ 5).n 2) t ∧ Good t j) ∧ a ≤ (ξ 5).i 1 ∧ (ξ 5).i 1 ≤ a + 2 + KK j ∧ b ≤ (ξ 5).i 2 ∧ (ξ 5).i 2 ≤ b + 1 + KK j := p₇
  obtain ⟨q1, ⟨tr, q2, q3, q4, q5, q6⟩, q7, q8, q9, q10⟩ := p₇
  have b₇ := b₆.le l₇
  refine ⟨can_kadd (fun h H => b₇.size H) (by simp only [List.length_cons, List.length_nil]; omega) ((c.hk.app o0).mono ω), fun F₈ l₈ p₈ => ⟨can_sub (b₇.le l₈) c.hw, fun F₉ l₉ p₉ => ?_⟩⟩
  have b₉ := (b₇.le l₈).le l₉
  have p₈ : Known (ξ 6).l (40 - 2 * j) := p₈
  have p₉ : (ξ 7).i 0 = (k : Int) - 1 := p₉
  refine ⟨can_node IH ω b₉ ω ω δ δ δ c.hn (((hW₆.le l₇).le l₈).le l₉) q1 p₈ ω ω ω ω ω ω ω ω ω, fun FA lA pA => ⟨by show d + 305 < 1000; omega, _, rfl, fun f ef h'' T' D' => ?_⟩⟩
  have pA : Deck (ξ 8).l n ∧ (∃ t, NodeAt P FA ((ξ 8).n 2) t ∧ Good t j) ∧ a ≤ (ξ 8).i 1 ∧ (ξ 8).i 1 ≤ a + 2 + 2 * KK j ∧ b ≤ (ξ 8).i 2 ∧ (ξ 8).i 2 ≤ b + 1 + 2 * KK j := pA
  obtain ⟨r1, ⟨tr', r2, r3, r4, r5, r6⟩, r7, r8, r9, r10⟩ := pA
  cases ef
  have D := D' [_, _, _, _, _, _, _, _, _, _, _, _, _, _] rfl
  obtain ⟨G, hG, lG, fx⟩ := D.facts3 (m := 11) rfl rfl rfl
  have nl : NodeAt P G ((ξ 5).n 0 + 1) (.lam0 ((ξ 1).i 0) ((ξ 2).i 0) tr) := ⟨_, _, _, _, _, _, _, _, (ξ 2).n 0 + 4, ((((q2.mono l₈).mono l₉).mono lA).mono lG), ⟨_, fx 10 _ _ rfl δ⟩, fx 7 _ _ rfl δ, fx 6 _ _ rfl δ⟩
  have n1 : NodeAt P G ((ξ 8).n 0 + 1) (.fix ((ξ 0).i 0) (.lam0 ((ξ 1).i 0) ((ξ 2).i 0) tr) tr') := ⟨_, _, _, _, _, (ξ 5).n 0 + 1, (ξ 8).n 2, (ξ 5).n 0 + 4, (ξ 5).n 0 + 3, nl, r2.mono lG, ⟨_, fx 4 _ _ rfl δ⟩, ⟨_, fx 5 _ _ rfl δ⟩, fx 1 _ _ rfl δ, fx 0 _ _ rfl δ⟩
  rw [hG] at n1
  exact c.hE _ _ _ _ _ _ _ _ _ _ _ _ _ _ T' D (nth_some (i := 11) rfl) (nth_some (i := 12) rfl) (nth_some (i := 13) rfl) n1 ⟨⟨o0, ⟨o1, o2, q3⟩, r3⟩, ⟨q4, r4⟩, by simp only [hT]; omega, by rw [hj, hS]; simp only [szT]; omega⟩ r1 r7 (by rw [hj, hK]; omega) r9 (by rw [hj, hK]; omega)
end
section
variable {w : World} {s₀ : Shared} {P : Params} {F F₁ : Gh} {d u : Nat}
variable {h h' : Heap} {l st q wd n k : Nat} {Qf : Flow → Shared → Prop} {Ef : Value → Shared → Prop} {ks vs : List Value} {eq el ta tb est fr td kw z t ty : Nat} {A B a b y : Int}
noncomputable abbrev NE7 (P : Params) (l st q wd fr pl p1 p2 epl : Nat) (vs : List Value) (el : Nat) (a : Int) (ta : Nat) (b : Int) (tb est : Nat) (ks : List Value) (eq : Nat) (deep : Int) (td : Nat) (kvs : List (PySem.Str × Nat × Value)) : List Ent :=
  [ε l (lstO vs el), ε st (lstO [.int a ta, .int b tb, ρ wd] est), ε q (lstO ks eq), ε pl (lstO [ρ p1, ρ p2] epl), ε fr (frm P kvs), ⟨fr + 981 + 1, celO (ρ l), true⟩, ⟨fr + 981 + 2, celO (ρ st), true⟩, ⟨fr + 981 + 3, celO (ρ q), true⟩, ⟨fr + 981 + 4, celO (.int deep td), true⟩]
structure NJ (P : Params) (F : Gh) (h : Heap) (l st q wd n k j : Nat) (ks : List Value) (eq : Nat) (A B : Int) (F' : Gh) (vs : List Value) (el : Nat) (a : Int) (ta : Nat) (b : Int) (tb est fr td pl p1 p2 epl kw kp ty : Nat) (y : Int) (tr tr' : T) (sz : Nat) (h' : Heap) : Prop where
  D : Rep h [l + 981, st + 981, q + 981] F F' (NE7 P l st q wd fr pl p1 p2 epl vs el a ta b tb est ks eq k td [("_law_way", kw, .int y ty), ("_law_parts", kp, ρ pl)]) sz h'
  hv : Deck vs n
  a0 : A ≤ a
  a1 : a ≤ A + KK k
  b0 : B ≤ b
  b1 : b ≤ B + KK k
  n1 : NodeAt P F' p1 tr
  n2 : NodeAt P F' p2 tr'
  g1 : Good tr j
  g2 : Good tr' j
variable {j pl p1 p2 epl kp : Nat} {tr tr' : T}
theorem nb_I (c : NC w s₀ P F h l st q wd n k d u Qf ks eq A B) (hj : k = j + 1) (i : NJ P F h l st q wd n k j ks eq A B F₁ vs el a ta b tb est fr td pl p1 p2 epl kw kp ty y tr tr' (ψ z) h') (h0 : 0 < ks.length) :
    wpAny (pwm w) (AA d u true) (execs (sBody (fS 64 0 7)) ηN) Qf Ef (σt h' t) := by
  have hd := c.hd
  have hu := c.hu
  have hS := SZ_s j
  have hb₁ := c.hb.le i.D.le
  obtain ⟨g1, g2, g3, g4⟩ := i.g1
  obtain ⟨e1, e2, e3, e4⟩ := i.g2
  have hkl : ks.length < 1000 := by obtain ⟨_, _, _, x⟩ := c.hk; omega
  refine leaf (fun f => f) (okay c.hb w c.hw) ω (fTr_execs _ _) (sp := [oneS 0 ks n]) rfl δ i.D
    (fun ξ => no_I) fun ξ => ⟨can_one hb₁ c.hw ω ω δ c.hn h0 hkl (ints_wv c.hk) i.hv, fun F₂ l₂ p₂ => ⟨by show d + 305 < 1000; omega, _, rfl, fun f ef h'' T' D' => ?_⟩⟩
  cases ef
  have D := D' [_, _, _, _, _, _] rfl
  obtain ⟨G, hG, lG, fx⟩ := D.facts3 (m := 2) rfl rfl rfl
  obtain ⟨m, tm, e, hm⟩ := known_at c.hk (show (ξ 0).w ∈ ks from p₂.1)
  have f1 := fx 1 _ _ rfl δ
  rw [e] at f1
  have n1 : NodeAt P G ((ξ 0).n 0 + 1) (.setLoc m tr) := ⟨_, _, _, _, _, (i.n1.mono l₂).mono lG, f1, fx 0 _ _ rfl δ⟩
  rw [hG] at n1
  exact c.hE _ _ _ _ _ _ _ _ _ _ _ _ _ _ T' D (nth_some (i := 2) rfl) (nth_some (i := 3) rfl) (nth_some (i := 4) rfl) n1 ⟨⟨hm, g1⟩, g2, by simp only [hT]; omega, by rw [hj, hS]; simp only [szT]; omega⟩ p₂.2 i.a0 i.a1 i.b0 i.b1
theorem nb_J (c : NC w s₀ P F h l st q wd n k d u Qf ks eq A B) (hj : k = j + 1) (i : NJ P F h l st q wd n k j ks eq A B F₁ vs el a ta b tb est fr td pl p1 p2 epl kw kp ty 9 tr tr' (ψ z) h') :
    wpAny (pwm w) (AA d u true) (execs [fS 64 0 8] ηN) Qf Ef (σt h' t) := by
  have hd := c.hd
  have hu := c.hu
  have hS := SZ_s j
  have hb₁ := c.hb.le i.D.le
  obtain ⟨g1, g2, g3, g4⟩ := i.g1
  obtain ⟨e1, e2, e3, e4⟩ := i.g2
  refine leaf (fun f => f) (okay c.hb w c.hw) ω (fTr_execs _ _) (sp := []) rfl δ i.D
    (fun ξ => no_J) fun ξ => ⟨by show d + 305 < 1000; omega, by show d + 305 < 1000; omega, _, rfl, fun f ef h'' T' D' => ?_⟩
  cases ef
  have D := D' [_, _, _, _, _, _, _, _] rfl
  obtain ⟨G, hG, lG, fx⟩ := D.facts3 (m := 4) rfl rfl rfl
  have ns : NodeAt P G (z + 1) (.setGlob 1 tr) := ⟨_, _, _, _, _, i.n1.mono lG, fx 3 _ _ rfl δ, fx 2 _ _ rfl δ⟩
  have n1 : NodeAt P G (z + 4) (.ite tr tr' (.setGlob 1 tr)) := ⟨_, _, _, _, p1, p2, z + 1, i.n1.mono lG, i.n2.mono lG, ns, fx 1 _ _ rfl δ, fx 0 _ _ rfl δ⟩
  rw [hG] at n1
  exact c.hE _ _ _ _ _ _ _ _ _ _ _ _ _ _ T' D (nth_some (i := 4) rfl) (nth_some (i := 5) rfl) (nth_some (i := 6) rfl) n1 ⟨⟨g1, e1, okI_of δ δ, g1⟩, ⟨g2, e2, g2⟩, by simp only [hT]; omega, by rw [hj, hS]; simp only [szT]; omega⟩ i.hv i.a0 i.a1 i.b0 i.b1
theorem nb_K (c : NC w s₀ P F h l st q wd n k d u Qf ks eq A B) (hj : k = j + 1) (i : NJ P F h l st q wd n k j ks eq A B F₁ vs el a ta b tb est fr td pl p1 p2 epl kw kp ty 10 tr tr' (ψ z) h') :
    wpAny (pwm w) (AA d u true) (execs [fS 64 0 8] ηN) Qf Ef (σt h' t) := by
  have hd := c.hd
  have hu := c.hu
  have hS := SZ_s j
  have hb₁ := c.hb.le i.D.le
  obtain ⟨g1, g2, g3, g4⟩ := i.g1
  obtain ⟨e1, e2, e3, e4⟩ := i.g2
  refine leaf (fun f => f) (okay c.hb w c.hw) ω (fTr_execs _ _) (sp := []) rfl δ i.D
    (fun ξ => no_K) fun ξ => ⟨by show d + 305 < 1000; omega, _, rfl, fun f ef h'' T' D' => ?_⟩
  cases ef
  have D := D' [_, _, _, _, _, _] rfl
  obtain ⟨G, hG, lG, fx⟩ := D.facts3 (m := 2) rfl rfl rfl
  have n1 : NodeAt P G (z + 1) (.seq tr tr') := ⟨_, _, p1, p2, pl, i.n1.mono lG, i.n2.mono lG, ⟨_, fx 5 _ _ rfl δ⟩, fx 1 _ _ rfl δ, fx 0 _ _ rfl δ⟩
  rw [hG] at n1
  exact c.hE _ _ _ _ _ _ _ _ _ _ _ _ _ _ T' D (nth_some (i := 2) rfl) (nth_some (i := 3) rfl) (nth_some (i := 4) rfl) n1 ⟨⟨g1, e1⟩, ⟨g2, e2⟩, by simp only [hT]; omega, by rw [hj, hS]; simp only [szT]; omega⟩ i.hv i.a0 i.a1 i.b0 i.b1
theorem nt_t0 (c : NC w s₀ P F h l st q wd n k d u Qf ks eq A B) (i : NI P F h l st q wd n k ks eq A B F₁ vs el a ta b tb est fr td [("_law_way", kw, .int y ty)] [] (ψ z) h') {Q : Bool → Shared → Prop} (hQ : ∀ F' z' t' h'', NI P F h l st q wd n k ks eq A B F' vs el a ta b tb est fr td [("_law_way", kw, .int y ty)] [] (ψ z') h'' → Q (y == 0) (σt h'' t')) :
    wpAny (pwm w) (AA d u true) (isTrue (bVal (sTest (fS 64 0 1)) 0) ηN (eval (bVal (sTest (fS 64 0 1)) 0) ηN)) Q Ef (σt h' t) := by
  refine lfB c.hb c.hw (sp := []) rfl δ i.D (fun ξ => no_t0) fun ξ => qB (N := ν8) fun h'' t3 D => ?_
  exact hQ _ z t3 h'' ⟨D, i.hv, i.a0, i.a1, i.b0, i.b1⟩
theorem nt_t1 (c : NC w s₀ P F h l st q wd n k d u Qf ks eq A B) (i : NI P F h l st q wd n k ks eq A B F₁ vs el a ta b tb est fr td [("_law_way", kw, .int y ty)] [] (ψ z) h') {Q : Bool → Shared → Prop} (hQ : ∀ F' z' t' h'', NI P F h l st q wd n k ks eq A B F' vs el a ta b tb est fr td [("_law_way", kw, .int y ty)] [] (ψ z') h'' → Q (y == 1) (σt h'' t')) :
    wpAny (pwm w) (AA d u true) (isTrue (bVal (bVal (sTest (fS 64 0 1)) 1) 0) ηN (eval (bVal (bVal (sTest (fS 64 0 1)) 1) 0) ηN)) Q Ef (σt h' t) := by
  refine lfB c.hb c.hw (sp := []) rfl δ i.D (fun ξ => no_t1) fun ξ => qB (N := ν8) fun h'' t3 D => ?_
  exact hQ _ z t3 h'' ⟨D, i.hv, i.a0, i.a1, i.b0, i.b1⟩
theorem nt_t2 (c : NC w s₀ P F h l st q wd n k d u Qf ks eq A B) (i : NI P F h l st q wd n k ks eq A B F₁ vs el a ta b tb est fr td [("_law_way", kw, .int y ty)] [] (ψ z) h') {Q : Bool → Shared → Prop} (hQ : ∀ F' z' t' h'', NI P F h l st q wd n k ks eq A B F' vs el a ta b tb est fr td [("_law_way", kw, .int y ty)] [] (ψ z') h'' → Q (y == 1) (σt h'' t')) :
    wpAny (pwm w) (AA d u true) (isTrue (sTest (fS 64 0 2)) ηN (eval (sTest (fS 64 0 2)) ηN)) Q Ef (σt h' t) := by
  refine lfB c.hb c.hw (sp := []) rfl δ i.D (fun ξ => no_t2) fun ξ => qB (N := ν8) fun h'' t3 D => ?_
  exact hQ _ z t3 h'' ⟨D, i.hv, i.a0, i.a1, i.b0, i.b1⟩
theorem nt_t3 (c : NC w s₀ P F h l st q wd n k d u Qf ks eq A B) (i : NI P F h l st q wd n k ks eq A B F₁ vs el a ta b tb est fr td [("_law_way", kw, .int y ty)] [] (ψ z) h') {Q : Bool → Shared → Prop} (hQ : ∀ F' z' t' h'', NI P F h l st q wd n k ks eq A B F' vs el a ta b tb est fr td [("_law_way", kw, .int y ty)] [] (ψ z') h'' → Q (decide (y < 7)) (σt h'' t')) :
    wpAny (pwm w) (AA d u true) (isTrue (sTest (fS 64 0 3)) ηN (eval (sTest (fS 64 0 3)) ηN)) Q Ef (σt h' t) := by
  refine lfB c.hb c.hw (sp := []) rfl δ i.D (fun ξ => no_t3) fun ξ => qB (N := ν8) fun h'' t3 D => ?_
  exact hQ _ z t3 h'' ⟨D, i.hv, i.a0, i.a1, i.b0, i.b1⟩
theorem nt_t4 (c : NC w s₀ P F h l st q wd n k d u Qf ks eq A B) (i : NI P F h l st q wd n k ks eq A B F₁ vs el a ta b tb est fr td [("_law_way", kw, .int y ty)] [] (ψ z) h') {Q : Bool → Shared → Prop} (hQ : ∀ F' z' t' h'', NI P F h l st q wd n k ks eq A B F' vs el a ta b tb est fr td [("_law_way", kw, .int y ty)] [] (ψ z') h'' → Q (y == 7) (σt h'' t')) :
    wpAny (pwm w) (AA d u true) (isTrue (sTest (fS 64 0 4)) ηN (eval (sTest (fS 64 0 4)) ηN)) Q Ef (σt h' t) := by
  refine lfB c.hb c.hw (sp := []) rfl δ i.D (fun ξ => no_t4) fun ξ => qB (N := ν8) fun h'' t3 D => ?_
  exact hQ _ z t3 h'' ⟨D, i.hv, i.a0, i.a1, i.b0, i.b1⟩
theorem nt_t5 (c : NC w s₀ P F h l st q wd n k d u Qf ks eq A B) (i : NI P F h l st q wd n k ks eq A B F₁ vs el a ta b tb est fr td [("_law_way", kw, .int y ty)] [] (ψ z) h') {Q : Bool → Shared → Prop} (hQ : ∀ F' z' t' h'', NI P F h l st q wd n k ks eq A B F' vs el a ta b tb est fr td [("_law_way", kw, .int y ty)] [] (ψ z') h'' → Q (y == 8) (σt h'' t')) :
    wpAny (pwm w) (AA d u true) (isTrue (sTest (fS 64 0 5)) ηN (eval (sTest (fS 64 0 5)) ηN)) Q Ef (σt h' t) := by
  refine lfB c.hb c.hw (sp := []) rfl δ i.D (fun ξ => no_t5) fun ξ => qB (N := ν8) fun h'' t3 D => ?_
  exact hQ _ z t3 h'' ⟨D, i.hv, i.a0, i.a1, i.b0, i.b1⟩
theorem no_c1 : isCmp .Eq (bVal (bVal (sTest (fS 64 0 1)) 1) 1) := by delta isCmp; kernel_rfl
theorem no_c7 : isCmp .NotEq (bVal (sTest (fS 64 0 7)) 1) := by delta isCmp; kernel_rfl
theorem nt_k1 (c : NC w s₀ P F h l st q wd n k d u Qf ks eq A B) (i : NI P F h l st q wd n k ks eq A B F₁ vs el a ta b tb est fr td [("_law_way", kw, .int y ty)] [] (ψ z) h') {Q : Bool → Shared → Prop} (hQ : ∀ F' z' t' h'', NI P F h l st q wd n k ks eq A B F' vs el a ta b tb est fr td [("_law_way", kw, .int y ty)] [] (ψ z') h'' → Q (ks.isEmpty) (σt h'' t')) :
    wpAny (pwm w) (AA d u true) (isTrue (bVal (bVal (sTest (fS 64 0 1)) 1) 1) ηN (eval (bVal (bVal (sTest (fS 64 0 1)) 1) 1) ηN)) Q Ef (σt h' t) := by
  have hu := c.hu
  obtain ⟨ns, hI, _, _⟩ := c.hk
  refine w_cmp no_c1 ?_
  refine lfV c.hb c.hw (sp := []) rfl δ i.D (fun ξ => no_k1) fun ξ => qV (N := ν8) fun h'' t' D => ?_
  refine lfV c.hb c.hw (sp := []) rfl δ D (fun ξ => no_n1) fun ξ => qV (N := ν9) fun h'' t' D => ?_
  rw [show z + 981 + 1 = (z + 1) + 981 by omega] at D
  refine eq_intsK (ns := ns) (ms := []) ⟨_, D.at_ 3 _ rfl, rfl, eq, rfl⟩ hI ⟨_, D.at_ 0 _ rfl, rfl, 0, rfl⟩ .nil (by show u + 64 < 9900; omega) ⟨_, rfl, ?_⟩
  have D := D.pk [1, 2, 3, 4, 5, 6, 7, 8] ν8 rfl
  have e : decide (ns = []) = ks.isEmpty := by cases hI <;> rfl
  rw [e]
  exact hQ _ (z + 1) t' _ ⟨D, i.hv, i.a0, i.a1, i.b0, i.b1⟩
theorem nt_t7 (c : NC w s₀ P F h l st q wd n k d u Qf ks eq A B) (i : NJ P F h l st q wd n k j ks eq A B F₁ vs el a ta b tb est fr td pl p1 p2 epl kw kp ty y tr tr' (ψ z) h') {Q : Bool → Shared → Prop} (hQ : ∀ F' z' t' h'', NJ P F h l st q wd n k j ks eq A B F' vs el a ta b tb est fr td pl p1 p2 epl kw kp ty y tr tr' (ψ z') h'' → Q (y == 9) (σt h'' t')) :
    wpAny (pwm w) (AA d u true) (isTrue (bVal (sTest (fS 64 0 7)) 0) ηN (eval (bVal (sTest (fS 64 0 7)) 0) ηN)) Q Ef (σt h' t) := by
  refine lfB c.hb c.hw (sp := []) rfl δ i.D (fun ξ => no_t7) fun ξ => qB (N := ν9) fun h'' t3 D => ?_
  exact hQ _ z t3 h'' ⟨D, i.hv, i.a0, i.a1, i.b0, i.b1, i.n1, i.n2, i.g1, i.g2⟩
theorem nt_k7 (c : NC w s₀ P F h l st q wd n k d u Qf ks eq A B) (i : NJ P F h l st q wd n k j ks eq A B F₁ vs el a ta b tb est fr td pl p1 p2 epl kw kp ty y tr tr' (ψ z) h') {Q : Bool → Shared → Prop} (hQ : ∀ F' z' t' h'', NJ P F h l st q wd n k j ks eq A B F' vs el a ta b tb est fr td pl p1 p2 epl kw kp ty y tr tr' (ψ z') h'' → Q (!ks.isEmpty) (σt h'' t')) :
    wpAny (pwm w) (AA d u true) (isTrue (bVal (sTest (fS 64 0 7)) 1) ηN (eval (bVal (sTest (fS 64 0 7)) 1) ηN)) Q Ef (σt h' t) := by
  have hu := c.hu
  obtain ⟨ns, hI, _, _⟩ := c.hk
  refine w_cmp no_c7 ?_
  refine lfV c.hb c.hw (sp := []) rfl δ i.D (fun ξ => no_k7) fun ξ => qV (N := ν9) fun h'' t' D => ?_
  refine lfV c.hb c.hw (sp := []) rfl δ D (fun ξ => no_n7) fun ξ => qV (N := ν10) fun h'' t' D => ?_
  rw [show z + 981 + 1 = (z + 1) + 981 by omega] at D
  refine ne_intsK (ns := ns) (ms := []) ⟨_, D.at_ 3 _ rfl, rfl, eq, rfl⟩ hI ⟨_, D.at_ 0 _ rfl, rfl, 0, rfl⟩ .nil (by show u + 64 < 9900; omega) ⟨_, rfl, ?_⟩
  have D := D.pk [1, 2, 3, 4, 5, 6, 7, 8, 9] ν9 rfl
  have e : (!decide (ns = [])) = (!ks.isEmpty) := by cases hI <;> rfl
  rw [e]
  exact hQ _ (z + 1) t' _ ⟨D, i.hv, i.a0, i.a1, i.b0, i.b1, i.n1, i.n2, i.g1, i.g2⟩
end
section
variable {w : World} {s₀ : Shared} {P : Params} {F F₁ : Gh} {d u : Nat}
variable {h h' : Heap} {l st q wd n k : Nat} {Qf : Flow → Shared → Prop} {Ef : Value → Shared → Prop} {ks vs : List Value} {eq el ta tb est fr td kw z t ty : Nat} {A B a b y : Int}
theorem NC.seq (c : NC w s₀ P F h l st q wd n k d u Qf ks eq A B) {X : Shared → Prop} : NC w s₀ P F h l st q wd n k d u (fun f s' => match f with | .next => X s' | f => Qf f s') ks eq A B :=
  ⟨c.hb, c.hw, c.hd, c.hu, c.hn, c.hk8, c.hW, c.hk, c.hA, c.hA0, c.hB, c.hB0, c.IH, c.hE⟩
theorem no_body : (fBody (fAt 64 0)).drop 1 = fS 64 0 1 :: fS 64 0 2 :: fS 64 0 3 :: fS 64 0 4 :: fS 64 0 5 :: (((fBody (fAt 64 0)).drop 6).take 1 ++ [fS 64 0 7, fS 64 0 8]) := κR
theorem no_is : isIf (fS 64 0 1) ∧ isIf (fS 64 0 2) ∧ isIf (fS 64 0 3) ∧ isIf (fS 64 0 4) ∧ isIf (fS 64 0 5) ∧ isIf (fS 64 0 7) := by
  delta isIf
  exact ⟨by kernel_rfl, by kernel_rfl, by kernel_rfl, by kernel_rfl, by kernel_rfl, by kernel_rfl⟩
theorem no_el : sElse (fS 64 0 1) = [] ∧ sElse (fS 64 0 2) = [] ∧ sElse (fS 64 0 3) = [] ∧ sElse (fS 64 0 4) = [] ∧ sElse (fS 64 0 5) = [] ∧ sElse (fS 64 0 7) = [] := ⟨by kernel_rfl, by kernel_rfl, by kernel_rfl, by kernel_rfl, by kernel_rfl, by kernel_rfl⟩
theorem no_or : isOr (sTest (fS 64 0 1)) := by delta isOr; kernel_rfl
theorem no_and : isAnd (bVal (sTest (fS 64 0 1)) 1) := by delta isAnd; kernel_rfl
theorem no_and7 : isAnd (sTest (fS 64 0 7)) := by delta isAnd; kernel_rfl
theorem nb_E1 {j : Nat} (c : NC w s₀ P F h l st q wd n k d u Qf ks eq A B) (hj : k = j + 1) (i : NI P F h l st q wd n k ks eq A B F₁ vs el a ta b tb est fr td [("_law_way", kw, .int y ty)] [] (ψ z) h') (ea : a = A) (eb : b = B) :
    wpAny (pwm w) (AA d u true) (execs (sBody (fS 64 0 3)) ηN) Qf Ef (σt h' t) := by
  have hd := c.hd
  have hu := c.hu
  have hb₁ := c.hb.le i.D.le
  rw [← List.take_append_drop 1 (sBody (fS 64 0 3))]
  refine w_app ?_
  refine leaf (fun f => f) (okay c.hb w c.hw) ω (fTr_execs _ _) (sp := [wordS 0 n]) rfl δ i.D
    (fun ξ => no_E1) fun ξ => ⟨can_word hb₁ c.hw ω ω c.hn i.hv (c.hW.le i.D.le) rfl rfl, fun F₂ l₂ p₂ => ⟨_, rfl, fun f ef h'' T' D' => ?_⟩⟩
  cases ef
  have D := D' [_, _, _, _, _, _, _, _] rfl
  obtain ⟨z3, ez⟩ := D.sz c.hb
  obtain ⟨t3, et⟩ := sub2050 T'
  rw [ez] at D
  rw [et]
  obtain ⟨hw2, hv2⟩ : Word ((ξ 0).i 0) ((ξ 0).i 1) ∧ Deck (ξ 0).l n := p₂
  rcases hw2 with ⟨e, ho⟩ | ⟨e, ho⟩
  · rw [e] at D
    exact nb_E2 c hj ho ⟨D, hv2, i.a0, i.a1, i.b0, i.b1⟩ ea eb
  · rw [e] at D
    exact nb_E3 c hj ho ⟨D, hv2, i.a0, i.a1, i.b0, i.b1⟩ ea eb
theorem node_rest (c : NC w s₀ P F h l st q wd n k d u Qf ks eq A B) (i : NI P F h l st q wd n k ks eq A B F₁ vs el a ta b tb est fr td [("_law_way", kw, .int y ty)] [] (ψ z) h') (ea : a = A) (eb : b = B) (y0 : 0 ≤ y) (y1 : y < 11) (yk : k = 0 → y < 2) :
    wpAny (pwm w) (AA d u true) (execs ((fBody (fAt 64 0)).drop 1) ηN) Qf Ef (σt h' t) := by
  obtain ⟨s1, s2, s3, s4, s5, s7⟩ := no_is
  obtain ⟨x1, x2, x3, x4, x5, x7⟩ := no_el
  rw [no_body]
  have S2 : ∀ F' z' t' h'', NI P F h l st q wd n k ks eq A B F' vs el a ta b tb est fr td [("_law_way", kw, .int y ty)] [] (ψ z') h'' → y ≠ 0 → (y = 1 → ks ≠ []) →
      wpAny (pwm w) (AA d u true) (execs (fS 64 0 2 :: fS 64 0 3 :: fS 64 0 4 :: fS 64 0 5 :: (((fBody (fAt 64 0)).drop 6).take 1 ++ [fS 64 0 7, fS 64 0 8])) ηN) Qf Ef (σt h'' t') := by
    intro F' z' t' h'' i n0 nk
    refine w_if s2 (nt_t2 c i fun F' z' t' h'' i => ?_)
    by_cases e1 : y = 1
    · have e : (y == 1) = true := by simpa using e1
      rw [e]
      refine nb_D c.seq i ?_
      have := nk e1
      cases ks with
      | nil => exact absurd rfl this
      | cons _ _ => simp
    have e : (y == 1) = false := by simpa using e1
    rw [e]
    show wpAny _ _ (execs (sElse (fS 64 0 2)) _) _ _ _
    rw [x2]
    refine wpAny_execs_nil ?_
    obtain ⟨j, hj⟩ : ∃ j, k = j + 1 := by
      cases k with
      | zero => have := yk rfl; omega
      | succ j => exact ⟨j, rfl⟩
    refine w_if s3 (nt_t3 c i fun F' z' t' h'' i => ?_)
    by_cases e3 : y < 7
    · rw [decide_eq_true e3]
      exact nb_E1 c.seq hj i ea eb
    rw [decide_eq_false e3]
    show wpAny _ _ (execs (sElse (fS 64 0 3)) _) _ _ _
    rw [x3]
    refine wpAny_execs_nil ?_
    refine w_if s4 (nt_t4 c i fun F' z' t' h'' i => ?_)
    by_cases e4 : y = 7
    · have e : (y == 7) = true := by simpa using e4
      rw [e]
      exact nb_F c.seq hj i ea eb
    have e : (y == 7) = false := by simpa using e4
    rw [e]
    show wpAny _ _ (execs (sElse (fS 64 0 4)) _) _ _ _
    rw [x4]
    refine wpAny_execs_nil ?_
    refine w_if s5 (nt_t5 c i fun F' z' t' h'' i => ?_)
    by_cases e5 : y = 8
    · have e : (y == 8) = true := by simpa using e5
      rw [e]
      exact nb_G c.seq hj i ea eb
    have e : (y == 8) = false := by simpa using e5
    rw [e]
    show wpAny _ _ (execs (sElse (fS 64 0 5)) _) _ _ _
    rw [x5]
    refine wpAny_execs_nil ?_
    refine w_app (nb_H c.seq hj i ea eb fun F' vs el a ta b tb est p1 p2 pl epl kp z t h'' tr tr' i n1 g1 n2 g2 => ?_)
    have J : NJ P F h l st q wd n k j ks eq A B F' vs el a ta b tb est fr td pl p1 p2 epl kw kp ty y tr tr' (ψ z) h'' := ⟨i.D.pick (ss := [1, 2, 3, 0, 4, 5, 6, 7, 8]) δ (N := ν9) rfl, i.hv, i.a0, i.a1, i.b0, i.b1, n1, n2, g1, g2⟩
    refine w_if s7 (w_and no_and7 (nt_t7 c J fun F' z' t' h'' J => ?_))
    by_cases e9 : y = 9
    · have e : (y == 9) = true := by simpa using e9
      rw [e]
      refine nt_k7 c J fun F' z' t' h'' J => ?_
      cases hk : ks with
      | nil =>
        show wpAny _ _ (execs (sElse (fS 64 0 7)) _) _ _ _
        rw [x7]
        refine wpAny_execs_nil ?_
        subst e9
        exact nb_J c hj J
      | cons v r =>
        show wpAny _ _ (execs (sBody (fS 64 0 7)) _) _ _ _
        exact nb_I c.seq hj J (by rw [hk]; simp)
    have e : (y == 9) = false := by simpa using e9
    rw [e]
    show wpAny _ _ (execs (sElse (fS 64 0 7)) _) _ _ _
    rw [x7]
    refine wpAny_execs_nil ?_
    obtain rfl : y = 10 := by omega
    exact nb_K c hj J
  refine w_if s1 (w_or no_or (nt_t0 c i fun F' z' t' h'' i => ?_))
  by_cases e0 : y = 0
  · have e : (y == 0) = true := by simpa using e0
    rw [e]
    exact nb_C c.seq i
  have e : (y == 0) = false := by simpa using e0
  rw [e]
  refine w_and no_and (nt_t1 c i fun F' z' t' h'' i => ?_)
  by_cases e1 : y = 1
  · have e : (y == 1) = true := by simpa using e1
    rw [e]
    refine nt_k1 c i fun F' z' t' h'' i => ?_
    cases hk : ks with
    | nil =>
      show wpAny _ _ (execs (sBody (fS 64 0 1)) _) _ _ _
      exact nb_C c.seq i
    | cons v r =>
      show wpAny _ _ (execs (sElse (fS 64 0 1)) _) _ _ _
      rw [x1]
      exact wpAny_execs_nil (S2 F' z' t' h'' i e0 fun Z q => by rw [hk] at q; cases q)
  · have e : (y == 1) = false := by simpa using e1
    rw [e]
    show wpAny _ _ (execs (sElse (fS 64 0 1)) _) _ _ _
    rw [x1]
    exact wpAny_execs_nil (S2 F' z' t' h'' i e0 fun q => absurd q e1)
theorem node_all (hw : w.params = P) : ∀ k, NodeC P w s₀ k := by
  intro k
  induction k with
  | zero =>
    intro F d0 u0 hk8 hb hd hu l st q wd n e ta tb est eq td a b vs ks hn hW hv hk ha ha' hb0 hb'
    refine callsR_intro (fz := []) (fun h H => hb.size H) ωp fun h z t R D hR => ?_
    refine code_seg (okayh hb w hw) ω (sp := []) rfl δ D (fun ξ => no_in) fun ξ => ⟨by show d0 + 0 < 1000; omega, fun h' T' D' => ?_⟩
    have D := D' [_, _, _, _, _, _, _, _] rfl
    rw [show z + 981 + 5 = (z + 5) + 981 by omega] at D
    refine codeAny_func ?_
    rw [← List.take_append_drop 1 (fBody (fAt 64 0))]
    refine w_app ?_
    refine leaf (d := d0 + 1) (u := u0 + 3) (g := true) (fun f => f) (okay hb w hw) ω (fTr_execs _ _) (sp := [vS βF, drawS 0 2 n]) rfl δ D
      (fun ξ => no_b) fun ξ => ⟨can_gt' hb hw rfl, fun F₂ l₂ p₂ => ⟨can_draw (hb.le l₂) hw ω ω hn δ δ hv, fun F₃ l₃ p₃ => ⟨_, rfl, fun f ef h'' T' D' => ?_⟩⟩⟩
    cases ef
    have D := D' [_, _, _, _, _, _, _, _] rfl
    obtain ⟨z3, ez⟩ := D.sz hb
    obtain ⟨t3, et⟩ := sub2050 T'
    rw [ez] at D
    rw [et]
    obtain ⟨q1, q2, q3⟩ : Deck (ξ 1).l n ∧ 0 ≤ (ξ 1).i 0 ∧ (ξ 1).i 0 < 2 := p₃
    refine node_rest (d := d0 + 1) (u := u0 + 3) (A := a) (B := b) (k := 0) ⟨hb, hw, by omega, by omega, hn, hk8, hW, hk, ha', ha, hb', hb0, (fun j hj => by cases hj), fun x t F' N vs e1 a' ta b' tb e2 sz' tk' h' T' D m1 m2 m3 nd gd dk i1 i2 i3 i4 => ?_⟩ ⟨D, q1, Int.le_refl _, by omega, Int.le_refl _, by omega⟩ rfl rfl q2 ω (fun Z => q3)
    refine hR _ _ _ _ _ _ (NOwn l st q (ψ wd) vs e1 a' ta b' tb e2 ks eq) T' D rfl (fun p hp => ?_) ⟨x, t, vs, e1, a', b', ta, tb, e2, rfl, nd, gd, dk, i1, i2, i3, i4, rfl⟩
    simp only [μμ] at hp
    rcases hp with rfl | rfl | rfl
    · exact ⟨true, m1⟩
    · exact ⟨true, m2⟩
    · exact ⟨true, m3⟩
  | succ j ih =>
    intro F d0 u0 hk8 hb hd hu l st q wd n e ta tb est eq td a b vs ks hn hW hv hk ha ha' hb0 hb'
    refine callsR_intro (fz := []) (fun h H => hb.size H) ωp fun h z t R D hR => ?_
    refine code_seg (okayh hb w hw) ω (sp := []) rfl δ D (fun ξ => no_in) fun ξ => ⟨by show d0 + 0 < 1000; omega, fun h' T' D' => ?_⟩
    have D := D' [_, _, _, _, _, _, _, _] rfl
    rw [show z + 981 + 5 = (z + 5) + 981 by omega] at D
    refine codeAny_func ?_
    rw [← List.take_append_drop 1 (fBody (fAt 64 0))]
    refine w_app ?_
    refine leaf (d := d0 + 1) (u := u0 + 3) (g := true) (fun f => f) (okay hb w hw) ω (fTr_execs _ _) (sp := [vS βT, drawS 0 11 n]) rfl δ D
      (fun ξ => no_a) fun ξ => ⟨can_gt' hb hw (decide_eq_true ω), fun F₂ l₂ p₂ => ⟨can_draw (hb.le l₂) hw ω ω hn δ δ hv, fun F₃ l₃ p₃ => ⟨_, rfl, fun f ef h'' T' D' => ?_⟩⟩⟩
    cases ef
    have D := D' [_, _, _, _, _, _, _, _] rfl
    obtain ⟨z3, ez⟩ := D.sz hb
    obtain ⟨t3, et⟩ := sub2050 T'
    rw [ez] at D
    rw [et]
    obtain ⟨q1, q2, q3⟩ : Deck (ξ 1).l n ∧ 0 ≤ (ξ 1).i 0 ∧ (ξ 1).i 0 < 11 := p₃
    refine node_rest (d := d0 + 1) (u := u0 + 3) (A := a) (B := b) (k := j + 1) ⟨hb, hw, by omega, by omega, hn, hk8, hW, hk, ha', ha, hb', hb0, (fun j' hj => (Nat.succ.inj hj) ▸ ih), fun x t F' N vs e1 a' ta b' tb e2 sz' tk' h' T' D m1 m2 m3 nd gd dk i1 i2 i3 i4 => ?_⟩ ⟨D, q1, Int.le_refl _, by omega, Int.le_refl _, by omega⟩ rfl rfl q2 q3 (fun q => by cases q)
    refine hR _ _ _ _ _ _ (NOwn l st q (ψ wd) vs e1 a' ta b' tb e2 ks eq) T' D rfl (fun p hp => ?_) ⟨x, t, vs, e1, a', b', ta, tb, e2, rfl, nd, gd, dk, i1, i2, i3, i4, rfl⟩
    simp only [μμ] at hp
    rcases hp with rfl | rfl | rfl
    · exact ⟨true, m1⟩
    · exact ⟨true, m2⟩
    · exact ⟨true, m3⟩
end
section
variable {P : Params} {F : Gh} {w : World} {s₀ : Shared}
noncomputable def kNum : NK → Int
  | .const => 0
  | .loc => 1
  | .glob => 2
  | .setLoc => 3
  | .setGlob => 4
  | .define => 5
  | .ite => 6
  | .lam => 7
  | .call => 8
  | .seq => 9
  | .prim => 10
  | .fix => 11
noncomputable def kindT : T → NK
  | .const _ => .const | .loc _ => .loc | .glob _ => .glob | .setLoc .. => .setLoc | .setGlob .. => .setGlob | .define .. => .define | .ite .. => .ite | .lam .. => .lam | .lam0 .. => .lam | .call .. => .call | .seq .. => .seq | .prim1 .. => .prim | .prim2 .. => .prim | .fix .. => .fix
inductive In1 (P : Params) (F : Gh) (c a d : Nat) (s0 : PySem.Str) : Prop | mk (k0 : Nat) (v0 : Value) (h : Inst P F c a d [(s0, k0, v0)])
inductive In2 (P : Params) (F : Gh) (c a d : Nat) (s0 s1 : PySem.Str) : Prop | mk (k0 : Nat) (v0 : Value) (k1 : Nat) (v1 : Value) (h : Inst P F c a d [(s0, k0, v0), (s1, k1, v1)])
inductive In3 (P : Params) (F : Gh) (c a d : Nat) (s0 s1 s2 : PySem.Str) : Prop | mk (k0 : Nat) (v0 : Value) (k1 : Nat) (v1 : Value) (k2 : Nat) (v2 : Value) (h : Inst P F c a d [(s0, k0, v0), (s1, k1, v1), (s2, k2, v2)])
inductive In4 (P : Params) (F : Gh) (c a d : Nat) (s0 s1 s2 s3 : PySem.Str) : Prop | mk (k0 : Nat) (v0 : Value) (k1 : Nat) (v1 : Value) (k2 : Nat) (v2 : Value) (k3 : Nat) (v3 : Value) (h : Inst P F c a d [(s0, k0, v0), (s1, k1, v1), (s2, k2, v2), (s3, k3, v3)])
noncomputable def IsN (P : Params) (F : Gh) (a d : Nat) : NK → Prop
  | .const => In1 P F 66 a d "value"
  | .loc => In1 P F 85 a d "number"
  | .glob => In1 P F 104 a d "symbol"
  | .setLoc => In2 P F 137 a d "number" "value"
  | .setGlob => In2 P F 170 a d "symbol" "value"
  | .define => In2 P F 203 a d "symbol" "value"
  | .ite => In3 P F 236 a d "test" "yes" "no"
  | .lam => In4 P F 283 a d "label" "params" "rest" "body"
  | .call => In2 P F 316 a d "operator" "operands"
  | .seq => In1 P F 349 a d "items"
  | .prim => In2 P F 382 a d "op" "operands"
  | .fix => In3 P F 415 a d "numbers" "lambdas" "body"
theorem IsN.mono {F F' : Gh} (l : F.le F') {a d : Nat} {k : NK} (h : IsN P F a d k) : IsN P F' a d k := by
  cases k with
  | const | loc | glob | seq => obtain ⟨k0, v0, h⟩ := h; exact ⟨k0, v0, h.mono l⟩
  | setLoc | setGlob | define | call | prim => obtain ⟨k0, v0, k1, v1, h⟩ := h; exact ⟨k0, v0, k1, v1, h.mono l⟩
  | ite | fix => obtain ⟨k0, v0, k1, v1, k2, v2, h⟩ := h; exact ⟨k0, v0, k1, v1, k2, v2, h.mono l⟩
  | lam => obtain ⟨k0, v0, k1, v1, k2, v2, k3, v3, h⟩ := h; exact ⟨k0, v0, k1, v1, k2, v2, k3, v3, h.mono l⟩
theorem IsN.cls {a d : Nat} {k : NK} (h : IsN P F a d k) : F (ψ a) (ins (cNK k) (ψ d)) := by
  cases k with
  | const | loc | glob | seq => obtain ⟨k0, v0, h⟩ := h; exact h.2
  | setLoc | setGlob | define | call | prim => obtain ⟨k0, v0, k1, v1, h⟩ := h; exact h.2
  | ite | fix => obtain ⟨k0, v0, k1, v1, k2, v2, h⟩ := h; exact h.2
  | lam => obtain ⟨k0, v0, k1, v1, k2, v2, k3, v3, h⟩ := h; exact h.2
theorem NodeAt.isN {t : T} {a : Nat} (h : NodeAt P F a t) : ∃ d, IsN P F a d (kindT t) := by
  cases t with
  | const => cases h with | mk d _ _ _ h => exact ⟨d, _, _, h⟩
  | loc | glob => cases h with | mk d _ _ h => exact ⟨d, _, _, h⟩
  | setLoc | setGlob | define => cases h with | mk d _ _ _ _ _ h => exact ⟨d, _, _, _, _, h⟩
  | ite => cases h with | mk d _ _ _ _ _ _ _ _ _ h => exact ⟨d, _, _, _, _, _, _, h⟩
  | lam => cases h with | mk d _ _ _ _ _ _ _ _ _ _ _ h => exact ⟨d, _, _, _, _, _, _, _, _, h⟩
  | lam0 => cases h with | mk d _ _ _ _ _ _ _ _ _ _ h => exact ⟨d, _, _, _, _, _, _, _, _, h⟩
  | call => cases h with | mk d _ _ _ _ _ _ _ _ h => exact ⟨d, _, _, _, _, h⟩
  | seq => cases h with | mk d _ _ _ _ _ _ _ h => exact ⟨d, _, _, h⟩
  | prim1 => cases h with | mk d _ _ _ _ _ _ _ h => exact ⟨d, _, _, _, _, h⟩
  | prim2 => cases h with | mk d _ _ _ _ _ _ _ _ _ h => exact ⟨d, _, _, _, _, h⟩
  | fix => cases h with | mk d _ _ _ _ _ _ _ _ _ _ _ _ h => exact ⟨d, _, _, _, _, _, _, h⟩
theorem ga_const_c (v0 : Value) (ku da a tn : Nat) (hb : BaseIn P F) (hw : w.params = P) (d0 u0 : Nat) (hd : d0 + 0 < 1000) (f0 : F (ψ da) (dct P [("value", ku, v0)])) (f1 : F (ψ a) (ins 66 (ψ da)))  : Cs w s₀ F (γH a "kind") d0 u0 fun Z v => ∃ t, v = .int (0) t :=
  flat hb hw [] rfl (φf f0 f1) ga_const fun Z Z Z Z Z => fun Z Z Z Z => ⟨_, rfl⟩
theorem ga_loc_c (v0 : Value) (kM da a tn : Nat) (hb : BaseIn P F) (hw : w.params = P) (d0 u0 : Nat) (hd : d0 + 0 < 1000) (f0 : F (ψ da) (dct P [("number", kM, v0)])) (f1 : F (ψ a) (ins 85 (ψ da)))  : Cs w s₀ F (γH a "kind") d0 u0 fun Z v => ∃ t, v = .int (1) t :=
  flat hb hw [] rfl (φf f0 f1) ga_loc fun Z Z Z Z Z => fun Z Z Z Z => ⟨_, rfl⟩
theorem ga_glob_c (v0 : Value) (kE da a tn : Nat) (hb : BaseIn P F) (hw : w.params = P) (d0 u0 : Nat) (hd : d0 + 0 < 1000) (f0 : F (ψ da) (dct P [("symbol", kE, v0)])) (f1 : F (ψ a) (ins 104 (ψ da)))  : Cs w s₀ F (γH a "kind") d0 u0 fun Z v => ∃ t, v = .int (2) t :=
  flat hb hw [] rfl (φf f0 f1) ga_glob fun Z Z Z Z Z => fun Z Z Z Z => ⟨_, rfl⟩
theorem ga_setLoc_c (v0 v1 : Value) (kM ku da a tn : Nat) (hb : BaseIn P F) (hw : w.params = P) (d0 u0 : Nat) (hd : d0 + 0 < 1000) (f0 : F (ψ da) (dct P [("number", kM, v0), ("value", ku, v1)])) (f1 : F (ψ a) (ins 137 (ψ da)))  : Cs w s₀ F (γH a "kind") d0 u0 fun Z v => ∃ t, v = .int (3) t :=
  flat hb hw [] rfl (φf f0 f1) ga_setLoc fun Z Z Z Z Z => fun Z Z Z Z => ⟨_, rfl⟩
theorem ga_setGlob_c (v0 v1 : Value) (kE ku da a tn : Nat) (hb : BaseIn P F) (hw : w.params = P) (d0 u0 : Nat) (hd : d0 + 0 < 1000) (f0 : F (ψ da) (dct P [("symbol", kE, v0), ("value", ku, v1)])) (f1 : F (ψ a) (ins 170 (ψ da)))  : Cs w s₀ F (γH a "kind") d0 u0 fun Z v => ∃ t, v = .int (4) t :=
  flat hb hw [] rfl (φf f0 f1) ga_setGlob fun Z Z Z Z Z => fun Z Z Z Z => ⟨_, rfl⟩
theorem ga_define_c (v0 v1 : Value) (kE ku da a tn : Nat) (hb : BaseIn P F) (hw : w.params = P) (d0 u0 : Nat) (hd : d0 + 0 < 1000) (f0 : F (ψ da) (dct P [("symbol", kE, v0), ("value", ku, v1)])) (f1 : F (ψ a) (ins 203 (ψ da)))  : Cs w s₀ F (γH a "kind") d0 u0 fun Z v => ∃ t, v = .int (5) t :=
  flat hb hw [] rfl (φf f0 f1) ga_define fun Z Z Z Z Z => fun Z Z Z Z => ⟨_, rfl⟩
theorem ga_ite_c (v0 v1 v2 : Value) (ji jl jp da a tn : Nat) (hb : BaseIn P F) (hw : w.params = P) (d0 u0 : Nat) (hd : d0 + 0 < 1000) (f0 : F (ψ da) (dct P [("test", ji, v0), ("yes", jl, v1), ("no", jp, v2)])) (f1 : F (ψ a) (ins 236 (ψ da)))  : Cs w s₀ F (γH a "kind") d0 u0 fun Z v => ∃ t, v = .int (6) t :=
  flat hb hw [] rfl (φf f0 f1) ga_ite fun Z Z Z Z Z => fun Z Z Z Z => ⟨_, rfl⟩
theorem ga_lam_c (v0 v1 v2 v3 : Value) (jc kV jg kP da a tn : Nat) (hb : BaseIn P F) (hw : w.params = P) (d0 u0 : Nat) (hd : d0 + 0 < 1000) (f0 : F (ψ da) (dct P [("label", jc, v0), ("params", kV, v1), ("rest", jg, v2), ("body", kP, v3)])) (f1 : F (ψ a) (ins 283 (ψ da)))  : Cs w s₀ F (γH a "kind") d0 u0 fun Z v => ∃ t, v = .int (7) t :=
  flat hb hw [] rfl (φf f0 f1) ga_lam fun Z Z Z Z Z => fun Z Z Z Z => ⟨_, rfl⟩
theorem ga_call_c (v0 v1 : Value) (kR kb da a tn : Nat) (hb : BaseIn P F) (hw : w.params = P) (d0 u0 : Nat) (hd : d0 + 0 < 1000) (f0 : F (ψ da) (dct P [("operator", kR, v0), ("operands", kb, v1)])) (f1 : F (ψ a) (ins 316 (ψ da)))  : Cs w s₀ F (γH a "kind") d0 u0 fun Z v => ∃ t, v = .int (8) t :=
  flat hb hw [] rfl (φf f0 f1) ga_call fun Z Z Z Z Z => fun Z Z Z Z => ⟨_, rfl⟩
theorem ga_seq_c (v0 : Value) (jf da a tn : Nat) (hb : BaseIn P F) (hw : w.params = P) (d0 u0 : Nat) (hd : d0 + 0 < 1000) (f0 : F (ψ da) (dct P [("items", jf, v0)])) (f1 : F (ψ a) (ins 349 (ψ da)))  : Cs w s₀ F (γH a "kind") d0 u0 fun Z v => ∃ t, v = .int (9) t :=
  flat hb hw [] rfl (φf f0 f1) ga_seq fun Z Z Z Z Z => fun Z Z Z Z => ⟨_, rfl⟩
theorem ga_prim_c (v0 v1 : Value) (kO kb da a tn : Nat) (hb : BaseIn P F) (hw : w.params = P) (d0 u0 : Nat) (hd : d0 + 0 < 1000) (f0 : F (ψ da) (dct P [("op", kO, v0), ("operands", kb, v1)])) (f1 : F (ψ a) (ins 382 (ψ da)))  : Cs w s₀ F (γH a "kind") d0 u0 fun Z v => ∃ t, v = .int (10) t :=
  flat hb hw [] rfl (φf f0 f1) ga_prim fun Z Z Z Z Z => fun Z Z Z Z => ⟨_, rfl⟩
theorem ga_fix_c (v0 v1 v2 : Value) (kX kW kP da a tn : Nat) (hb : BaseIn P F) (hw : w.params = P) (d0 u0 : Nat) (hd : d0 + 0 < 1000) (f0 : F (ψ da) (dct P [("numbers", kX, v0), ("lambdas", kW, v1), ("body", kP, v2)])) (f1 : F (ψ a) (ins 415 (ψ da)))  : Cs w s₀ F (γH a "kind") d0 u0 fun Z v => ∃ t, v = .int (11) t :=
  flat hb hw [] rfl (φf f0 f1) ga_fix fun Z Z Z Z Z => fun Z Z Z Z => ⟨_, rfl⟩
theorem ga_const_value_c (v0 : Value) (ku da a tn : Nat) (hb : BaseIn P F) (hw : w.params = P) (d0 u0 : Nat) (hd : d0 + 0 < 1000) (f0 : F (ψ da) (dct P [("value", ku, v0)])) (f1 : F (ψ a) (ins 66 (ψ da)))  : Cs w s₀ F (γH a "value") d0 u0 fun Z v => v = v0 :=
  flat hb hw [] rfl (φf f0 f1) ga_const_value fun Z Z Z Z Z => fun Z Z Z Z => rfl
theorem ga_prim_op_c (v0 v1 : Value) (kO kb da a tn : Nat) (hb : BaseIn P F) (hw : w.params = P) (d0 u0 : Nat) (hd : d0 + 0 < 1000) (f0 : F (ψ da) (dct P [("op", kO, v0), ("operands", kb, v1)])) (f1 : F (ψ a) (ins 382 (ψ da)))  : Cs w s₀ F (γH a "op") d0 u0 fun Z v => v = v0 :=
  flat hb hw [] rfl (φf f0 f1) ga_prim_op fun Z Z Z Z Z => fun Z Z Z Z => rfl
theorem ga_prim_operands_c (v0 v1 : Value) (kO kb da a tn : Nat) (hb : BaseIn P F) (hw : w.params = P) (d0 u0 : Nat) (hd : d0 + 0 < 1000) (f0 : F (ψ da) (dct P [("op", kO, v0), ("operands", kb, v1)])) (f1 : F (ψ a) (ins 382 (ψ da)))  : Cs w s₀ F (γH a "operands") d0 u0 fun Z v => v = v1 :=
  flat hb hw [] rfl (φf f0 f1) ga_prim_operands fun Z Z Z Z Z => fun Z Z Z Z => rfl
def GA (w : World) (s₀ : Shared) (F : Gh) (a : Nat) (n : PySem.Str) (Q : Value → Prop) : Prop := ∀ F', F.le F' → ∀ t d u, d < 1000 → Cs w s₀ F' (.builtin "proto.getattr_hooked" ⟨[ρ a, .str n t], []⟩) d u fun Z v => Q v
def CA (w : World) (s₀ : Shared) (F : Gh) (c : Code) (d u : Nat) (Q : Gh → Value → Prop) : Prop := ∀ F', F.le F' → Cs w s₀ F' c d u fun F'' v => Q F'' v
theorem ga_kind (hb : BaseIn P F) (hw : w.params = P) {a d : Nat} {k : NK} (h : IsN P F a d k) : GA w s₀ F a "kind" fun v => ∃ t, v = .int (kNum k) t := by
  intro F' l t d0 u0 hd
  have hb := hb.le l
  have h := h.mono l
  cases k with
  | const => obtain ⟨k0, v0, f0, f1⟩ := h; exact ga_const_c v0 k0 d a t hb hw d0 u0 ω f0 f1
  | loc => obtain ⟨k0, v0, f0, f1⟩ := h; exact ga_loc_c v0 k0 d a t hb hw d0 u0 ω f0 f1
  | glob => obtain ⟨k0, v0, f0, f1⟩ := h; exact ga_glob_c v0 k0 d a t hb hw d0 u0 ω f0 f1
  | setLoc => obtain ⟨k0, v0, k1, v1, f0, f1⟩ := h; exact ga_setLoc_c v0 v1 k0 k1 d a t hb hw d0 u0 ω f0 f1
  | setGlob => obtain ⟨k0, v0, k1, v1, f0, f1⟩ := h; exact ga_setGlob_c v0 v1 k0 k1 d a t hb hw d0 u0 ω f0 f1
  | define => obtain ⟨k0, v0, k1, v1, f0, f1⟩ := h; exact ga_define_c v0 v1 k0 k1 d a t hb hw d0 u0 ω f0 f1
  | ite => obtain ⟨k0, v0, k1, v1, k2, v2, f0, f1⟩ := h; exact ga_ite_c v0 v1 v2 k0 k1 k2 d a t hb hw d0 u0 ω f0 f1
  | lam => obtain ⟨k0, v0, k1, v1, k2, v2, k3, v3, f0, f1⟩ := h; exact ga_lam_c v0 v1 v2 v3 k0 k1 k2 k3 d a t hb hw d0 u0 ω f0 f1
  | call => obtain ⟨k0, v0, k1, v1, f0, f1⟩ := h; exact ga_call_c v0 v1 k0 k1 d a t hb hw d0 u0 ω f0 f1
  | seq => obtain ⟨k0, v0, f0, f1⟩ := h; exact ga_seq_c v0 k0 d a t hb hw d0 u0 ω f0 f1
  | prim => obtain ⟨k0, v0, k1, v1, f0, f1⟩ := h; exact ga_prim_c v0 v1 k0 k1 d a t hb hw d0 u0 ω f0 f1
  | fix => obtain ⟨k0, v0, k1, v1, k2, v2, f0, f1⟩ := h; exact ga_fix_c v0 v1 v2 k0 k1 k2 d a t hb hw d0 u0 ω f0 f1
theorem ga_value (hb : BaseIn P F) (hw : w.params = P) {a d k0 : Nat} {v : Value} (h : Inst P F 66 a d [("value", k0, v)]) : GA w s₀ F a "value" (· = v) := fun F' l t d0 u0 hd => ga_const_value_c v k0 d a t (hb.le l) hw d0 u0 ω (l _ _ h.1) (l _ _ h.2)
theorem ga_op (hb : BaseIn P F) (hw : w.params = P) {a d k0 k1 : Nat} {v v' : Value} (h : Inst P F 382 a d [("op", k0, v), ("operands", k1, v')]) : GA w s₀ F a "op" (· = v) := fun F' l t d0 u0 hd => ga_prim_op_c v v' k0 k1 d a t (hb.le l) hw d0 u0 ω (l _ _ h.1) (l _ _ h.2)
theorem ga_operands (hb : BaseIn P F) (hw : w.params = P) {a d k0 k1 : Nat} {v v' : Value} (h : Inst P F 382 a d [("op", k0, v), ("operands", k1, v')]) : GA w s₀ F a "operands" (· = v') := fun F' l t d0 u0 hd => ga_prim_operands_c v v' k0 k1 d a t (hb.le l) hw d0 u0 ω (l _ _ h.1) (l _ _ h.2)
noncomputable def kS (k : Int) : Spec := ⟨ωX (.int k (x.n 50)) [] [], fun Z Z Z => True⟩
section
variable {h₀ : Heap} {mt : List Addr} {F₀ F₁ : Gh} {d u : Nat}
theorem can_k (b : BaseIn P F) {c : Code} {k : Int} {g : Bool} (hc : Calls w s₀ F [] c d u g fun Z v Z Z Z Z Z => ∃ t, v = .int k t) : CanV w s₀ h₀ mt F₀ c d u g F [] [] (kS k) :=
  canV_plain b hc fun v F' z tk z' t' Z hP => by
    obtain ⟨t, rfl⟩ := hP
    exact ⟨ansOf z' t' (fun Z => t) 0 default true, fun Z => rfl, trivial⟩
theorem can_ga_int (b : BaseIn P F) (l : F₁.le F) {a t : Nat} {n : PySem.Str} {k : Int} (h : GA w s₀ F₁ a n fun v => ∃ t, v = .int k t) (hd : d < 1000) : CanV w s₀ h₀ mt F₀ (.builtin "proto.getattr_hooked" ⟨[ρ a, .str n t], []⟩) d u true F [] [] (iS fun Z Z r => r = k) :=
  can_int b ((h F l t d u hd).mono fun _ _ _ _ _ _ _ ⟨t, e⟩ => ⟨k, t, e, rfl⟩)
theorem can_ga_k (b : BaseIn P F) (l : F₁.le F) {a t : Nat} {n : PySem.Str} {k : Int} (h : GA w s₀ F₁ a n fun v => ∃ t, v = .int k t) (hd : d < 1000) : CanV w s₀ h₀ mt F₀ (.builtin "proto.getattr_hooked" ⟨[ρ a, .str n t], []⟩) d u true F [] [] (kS k) := can_k b (h F l t d u hd)
theorem can_ga_val (b : BaseIn P F) (l : F₁.le F) {a t : Nat} {n : PySem.Str} {v : Value} (h : GA w s₀ F₁ a n (· = v)) (hd : d < 1000) : CanV w s₀ h₀ mt F₀ (.builtin "proto.getattr_hooked" ⟨[ρ a, .str n t], []⟩) d u true F [] [] (vS v) := can_val b (h F l t d u hd)
theorem can_ca_val (b : BaseIn P F) (l : F₁.le F) {c : Code} {v : Value} (h : CA w s₀ F₁ c d u fun Z v' => v' = v) : CanV w s₀ h₀ mt F₀ c d u true F [] [] (vS v) := can_val b (h F l)
theorem can_ca_int (b : BaseIn P F) (l : F₁.le F) {c : Code} {Q : Int → Prop} (h : CA w s₀ F₁ c d u fun Z v => ∃ r t, v = .int r t ∧ Q r) : CanV w s₀ h₀ mt F₀ c d u true F [] [] (iS fun Z Z r => Q r) := can_int b (h F l)
theorem can_ne (b : BaseIn P F) (hw : w.params = P) {i j : Int} {t t' : Nat} {r : Bool} (h : (i != j) = r) : CanV w s₀ h₀ mt F₀ (.call (.builtin "int.__ne__") ⟨[.int i t, .int j t'], []⟩) d u true F [] [] (vS (.bool r)) := by
  refine can_val b (calls_of_run (okay b w hw) (own := []) (fz := []) (sp := []) rfl (fun h H => b.size H) ωp (fun z tk ξ => int_ne) ?_)
  intro h' z tk ξ hz
  exact ⟨_, [], rfl, rfl, ωp, congrArg Value.bool h⟩
theorem γV {H : Gh → Prop} {a t : Nat} {n : PySem.Str} {v : Value} (h : GA w s₀ F a n (· = v)) (hd : d < 1000) : ∀ F', F.le F' → BaseIn P F' → H F' → CanV w s₀ h₀ mt F₀ (.builtin "proto.getattr_hooked" ⟨[ρ a, .str n t], []⟩) d u true F' [] [] (vS v) := fun Z l b Z => can_ga_val b l h hd
theorem γK {H : Gh → Prop} {a t : Nat} {n : PySem.Str} {k : Int} (h : GA w s₀ F a n fun v => ∃ t, v = .int k t) (hd : d < 1000) : ∀ F', F.le F' → BaseIn P F' → H F' → CanV w s₀ h₀ mt F₀ (.builtin "proto.getattr_hooked" ⟨[ρ a, .str n t], []⟩) d u true F' [] [] (kS k) := fun Z l b Z => can_ga_k b l h hd
theorem γI {H : Gh → Prop} {a t : Nat} {n : PySem.Str} {k : Int} (h : GA w s₀ F a n fun v => ∃ t, v = .int k t) (hd : d < 1000) : ∀ F', F.le F' → BaseIn P F' → H F' → CanV w s₀ h₀ mt F₀ (.builtin "proto.getattr_hooked" ⟨[ρ a, .str n t], []⟩) d u true F' [] [] (iS fun Z Z r => r = k) := fun Z l b Z => can_ga_int b l h hd
theorem γN {H : Gh → Prop} {x : Ans} {n j : Int} {t t' : Nat} {r : Bool} (hw : w.params = P) (h : (n != j) = r) : ∀ F', F.le F' → BaseIn P F' → HA H ((iS fun Z Z r => r = n).at x) F' → CanV w s₀ h₀ mt F₀ (.call (.builtin "int.__ne__") ⟨[.int (x.i 0) t, .int j t'], []⟩) d u true F' [] [] (vS (.bool r)) := fun Z Z b q => can_ne b hw (by rw [show x.i 0 = n from pX q.2]; exact h)
theorem can_ge (b : BaseIn P F) (hw : w.params = P) {i j : Int} {t t' : Nat} {r : Bool} (h : (decide (i ≥ j)) = r) : CanV w s₀ h₀ mt F₀ (.call (.builtin "int.__ge__") ⟨[.int i t, .int j t'], []⟩) d u true F [] [] (vS (.bool r)) := by
  refine can_val b (calls_of_run (okay b w hw) (own := []) (fz := []) (sp := []) rfl (fun h H => b.size H) ωp (fun z tk ξ => int_ge) ?_)
  intro h' z tk ξ hz
  exact ⟨_, [], rfl, rfl, ωp, congrArg Value.bool h⟩
theorem can_gt (b : BaseIn P F) (hw : w.params = P) {i j : Int} {t t' : Nat} {r : Bool} (h : (decide (i > j)) = r) : CanV w s₀ h₀ mt F₀ (.call (.builtin "int.__gt__") ⟨[.int i t, .int j t'], []⟩) d u true F [] [] (vS (.bool r)) := by
  refine can_val b (calls_of_run (okay b w hw) (own := []) (fz := []) (sp := []) rfl (fun h H => b.size H) ωp (fun z tk ξ => int_gt) ?_)
  intro h' z tk ξ hz
  exact ⟨_, [], rfl, rfl, ωp, congrArg Value.bool h⟩
theorem can_eq (b : BaseIn P F) (hw : w.params = P) {i j : Int} {t t' : Nat} {r : Bool} (h : (i == j) = r) : CanV w s₀ h₀ mt F₀ (.call (.builtin "int.__eq__") ⟨[.int i t, .int j t'], []⟩) d u true F [] [] (vS (.bool r)) := by
  refine can_val b (calls_of_run (okay b w hw) (own := []) (fz := []) (sp := []) rfl (fun h H => b.size H) ωp (fun z tk ξ => int_eq) ?_)
  intro h' z tk ξ hz
  exact ⟨_, [], rfl, rfl, ωp, congrArg Value.bool h⟩
theorem can_lt (b : BaseIn P F) (hw : w.params = P) {i j : Int} {t t' : Nat} {r : Bool} (h : (decide (i < j)) = r) : CanV w s₀ h₀ mt F₀ (.call (.builtin "int.__lt__") ⟨[.int i t, .int j t'], []⟩) d u true F [] [] (vS (.bool r)) := by
  refine can_val b (calls_of_run (okay b w hw) (own := []) (fz := []) (sp := []) rfl (fun h H => b.size H) ωp (fun z tk ξ => int_lt) ?_)
  intro h' z tk ξ hz
  exact ⟨_, [], rfl, rfl, ωp, congrArg Value.bool h⟩
noncomputable def fBool : Spec := ⟨ωX (.ref (x.n 2 + 981)) [] [⟨(x.n 2 + 981), (tupO [.bool (x.b 0)]), false⟩], fun Z Z Z => True⟩
end
end
section
variable {P : Params} {F : Gh} {w : World} {s₀ : Shared}
theorem eff_4_c (to : Nat) (hb : BaseIn P F) (hw : w.params = P) (d0 u0 : Nat) (hd : d0 + 0 < 1000)   : χK 872 [.int (4) to] fun Z v => ∃ t, v = .int (0) t :=
  flat hb hw [] rfl .nil eff_4 fun Z Z Z Z Z => ⟨dl hd, fun Z Z Z Z => ⟨_, rfl⟩⟩
theorem eff_8_c (to : Nat) (hb : BaseIn P F) (hw : w.params = P) (d0 u0 : Nat) (hd : d0 + 0 < 1000)   : χK 872 [.int (8) to] fun Z v => ∃ t, v = .int (0) t :=
  flat hb hw [] rfl .nil eff_8 fun Z Z Z Z Z => ⟨dl hd, fun Z Z Z Z => ⟨_, rfl⟩⟩
theorem eff_9_c (to : Nat) (hb : BaseIn P F) (hw : w.params = P) (d0 u0 : Nat) (hd : d0 + 0 < 1000)   : χK 872 [.int (9) to] fun Z v => ∃ t, v = .int (0) t :=
  flat hb hw [] rfl .nil eff_9 fun Z Z Z Z Z => ⟨dl hd, fun Z Z Z Z => ⟨_, rfl⟩⟩
theorem eff_11_c (to : Nat) (hb : BaseIn P F) (hw : w.params = P) (d0 u0 : Nat) (hd : d0 + 0 < 1000)   : χK 872 [.int (11) to] fun Z v => ∃ t, v = .int (1) t :=
  flat hb hw [] rfl .nil eff_11 fun Z Z Z Z Z => ⟨dl hd, fun Z Z Z Z => ⟨_, rfl⟩⟩
theorem eff_13_c (to : Nat) (hb : BaseIn P F) (hw : w.params = P) (d0 u0 : Nat) (hd : d0 + 0 < 1000)   : χK 872 [.int (13) to] fun Z v => ∃ t, v = .int (2) t :=
  flat hb hw [] rfl .nil eff_13 fun Z Z Z Z Z => ⟨dl hd, fun Z Z Z Z => ⟨_, rfl⟩⟩
theorem eff_16_c (to : Nat) (hb : BaseIn P F) (hw : w.params = P) (d0 u0 : Nat) (hd : d0 + 0 < 1000)   : χK 872 [.int (16) to] fun Z v => ∃ t, v = .int (0) t :=
  flat hb hw [] rfl .nil eff_16 fun Z Z Z Z Z => ⟨dl hd, fun Z Z Z Z => ⟨_, rfl⟩⟩
theorem eff_135_c (to : Nat) (hb : BaseIn P F) (hw : w.params = P) (d0 u0 : Nat) (hd : d0 + 0 < 1000)   : χK 872 [.int (135) to] fun Z v => ∃ t, v = .int (1) t :=
  flat hb hw [] rfl .nil eff_135 fun Z Z Z Z Z => ⟨dl hd, fun Z Z Z Z => ⟨_, rfl⟩⟩
section
variable {h₀ : Heap} {mt : List Addr} {F₀ F₁ : Gh} {d u : Nat}
noncomputable def fNone : Spec := ⟨ωX .none [] [], fun Z Z Z => True⟩
noncomputable def fB (r : Bool) : Spec := ⟨ωX (.ref (x.n 2 + 981)) [] [⟨(x.n 2 + 981), (tupO [.bool (x.b 0)]), false⟩], fun Z Z x => x.b 0 = r⟩
noncomputable def fI (r : Int) : Spec := ⟨ωX (.ref (x.n 2 + 981)) [] [⟨(x.n 2 + 981), (tupO [.int (x.i 0) (x.n 50)]), false⟩], fun Z Z x => x.i 0 = r⟩
noncomputable def fP (P : Params) : Spec := ⟨ωX (.ref (x.n 2 + 981)) [] [⟨(x.n 2 + 981), (tupO [.ref (x.n 3 + 981)]), false⟩], fun Z F' x => ∃ d v1 v2 k1 k2, Inst P F' 499 (x.n 3) d [("car", k1, v1), ("cdr", k2, v2)]⟩
theorem tl_ne : (Value.type "tuple") ≠ .type "list" := by decide
theorem dl_ne : (Value.type "dict") ≠ .type "list" := by decide
theorem rl_ne {a : Nat} : (Value.ref a) ≠ .type "list" := fun e => by cases e
theorem notL {l : Nat} {xs : Array Value} {k : Nat} {o : Obj} (h : o.cls ≠ .type "list") : ∀ a w, some (⟨a, o, w⟩ : Ent) ∉ [some (⟨l, { cls := .type "list", data := .seq xs k }, true⟩ : Ent)] := by
  intro a w' hm
  simp only [List.mem_singleton, Option.some.injEq, Ent.mk.injEq] at hm
  exact h (by rw [hm.2.1])
theorem one {e : Ent} {Q : Ent → Prop} (h : Q e) : ∀ i e', nth [e] i = some e' → Q e' := fun i e' q => by
  cases i with
  | zero => cases q; exact h
  | succ i => cases i <;> cases q
theorem can_f_none (b : BaseIn P F) {c : Code} {i l : Nat} {xs : Array Value} {k : Nat} (hc : Cs w s₀ (addF mt F [ςσ l { cls := .type "list", data := .seq xs k }]) c d u fun F' v => FoldPost P .none F' v) :
    CanV w s₀ h₀ mt F₀ c d u true F [i] [ςσ l { cls := .type "list", data := .seq xs k }] fNone :=
  canV_frz (fun h H => b.size H) hc fun v F' z tk z' t' Z hP => by
    obtain rfl := hP
    exact ⟨ansOf z' t' (fun Z => 0) 0 default true, [], fun Z => rfl, fun Z Z => trivial, fun i e q => by cases i <;> cases q⟩
theorem can_f_bool (b : BaseIn P F) {c : Code} {i l : Nat} {xs : Array Value} {k : Nat} {r : Bool} (hc : Cs w s₀ (addF mt F [ςσ l { cls := .type "list", data := .seq xs k }]) c d u fun F' v => FoldPost P (.val (.bool r)) F' v) :
    CanV w s₀ h₀ mt F₀ c d u true F [i] [ςσ l { cls := .type "list", data := .seq xs k }] (fB r) :=
  canV_frz (fun h H => b.size H) hc fun v F' z tk z' t' Z hP => by
    obtain ⟨l', x, rfl, hf, rfl⟩ := hP
    exact ⟨ansOf z' t' (fun Z => l') 0 default r, [φ l' (tupO [.bool r])], fun Z => rfl, fun Z Z => rfl, one ⟨rfl, hf, notL tl_ne⟩⟩
theorem can_f_int (b : BaseIn P F) {c : Code} {i l : Nat} {xs : Array Value} {k : Nat} {r : Int} (hc : Cs w s₀ (addF mt F [ςσ l { cls := .type "list", data := .seq xs k }]) c d u fun F' v => FoldPost P (.val (.int r)) F' v) :
    CanV w s₀ h₀ mt F₀ c d u true F [i] [ςσ l { cls := .type "list", data := .seq xs k }] (fI r) :=
  canV_frz (fun h H => b.size H) hc fun v F' z tk z' t' Z hP => by
    obtain ⟨l', x, rfl, hf, t, rfl⟩ := hP
    exact ⟨ansOf z' t' (fun j => match j with | 2 => l' | _ => t) r default true, [φ l' (tupO [.int r t])], fun Z => rfl, fun Z Z => rfl, one ⟨rfl, hf, notL tl_ne⟩⟩
theorem can_f_pair (b : BaseIn P F) {c : Code} {i l : Nat} {xs : Array Value} {k : Nat} (hc : Cs w s₀ (addF mt F [ςσ l { cls := .type "list", data := .seq xs k }]) c d u fun F' v => FoldPost P .pair F' v) :
    CanV w s₀ h₀ mt F₀ c d u true F [i] [ςσ l { cls := .type "list", data := .seq xs k }] (fP P) :=
  canV_frz (fun h H => b.size H) hc fun v F' z tk z' t' Z hP => by
    obtain ⟨l', a, d', v1, v2, k1, k2, rfl, hf, g1, g2⟩ := hP
    refine ⟨ansOf z' t' (fun j => match j with | 2 => l' | _ => a) 0 default true, [φ l' (tupO [ρ a])], fun Z => rfl, fun G hG => ⟨d', v1, v2, k1, k2, ?_, ?_⟩, one ⟨rfl, hf, notL tl_ne⟩⟩
    · exact (hG _ _ g1).resolve_right fun q => q.2.elim fun w' hm => notL dl_ne _ _ hm
    · exact (hG _ _ g2).resolve_right fun q => q.2.elim fun w' hm => notL rl_ne _ _ hm
end
theorem turn_other_c (kG ds s m da : Nat) (k : NK) (a : Nat) (hb : BaseIn P F) (hw : w.params = P) (d0 u0 : Nat) (hd : d0 + 306 < 1000) (f0 : F (ψ ds) (dct P [("fold", kG, .ref 952)])) (f1 : F (ψ s) (ins 894 (ψ ds))) (f2 : F (ψ m) (mT (.ref 891) (ρ s))) (f3 : F (ψ a) (ins (cNK k) da))  {na : Int} (Ka : GA w s₀ F a "kind" fun v => ∃ t, v = .int na t) (Ha : (na != 10) = true) : χM fun Z v => v = ρ a :=
  flat hb hw [iS fun Z Z r => r = na, vS βT] rfl (φf f0 f1 f2 f3) turn_other fun Z Z Z ξ Z => ⟨dl hd, γI Ka ωa, γN hw Ha, fun Z Z Z Z => rfl⟩
theorem turn_big_c (kG ds s m da a top : Nat) (op : Int) (hb : BaseIn P F) (hw : w.params = P) (d0 u0 : Nat) (hd : d0 + 306 < 1000) (f0 : F (ψ ds) (dct P [("fold", kG, .ref 952)])) (f1 : F (ψ s) (ins 894 (ψ ds))) (f2 : F (ψ m) (mT (.ref 891) (ρ s))) (f3 : F (ψ a) (ins 382 da))  (Ka : GA w s₀ F a "kind" fun v => ∃ t, v = .int 10 t) (Op : GA w s₀ F a "op" (· = .int op top)) {ne : Int} (Ef : hC 872 [.int op top] 1 3 fun Z v => ∃ t, v = .int ne t) (He : decide (ne ≥ 2) = true) : χM fun Z v => v = ρ a :=
  flat hb hw [kS 10, vS βF, vS (.int op top), iS fun Z Z r => r = ne, vS βT] rfl (φf f0 f1 f2 f3) turn_big fun Z Z Z ξ Z => ⟨dl hd, γK Ka ωa, fun Z Z b1 Z => can_ne b1 hw rfl, γV Op ωa, fun F3 l03 b3 Z => can_int b3 ((Ef F3 l03).mono fun _ _ _ _ _ _ _ ⟨t, e⟩ => ⟨ne, t, e, rfl⟩), fun Z Z b4 h4 => can_ge b4 hw (by rw [show (ξ 3).i 0 = ne from (pX h4.2)]; exact He), fun Z Z Z Z => rfl⟩
theorem turn1_bad_c (kG ds s m da a top : Nat) (op : Int) (dx : Nat) (kx : NK) (x el l : Nat) (hb : BaseIn P F) (hw : w.params = P) (d0 u0 : Nat) (hd : d0 + 306 < 1000) (f0 : F (ψ ds) (dct P [("fold", kG, .ref 952)])) (f1 : F (ψ s) (ins 894 (ψ ds))) (f2 : F (ψ m) (mT (.ref 891) (ρ s))) (f3 : F (ψ a) (ins 382 da)) (f4 : F (ψ x) (ins (cNK kx) dx)) (f5 : F (ψ l) (lstO [ρ x] el))  (Ka : GA w s₀ F a "kind" fun v => ∃ t, v = .int 10 t) (Op : GA w s₀ F a "op" (· = .int op top)) {ne : Int} (Ef : hC 872 [.int op top] 1 3 fun Z v => ∃ t, v = .int ne t) (He : decide (ne ≥ 2) = false) (Ol : GA w s₀ F a "operands" (· = ρ l)) {nx : Int} (Kx : GA w s₀ F x "kind" fun v => ∃ t, v = .int nx t) (Hx : (nx != 0) = true) : χM fun Z v => v = ρ a :=
  flat hb hw [kS 10, vS βF, vS (.int op top), iS fun Z Z r => r = ne, vS βF, vS (ρ l), iS fun Z Z r => r = nx, vS βT] rfl (φf f0 f1 f2 f3 f4 f5) turn1_bad fun Z Z Z ξ Z => ⟨dl hd, γK Ka ωa, fun Z Z b1 Z => can_ne b1 hw rfl, γV Op ωa, fun F3 l03 b3 Z => can_int b3 ((Ef F3 l03).mono fun _ _ _ _ _ _ _ ⟨t, e⟩ => ⟨ne, t, e, rfl⟩), fun Z Z b4 h4 => can_ge b4 hw (by rw [show (ξ 3).i 0 = ne from (pX h4.2)]; exact He), γV Ol ωa, γI Kx ωa, γN hw Hx, fun Z Z Z Z => rfl⟩
theorem turn1_non_c (kG ds s m da a top : Nat) (op : Int) (dx x : Nat) (vx : VK) (el l : Nat) (hb : BaseIn P F) (hw : w.params = P) (d0 u0 : Nat) (hd : d0 + 306 < 1000) (f0 : F (ψ ds) (dct P [("fold", kG, .ref 952)])) (f1 : F (ψ s) (ins 894 (ψ ds))) (f2 : F (ψ m) (mT (.ref 891) (ρ s))) (f3 : F (ψ a) (ins 382 da)) (f4 : F (ψ x) (ins 66 dx)) (f5 : F (ψ l) (lstO [ρ x] el))  (Ka : GA w s₀ F a "kind" fun v => ∃ t, v = .int 10 t) (Op : GA w s₀ F a "op" (· = .int op top)) {ne : Int} (Ef : hC 872 [.int op top] 1 3 fun Z v => ∃ t, v = .int ne t) (He : decide (ne ≥ 2) = false) (Ol : GA w s₀ F a "operands" (· = ρ l)) {nx : Int} (Kx : GA w s₀ F x "kind" fun v => ∃ t, v = .int nx t) (Hx : (nx != 0) = false) (Vx : GA w s₀ F x "value" (· = vk vx)) (Ax : hC 665 [vk vx] 1 3 fun Z v => v = .bool false) : χM fun Z v => v = ρ a :=
  flat hb hw [kS 10, vS βF, vS (.int op top), iS fun Z Z r => r = ne, vS βF, vS (ρ l), iS fun Z Z r => r = nx, vS βF, vS ((vk vx)), vS βF] rfl (φf f0 f1 f2 f3 f4 f5) turn1_non fun Z Z Z ξ Z => ⟨dl hd, γK Ka ωa, fun Z Z b1 Z => can_ne b1 hw rfl, γV Op ωa, fun F3 l03 b3 Z => can_int b3 ((Ef F3 l03).mono fun _ _ _ _ _ _ _ ⟨t, e⟩ => ⟨ne, t, e, rfl⟩), fun Z Z b4 h4 => can_ge b4 hw (by rw [show (ξ 3).i 0 = ne from (pX h4.2)]; exact He), γV Ol ωa, γI Kx ωa, γN hw Hx, γV Vx ωa, γC Ax, fun Z Z Z Z => rfl⟩
theorem turn2_bad_c (kG ds s m da a top : Nat) (op : Int) (dx : Nat) (kx : NK) (x y el l : Nat) (hb : BaseIn P F) (hw : w.params = P) (d0 u0 : Nat) (hd : d0 + 306 < 1000) (f0 : F (ψ ds) (dct P [("fold", kG, .ref 952)])) (f1 : F (ψ s) (ins 894 (ψ ds))) (f2 : F (ψ m) (mT (.ref 891) (ρ s))) (f3 : F (ψ a) (ins 382 da)) (f4 : F (ψ x) (ins (cNK kx) dx)) (f5 : F (ψ l) (lstO [ρ x, .ref y] el))  (Ka : GA w s₀ F a "kind" fun v => ∃ t, v = .int 10 t) (Op : GA w s₀ F a "op" (· = .int op top)) {ne : Int} (Ef : hC 872 [.int op top] 1 3 fun Z v => ∃ t, v = .int ne t) (He : decide (ne ≥ 2) = false) (Ol : GA w s₀ F a "operands" (· = ρ l)) {nx : Int} (Kx : GA w s₀ F x "kind" fun v => ∃ t, v = .int nx t) (Hx : (nx != 0) = true) : χM fun Z v => v = ρ a :=
  flat hb hw [kS 10, vS βF, vS (.int op top), iS fun Z Z r => r = ne, vS βF, vS (ρ l), iS fun Z Z r => r = nx, vS βT] rfl (φf f0 f1 f2 f3 f4 f5) turn2_bad fun Z Z Z ξ Z => ⟨dl hd, γK Ka ωa, fun Z Z b1 Z => can_ne b1 hw rfl, γV Op ωa, fun F3 l03 b3 Z => can_int b3 ((Ef F3 l03).mono fun _ _ _ _ _ _ _ ⟨t, e⟩ => ⟨ne, t, e, rfl⟩), fun Z Z b4 h4 => can_ge b4 hw (by rw [show (ξ 3).i 0 = ne from (pX h4.2)]; exact He), γV Ol ωa, γI Kx ωa, γN hw Hx, fun Z Z Z Z => rfl⟩
theorem turn2_non_c (kG ds s m da a top : Nat) (op : Int) (dx x : Nat) (vx : VK) (y el l : Nat) (hb : BaseIn P F) (hw : w.params = P) (d0 u0 : Nat) (hd : d0 + 306 < 1000) (f0 : F (ψ ds) (dct P [("fold", kG, .ref 952)])) (f1 : F (ψ s) (ins 894 (ψ ds))) (f2 : F (ψ m) (mT (.ref 891) (ρ s))) (f3 : F (ψ a) (ins 382 da)) (f4 : F (ψ x) (ins 66 dx)) (f5 : F (ψ l) (lstO [ρ x, .ref y] el))  (Ka : GA w s₀ F a "kind" fun v => ∃ t, v = .int 10 t) (Op : GA w s₀ F a "op" (· = .int op top)) {ne : Int} (Ef : hC 872 [.int op top] 1 3 fun Z v => ∃ t, v = .int ne t) (He : decide (ne ≥ 2) = false) (Ol : GA w s₀ F a "operands" (· = ρ l)) {nx : Int} (Kx : GA w s₀ F x "kind" fun v => ∃ t, v = .int nx t) (Hx : (nx != 0) = false) (Vx : GA w s₀ F x "value" (· = vk vx)) (Ax : hC 665 [vk vx] 1 3 fun Z v => v = .bool false) : χM fun Z v => v = ρ a :=
  flat hb hw [kS 10, vS βF, vS (.int op top), iS fun Z Z r => r = ne, vS βF, vS (ρ l), iS fun Z Z r => r = nx, vS βF, vS ((vk vx)), vS βF] rfl (φf f0 f1 f2 f3 f4 f5) turn2_non fun Z Z Z ξ Z => ⟨dl hd, γK Ka ωa, fun Z Z b1 Z => can_ne b1 hw rfl, γV Op ωa, fun F3 l03 b3 Z => can_int b3 ((Ef F3 l03).mono fun _ _ _ _ _ _ _ ⟨t, e⟩ => ⟨ne, t, e, rfl⟩), fun Z Z b4 h4 => can_ge b4 hw (by rw [show (ξ 3).i 0 = ne from (pX h4.2)]; exact He), γV Ol ωa, γI Kx ωa, γN hw Hx, γV Vx ωa, γC Ax, fun Z Z Z Z => rfl⟩
theorem turn2_gbad_c (kG ds s m da a top : Nat) (op : Int) (dx x : Nat) (vx : VK) (dy : Nat) (ky : NK) (y el l : Nat) (hb : BaseIn P F) (hw : w.params = P) (d0 u0 : Nat) (hd : d0 + 306 < 1000) (f0 : F (ψ ds) (dct P [("fold", kG, .ref 952)])) (f1 : F (ψ s) (ins 894 (ψ ds))) (f2 : F (ψ m) (mT (.ref 891) (ρ s))) (f3 : F (ψ a) (ins 382 da)) (f4 : F (ψ x) (ins 66 dx)) (f5 : F (ψ y) (ins (cNK ky) dy)) (f6 : F (ψ l) (lstO [ρ x, ρ y] el))  (Ka : GA w s₀ F a "kind" fun v => ∃ t, v = .int 10 t) (Op : GA w s₀ F a "op" (· = .int op top)) {ne : Int} (Ef : hC 872 [.int op top] 1 3 fun Z v => ∃ t, v = .int ne t) (He : decide (ne ≥ 2) = false) (Ol : GA w s₀ F a "operands" (· = ρ l)) {nx : Int} (Kx : GA w s₀ F x "kind" fun v => ∃ t, v = .int nx t) (Hx : (nx != 0) = false) (Vx : GA w s₀ F x "value" (· = vk vx)) (Ax : hC 665 [vk vx] 1 3 fun Z v => v = .bool true) {ny : Int} (Ky : GA w s₀ F y "kind" fun v => ∃ t, v = .int ny t) (Hy : (ny != 0) = true) : χM fun Z v => v = ρ a :=
  flat hb hw [kS 10, vS βF, vS (.int op top), iS fun Z Z r => r = ne, vS βF, vS (ρ l), iS fun Z Z r => r = nx, vS βF, vS ((vk vx)), vS βT, iS fun Z Z r => r = ny, vS βT] rfl (φf f0 f1 f2 f3 f4 f5 f6) turn2_gbad fun Z Z Z ξ Z => ⟨dl hd, γK Ka ωa, fun Z Z b1 Z => can_ne b1 hw rfl, γV Op ωa, fun F3 l03 b3 Z => can_int b3 ((Ef F3 l03).mono fun _ _ _ _ _ _ _ ⟨t, e⟩ => ⟨ne, t, e, rfl⟩), fun Z Z b4 h4 => can_ge b4 hw (by rw [show (ξ 3).i 0 = ne from (pX h4.2)]; exact He), γV Ol ωa, γI Kx ωa, γN hw Hx, γV Vx ωa, γC Ax, γI Ky ωa, γN hw Hy, fun Z Z Z Z => rfl⟩
theorem turn2_gnon_c (kG ds s m da a top : Nat) (op : Int) (dx x : Nat) (vx : VK) (dy y : Nat) (vy : VK) (el l : Nat) (hb : BaseIn P F) (hw : w.params = P) (d0 u0 : Nat) (hd : d0 + 306 < 1000) (f0 : F (ψ ds) (dct P [("fold", kG, .ref 952)])) (f1 : F (ψ s) (ins 894 (ψ ds))) (f2 : F (ψ m) (mT (.ref 891) (ρ s))) (f3 : F (ψ a) (ins 382 da)) (f4 : F (ψ x) (ins 66 dx)) (f5 : F (ψ y) (ins 66 dy)) (f6 : F (ψ l) (lstO [ρ x, ρ y] el))  (Ka : GA w s₀ F a "kind" fun v => ∃ t, v = .int 10 t) (Op : GA w s₀ F a "op" (· = .int op top)) {ne : Int} (Ef : hC 872 [.int op top] 1 3 fun Z v => ∃ t, v = .int ne t) (He : decide (ne ≥ 2) = false) (Ol : GA w s₀ F a "operands" (· = ρ l)) {nx : Int} (Kx : GA w s₀ F x "kind" fun v => ∃ t, v = .int nx t) (Hx : (nx != 0) = false) (Vx : GA w s₀ F x "value" (· = vk vx)) (Ax : hC 665 [vk vx] 1 3 fun Z v => v = .bool true) {ny : Int} (Ky : GA w s₀ F y "kind" fun v => ∃ t, v = .int ny t) (Hy : (ny != 0) = false) (Vy : GA w s₀ F y "value" (· = vk vy)) (Ay : hC 665 [vk vy] 1 3 fun Z v => v = .bool false) : χM fun Z v => v = ρ a :=
  flat hb hw [kS 10, vS βF, vS (.int op top), iS fun Z Z r => r = ne, vS βF, vS (ρ l), iS fun Z Z r => r = nx, vS βF, vS ((vk vx)), vS βT, iS fun Z Z r => r = ny, vS βF, vS ((vk vy)), vS βF] rfl (φf f0 f1 f2 f3 f4 f5 f6) turn2_gnon fun Z Z Z ξ Z => ⟨dl hd, γK Ka ωa, fun Z Z b1 Z => can_ne b1 hw rfl, γV Op ωa, fun F3 l03 b3 Z => can_int b3 ((Ef F3 l03).mono fun _ _ _ _ _ _ _ ⟨t, e⟩ => ⟨ne, t, e, rfl⟩), fun Z Z b4 h4 => can_ge b4 hw (by rw [show (ξ 3).i 0 = ne from (pX h4.2)]; exact He), γV Ol ωa, γI Kx ωa, γN hw Hx, γV Vx ωa, γC Ax, γI Ky ωa, γN hw Hy, γV Vy ωa, γC Ay, fun Z Z Z Z => rfl⟩
theorem turn1_none_c (kG ds s m da a top : Nat) (op : Int) (dx x : Nat) (vx : VK) (el l : Nat) (hb : BaseIn P F) (hw : w.params = P) (d0 u0 : Nat) (hd : d0 + 306 < 1000) (f0 : F (ψ ds) (dct P [("fold", kG, .ref 952)])) (f1 : F (ψ s) (ins 894 (ψ ds))) (f2 : F (ψ m) (mT (.ref 891) (ρ s))) (f3 : F (ψ a) (ins 382 da)) (f4 : F (ψ x) (ins 66 dx)) (f5 : F (ψ l) (lstO [ρ x] el))  (Ka : GA w s₀ F a "kind" fun v => ∃ t, v = .int 10 t) (Op : GA w s₀ F a "op" (· = .int op top)) {ne : Int} (Ef : hC 872 [.int op top] 1 3 fun Z v => ∃ t, v = .int ne t) (He : decide (ne ≥ 2) = false) (Ol : GA w s₀ F a "operands" (· = ρ l)) {nx : Int} (Kx : GA w s₀ F x "kind" fun v => ∃ t, v = .int nx t) (Hx : (nx != 0) = false) (Vx : GA w s₀ F x "value" (· = vk vx)) (Ax : hC 665 [vk vx] 1 3 fun Z v => v = .bool true) (Fo : ∀ F', F.le F' → ∀ l', ListAt F' l' [vk vx] → Cs w s₀ F' (κC 952 [.int op top, ρ l']) (d0 + 1) (u0 + 3) fun F' v => FoldPost P (.none) F' v) : χM fun Z v => v = ρ a :=
  flat hb hw [kS 10, vS βF, vS (.int op top), iS fun Z Z r => r = ne, vS βF, vS (ρ l), iS fun Z Z r => r = nx, vS βF, vS ((vk vx)), vS βT, vS (.int op top), vS (ρ l), vS ((vk vx)), fNone] rfl (φf f0 f1 f2 f3 f4 f5) turn1_none fun Z Z Z ξ Z => ⟨dl hd, γK Ka ωa, fun Z Z b1 Z => can_ne b1 hw rfl, γV Op ωa, fun F3 l03 b3 Z => can_int b3 ((Ef F3 l03).mono fun _ _ _ _ _ _ _ ⟨t, e⟩ => ⟨ne, t, e, rfl⟩), fun Z Z b4 h4 => can_ge b4 hw (by rw [show (ξ 3).i 0 = ne from (pX h4.2)]; exact He), γV Ol ωa, γI Kx ωa, γN hw Hx, γV Vx ωa, γC Ax, γV Op ωa, γV Ol ωa, γV Vx ωb, fun Z l013 b13 Z => can_f_none b13 (Fo _ (fun a o e => .inl (l013 a o e)) ((ξ 11).n 0 + 1) ⟨_, σ0⟩), fun Z Z Z Z => rfl⟩
theorem turn1_ref_c (kG ds s m da a top : Nat) (op : Int) (dx x : Nat) (vx : VK) (el l : Nat) (hb : BaseIn P F) (hw : w.params = P) (d0 u0 : Nat) (hd : d0 + 306 < 1000) (f0 : F (ψ ds) (dct P [("fold", kG, .ref 952)])) (f1 : F (ψ s) (ins 894 (ψ ds))) (f2 : F (ψ m) (mT (.ref 891) (ρ s))) (f3 : F (ψ a) (ins 382 da)) (f4 : F (ψ x) (ins 66 dx)) (f5 : F (ψ l) (lstO [ρ x] el))  (Ka : GA w s₀ F a "kind" fun v => ∃ t, v = .int 10 t) (Op : GA w s₀ F a "op" (· = .int op top)) {ne : Int} (Ef : hC 872 [.int op top] 1 3 fun Z v => ∃ t, v = .int ne t) (He : decide (ne ≥ 2) = false) (Ol : GA w s₀ F a "operands" (· = ρ l)) {nx : Int} (Kx : GA w s₀ F x "kind" fun v => ∃ t, v = .int nx t) (Hx : (nx != 0) = false) (Vx : GA w s₀ F x "value" (· = vk vx)) (Ax : hC 665 [vk vx] 1 3 fun Z v => v = .bool true) (Fo : ∀ F', F.le F' → ∀ l', ListAt F' l' [vk vx] → Cs w s₀ F' (κC 952 [.int op top, ρ l']) (d0 + 1) (u0 + 3) fun F' v => FoldPost P (.pair) F' v) : χM fun Z v => v = ρ a :=
  flat hb hw [kS 10, vS βF, vS (.int op top), iS fun Z Z r => r = ne, vS βF, vS (ρ l), iS fun Z Z r => r = nx, vS βF, vS ((vk vx)), vS βT, vS (.int op top), vS (ρ l), vS ((vk vx)), fP P, vS βF] rfl (φf f0 f1 f2 f3 f4 f5) turn1_ref fun Z Z Z ξ Z => ⟨dl hd, γK Ka ωa, fun Z Z b1 Z => can_ne b1 hw rfl, γV Op ωa, fun F3 l03 b3 Z => can_int b3 ((Ef F3 l03).mono fun _ _ _ _ _ _ _ ⟨t, e⟩ => ⟨ne, t, e, rfl⟩), fun Z Z b4 h4 => can_ge b4 hw (by rw [show (ξ 3).i 0 = ne from (pX h4.2)]; exact He), γV Ol ωa, γI Kx ωa, γN hw Hx, γV Vx ωa, γC Ax, γV Op ωa, γV Ol ωa, γV Vx ωb, fun Z l013 b13 Z => can_f_pair b13 (Fo _ (fun a o e => .inl (l013 a o e)) ((ξ 11).n 0 + 1) ⟨_, σ0⟩), fun Z Z b14 h14 => can_val b14 (pY h14.2 fun _ _ l ⟨dp, v1, v2, q1, q2, g1, g2⟩ => atom_pair_c v1 v2 q1 q2 dp _ b14 hw _ _ ω (l _ _ g1) (l _ _ g2)), fun Z Z Z Z => rfl⟩
theorem turn1_bool_c (kG ds s m da a top : Nat) (op : Int) (dx x : Nat) (vx : VK) (el l : Nat) (hb : BaseIn P F) (hw : w.params = P) (d0 u0 : Nat) (hd : d0 + 306 < 1000) (f0 : F (ψ ds) (dct P [("fold", kG, .ref 952)])) (f1 : F (ψ s) (ins 894 (ψ ds))) (f2 : F (ψ m) (mT (.ref 891) (ρ s))) (f3 : F (ψ a) (ins 382 da)) (f4 : F (ψ x) (ins 66 dx)) (f5 : F (ψ l) (lstO [ρ x] el))  (Ka : GA w s₀ F a "kind" fun v => ∃ t, v = .int 10 t) (Op : GA w s₀ F a "op" (· = .int op top)) {ne : Int} (Ef : hC 872 [.int op top] 1 3 fun Z v => ∃ t, v = .int ne t) (He : decide (ne ≥ 2) = false) (Ol : GA w s₀ F a "operands" (· = ρ l)) {nx : Int} (Kx : GA w s₀ F x "kind" fun v => ∃ t, v = .int nx t) (Hx : (nx != 0) = false) (Vx : GA w s₀ F x "value" (· = vk vx)) (Ax : hC 665 [vk vx] 1 3 fun Z v => v = .bool true) {rb : Bool} (Fo : ∀ F', F.le F' → ∀ l', ListAt F' l' [vk vx] → Cs w s₀ F' (κC 952 [.int op top, ρ l']) (d0 + 1) (u0 + 3) fun F' v => FoldPost P (.val (.bool rb)) F' v) : χM fun F' v => ∃ r, v = ρ r ∧ NodeAt P F' r (.const (.bool rb)) :=
  flat hb hw [kS 10, vS βF, vS (.int op top), iS fun Z Z r => r = ne, vS βF, vS (ρ l), iS fun Z Z r => r = nx, vS βF, vS ((vk vx)), vS βT, vS (.int op top), vS (ρ l), vS ((vk vx)), fB rb, vS βT] rfl (φf f0 f1 f2 f3 f4 f5) turn1_bool fun Z Z Z ξ Z => ⟨dl hd, γK Ka ωa, fun Z Z b1 Z => can_ne b1 hw rfl, γV Op ωa, fun F3 l03 b3 Z => can_int b3 ((Ef F3 l03).mono fun _ _ _ _ _ _ _ ⟨t, e⟩ => ⟨ne, t, e, rfl⟩), fun Z Z b4 h4 => can_ge b4 hw (by rw [show (ξ 3).i 0 = ne from (pX h4.2)]; exact He), γV Ol ωa, γI Kx ωa, γN hw Hx, γV Vx ωa, γC Ax, γV Op ωa, γV Ol ωa, γV Vx ωb, fun Z l013 b13 Z => can_f_bool b13 (Fo _ (fun a o e => .inl (l013 a o e)) ((ξ 11).n 0 + 1) ⟨_, σ0⟩), fun Z Z b14 Z => can_val b14 (atom_bool_c _ b14 hw _ _ ω), dl hd, fun Z Z Z h15 => ⟨_, rfl, _, _, _, congrArg Value.bool (pX h15.1.2), σ1, σ0⟩⟩
theorem turn1_int_c (kG ds s m da a top : Nat) (op : Int) (dx x : Nat) (vx : VK) (el l : Nat) (hb : BaseIn P F) (hw : w.params = P) (d0 u0 : Nat) (hd : d0 + 306 < 1000) (f0 : F (ψ ds) (dct P [("fold", kG, .ref 952)])) (f1 : F (ψ s) (ins 894 (ψ ds))) (f2 : F (ψ m) (mT (.ref 891) (ρ s))) (f3 : F (ψ a) (ins 382 da)) (f4 : F (ψ x) (ins 66 dx)) (f5 : F (ψ l) (lstO [ρ x] el))  (Ka : GA w s₀ F a "kind" fun v => ∃ t, v = .int 10 t) (Op : GA w s₀ F a "op" (· = .int op top)) {ne : Int} (Ef : hC 872 [.int op top] 1 3 fun Z v => ∃ t, v = .int ne t) (He : decide (ne ≥ 2) = false) (Ol : GA w s₀ F a "operands" (· = ρ l)) {nx : Int} (Kx : GA w s₀ F x "kind" fun v => ∃ t, v = .int nx t) (Hx : (nx != 0) = false) (Vx : GA w s₀ F x "value" (· = vk vx)) (Ax : hC 665 [vk vx] 1 3 fun Z v => v = .bool true) {ri : Int} (Fo : ∀ F', F.le F' → ∀ l', ListAt F' l' [vk vx] → Cs w s₀ F' (κC 952 [.int op top, ρ l']) (d0 + 1) (u0 + 3) fun F' v => FoldPost P (.val (.int ri)) F' v) : χM fun F' v => ∃ r, v = ρ r ∧ NodeAt P F' r (.const (.int ri)) :=
  flat hb hw [kS 10, vS βF, vS (.int op top), iS fun Z Z r => r = ne, vS βF, vS (ρ l), iS fun Z Z r => r = nx, vS βF, vS ((vk vx)), vS βT, vS (.int op top), vS (ρ l), vS ((vk vx)), fI ri, vS βT] rfl (φf f0 f1 f2 f3 f4 f5) turn1_int fun Z Z Z ξ Z => ⟨dl hd, γK Ka ωa, fun Z Z b1 Z => can_ne b1 hw rfl, γV Op ωa, fun F3 l03 b3 Z => can_int b3 ((Ef F3 l03).mono fun _ _ _ _ _ _ _ ⟨t, e⟩ => ⟨ne, t, e, rfl⟩), fun Z Z b4 h4 => can_ge b4 hw (by rw [show (ξ 3).i 0 = ne from (pX h4.2)]; exact He), γV Ol ωa, γI Kx ωa, γN hw Hx, γV Vx ωa, γC Ax, γV Op ωa, γV Ol ωa, γV Vx ωb, fun Z l013 b13 Z => can_f_int b13 (Fo _ (fun a o e => .inl (l013 a o e)) ((ξ 11).n 0 + 1) ⟨_, σ0⟩), fun Z Z b14 Z => can_val b14 (atom_int_c _ _ b14 hw _ _ ω), dl hd, fun Z Z Z h15 => ⟨_, rfl, _, _, _, ⟨_, congrArg (Value.int · _) (pX h15.1.2)⟩, σ1, σ0⟩⟩
theorem turn2_none_c (kG ds s m da a top : Nat) (op : Int) (dx x : Nat) (vx : VK) (dy y : Nat) (vy : VK) (el l : Nat) (hb : BaseIn P F) (hw : w.params = P) (d0 u0 : Nat) (hd : d0 + 306 < 1000) (f0 : F (ψ ds) (dct P [("fold", kG, .ref 952)])) (f1 : F (ψ s) (ins 894 (ψ ds))) (f2 : F (ψ m) (mT (.ref 891) (ρ s))) (f3 : F (ψ a) (ins 382 da)) (f4 : F (ψ x) (ins 66 dx)) (f5 : F (ψ y) (ins 66 dy)) (f6 : F (ψ l) (lstO [ρ x, ρ y] el))  (Ka : GA w s₀ F a "kind" fun v => ∃ t, v = .int 10 t) (Op : GA w s₀ F a "op" (· = .int op top)) {ne : Int} (Ef : hC 872 [.int op top] 1 3 fun Z v => ∃ t, v = .int ne t) (He : decide (ne ≥ 2) = false) (Ol : GA w s₀ F a "operands" (· = ρ l)) {nx : Int} (Kx : GA w s₀ F x "kind" fun v => ∃ t, v = .int nx t) (Hx : (nx != 0) = false) (Vx : GA w s₀ F x "value" (· = vk vx)) (Ax : hC 665 [vk vx] 1 3 fun Z v => v = .bool true) {ny : Int} (Ky : GA w s₀ F y "kind" fun v => ∃ t, v = .int ny t) (Hy : (ny != 0) = false) (Vy : GA w s₀ F y "value" (· = vk vy)) (Ay : hC 665 [vk vy] 1 3 fun Z v => v = .bool true) (Fo : ∀ F', F.le F' → ∀ l', ListAt F' l' [vk vx, vk vy] → Cs w s₀ F' (κC 952 [.int op top, ρ l']) (d0 + 1) (u0 + 3) fun F' v => FoldPost P (.none) F' v) : χM fun Z v => v = ρ a :=
  flat hb hw [kS 10, vS βF, vS (.int op top), iS fun Z Z r => r = ne, vS βF, vS (ρ l), iS fun Z Z r => r = nx, vS βF, vS ((vk vx)), vS βT, iS fun Z Z r => r = ny, vS βF, vS ((vk vy)), vS βT, vS (.int op top), vS (ρ l), vS ((vk vx)), vS ((vk vy)), fNone] rfl (φf f0 f1 f2 f3 f4 f5 f6) turn2_none fun Z Z Z ξ Z => ⟨dl hd, γK Ka ωa, fun Z Z b1 Z => can_ne b1 hw rfl, γV Op ωa, fun F3 l03 b3 Z => can_int b3 ((Ef F3 l03).mono fun _ _ _ _ _ _ _ ⟨t, e⟩ => ⟨ne, t, e, rfl⟩), fun Z Z b4 h4 => can_ge b4 hw (by rw [show (ξ 3).i 0 = ne from (pX h4.2)]; exact He), γV Ol ωa, γI Kx ωa, γN hw Hx, γV Vx ωa, γC Ax, γI Ky ωa, γN hw Hy, γV Vy ωa, γC Ay, γV Op ωa, γV Ol ωa, γV Vx ωb, γV Vy ωb, fun Z l018 b18 Z => can_f_none b18 (Fo _ (fun a o e => .inl (l018 a o e)) ((ξ 15).n 0 + 1) ⟨_, σ0⟩), fun Z Z Z Z => rfl⟩
theorem turn2_ref_c (kG ds s m da a top : Nat) (op : Int) (dx x : Nat) (vx : VK) (dy y : Nat) (vy : VK) (el l : Nat) (hb : BaseIn P F) (hw : w.params = P) (d0 u0 : Nat) (hd : d0 + 306 < 1000) (f0 : F (ψ ds) (dct P [("fold", kG, .ref 952)])) (f1 : F (ψ s) (ins 894 (ψ ds))) (f2 : F (ψ m) (mT (.ref 891) (ρ s))) (f3 : F (ψ a) (ins 382 da)) (f4 : F (ψ x) (ins 66 dx)) (f5 : F (ψ y) (ins 66 dy)) (f6 : F (ψ l) (lstO [ρ x, ρ y] el))  (Ka : GA w s₀ F a "kind" fun v => ∃ t, v = .int 10 t) (Op : GA w s₀ F a "op" (· = .int op top)) {ne : Int} (Ef : hC 872 [.int op top] 1 3 fun Z v => ∃ t, v = .int ne t) (He : decide (ne ≥ 2) = false) (Ol : GA w s₀ F a "operands" (· = ρ l)) {nx : Int} (Kx : GA w s₀ F x "kind" fun v => ∃ t, v = .int nx t) (Hx : (nx != 0) = false) (Vx : GA w s₀ F x "value" (· = vk vx)) (Ax : hC 665 [vk vx] 1 3 fun Z v => v = .bool true) {ny : Int} (Ky : GA w s₀ F y "kind" fun v => ∃ t, v = .int ny t) (Hy : (ny != 0) = false) (Vy : GA w s₀ F y "value" (· = vk vy)) (Ay : hC 665 [vk vy] 1 3 fun Z v => v = .bool true) (Fo : ∀ F', F.le F' → ∀ l', ListAt F' l' [vk vx, vk vy] → Cs w s₀ F' (κC 952 [.int op top, ρ l']) (d0 + 1) (u0 + 3) fun F' v => FoldPost P (.pair) F' v) : χM fun Z v => v = ρ a :=
  flat hb hw [kS 10, vS βF, vS (.int op top), iS fun Z Z r => r = ne, vS βF, vS (ρ l), iS fun Z Z r => r = nx, vS βF, vS ((vk vx)), vS βT, iS fun Z Z r => r = ny, vS βF, vS ((vk vy)), vS βT, vS (.int op top), vS (ρ l), vS ((vk vx)), vS ((vk vy)), fP P, vS βF] rfl (φf f0 f1 f2 f3 f4 f5 f6) turn2_ref fun Z Z Z ξ Z => ⟨dl hd, γK Ka ωa, fun Z Z b1 Z => can_ne b1 hw rfl, γV Op ωa, fun F3 l03 b3 Z => can_int b3 ((Ef F3 l03).mono fun _ _ _ _ _ _ _ ⟨t, e⟩ => ⟨ne, t, e, rfl⟩), fun Z Z b4 h4 => can_ge b4 hw (by rw [show (ξ 3).i 0 = ne from (pX h4.2)]; exact He), γV Ol ωa, γI Kx ωa, γN hw Hx, γV Vx ωa, γC Ax, γI Ky ωa, γN hw Hy, γV Vy ωa, γC Ay, γV Op ωa, γV Ol ωa, γV Vx ωb, γV Vy ωb, fun Z l018 b18 Z => can_f_pair b18 (Fo _ (fun a o e => .inl (l018 a o e)) ((ξ 15).n 0 + 1) ⟨_, σ0⟩), fun Z Z b19 h19 => can_val b19 (pY h19.2 fun _ _ l ⟨dp, v1, v2, q1, q2, g1, g2⟩ => atom_pair_c v1 v2 q1 q2 dp _ b19 hw _ _ ω (l _ _ g1) (l _ _ g2)), fun Z Z Z Z => rfl⟩
theorem turn2_bool_c (kG ds s m da a top : Nat) (op : Int) (dx x : Nat) (vx : VK) (dy y : Nat) (vy : VK) (el l : Nat) (hb : BaseIn P F) (hw : w.params = P) (d0 u0 : Nat) (hd : d0 + 306 < 1000) (f0 : F (ψ ds) (dct P [("fold", kG, .ref 952)])) (f1 : F (ψ s) (ins 894 (ψ ds))) (f2 : F (ψ m) (mT (.ref 891) (ρ s))) (f3 : F (ψ a) (ins 382 da)) (f4 : F (ψ x) (ins 66 dx)) (f5 : F (ψ y) (ins 66 dy)) (f6 : F (ψ l) (lstO [ρ x, ρ y] el))  (Ka : GA w s₀ F a "kind" fun v => ∃ t, v = .int 10 t) (Op : GA w s₀ F a "op" (· = .int op top)) {ne : Int} (Ef : hC 872 [.int op top] 1 3 fun Z v => ∃ t, v = .int ne t) (He : decide (ne ≥ 2) = false) (Ol : GA w s₀ F a "operands" (· = ρ l)) {nx : Int} (Kx : GA w s₀ F x "kind" fun v => ∃ t, v = .int nx t) (Hx : (nx != 0) = false) (Vx : GA w s₀ F x "value" (· = vk vx)) (Ax : hC 665 [vk vx] 1 3 fun Z v => v = .bool true) {ny : Int} (Ky : GA w s₀ F y "kind" fun v => ∃ t, v = .int ny t) (Hy : (ny != 0) = false) (Vy : GA w s₀ F y "value" (· = vk vy)) (Ay : hC 665 [vk vy] 1 3 fun Z v => v = .bool true) {rb : Bool} (Fo : ∀ F', F.le F' → ∀ l', ListAt F' l' [vk vx, vk vy] → Cs w s₀ F' (κC 952 [.int op top, ρ l']) (d0 + 1) (u0 + 3) fun F' v => FoldPost P (.val (.bool rb)) F' v) : χM fun F' v => ∃ r, v = ρ r ∧ NodeAt P F' r (.const (.bool rb)) :=
  flat hb hw [kS 10, vS βF, vS (.int op top), iS fun Z Z r => r = ne, vS βF, vS (ρ l), iS fun Z Z r => r = nx, vS βF, vS ((vk vx)), vS βT, iS fun Z Z r => r = ny, vS βF, vS ((vk vy)), vS βT, vS (.int op top), vS (ρ l), vS ((vk vx)), vS ((vk vy)), fB rb, vS βT] rfl (φf f0 f1 f2 f3 f4 f5 f6) turn2_bool fun Z Z Z ξ Z => ⟨dl hd, γK Ka ωa, fun Z Z b1 Z => can_ne b1 hw rfl, γV Op ωa, fun F3 l03 b3 Z => can_int b3 ((Ef F3 l03).mono fun _ _ _ _ _ _ _ ⟨t, e⟩ => ⟨ne, t, e, rfl⟩), fun Z Z b4 h4 => can_ge b4 hw (by rw [show (ξ 3).i 0 = ne from (pX h4.2)]; exact He), γV Ol ωa, γI Kx ωa, γN hw Hx, γV Vx ωa, γC Ax, γI Ky ωa, γN hw Hy, γV Vy ωa, γC Ay, γV Op ωa, γV Ol ωa, γV Vx ωb, γV Vy ωb, fun Z l018 b18 Z => can_f_bool b18 (Fo _ (fun a o e => .inl (l018 a o e)) ((ξ 15).n 0 + 1) ⟨_, σ0⟩), fun Z Z b19 Z => can_val b19 (atom_bool_c _ b19 hw _ _ ω), dl hd, fun Z Z Z h20 => ⟨_, rfl, _, _, _, congrArg Value.bool (pX h20.1.2), σ1, σ0⟩⟩
theorem turn2_int_c (kG ds s m da a top : Nat) (op : Int) (dx x : Nat) (vx : VK) (dy y : Nat) (vy : VK) (el l : Nat) (hb : BaseIn P F) (hw : w.params = P) (d0 u0 : Nat) (hd : d0 + 306 < 1000) (f0 : F (ψ ds) (dct P [("fold", kG, .ref 952)])) (f1 : F (ψ s) (ins 894 (ψ ds))) (f2 : F (ψ m) (mT (.ref 891) (ρ s))) (f3 : F (ψ a) (ins 382 da)) (f4 : F (ψ x) (ins 66 dx)) (f5 : F (ψ y) (ins 66 dy)) (f6 : F (ψ l) (lstO [ρ x, ρ y] el))  (Ka : GA w s₀ F a "kind" fun v => ∃ t, v = .int 10 t) (Op : GA w s₀ F a "op" (· = .int op top)) {ne : Int} (Ef : hC 872 [.int op top] 1 3 fun Z v => ∃ t, v = .int ne t) (He : decide (ne ≥ 2) = false) (Ol : GA w s₀ F a "operands" (· = ρ l)) {nx : Int} (Kx : GA w s₀ F x "kind" fun v => ∃ t, v = .int nx t) (Hx : (nx != 0) = false) (Vx : GA w s₀ F x "value" (· = vk vx)) (Ax : hC 665 [vk vx] 1 3 fun Z v => v = .bool true) {ny : Int} (Ky : GA w s₀ F y "kind" fun v => ∃ t, v = .int ny t) (Hy : (ny != 0) = false) (Vy : GA w s₀ F y "value" (· = vk vy)) (Ay : hC 665 [vk vy] 1 3 fun Z v => v = .bool true) {ri : Int} (Fo : ∀ F', F.le F' → ∀ l', ListAt F' l' [vk vx, vk vy] → Cs w s₀ F' (κC 952 [.int op top, ρ l']) (d0 + 1) (u0 + 3) fun F' v => FoldPost P (.val (.int ri)) F' v) : χM fun F' v => ∃ r, v = ρ r ∧ NodeAt P F' r (.const (.int ri)) :=
  flat hb hw [kS 10, vS βF, vS (.int op top), iS fun Z Z r => r = ne, vS βF, vS (ρ l), iS fun Z Z r => r = nx, vS βF, vS ((vk vx)), vS βT, iS fun Z Z r => r = ny, vS βF, vS ((vk vy)), vS βT, vS (.int op top), vS (ρ l), vS ((vk vx)), vS ((vk vy)), fI ri, vS βT] rfl (φf f0 f1 f2 f3 f4 f5 f6) turn2_int fun Z Z Z ξ Z => ⟨dl hd, γK Ka ωa, fun Z Z b1 Z => can_ne b1 hw rfl, γV Op ωa, fun F3 l03 b3 Z => can_int b3 ((Ef F3 l03).mono fun _ _ _ _ _ _ _ ⟨t, e⟩ => ⟨ne, t, e, rfl⟩), fun Z Z b4 h4 => can_ge b4 hw (by rw [show (ξ 3).i 0 = ne from (pX h4.2)]; exact He), γV Ol ωa, γI Kx ωa, γN hw Hx, γV Vx ωa, γC Ax, γI Ky ωa, γN hw Hy, γV Vy ωa, γC Ay, γV Op ωa, γV Ol ωa, γV Vx ωb, γV Vy ωb, fun Z l018 b18 Z => can_f_int b18 (Fo _ (fun a o e => .inl (l018 a o e)) ((ξ 15).n 0 + 1) ⟨_, σ0⟩), fun Z Z b19 Z => can_val b19 (atom_int_c _ _ b19 hw _ _ ω), dl hd, fun Z Z Z h20 => ⟨_, rfl, _, _, _, ⟨_, congrArg (Value.int · _) (pX h20.1.2)⟩, σ1, σ0⟩⟩
end
noncomputable def turnT : T → T
  | .prim1 op x => match x with
    | .const v => if op = 13 ∨ atB v = false then .prim1 op x else match foldR op [v] with
      | .val p => .const p
      | _ => .prim1 op x
    | _ => .prim1 op x
  | .prim2 op x y => match x, y with
    | .const v, .const v' => if op = 13 ∨ atB v = false ∨ atB v' = false then .prim2 op x y else match foldR op [v, v'] with
      | .val p => .const p
      | _ => .prim2 op x y
    | _, _ => .prim2 op x y
  | t => t
section
variable {P : Params} {F : Gh} {w : World} {s₀ : Shared}
def Meth (P : Params) (F : Gh) (m : Nat) : Prop := ∃ kf ds s, F (ψ ds) (dct P [("fold", kf, .ref 952)]) ∧ F (ψ s) (ins 894 (ψ ds)) ∧ F (ψ m) (mT (.ref 891) (ρ s))
theorem Meth.mono {F' : Gh} {m : Nat} (l : F.le F') (h : Meth P F m) : Meth P F' m := let ⟨a, b, c, x, y, z⟩ := h; ⟨a, b, c, l _ _ x, l _ _ y, l _ _ z⟩
theorem vk_of {v : Value} {p : PV} (h : PVAt P F v p) : ∃ k, v = vk k := by
  cases p with
  | bool b => exact ⟨.b b, h⟩
  | int i => obtain ⟨t, rfl⟩ := h; exact ⟨.i i t, rfl⟩
  | empty => exact ⟨.r 454, h⟩
  | unspec => exact ⟨.r 457, h⟩
  | eof => exact ⟨.r 460, h⟩
  | char k => obtain ⟨a, d, kt, t, rfl, _⟩ := h; exact ⟨.r _, rfl⟩
  | pair i => obtain ⟨a, d, k1, k2, t, rfl, _⟩ := h; exact ⟨.r _, rfl⟩
theorem eff_all (hb : BaseIn P F) (hw : w.params = P) (d u : Nat) (hd : d < 1000) {op : Int} {top : Nat} (ho : op = 8 ∨ op = 16 ∨ op = 11 ∨ op = 135 ∨ op = 4 ∨ op = 9) :
    ∃ ne : Int, (∀ F', F.le F' → Cs w s₀ F' (κC 872 [.int op top]) d u fun Z v => ∃ t, v = .int ne t) ∧ decide (ne ≥ 2) = false := by
  rcases ho with rfl | rfl | rfl | rfl | rfl | rfl
  · exact ⟨_, fun F' l => eff_8_c top (hb.le l) hw d u ω, rfl⟩
  · exact ⟨_, fun F' l => eff_16_c top (hb.le l) hw d u ω, rfl⟩
  · exact ⟨_, fun F' l => eff_11_c top (hb.le l) hw d u ω, rfl⟩
  · exact ⟨_, fun F' l => eff_135_c top (hb.le l) hw d u ω, rfl⟩
  · exact ⟨_, fun F' l => eff_4_c top (hb.le l) hw d u ω, rfl⟩
  · exact ⟨_, fun F' l => eff_9_c top (hb.le l) hw d u ω, rfl⟩
theorem fold_kind (op : Int) (vs : List PV) : foldR op vs = .none ∨ foldR op vs = .pair ∨ (∃ b, foldR op vs = .val (.bool b)) ∨ ∃ i, foldR op vs = .val (.int i) := by
  unfold foldR
  repeat' split
  all_goals first
    | exact .inl rfl
    | exact .inr (.inl rfl)
    | exact .inr (.inr (.inl ⟨_, rfl⟩))
    | exact .inr (.inr (.inr ⟨_, rfl⟩))
def TurnPost (P : Params) (t : T) (F' : Gh) (v : Value) : Prop := ∃ r, v = ρ r ∧ NodeAt P F' r t
theorem same_post {t : T} {a : Nat} (n : NodeAt P F a t) {c : Code} {d u : Nat} (h : Cs w s₀ F c d u fun Z v => v = ρ a) : Cs w s₀ F c d u fun F' v => TurnPost P t F' v :=
  fun h' tk R ht hF ho hn hR => h h' tk R ht hF ho hn fun v F' h'' tk' own' a1 a2 a3 a4 a5 a6 a7 => hR v F' h'' tk' own' a1 a2 a3 a4 a5 a6 ⟨a, a7, n.mono a1⟩
theorem kNum0 : ∀ t : T, (kNum (kindT t) != 0) = true ∨ ∃ v, t = .const v
  | .const v => .inr ⟨v, rfl⟩
  | .loc _ => .inl rfl | .glob _ => .inl rfl | .setLoc _ _ => .inl rfl | .setGlob _ _ => .inl rfl | .define _ _ => .inl rfl | .ite _ _ _ => .inl rfl | .lam _ _ _ _ => .inl rfl | .lam0 _ _ _ => .inl rfl
  | .call _ _ => .inl rfl | .seq _ _ => .inl rfl | .prim1 _ _ => .inl rfl | .prim2 _ _ _ => .inl rfl | .fix _ _ _ => .inl rfl
theorem turned_other (hb : BaseIn P F) (hw : w.params = P) (d0 u0 : Nat) (hd : d0 + 402 < 1000) {m a : Nat} {t : T} (n : NodeAt P F a t) (hm : Meth P F m) (hk : (kNum (kindT t) != 10) = true) : χM fun F' v => TurnPost P t F' v := by
  obtain ⟨kf, ds, s, m1, m2, m3⟩ := hm
  obtain ⟨d, hn⟩ := n.isN
  exact same_post n (turn_other_c kf ds s m (ψ d) (kindT t) a hb hw d0 u0 ω m1 m2 m3 hn.cls (ga_kind hb hw hn) hk)
theorem turned_prim1 (hb : BaseIn P F) (hw : w.params = P) (d0 u0 : Nat) (hd : d0 + 402 < 1000) (hu : u0 + 310 < 9900) {m a : Nat} {op : Int} {x : T} (n : NodeAt P F a (.prim1 op x)) (hm : Meth P F m) (ho : op = 8 ∨ op = 16 ∨ op = 11 ∨ op = 135) :
    χM fun F' v => TurnPost P (turnT (.prim1 op x)) F' v := by
  obtain ⟨kf, ds, s, m1, m2, m3⟩ := hm
  obtain ⟨d, k1, k2, t, c, q, nx, ⟨el, hl⟩, i1, i2⟩ := id n
  obtain ⟨ne, ef, hne⟩ := eff_all (w := w) (s₀ := s₀) hb hw (d0 + 1) (u0 + 3) ω (op := op) (top := t) ω
  have Ka := ga_kind (w := w) (s₀ := s₀) hb hw (k := .prim) (a := a) (d := d) ⟨k1, _, k2, _, i1, i2⟩
  have Op := ga_op (w := w) (s₀ := s₀) hb hw ⟨i1, i2⟩
  have Ol := ga_operands (w := w) (s₀ := s₀) hb hw ⟨i1, i2⟩
  obtain ⟨dx, hx⟩ := nx.isN
  rcases kNum0 x with hk | ⟨v, rfl⟩
  · have e : turnT (.prim1 op x) = .prim1 op x := by cases x <;> first | rfl | cases hk
    rw [e]
    exact same_post n (turn1_bad_c kf ds s m (ψ d) a t op (ψ dx) (kindT x) c el q hb hw d0 u0 ω m1 m2 m3 i2 hx.cls hl Ka Op ef hne Ol (ga_kind hb hw hx) hk)
  obtain ⟨dv, kv, xv, pv, j1, j2⟩ := id nx
  obtain ⟨vx, rfl⟩ := vk_of pv
  have Kx := ga_kind (w := w) (s₀ := s₀) hb hw (k := .const) (a := c) (d := dv) ⟨kv, _, j1, j2⟩
  have Vx := ga_value (w := w) (s₀ := s₀) hb hw ⟨j1, j2⟩
  have Ax : hC 665 [vk vx] 1 3 fun Z v' => v' = .bool (atB v) := fun F' l => atom_calls (hb.le l) hw _ _ ω (pv.mono l)
  cases ha : atB v with
  | false =>
    have e : turnT (.prim1 op (.const v)) = .prim1 op (.const v) := by simp only [turnT, ha]; simp
    rw [e]
    rw [ha] at Ax
    exact same_post n (turn1_non_c kf ds s m (ψ d) a t op (ψ dv) c vx el q hb hw d0 u0 ω m1 m2 m3 i2 j2 hl Ka Op ef hne Ol Kx rfl Vx Ax)
  | true =>
    rw [ha] at Ax
    have Fo : ∀ F', F.le F' → ∀ l', ListAt F' l' [vk vx] → Cs w s₀ F' (κC 952 [.int op t, ρ l']) (d0 + 1) (u0 + 3) fun F' v' => FoldPost P (foldR op [v]) F' v' := fun F' l l' hl' => fold_calls1 (hb.le l) hw _ _ ω ω ho (pv.mono l) ha hl'
    have h13 : ¬ (op = 13 ∨ true = false) := by simp; omega
    rcases fold_kind op [v] with q1 | q1 | ⟨r, q1⟩ | ⟨r, q1⟩
    · have e : turnT (.prim1 op (.const v)) = .prim1 op (.const v) := by simp only [turnT, ha, if_neg h13, q1]
      rw [e]
      rw [q1] at Fo
      exact same_post n (turn1_none_c kf ds s m (ψ d) a t op (ψ dv) c vx el q hb hw d0 u0 ω m1 m2 m3 i2 j2 hl Ka Op ef hne Ol Kx rfl Vx Ax Fo)
    · have e : turnT (.prim1 op (.const v)) = .prim1 op (.const v) := by simp only [turnT, ha, if_neg h13, q1]
      rw [e]
      rw [q1] at Fo
      exact same_post n (turn1_ref_c kf ds s m (ψ d) a t op (ψ dv) c vx el q hb hw d0 u0 ω m1 m2 m3 i2 j2 hl Ka Op ef hne Ol Kx rfl Vx Ax Fo)
    · have e : turnT (.prim1 op (.const v)) = .const (.bool r) := by simp only [turnT, ha, if_neg h13, q1]
      rw [e]
      rw [q1] at Fo
      exact turn1_bool_c kf ds s m (ψ d) a t op (ψ dv) c vx el q hb hw d0 u0 ω m1 m2 m3 i2 j2 hl Ka Op ef hne Ol Kx rfl Vx Ax Fo
    · have e : turnT (.prim1 op (.const v)) = .const (.int r) := by simp only [turnT, ha, if_neg h13, q1]
      rw [e]
      rw [q1] at Fo
      exact turn1_int_c kf ds s m (ψ d) a t op (ψ dv) c vx el q hb hw d0 u0 ω m1 m2 m3 i2 j2 hl Ka Op ef hne Ol Kx rfl Vx Ax Fo
theorem turned_prim2 (hb : BaseIn P F) (hw : w.params = P) (d0 u0 : Nat) (hd : d0 + 402 < 1000) (hu : u0 + 310 < 9900) {m a : Nat} {op : Int} {x y : T} (n : NodeAt P F a (.prim2 op x y)) (hm : Meth P F m) (ho : op = 4 ∨ op = 9 ∨ op = 13) (ok : okT (.prim2 op x y)) :
    χM fun F' v => TurnPost P (turnT (.prim2 op x y)) F' v := by
  obtain ⟨kf, ds, s, m1, m2, m3⟩ := hm
  obtain ⟨d, k1, k2, t, c, c', q, nx, ny, ⟨el, hl⟩, i1, i2⟩ := id n
  have Ka := ga_kind (w := w) (s₀ := s₀) hb hw (k := .prim) (a := a) (d := d) ⟨k1, _, k2, _, i1, i2⟩
  have Op := ga_op (w := w) (s₀ := s₀) hb hw ⟨i1, i2⟩
  have Ol := ga_operands (w := w) (s₀ := s₀) hb hw ⟨i1, i2⟩
  by_cases h13 : op = 13
  · subst h13
    have e : turnT (.prim2 13 x y) = .prim2 13 x y := by cases x <;> cases y <;> simp [turnT]
    rw [e]
    exact same_post n (turn_big_c kf ds s m (ψ d) a t 13 hb hw d0 u0 ω m1 m2 m3 i2 Ka Op (fun F' l => eff_13_c t (hb.le l) hw _ _ ω) rfl)
  obtain ⟨ne, ef, hne⟩ := eff_all (w := w) (s₀ := s₀) hb hw (d0 + 1) (u0 + 3) ω (op := op) (top := t) ω
  obtain ⟨dx, hx⟩ := nx.isN
  obtain ⟨dy, hy⟩ := ny.isN
  rcases kNum0 x with hk | ⟨v, rfl⟩
  · have e : turnT (.prim2 op x y) = .prim2 op x y := by cases x <;> first | rfl | cases hk
    rw [e]
    exact same_post n (turn2_bad_c kf ds s m (ψ d) a t op (ψ dx) (kindT x) c (ψ c') el q hb hw d0 u0 ω m1 m2 m3 i2 hx.cls hl Ka Op ef hne Ol (ga_kind hb hw hx) hk)
  obtain ⟨dv, kv, xv, pv, j1, j2⟩ := id nx
  obtain ⟨vx, rfl⟩ := vk_of pv
  have Kx := ga_kind (w := w) (s₀ := s₀) hb hw (k := .const) (a := c) (d := dv) ⟨kv, _, j1, j2⟩
  have Vx := ga_value (w := w) (s₀ := s₀) hb hw ⟨j1, j2⟩
  have Ax : hC 665 [vk vx] 1 3 fun Z v' => v' = .bool (atB v) := fun F' l => atom_calls (hb.le l) hw _ _ ω (pv.mono l)
  cases ha : atB v with
  | false =>
    have e : turnT (.prim2 op (.const v) y) = .prim2 op (.const v) y := by cases y <;> simp [turnT, ha]
    rw [e]
    rw [ha] at Ax
    exact same_post n (turn2_non_c kf ds s m (ψ d) a t op (ψ dv) c vx (ψ c') el q hb hw d0 u0 ω m1 m2 m3 i2 j2 hl Ka Op ef hne Ol Kx rfl Vx Ax)
  | true =>
    rw [ha] at Ax
    rcases kNum0 y with hk | ⟨v', rfl⟩
    · have e : turnT (.prim2 op (.const v) y) = .prim2 op (.const v) y := by cases y <;> first | rfl | cases hk
      rw [e]
      exact same_post n (turn2_gbad_c kf ds s m (ψ d) a t op (ψ dv) c vx (ψ dy) (kindT y) c' el q hb hw d0 u0 ω m1 m2 m3 i2 j2 hy.cls hl Ka Op ef hne Ol Kx rfl Vx Ax (ga_kind hb hw hy) hk)
    obtain ⟨dv', kv', xv', pv', j1', j2'⟩ := id ny
    obtain ⟨vy, rfl⟩ := vk_of pv'
    have Ky := ga_kind (w := w) (s₀ := s₀) hb hw (k := .const) (a := c') (d := dv') ⟨kv', _, j1', j2'⟩
    have Vy := ga_value (w := w) (s₀ := s₀) hb hw ⟨j1', j2'⟩
    have Ay : ∀ F', F.le F' → Calls w s₀ F' [] (κC 665 [vk vy]) (d0 + 1) (u0 + 3) true fun Z v'' Z Z Z Z Z => v'' = .bool (atB v') := fun F' l => atom_calls (hb.le l) hw _ _ ω (pv'.mono l)
    cases ha' : atB v' with
    | false =>
      have e : turnT (.prim2 op (.const v) (.const v')) = .prim2 op (.const v) (.const v') := by simp [turnT, ha, ha']
      rw [e]
      rw [ha'] at Ay
      exact same_post n (turn2_gnon_c kf ds s m (ψ d) a t op (ψ dv) c vx (ψ dv') c' vy el q hb hw d0 u0 ω m1 m2 m3 i2 j2 j2' hl Ka Op ef hne Ol Kx rfl Vx Ax Ky rfl Vy Ay)
    | true =>
      rw [ha'] at Ay
      have Fo : ∀ F', F.le F' → ∀ l', ListAt F' l' [vk vx, vk vy] → Calls w s₀ F' [] (κC 952 [.int op t, ρ l']) (d0 + 1) (u0 + 3) true fun F' v'' Z Z Z Z Z => FoldPost P (foldR op [v, v']) F' v'' := fun F' l l' hl' => fold_calls2 (hb.le l) hw _ _ ω ω ω (pv.mono l) (pv'.mono l) ha ha' ok.2.1 ok.2.2 hl'
      have g13 : ¬ (op = 13 ∨ true = false ∨ true = false) := by simp; omega
      rcases fold_kind op [v, v'] with q1 | q1 | ⟨r, q1⟩ | ⟨r, q1⟩
      · have e : turnT (.prim2 op (.const v) (.const v')) = .prim2 op (.const v) (.const v') := by simp only [turnT, ha, ha', if_neg g13, q1]
        rw [e]
        rw [q1] at Fo
        exact same_post n (turn2_none_c kf ds s m (ψ d) a t op (ψ dv) c vx (ψ dv') c' vy el q hb hw d0 u0 ω m1 m2 m3 i2 j2 j2' hl Ka Op ef hne Ol Kx rfl Vx Ax Ky rfl Vy Ay Fo)
      · have e : turnT (.prim2 op (.const v) (.const v')) = .prim2 op (.const v) (.const v') := by simp only [turnT, ha, ha', if_neg g13, q1]
        rw [e]
        rw [q1] at Fo
        exact same_post n (turn2_ref_c kf ds s m (ψ d) a t op (ψ dv) c vx (ψ dv') c' vy el q hb hw d0 u0 ω m1 m2 m3 i2 j2 j2' hl Ka Op ef hne Ol Kx rfl Vx Ax Ky rfl Vy Ay Fo)
      · have e : turnT (.prim2 op (.const v) (.const v')) = .const (.bool r) := by simp only [turnT, ha, ha', if_neg g13, q1]
        rw [e]
        rw [q1] at Fo
        exact turn2_bool_c kf ds s m (ψ d) a t op (ψ dv) c vx (ψ dv') c' vy el q hb hw d0 u0 ω m1 m2 m3 i2 j2 j2' hl Ka Op ef hne Ol Kx rfl Vx Ax Ky rfl Vy Ay Fo
      · have e : turnT (.prim2 op (.const v) (.const v')) = .const (.int r) := by simp only [turnT, ha, ha', if_neg g13, q1]
        rw [e]
        rw [q1] at Fo
        exact turn2_int_c kf ds s m (ψ d) a t op (ψ dv) c vx (ψ dv') c' vy el q hb hw d0 u0 ω m1 m2 m3 i2 j2 j2' hl Ka Op ef hne Ol Kx rfl Vx Ax Ky rfl Vy Ay Fo
end
section
variable {d u : Nat} {g : Bool}
noncomputable def refs (as : List Nat) : List Value := as.map fun a => ρ a
noncomputable def geS (k : Nat) (as : List Nat) : Mine.Spec := ⟨ωX (x.v 0) [] [], fun Z Z x => ∃ a, as[k]? = some a ∧ x.v 0 = ρ a⟩
theorem can_getref (hB : ∀ h, Holds F h → 981 ≤ h.objs.size) {i q e t k : Nat} {as : List Nat} {ow : Bool} {j : Int} (ej : j = k) (h1 : k < as.length) (hz : as.length < 1000) : CanV w s₀ h₀ mt F₀ (.call (.builtin "list.__getitem__") ⟨[.ref q, .int j t], []⟩) d u g F [i] [some ⟨q, lstO (refs as) e, ow⟩] (geS k as) := by
  subst ej
  refine can_same hB (v := fun Z => .ref (as[k] + 981)) (fun t z tk => mkA (fun j => match j with | 0 => z | 1 => tk | _ => t) (fun Z => 0) [] true (.ref (as[k] + 981))) (fun h tk Q ht hL hQ => call_getitem (items := (refs as).toArray) ⟨_, hL _ _ _ (.head _), rfl, e, rfl⟩ ω ω (by simp [refs, h1]) (hQ 0 tk (Nat.le_refl _))) fun t z tk M sz tk0 => ⟨rfl, _, List.getElem?_eq_getElem h1, rfl⟩
noncomputable def rangeS (n : Int) : Mine.Spec := ⟨ωX (.ref (x.n 2 + 981)) [] [⟨(x.n 2 + 981), { cls := .type "range", data := .fields #[.int (0) (x.n 53), .int (x.i 0) (x.n 54), .int (1) (x.n 55)] }, true⟩], fun Z Z x => x.i 0 = n⟩
theorem can_range (hB : ∀ h, Holds F h → 981 ≤ h.objs.size) {n : Int} {t : Nat} : CanV w s₀ h₀ mt F₀ (.call (.type "range") ⟨[.int n t], []⟩) d u g F [] [] (rangeS n) := by
  intro M sz tk hsel h R ht D hR
  obtain ⟨z, hz'⟩ := sub981 (hB h D.holds)
  obtain ⟨tt, rfl⟩ := sub2050 ht
  have ha : h.get? h.objs.size = none := by
    cases q : h.get? h.objs.size with
    | none => rfl
    | some o => exact absurd (Heap.lt_size q) (Nat.lt_irrefl _)
  refine node_of_wp (call_range_1 (s := σt h tt) (n := n) (t := t) (Q := fun v s' => R (.ok (.ret v)) s') (E := fun Z Z => False) ?_) (fun Z Z q => q) (fun Z Z q => q.elim)
  have D' := D.newOwn (h' := h.push { cls := .type "range", data := .fields #[.int 0 (tt + 2050), .int n t, .int 1 (tt + 2050 + 1)] }) (fun b o e => Heap.get?_push_of_some _ e) ha (Heap.get?_push_size _ rfl)
  have y := hR (mkA (fun j => match j with | 0 => z + 1 | 1 => tt + 2 | 2 => z | 53 => tt + 2050 | 54 => t | _ => tt + 2050 + 1) (fun Z => n) []) F (h.push { cls := .type "range", data := .fields #[.int 0 (tt + 2050), .int n t, .int 1 (tt + 2050 + 1)] }) (fun Z Z e => e) rfl
  rw [Heap.size_push, hz'] at D'
  show R (.ok (.ret (.ref h.objs.size))) _
  rw [hz']
  refine y ?_
  show Rep _ _ _ _ (ε z _ :: M) (z + 1 + 981) _
  rw [show z + 1 + 981 = z + 981 + 1 by omega]
  exact D'
theorem can_ne2 (b : BaseIn P F) (hw : w.params = P) {i j : Int} {t t' : Nat} {r : Bool} (h : (i != j) = r) : CanV w s₀ h₀ mt F₀ (.call (.builtin "int.__ne__") ⟨[.int i t, .int j t'], []⟩) d u true F [] [] (vS (.bool r)) := by
  refine can_val b (calls_of_run (okay b w hw) (own := []) (fz := []) (sp := []) rfl (fun h H => b.size H) ωp (fun z tk ξ => int_ne) ?_)
  intro h' z tk ξ hz
  exact ⟨_, [], rfl, rfl, ωp, congrArg Value.bool h⟩
theorem sa_b : fBody (fAt 27 0) = (fBody (fAt 27 0)).take 1 ++ (fS 27 0 1 :: (fBody (fAt 27 0)).drop 2) := κR
theorem sa_f : isFor (fS 27 0 1) := by delta isFor; kernel_rfl
theorem sa_fb : sBody (fS 27 0 1) = [iS27] ∧ sElse (fS 27 0 1) = [] := ⟨by kernel_rfl, by kernel_rfl⟩
theorem sa_ff : isIf iS27 := by delta isIf; kernel_rfl
theorem sa_fc : isCmp .IsNot (sTest iS27) := by delta isCmp; kernel_rfl
theorem sa_fe : sElse iS27 = [] := κR
noncomputable abbrev saE (fr : Nat) : Env := envF 27 0 424 423 "are_same_list.<locals>." (ψ fr)
theorem sa_it (fr : Nat) (x : Value) : foldedSetIterable (sTest (fS 27 0 1)) (saE fr) x = pure x := κR
theorem sa_tg (it v : Value) : letOwnedTupleGo (sTgt (fS 27 0 1)) it v = pure () := κR
noncomputable abbrev saK0 (p q ko kt : Nat) : List (PySem.Str × Nat × Value) := [("ones", ko, ρ p), ("others", kt, ρ q)]
noncomputable abbrev saK1 (p q ko kt ka ti : Nat) (i : Int) : List (PySem.Str × Nat × Value) := [("ones", ko, ρ p), ("others", kt, ρ q), ("at", ka, .int i ti)]
def SaK (p q ko kt : Nat) (kv : KV) : Prop := kv = saK0 p q ko kt ∨ ∃ ka ti i, kv = saK1 p q ko kt ka ti i
structure SaI (P : Params) (h : Heap) (F : Gh) (p q ep eq it fr ko kt : Nat) (as bs : List Nat) (i r : Nat) (F' : Gh) (kv : KV) (sz : Nat) (h' : Heap) : Prop where
  D : Rep h [p + 981, q + 981] F F' [ε p (lstO (refs as) ep), ε q (lstO (refs bs) eq), ε fr (frm P kv), ε it { cls := .type "range_iterator", data := .fields #[.int i 0, .int (Int.ofNat r) 0, .int 1 0] }] sz h'
  kv : SaK p q ko kt kv
  n : i + r = as.length
  eq : as.take i = bs.take i
theorem take_succ_eq {as bs : List Nat} {i a : Nat} (h : as.take i = bs.take i) (ha : as[i]? = some a) (hb : bs[i]? = some a) : as.take (i + 1) = bs.take (i + 1) := by
  rw [List.take_succ, List.take_succ, h, ha, hb]
theorem same_loop (hb : BaseIn P F) (hw : w.params = P) (hd : d + 1 < 1000) {h : Heap} {p q ep eq it fr ko kt : Nat} {as bs : List Nat} (hl : as.length = bs.length) (hz : as.length < 1000)
    (hA : ∀ a ∈ as, ∃ c k, F (ψ a) (ins c k)) (hB : ∀ a ∈ bs, ∃ c k, F (ψ a) (ins c k)) {R : Result → Shared → Prop}
    (hF : ∀ F' kv z t h', as ≠ bs → (∃ ka ti i, kv = saK1 p q ko kt ka ti i) → Rep h [p + 981, q + 981] F F' [ε p (lstO (refs as) ep), ε q (lstO (refs bs) eq), ε fr (frm P kv)] (ψ z) h' → R (.ok (.ret βF)) (σt h' t))
    (hT : ∀ F' kv z t h', SaK p q ko kt kv → as = bs → Rep h [p + 981, q + 981] F F' [ε p (lstO (refs as) ep), ε q (lstO (refs bs) eq), ε fr (frm P kv)] (ψ z) h' → R (.ok .next) (σt h' t))
    {F' : Gh} {kv : KV} {z t : Nat} {h' : Heap} (i0 : SaI P h F p q ep eq it fr ko kt as bs 0 as.length F' kv (ψ z) h') :
    codeAny (pwm w) (AA d u true) (.forLoop (sTgt (fS 27 0 1)) (ρ it) (sBody (fS 27 0 1)) (sElse (fS 27 0 1)) (saE fr)) R (σt h' t) := by
  refine codeAny_forLoop (fun m s => ∃ i r F' kv z t h', s = σt h' t ∧ m = r ∧ SaI P h F p q ep eq it fr ko kt as bs i r F' kv (ψ z) h') ?_ as.length ⟨0, as.length, F', kv, z, t, h', rfl, rfl, i0⟩ (fun v => sa_tg _ v)
  rintro m s ⟨i, r, F₁, kv, z, t, h', rfl, hm, I⟩
  obtain ⟨hfb, hfe⟩ := sa_fb
  cases r with
  | zero =>
    have D := I.D.pick (ss := [3, 0, 1, 2]) δ (N := ν4) rfl
    refine lΛ lfO sa_z fun ξ => qNz hb (N := ν4) fun h' z1 t1 D => ?_
    have D := D.pk [1, 2, 3] ν3 rfl
    show wpAny _ _ (execs (sElse (fS 27 0 1)) _) _ _ _
    rw [hfe]
    refine wpAny_execs_nil (hT _ kv z1 t1 h' I.kv ?_ D)
    have h1 := I.eq
    have h2 := I.n
    rw [List.take_of_length_le ω, List.take_of_length_le ω] at h1
    exact h1
  | succ r =>
    have D := I.D.pick (ss := [3, 0, 1, 2]) δ (N := ν4) rfl
    refine lΛ lfO sa_n fun ξ => qO (N := ν4) fun h' t1 D => ?_
    have hir := I.n
    have hias : i < as.length := by omega
    have eN : Int.ofNat (r + 1) - 1 = Int.ofNat r := by show ((r + 1 : Nat) : Int) - 1 = (r : Int); omega
    rw [eN] at D
    have D := D.pk [1, 2, 3, 0] ν4 rfl
    have AT : ∀ {Q : Shared → Prop}, (∀ ka ti z t h'' F₂, Rep h [p + 981, q + 981] F F₂ [ε p (lstO (refs as) ep), ε q (lstO (refs bs) eq), ε fr (frm P (saK1 p q ko kt ka ti i)), ε it { cls := .type "range_iterator", data := .fields #[.int (i + 1) 0, .int (Int.ofNat r) 0, .int 1 0] }] (ψ z) h'' → Q (σt h'' t)) →
        wpAny (pwm w) (AA d u true) (assign (sTgt (fS 27 0 1)) (saE fr) (.int i (t + 2050))) (fun Z s₂ => Q s₂) (fun Z Z => False) (σt h' t1) := by
      intro Q hQ
      rcases I.kv with rfl | ⟨ka, ti, j, rfl⟩
      · refine lΛ lfU sa_a0 fun ξ => qU (N := ν4) fun h' t2 D => ?_
        exact hQ _ _ _ _ _ _ D
      · refine lΛ lfU sa_a1 fun ξ => qU (N := ν4) fun h' t2 D => ?_
        exact hQ _ _ _ _ _ _ D
    refine wpAny_mono (AT fun ka ti z t h'' F₂ D => ?_) (fun Z Z q => q) fun Z Z q => q.elim
    rw [hfb]
    refine w_if sa_ff (w_cmp sa_fc ?_)
    have b₂ := hb.le D.le
    refine lfV hb hw (sp := [geS i as]) rfl δ D (fun ξ => sa_l) fun ξ => ⟨can_getref (fun h H => b₂.size H) rfl hias hz, fun F₃ l₃ p₃ => qVz hb (N := ν4) fun h' z1 t1 D => ?_⟩
    obtain ⟨a₁, ha1, ea1⟩ : ∃ a, as[i]? = some a ∧ (ξ 0).v 0 = ρ a := p₃
    rw [ea1]
    have b₃ := hb.le D.le
    refine lfV hb hw (sp := [geS i bs]) rfl δ D (fun ξ => sa_r) fun ξ => ⟨can_getref (fun h H => b₃.size H) rfl ω ω, fun F₄ l₄ p₄ => qVz hb (N := ν4) fun h' z2 t2 D => ?_⟩
    obtain ⟨a₂, ha2, ea2⟩ : ∃ a, bs[i]? = some a ∧ (ξ 0).v 0 = ρ a := p₄
    rw [ea2]
    obtain ⟨c1, k1, f1⟩ := hA a₁ (List.mem_of_getElem? ha1)
    obtain ⟨c2, k2, f2⟩ := hB a₂ (List.mem_of_getElem? ha2)
    by_cases hab : a₁ = a₂
    · subst hab
      refine wpAny_isNot_ref_self ⟨false, rfl, ?_⟩
      show wpAny _ _ (execs (sElse iS27) _) _ _ _
      rw [sa_fe]
      refine wpAny_execs_nil (wpAny_execs_nil ?_)
      exact ⟨r, by omega, i + 1, r, F₄, _, z2, t2, h', rfl, rfl, ⟨D, .inr ⟨_, _, _, rfl⟩, by omega, take_succ_eq I.eq ha1 ha2⟩⟩
    · refine wpAny_isNot_ref_other (fun e => hab (Nat.add_right_cancel e)) (D.holds _ _ (D.le _ _ f1)) (D.holds _ _ (D.le _ _ f2)) (by intro e; cases e) ⟨true, rfl, ?_⟩
      show wpAny _ _ (execs (sBody iS27) _) _ _ _
      have D := D.pk [0, 1, 2] ν3 rfl
      refine lΛ lfF sa_F fun ξ => qF (N := ν3) fun h' t3 D => ?_
      exact hF _ _ _ _ _ (fun e => hab (by rw [e, ha2] at ha1; exact (Option.some.inj ha1).symm)) ⟨_, _, _, rfl⟩ D
theorem same_calls (hb : BaseIn P F) (hw : w.params = P) (d0 u0 : Nat) (hd : d0 + 2 < 1000) {p q ep eq : Nat} {as bs : List Nat} (hl : as.length = bs.length) (hz : as.length < 1000)
    (hA : ∀ a ∈ as, ∃ c k, F (ψ a) (ins c k)) (hB : ∀ a ∈ bs, ∃ c k, F (ψ a) (ins c k)) :
    CallsR w s₀ F [(p + 981, lstO (refs as) ep), (q + 981, lstO (refs bs) eq)] (κC 424 [ρ p, ρ q]) d0 u0 true fun Z r own => ∃ b, r = .ok (.ret (.bool b)) ∧ b = decide (as = bs) ∧ own = [(p + 981, lstO (refs as) ep), (q + 981, lstO (refs bs) eq)] := by
  refine callsR_intro (fz := []) (fun h H => hb.size H) ωp fun h z t R D hR => ?_
  refine code_seg (okayh hb w hw) ω (sp := []) rfl δ D (fun ξ => sa_in) fun ξ => ⟨by show d0 + 0 < 1000; omega, fun h' T' D' => ?_⟩
  have D := D' [_, _, _] rfl
  rw [show z + 981 + 1 = (z + 1) + 981 by omega] at D
  obtain ⟨t1, et⟩ := sub2050 T'
  rw [et]
  have END : ∀ (v : Value) (b : Bool) F' N sz' tk' h', v = .bool b → b = decide (as = bs) → 2050 ≤ tk' → Rep h [p + 981, q + 981] F F' N sz' h' → (ε p (lstO (refs as) ep) : Ent) ∈ N → (ε q (lstO (refs bs) eq) : Ent) ∈ N → R (.ok (.ret v)) (sto s₀ h' tk') := by
    intro v b F' N sz' tk' h' ev hb' T' D m1 m2
    refine hR _ _ _ _ _ _ [(p + 981, lstO (refs as) ep), (q + 981, lstO (refs bs) eq)] T' D rfl (fun x hx => ?_) ⟨b, by rw [ev], hb', rfl⟩
    simp only [μμ] at hx
    rcases hx with rfl | rfl
    · exact ⟨true, m1⟩
    · exact ⟨true, m2⟩
  have hrl : ∀ as : List Nat, (refs as).length = as.length := fun as => by simp [refs]
  refine codeAny_func ?_
  rw [sa_b]
  refine w_app ?_
  refine leaf (d := d0 + 1) (u := u0 + 3) (g := true) (fun f => f) (okay hb w hw) ω (fTr_execs _ _) (sp := [iS fun Z Z r => r = (refs as).length, iS fun Z Z r => r = (refs bs).length, vS βF]) rfl δ D (fun ξ => sa_0) fun ξ =>
    ⟨can_len (fun h H => hb.size H) (by rw [hrl]; exact hz), fun F₁ l₁ p₁ => ⟨can_len (fun h H => (hb.le l₁).size H) (by rw [hrl]; omega), fun F₂ l₂ p₂ => ⟨can_ne2 ((hb.le l₁).le l₂) hw (by
      have e1 : (ξ 0).i 0 = (refs as).length := p₁
      have e2 : (ξ 1).i 0 = (refs bs).length := p₂
      rw [e1, e2, hrl, hrl, hl]; simp), fun F₃ l₃ p₃ => ⟨_, rfl, fun a ea h' T' D' => ?_⟩⟩⟩⟩
  cases ea
  have D := D' [_, _, _] rfl
  obtain ⟨z2, ez⟩ := D.sz hb
  obtain ⟨t2, et⟩ := sub2050 T'
  rw [ez] at D
  rw [et]
  have b₃ := hb.le D.le
  refine wpAny_execs_cons ?_
  rw [(show _ = _ from sa_f)]
  refine wpAny_For ?_ (fun x => sa_it _ x)
  refine leaf (d := d0 + 1) (u := u0 + 3) (g := true) (fun v => .ret v) (okay hb w hw) ω (vTr_eval _ _) (sp := [iS fun Z Z r => r = (refs as).length, rangeS (refs as).length]) rfl δ D (fun ξ => sa_i) fun ξ =>
    ⟨can_len (fun h H => b₃.size H) (by rw [hrl]; exact hz), fun F₄ l₄ p₄ => ⟨by rw [show (ξ 0).i 0 = (refs as).length from p₄]; exact can_range (fun h H => (b₃.le l₄).size H), fun F₅ l₅ p₅ => ⟨_, rfl, fun a ea h' T' D' => ?_⟩⟩⟩
  cases ea
  have D := D' [_, _, _, _] rfl
  have e5 : (ξ 1).i 0 = (as.length : Int) := by rw [← hrl as]; exact p₅
  rw [e5] at D
  obtain ⟨t3, et⟩ := sub2050 T'
  rw [et]
  have hr : IsRange h' ((ξ 1).n 2 + 981) 0 as.length 1 ((ξ 1).n 53) ((ξ 1).n 54) ((ξ 1).n 55) := D.at_ 0 _ rfl
  have hrs : Builtin.Range.rangeSize 0 as.length 1 = as.length := by
    unfold Builtin.Range.rangeSize
    rw [if_pos δ]
    split <;> omega
  have hsm : Builtin.Range.small 0 as.length 1 = true := by
    unfold Builtin.Range.small
    rw [hrs]
    unfold Builtin.Range.rangeFitsLong
    simp only [Bool.and_eq_true, Bool.or_eq_true, decide_eq_true_eq]
    refine ⟨⟨⟨⟨⟨by decide, by decide⟩, by omega, by omega⟩, by decide, by decide⟩, by omega, by omega⟩, .inr ?_⟩
    rw [if_pos δ]
    simp only [Bool.and_eq_true, decide_eq_true_eq]
    exact ⟨by omega, by omega⟩
  refine wpAny_pyIter_range (s := σt h' t3) hr hsm ?_
  rw [hrs]
  have hsz : h'.objs.size = (ξ 1).n 0 + 981 := D.size
  have ha : h'.get? h'.objs.size = none := by
    cases q : h'.get? h'.objs.size with
    | none => rfl
    | some o => exact absurd (Heap.lt_size q) (Nat.lt_irrefl _)
  have D := D.newOwn (h' := h'.push { cls := .type "range_iterator", data := .fields #[rawInt 0, rawInt as.length, rawInt 1] }) (fun b o e => Heap.get?_push_of_some _ e) ha (Heap.get?_push_size _ rfl)
  have D := D.pk [2, 3, 4, 0] ν4 rfl
  obtain ⟨z4, ez⟩ := D.sz hb
  rw [ez] at D
  show codeAny _ _ (.forLoop _ (.ref h'.objs.size) _ _ _) _ _
  rw [hsz] at D ⊢
  refine same_loop (s₀ := s₀) (d := d0 + 1) (u := u0 + 3) hb hw ω hl hz hA hB (fun F' kv z t h' hne hk D => ?_) (fun F' kv z t h' hk hab D => ?_) (i0 := ⟨D, .inl rfl, by omega, by simp⟩)
  · exact END _ false _ _ _ _ _ rfl (by simp [hne]) ω D (.head _) μ1
  · rcases hk with rfl | ⟨ka, ti, i, rfl⟩
    · refine lΛ lfF sa_T0 fun ξ => qF (N := ν3) fun h' t' D => ?_
      exact END _ true _ _ _ _ _ rfl (by simp [hab]) (Nat.le_add_left _ _) D (.head _) μ1
    · refine lΛ lfF sa_T1 fun ξ => qF (N := ν3) fun h' t' D => ?_
      exact END _ true _ _ _ _ _ rfl (by simp [hab]) (Nat.le_add_left _ _) D (.head _) μ1
end
noncomputable def kids : T → List T
  | .const _ => [] | .loc _ => [] | .glob _ => []
  | .setLoc _ t => [t] | .setGlob _ t => [t] | .define _ t => [t]
  | .ite a b c => [a, b, c]
  | .lam _ _ _ t => [t] | .lam0 _ _ t => [t]
  | .call a b => [a, b] | .seq a b => [a, b] | .prim1 _ a => [a] | .prim2 _ a b => [a, b] | .fix _ a b => [a, b]
noncomputable def withK : T → List T → T
  | .setLoc n _, [x] => .setLoc n x | .setGlob n _, [x] => .setGlob n x | .define n _, [x] => .define n x
  | .ite _ _ _, [x, y, z] => .ite x y z
  | .lam l p r _, [x] => .lam l p r x | .lam0 l r _, [x] => .lam0 l r x
  | .call _ _, [x, y] => .call x y | .seq _ _, [x, y] => .seq x y | .prim1 op _, [x] => .prim1 op x | .prim2 op _ _, [x, y] => .prim2 op x y | .fix n _ _, [x, y] => .fix n x y
  | t, _ => t
noncomputable def foldT : T → T
  | .const v => .const v | .loc n => .loc n | .glob n => .glob n
  | .setLoc n t => .setLoc n (foldT t) | .setGlob n t => .setGlob n (foldT t) | .define n t => .define n (foldT t)
  | .ite a b c => .ite (foldT a) (foldT b) (foldT c)
  | .lam l p r t => .lam l p r (foldT t) | .lam0 l r t => .lam0 l r (foldT t)
  | .call a b => .call (foldT a) (foldT b) | .seq a b => .seq (foldT a) (foldT b)
  | .prim1 op a => turnT (.prim1 op (foldT a)) | .prim2 op a b => turnT (.prim2 op (foldT a) (foldT b)) | .fix n a b => .fix n (foldT a) (foldT b)
theorem foldT_is (t : T) : foldT t = turnT (withK t ((kids t).map foldT)) := by cases t <;> rfl
section
variable {d u : Nat} {g : Bool}
inductive ShapeAt (P : Params) (F : Gh) (a : Nat) : T → List Nat → Prop
  | const (v : PV) (d k : Nat) (x : Value) (p : PVAt P F x v) (h : Inst P F 66 a d [("value", k, x)]) : ShapeAt P F a (.const v) []
  | loc (n : Int) (d k t : Nat) (h : Inst P F 85 a d [("number", k, .int n t)]) : ShapeAt P F a (.loc n) []
  | glob (n : Int) (d k t : Nat) (h : Inst P F 104 a d [("symbol", k, .int n t)]) : ShapeAt P F a (.glob n) []
  | setLoc (n : Int) (x : T) (c d k1 k2 t : Nat) (h : Inst P F 137 a d [("number", k1, .int n t), ("value", k2, ρ c)]) : ShapeAt P F a (.setLoc n x) [c]
  | setGlob (n : Int) (x : T) (c d k1 k2 t : Nat) (h : Inst P F 170 a d [("symbol", k1, .int n t), ("value", k2, ρ c)]) : ShapeAt P F a (.setGlob n x) [c]
  | define (n : Int) (x : T) (c d k1 k2 t : Nat) (h : Inst P F 203 a d [("symbol", k1, .int n t), ("value", k2, ρ c)]) : ShapeAt P F a (.define n x) [c]
  | ite (x y z : T) (c e f d k1 k2 k3 : Nat) (h : Inst P F 236 a d [("test", k1, ρ c), ("yes", k2, ρ e), ("no", k3, ρ f)]) : ShapeAt P F a (.ite x y z) [c, e, f]
  | lam (l p r : Int) (x : T) (c d k1 k2 k3 k4 t1 t2 t3 q : Nat) (y : ListAt F q [.int p t2]) (h : Inst P F 283 a d [("label", k1, .int l t1), ("params", k2, ρ q), ("rest", k3, .int r t3), ("body", k4, ρ c)]) : ShapeAt P F a (.lam l p r x) [c]
  | lam0 (l r : Int) (x : T) (c d k1 k2 k3 k4 t1 t3 q : Nat) (y : ListAt F q []) (h : Inst P F 283 a d [("label", k1, .int l t1), ("params", k2, ρ q), ("rest", k3, .int r t3), ("body", k4, ρ c)]) : ShapeAt P F a (.lam0 l r x) [c]
  | call (x z : T) (c e d k1 k2 q : Nat) (y : ListAt F q [ρ e]) (h : Inst P F 316 a d [("operator", k1, ρ c), ("operands", k2, ρ q)]) : ShapeAt P F a (.call x z) [c, e]
  | seq (x z : T) (c e d k q : Nat) (y : ListAt F q [ρ c, ρ e]) (h : Inst P F 349 a d [("items", k, ρ q)]) : ShapeAt P F a (.seq x z) [c, e]
  | prim1 (op : Int) (x : T) (c d k1 k2 t q : Nat) (y : ListAt F q [ρ c]) (h : Inst P F 382 a d [("op", k1, .int op t), ("operands", k2, ρ q)]) : ShapeAt P F a (.prim1 op x) [c]
  | prim2 (op : Int) (x z : T) (c e d k1 k2 t q : Nat) (y : ListAt F q [ρ c, ρ e]) (h : Inst P F 382 a d [("op", k1, .int op t), ("operands", k2, ρ q)]) : ShapeAt P F a (.prim2 op x z) [c, e]
  | fix (n : Int) (x z : T) (c e d k1 k2 k3 t q m : Nat) (y : ListAt F q [ρ c]) (y2 : ListAt F m [.int n t]) (h : Inst P F 415 a d [("numbers", k1, ρ m), ("lambdas", k2, ρ q), ("body", k3, ρ e)]) : ShapeAt P F a (.fix n x z) [c, e]
inductive Nodes (P : Params) (F : Gh) : List Nat → List T → Prop
  | nil : Nodes P F [] []
  | cons {a as t ts} : NodeAt P F a t → Nodes P F as ts → Nodes P F (a :: as) (t :: ts)
theorem Nodes.one {a : Nat} {ts : List T} (h : Nodes P F [a] ts) : ∃ t, ts = [t] ∧ NodeAt P F a t := by
  cases h with | cons x h => cases h; exact ⟨_, rfl, x⟩
theorem Nodes.two {a b : Nat} {ts : List T} (h : Nodes P F [a, b] ts) : ∃ t u, ts = [t, u] ∧ NodeAt P F a t ∧ NodeAt P F b u := by
  cases h with | cons x h => obtain ⟨_, rfl, y⟩ := h.one; exact ⟨_, _, rfl, x, y⟩
theorem Nodes.three {a b c : Nat} {ts : List T} (h : Nodes P F [a, b, c] ts) : ∃ t u v, ts = [t, u, v] ∧ NodeAt P F a t ∧ NodeAt P F b u ∧ NodeAt P F c v := by
  cases h with | cons x h => obtain ⟨_, _, rfl, y, z⟩ := h.two; exact ⟨_, _, _, rfl, x, y, z⟩
theorem Nodes.mono {F' : Gh} (l : F.le F') {as : List Nat} {ts : List T} (h : Nodes P F as ts) : Nodes P F' as ts := by
  induction h with
  | nil => exact .nil
  | cons n _ ih => exact .cons (n.mono l) ih
theorem Nodes.len {as : List Nat} {ts : List T} (h : Nodes P F as ts) : as.length = ts.length := by
  induction h with
  | nil => rfl
  | cons _ _ ih => simp [ih]
theorem Nodes.app {as bs : List Nat} {ts us : List T} (h : Nodes P F as ts) (k : Nodes P F bs us) : Nodes P F (as ++ bs) (ts ++ us) := by
  induction h with
  | nil => exact k
  | cons n _ ih => exact .cons n ih
theorem Nodes.split {ts us : List T} : ∀ {as : List Nat}, Nodes P F as (ts ++ us) → ∃ bs cs, as = bs ++ cs ∧ Nodes P F bs ts ∧ Nodes P F cs us := by
  induction ts with
  | nil => exact fun h => ⟨[], _, rfl, .nil, h⟩
  | cons t ts ih =>
    intro as h
    cases h with
    | cons n r =>
      obtain ⟨bs, cs, rfl, h1, h2⟩ := ih r
      exact ⟨_ :: bs, cs, rfl, .cons n h1, h2⟩
theorem Nodes.ins {as : List Nat} {ts : List T} (h : Nodes P F as ts) : ∀ a ∈ as, ∃ c k, F (ψ a) (ins c k) := by
  induction h with
  | nil => intro a h; cases h
  | cons n _ ih =>
    intro a h
    rcases List.mem_cons.mp h with rfl | h
    · obtain ⟨d, hn⟩ := n.isN
      exact ⟨_, _, hn.cls⟩
    · exact ih a h
theorem NodeAt.shape {t : T} {a : Nat} (h : NodeAt P F a t) : ∃ cs, ShapeAt P F a t cs ∧ Nodes P F cs (kids t) := by
  cases t with
  | const v => cases h with | mk d k x p h => exact ⟨[], .const _ d k x p h, .nil⟩
  | loc n => cases h with | mk d k t h => exact ⟨[], .loc _ d k t h, .nil⟩
  | glob n => cases h with | mk d k t h => exact ⟨[], .glob _ d k t h, .nil⟩
  | setLoc n x => cases h with | mk d k1 k2 t c n h => exact ⟨[c], .setLoc _ _ c d k1 k2 t h, .cons n .nil⟩
  | setGlob n x => cases h with | mk d k1 k2 t c n h => exact ⟨[c], .setGlob _ _ c d k1 k2 t h, .cons n .nil⟩
  | define n x => cases h with | mk d k1 k2 t c n h => exact ⟨[c], .define _ _ c d k1 k2 t h, .cons n .nil⟩
  | ite x y z => cases h with | mk d k1 k2 k3 c e f n1 n2 n3 h => exact ⟨[c, e, f], .ite _ _ _ c e f d k1 k2 k3 h, .cons n1 (.cons n2 (.cons n3 .nil))⟩
  | lam a b c x => cases h with | mk d k1 k2 k3 k4 t1 t2 t3 c q n x h => exact ⟨[c], .lam _ _ _ _ c d k1 k2 k3 k4 t1 t2 t3 q x h, .cons n .nil⟩
  | lam0 a b x => cases h with | mk d k1 k2 k3 k4 t1 t3 c q n x h => exact ⟨[c], .lam0 _ _ _ c d k1 k2 k3 k4 t1 t3 q x h, .cons n .nil⟩
  | call x y => cases h with | mk d k1 k2 c e q n1 n2 x h => exact ⟨[c, e], .call _ _ c e d k1 k2 q x h, .cons n1 (.cons n2 .nil)⟩
  | seq x y => cases h with | mk d k c e q n1 n2 x h => exact ⟨[c, e], .seq _ _ c e d k q x h, .cons n1 (.cons n2 .nil)⟩
  | prim1 op x => cases h with | mk d k1 k2 t c q n x h => exact ⟨[c], .prim1 _ _ c d k1 k2 t q x h, .cons n .nil⟩
  | prim2 op x y => cases h with | mk d k1 k2 t c e q n1 n2 x h => exact ⟨[c, e], .prim2 _ _ _ c e d k1 k2 t q x h, .cons n1 (.cons n2 .nil)⟩
  | fix n x y => cases h with | mk d k1 k2 k3 t c e q m n1 n2 x y h => exact ⟨[c, e], .fix _ _ _ c e d k1 k2 k3 t q m x y h, .cons n1 (.cons n2 .nil)⟩
theorem ShapeAt.len {t : T} {a : Nat} {cs : List Nat} (h : ShapeAt P F a t cs) : cs.length = (kids t).length := by
  cases h <;> rfl
theorem nodes1 {c : Nat} {ts : List T} (h : Nodes P F [c] ts) : ∃ x, ts = [x] ∧ NodeAt P F c x := by
  cases h with | cons n r => cases r; exact ⟨_, rfl, n⟩
theorem nodes2 {c e : Nat} {ts : List T} (h : Nodes P F [c, e] ts) : ∃ x y, ts = [x, y] ∧ NodeAt P F c x ∧ NodeAt P F e y := by
  cases h with | cons n r => obtain ⟨y, rfl, m⟩ := nodes1 r; exact ⟨_, _, rfl, n, m⟩
theorem nodes3 {c e f : Nat} {ts : List T} (h : Nodes P F [c, e, f] ts) : ∃ x y z, ts = [x, y, z] ∧ NodeAt P F c x ∧ NodeAt P F e y ∧ NodeAt P F f z := by
  cases h with | cons n r => obtain ⟨y, z, rfl, m, k⟩ := nodes2 r; exact ⟨_, _, _, rfl, n, m, k⟩
theorem ShapeAt.node {t : T} {a : Nat} {cs : List Nat} {ts : List T} (h : ShapeAt P F a t cs) (n : Nodes P F cs ts) : NodeAt P F a (withK t ts) := by
  cases h with
  | const v d k x p h => cases n; exact ⟨d, k, x, p, h⟩
  | loc v d k t h => cases n; exact ⟨d, k, t, h⟩
  | glob v d k t h => cases n; exact ⟨d, k, t, h⟩
  | setLoc n' x c d k1 k2 t h => obtain ⟨_, rfl, n1⟩ := nodes1 n; exact ⟨d, k1, k2, t, c, n1, h⟩
  | setGlob n' x c d k1 k2 t h => obtain ⟨_, rfl, n1⟩ := nodes1 n; exact ⟨d, k1, k2, t, c, n1, h⟩
  | define n' x c d k1 k2 t h => obtain ⟨_, rfl, n1⟩ := nodes1 n; exact ⟨d, k1, k2, t, c, n1, h⟩
  | ite x y z c e f d k1 k2 k3 h => obtain ⟨_, _, _, rfl, n1, n2, n3⟩ := nodes3 n; exact ⟨d, k1, k2, k3, c, e, f, n1, n2, n3, h⟩
  | lam l p r x c d k1 k2 k3 k4 t1 t2 t3 q y h => obtain ⟨_, rfl, n1⟩ := nodes1 n; exact ⟨d, k1, k2, k3, k4, t1, t2, t3, c, q, n1, y, h⟩
  | lam0 l r x c d k1 k2 k3 k4 t1 t3 q y h => obtain ⟨_, rfl, n1⟩ := nodes1 n; exact ⟨d, k1, k2, k3, k4, t1, t3, c, q, n1, y, h⟩
  | call x z c e d k1 k2 q y h => obtain ⟨_, _, rfl, n1, n2⟩ := nodes2 n; exact ⟨d, k1, k2, c, e, q, n1, n2, y, h⟩
  | seq x z c e d k q y h => obtain ⟨_, _, rfl, n1, n2⟩ := nodes2 n; exact ⟨d, k, c, e, q, n1, n2, y, h⟩
  | prim1 op x c d k1 k2 t q y h => obtain ⟨_, rfl, n1⟩ := nodes1 n; exact ⟨d, k1, k2, t, c, q, n1, y, h⟩
  | prim2 op x z c e d k1 k2 t q y h => obtain ⟨_, _, rfl, n1, n2⟩ := nodes2 n; exact ⟨d, k1, k2, t, c, e, q, n1, n2, y, h⟩
  | fix n' x z c e d k1 k2 k3 t q m y y2 h => obtain ⟨_, _, rfl, n1, n2⟩ := nodes2 n; exact ⟨d, k1, k2, k3, t, c, e, q, m, n1, n2, y, y2, h⟩
theorem Rep.addFz {M : List Ent} {sz : Nat} {h : Heap} (D : Rep h₀ mt F₀ F M sz h) {fz : List (Addr × Obj)} (hf : ∀ p ∈ fz, F p.1 p.2) : Rep h₀ mt F₀ F (M ++ entFz fz) sz h := by
  have key : ∀ i e, nth (M ++ entFz fz) i = some e → nth M i = some e ∨ (e.own = false ∧ F e.a e.o ∧ M.length ≤ i) := by
    intro i e hi
    rw [nth_get, List.getElem?_append] at hi
    split at hi
    · rw [← nth_get] at hi; exact .inl hi
    · rename_i hlt
      unfold entFz at hi
      rw [List.getElem?_map] at hi
      obtain ⟨p, hp, rfl⟩ := Option.map_eq_some_iff.mp hi
      exact .inr ⟨rfl, hf p (List.mem_of_getElem? hp), by omega⟩
  have lt : ∀ i e, nth M i = some e → i < M.length := fun i e hi => by rw [nth_get] at hi; exact (List.getElem?_eq_some_iff.mp hi).1
  refine ⟨D.size, D.holds, D.le, fun i e hi => ?_, fun i e hi w => ?_, fun i e hi w => ?_, fun i j e e' hi hj hne w => ?_, D.keep, fun i e hi w => ?_, D.above, D.dom⟩
  · rcases key i e hi with q | ⟨_, q, _⟩
    · exact D.at_ i e q
    · exact D.holds _ _ q
  · rcases key i e hi with q | ⟨_, q, _⟩
    · exact D.fz i e q w
    · exact q
  · rcases key i e hi with q | ⟨q, _⟩
    · exact D.own i e q w
    · rw [w] at q; cases q
  · rcases key i e hi with q | ⟨q, _⟩
    · rcases key j e' hj with q' | ⟨_, q', _⟩
      · exact D.ne i j e e' q q' hne w
      · intro x; exact D.own i e q w e'.o (x ▸ q')
    · rw [w] at q; cases q
  · rcases key i e hi with q | ⟨q, _⟩
    · exact D.fresh i e q w
    · rw [w] at q; cases q
theorem Rep.freeze {M fr : List Ent} {sz : Nat} {h : Heap} (D : Rep h₀ mt F₀ F (M ++ fr) sz h) (hm : ∀ e ∈ fr, e.a ∉ mt) : ∃ F', F.le F' ∧ (∀ e ∈ fr, F' e.a e.o) ∧ Rep h₀ mt F₀ F' M sz h := by
  have inl : ∀ i e, nth M i = some e → nth (M ++ fr) i = some e ∧ i < M.length := fun i e hi => by
    rw [nth_get] at hi
    have := (List.getElem?_eq_some_iff.mp hi).1
    rw [nth_get, List.getElem?_append_left this]
    exact ⟨hi, this⟩
  have inr : ∀ e ∈ fr, ∃ i, nth (M ++ fr) i = some e ∧ M.length ≤ i := fun e he => by
    obtain ⟨j, hj⟩ := List.getElem?_of_mem he
    refine ⟨M.length + j, ?_, by omega⟩
    rw [nth_get, List.getElem?_append_right ω]
    simpa using hj
  refine ⟨fun a o => F a o ∨ ∃ e ∈ fr, e.own = true ∧ e.a = a ∧ e.o = o, fun Z Z e => .inl e, fun e he => ?_, ?_⟩
  · obtain ⟨i, hi, _⟩ := inr e he
    cases ho : e.own with
    | true => exact .inr ⟨e, he, ho, rfl, rfl⟩
    | false => exact .inl (D.fz i e hi ho)
  · refine ⟨D.size, fun a o x => ?_, fun a o x => .inl (D.le a o x), fun i e hi => D.at_ i e (inl i e hi).1, fun i e hi w => .inl (D.fz i e (inl i e hi).1 w), fun i e hi w o x => ?_, fun i j e e' hi hj hne w => D.ne i j e e' (inl i e hi).1 (inl j e' hj).1 hne w, D.keep, fun i e hi w => D.fresh i e (inl i e hi).1 w, fun a o x => ?_, D.dom⟩
    · rcases x with x | ⟨e, he, ho, rfl, rfl⟩
      · exact D.holds a o x
      · obtain ⟨i, hi, _⟩ := inr e he
        exact D.at_ i e hi
    · obtain ⟨hi, hlt⟩ := inl i e hi
      rcases x with x | ⟨e', he, ho, q, _⟩
      · exact D.own i e hi w o x
      · obtain ⟨j, hj, hge⟩ := inr e' he
        exact D.ne i j e e' hi hj ω w q.symm
    · rcases x with x | ⟨e, he, ho, rfl, rfl⟩
      · exact D.above a o x
      · obtain ⟨i, hi, _⟩ := inr e he
        exact .inr ((D.fresh i e hi ho).resolve_left (hm e he))
end
theorem Rep.fy {M fr : List Ent} {sz : Nat} {h : Heap} (D : Rep h₀ [] F₀ F (M ++ fr) sz h) : ∃ F', F.le F' ∧ (∀ e ∈ fr, F' e.a e.o) ∧ Rep h₀ [] F₀ F' M sz h := D.freeze fun Z Z q => by cases q
def OkW (t : T) : Prop := okT t ∧ wfT t
theorem okw_kids : ∀ {t : T}, OkW t → ∀ k ∈ kids t, OkW k
  | .const _, _, k, hk => by cases hk
  | .loc _, _, k, hk => by cases hk
  | .glob _, _, k, hk => by cases hk
  | .setLoc _ _, h, k, hk => by simp only [kids, List.mem_cons, List.not_mem_nil, or_false] at hk; subst hk; exact ⟨h.1.2, h.2⟩
  | .setGlob _ _, h, k, hk => by simp only [kids, List.mem_cons, List.not_mem_nil, or_false] at hk; subst hk; exact ⟨h.1.2, h.2⟩
  | .define _ _, h, k, hk => by simp only [kids, List.mem_cons, List.not_mem_nil, or_false] at hk; subst hk; exact ⟨h.1.2, h.2⟩
  | .ite _ _ _, h, k, hk => by
    simp only [kids, List.mem_cons, List.not_mem_nil, or_false] at hk
    rcases hk with rfl | rfl | rfl
    · exact ⟨h.1.1, h.2.1⟩
    · exact ⟨h.1.2.1, h.2.2.1⟩
    · exact ⟨h.1.2.2, h.2.2.2⟩
  | .lam _ _ _ _, h, k, hk => by simp only [kids, List.mem_cons, List.not_mem_nil, or_false] at hk; subst hk; exact ⟨h.1.2.2.2, h.2⟩
  | .lam0 _ _ _, h, k, hk => by simp only [kids, List.mem_cons, List.not_mem_nil, or_false] at hk; subst hk; exact ⟨h.1.2.2, h.2⟩
  | .call _ _, h, k, hk => by
    simp only [kids, List.mem_cons, List.not_mem_nil, or_false] at hk
    rcases hk with rfl | rfl
    · exact ⟨h.1.1, h.2.1⟩
    · exact ⟨h.1.2, h.2.2⟩
  | .seq _ _, h, k, hk => by
    simp only [kids, List.mem_cons, List.not_mem_nil, or_false] at hk
    rcases hk with rfl | rfl
    · exact ⟨h.1.1, h.2.1⟩
    · exact ⟨h.1.2, h.2.2⟩
  | .prim1 _ _, h, k, hk => by simp only [kids, List.mem_cons, List.not_mem_nil, or_false] at hk; subst hk; exact ⟨h.1.2, h.2.2⟩
  | .prim2 _ _ _, h, k, hk => by
    simp only [kids, List.mem_cons, List.not_mem_nil, or_false] at hk
    rcases hk with rfl | rfl
    · exact ⟨h.1.2.1, h.2.2.1⟩
    · exact ⟨h.1.2.2, h.2.2.2⟩
  | .fix _ _ _, h, k, hk => by
    simp only [kids, List.mem_cons, List.not_mem_nil, or_false] at hk
    rcases hk with rfl | rfl
    · exact ⟨h.1.2.1, h.2.1⟩
    · exact ⟨h.1.2.2, h.2.2⟩
theorem foldR_ok {op : Int} {vs : List PV} {p : PV} (h : ∀ v ∈ vs, okPV v) (e : foldR op vs = .val p) : okPV p := by
  unfold foldR at e
  split at e
  · split at e <;> cases e; exact trivial
  split at e
  · split at e <;> cases e; exact trivial
  split at e
  · split at e <;> cases e; exact trivial
  split at e
  · split at e
    · cases e; exact (h (.char _) (.head _) : okI _)
    · cases e
  split at e <;> cases e
theorem okw_turn {t : T} (h : OkW t) : OkW (turnT t) := by
  cases t with
  | prim1 op x =>
    cases x with
    | const v =>
      show OkW (if op = 13 ∨ atB v = false then .prim1 op (.const v) else _)
      split
      · exact h
      · split
        · rename_i q; exact ⟨foldR_ok (by intro y hy; simp only [List.mem_singleton] at hy; subst hy; exact h.1.2) q, trivial⟩
        · exact h
    | _ => exact h
  | prim2 op x y =>
    cases x with
    | const v =>
      cases y with
      | const v' =>
        show OkW (if op = 13 ∨ atB v = false ∨ atB v' = false then .prim2 op (.const v) (.const v') else _)
        split
        · exact h
        · split
          · rename_i q
            refine ⟨foldR_ok (fun y hy => ?_) q, trivial⟩
            simp only [μμ] at hy
            rcases hy with rfl | rfl
            · exact h.1.2.1
            · exact h.1.2.2
          · exact h
      | _ => exact h
    | _ => exact h
  | _ => exact h
theorem okw_foldT : ∀ {t : T}, OkW t → OkW (foldT t)
  | .const _, h => h | .loc _, h => h | .glob _, h => h
  | .setLoc _ t, h => have a := okw_foldT (t := t) ⟨h.1.2, h.2⟩; ⟨⟨h.1.1, a.1⟩, a.2⟩
  | .setGlob _ t, h => have a := okw_foldT (t := t) ⟨h.1.2, h.2⟩; ⟨⟨h.1.1, a.1⟩, a.2⟩
  | .define _ t, h => have a := okw_foldT (t := t) ⟨h.1.2, h.2⟩; ⟨⟨h.1.1, a.1⟩, a.2⟩
  | .ite x y z, h =>
    have a := okw_foldT (t := x) ⟨h.1.1, h.2.1⟩
    have b := okw_foldT (t := y) ⟨h.1.2.1, h.2.2.1⟩
    have c := okw_foldT (t := z) ⟨h.1.2.2, h.2.2.2⟩
    ⟨⟨a.1, b.1, c.1⟩, a.2, b.2, c.2⟩
  | .lam _ _ _ t, h => have a := okw_foldT (t := t) ⟨h.1.2.2.2, h.2⟩; ⟨⟨h.1.1, h.1.2.1, h.1.2.2.1, a.1⟩, a.2⟩
  | .lam0 _ _ t, h => have a := okw_foldT (t := t) ⟨h.1.2.2, h.2⟩; ⟨⟨h.1.1, h.1.2.1, a.1⟩, a.2⟩
  | .call x y, h => have a := okw_foldT (t := x) ⟨h.1.1, h.2.1⟩; have b := okw_foldT (t := y) ⟨h.1.2, h.2.2⟩; ⟨⟨a.1, b.1⟩, a.2, b.2⟩
  | .seq x y, h => have a := okw_foldT (t := x) ⟨h.1.1, h.2.1⟩; have b := okw_foldT (t := y) ⟨h.1.2, h.2.2⟩; ⟨⟨a.1, b.1⟩, a.2, b.2⟩
  | .prim1 op x, h => have a := okw_foldT (t := x) ⟨h.1.2, h.2.2⟩; okw_turn (t := .prim1 op (foldT x)) ⟨⟨h.1.1, a.1⟩, h.2.1, a.2⟩
  | .prim2 op x y, h => have a := okw_foldT (t := x) ⟨h.1.2.1, h.2.2.1⟩; have b := okw_foldT (t := y) ⟨h.1.2.2, h.2.2.2⟩; okw_turn (t := .prim2 op (foldT x) (foldT y)) ⟨⟨h.1.1, a.1, b.1⟩, h.2.1, a.2, b.2⟩
  | .fix _ x y, h => have a := okw_foldT (t := x) ⟨h.1.2.1, h.2.1⟩; have b := okw_foldT (t := y) ⟨h.1.2.2, h.2.2⟩; ⟨⟨h.1.1, a.1, b.1⟩, a.2, b.2⟩
theorem okw_with : ∀ {t : T}, OkW t → OkW (withK t ((kids t).map foldT))
  | .const _, h => h | .loc _, h => h | .glob _, h => h
  | .setLoc _ t, h => have a := okw_foldT (t := t) ⟨h.1.2, h.2⟩; ⟨⟨h.1.1, a.1⟩, a.2⟩
  | .setGlob _ t, h => have a := okw_foldT (t := t) ⟨h.1.2, h.2⟩; ⟨⟨h.1.1, a.1⟩, a.2⟩
  | .define _ t, h => have a := okw_foldT (t := t) ⟨h.1.2, h.2⟩; ⟨⟨h.1.1, a.1⟩, a.2⟩
  | .ite x y z, h => okw_foldT (t := .ite x y z) h
  | .lam l p r t, h => okw_foldT (t := .lam l p r t) h
  | .lam0 l r t, h => okw_foldT (t := .lam0 l r t) h
  | .call x y, h => okw_foldT (t := .call x y) h
  | .seq x y, h => okw_foldT (t := .seq x y) h
  | .prim1 op x, h => have a := okw_foldT (t := x) ⟨h.1.2, h.2.2⟩; ⟨⟨h.1.1, a.1⟩, h.2.1, a.2⟩
  | .prim2 op x y, h => have a := okw_foldT (t := x) ⟨h.1.2.1, h.2.2.1⟩; have b := okw_foldT (t := y) ⟨h.1.2.2, h.2.2.2⟩; ⟨⟨h.1.1, a.1, b.1⟩, h.2.1, a.2, b.2⟩
  | .fix n x y, h => okw_foldT (t := .fix n x y) h
theorem sz_kids : ∀ t : T, szT t = ((kids t).map szT).sum + 1 := by
  intro t
  cases t <;> simp only [szT, kids, List.map_cons, List.map_nil, List.sum_cons, List.sum_nil] <;> omega
theorem kids3 (t : T) : (kids t).length ≤ 3 := by cases t <;> simp [kids]
inductive Run : List (T × Bool) → List T → List T → Prop
  | nil (D : List T) : Run [] D D
  | one {t s D R} : OkW t → Run s (D ++ [foldT t]) R → Run ((t, false) :: s) D R
  | two {t s D cs R} : cs.length = (kids t).length → 0 < (kids t).length → OkW (withK t cs) → Run s (D ++ [turnT (withK t cs)]) R → Run ((t, true) :: s) (D ++ cs) R
theorem Run.many {s : List (T × Bool)} {R : List T} : ∀ {ks D : List T}, (∀ k ∈ ks, OkW k) → Run s (D ++ ks.map foldT) R → Run (ks.map (fun k => (k, false)) ++ s) D R
  | [], D, _, h => by simpa using h
  | k :: ks, D, ok, h => by
    refine .one (ok k (.head _)) (Run.many (ks := ks) (fun k hk => ok k (.tail _ hk)) ?_)
    simpa using h
theorem Run.push {t : T} {s : List (T × Bool)} {D R : List T} (ok : OkW t) (hk : 0 < (kids t).length) (h : Run s (D ++ [foldT t]) R) : Run ((kids t).map (fun k => (k, false)) ++ (t, true) :: s) D R := by
  refine Run.many (okw_kids ok) (.two (by simp) hk (okw_with ok) ?_)
  rw [← foldT_is]; exact h
noncomputable def meas : List (T × Bool) → Nat
  | [] => 0
  | (t, b) :: s => (if b then 1 else 2 * szT t) + meas s
theorem meas_app (a b : List (T × Bool)) : meas (a ++ b) = meas a + meas b := by
  induction a with
  | nil => simp [meas]
  | cons x r ih => obtain ⟨t, c⟩ := x; simp only [List.cons_append, meas, ih]; omega
theorem meas_kids (ks : List T) : meas (ks.map fun k => (k, false)) = 2 * (ks.map szT).sum := by
  induction ks with
  | nil => rfl
  | cons k r ih => simp only [List.map_cons, meas, ih, List.sum_cons]; simp; omega
theorem meas_push (t : T) (s : List (T × Bool)) : meas ((kids t).map (fun k => (k, false)) ++ (t, true) :: s) + 1 = meas ((t, false) :: s) := by
  rw [meas_app, meas_kids]
  simp only [meas]
  have := sz_kids t
  simp; omega
theorem sz_pos (t : T) : 1 ≤ szT t := by rw [sz_kids]; omega
theorem meas_len : ∀ s : List (T × Bool), s.length ≤ meas s
  | [] => Nat.le_refl _
  | (t, b) :: s => by
    have h1 := meas_len s
    have h2 := sz_pos t
    simp only [List.length_cons, meas]
    split <;> omega
section
variable {d u : Nat} {g : Bool}
theorem turned_all (hb : BaseIn P F) (hw : w.params = P) (d0 u0 : Nat) (hd : d0 + 402 < 1000) (hu : u0 + 310 < 9900) {m a : Nat} {t : T} (n : NodeAt P F a t) (hm : Meth P F m) (ok : OkW t) : χM fun F' v => TurnPost P (turnT t) F' v := by
  cases t with
  | prim1 op x => exact turned_prim1 hb hw d0 u0 hd hu n hm ok.2.1
  | prim2 op x y => exact turned_prim2 hb hw d0 u0 hd hu n hm ok.2.1 ok.1
  | _ => exact turned_other hb hw d0 u0 hd n hm rfl
inductive Items (P : Params) (F : Gh) : List Nat → List (T × Bool) → Prop
  | nil : Items P F [] []
  | cons {it its n t b s} : F (ψ it) (tupO [ρ n, .bool b]) → NodeAt P F n t → Items P F its s → Items P F (it :: its) ((t, b) :: s)
theorem Items.mono {F' : Gh} (l : F.le F') {its : List Nat} {s : List (T × Bool)} (h : Items P F its s) : Items P F' its s := by
  induction h with
  | nil => exact .nil
  | cons f n _ ih => exact .cons (l _ _ f) (n.mono l) ih
theorem Items.len {its : List Nat} {s : List (T × Bool)} (h : Items P F its s) : its.length = s.length := by
  induction h with
  | nil => rfl
  | cons _ _ _ ih => simp [ih]
theorem popl_is (y : Value) (vs : List Value) (e : Nat) : ∃ k, Obj.mapSeq (fun xs => xs.eraseIdxIfInBounds ((vs ++ [y]).toArray.size - 1)) (lstO (vs ++ [y]) e) = lstO vs k := by
  have q : (vs ++ [y]).toArray.eraseIdxIfInBounds ((vs ++ [y]).toArray.size - 1) = vs.toArray := by
    simp [List.eraseIdx_append_of_length_le]
  exact ⟨if vs.toArray.size == (vs ++ [y]).toArray.size then e else e + 1, by unfold Obj.mapSeq; simp only [q]⟩
theorem can_popl (hB : ∀ h, Holds F h → 981 ≤ h.objs.size) {i l e : Nat} {y : Value} {vs : List Value} (hsz : vs.length < 1000) :
    CanV w s₀ h₀ mt F₀ (.call (.builtin "list.pop") ⟨[.ref l], []⟩) d u g F [i] [ςσ l (lstO (vs ++ [y]) e)] (popS i y vs) := by
  obtain ⟨k, hk⟩ := popl_is y vs e
  refine can_up hB (o' := fun k => lstO vs k) (f := Obj.mapSeq fun xs => xs.eraseIdxIfInBounds ((vs ++ [y]).toArray.size - 1)) (k := k) (fun h tk Q ht hl hQ => ?_) hk (by rw [hk]; rfl)
  exact call_meets (S := _) PySem.F.slot_list_pop ⟨_, hl, rfl⟩ PySem.F.entry_list_pop (PySem.F.args_list_pop_1 _) (PySem.MeetsSeq.list_pop_last l _ e y (by simp) (by have := sizeLine_is; simp; omega)) ⟨hl, hQ tk (Nat.le_refl _)⟩
noncomputable def appS (i : Nat) (vs : List Value) : Mine.Spec := ⟨fun x M s t => ⟨.ok (.ret (.none)), [(i, (lstO ((x.l)) (x.n 40)))], [], s, t⟩, fun Z Z x => x.l = vs⟩
theorem app_is (y : Value) (vs : List Value) (e : Nat) : ∃ k, Obj.mapSeq (fun xs => xs.push y) (lstO vs e) = lstO (vs ++ [y]) k := by
  have q : vs.toArray.push y = (vs ++ [y]).toArray := by simp
  exact ⟨if (vs ++ [y]).toArray.size == vs.toArray.size then e else e + 1, by unfold Obj.mapSeq; simp only [q]⟩
theorem can_app (hB : ∀ h, Holds F h → 981 ≤ h.objs.size) {i l e : Nat} {y : Value} {vs : List Value} (hsz : vs.length < 1000) :
    CanV w s₀ h₀ mt F₀ (.call (.builtin "list.append") ⟨[.ref l, y], []⟩) d u g F [i] [ςσ l (lstO vs e)] (appS i (vs ++ [y])) := by
  intro M sz tk hsel h R ht D hR
  obtain ⟨k, hk⟩ := app_is y vs e
  have hi : nth M i = ςσ l (lstO vs e) := (List.cons.inj hsel).1
  refine node_of_wp (call_meets (Q := fun v s' => R (.ok (.ret v)) s') (E := fun Z Z => False) (s := sto s₀ h tk) PySem.F.slot_list_append ⟨_, D.at_ i _ hi, rfl⟩ PySem.F.entry_list_append (PySem.F.args_list_append_2 _ _) (list_append l vs.toArray e y (by have := sizeLine_is; simp; omega)) ⟨D.at_ i _ hi, ?_⟩) (fun Z Z q => q) (fun Z Z q => q.elim)
  have D' := D.update (f := Obj.mapSeq fun xs => xs.push y) hi rfl (by rw [hk]; rfl)
  rw [setN_congr (f' := fun Z => lstO (vs ++ [y]) k) hi hk] at D'
  have e5 : (mkA (fun j => match j with | 40 => k | 41 => (vs ++ [y]).length | _ => 0) (fun Z => 0) (vs ++ [y])).l = vs ++ [y] := mkA_l rfl
  have y' := hR (mkA (fun j => match j with | 40 => k | 41 => (vs ++ [y]).length | _ => 0) (fun Z => 0) (vs ++ [y])) F (h.update l (Obj.mapSeq fun xs => xs.push y)) (fun Z Z e => e) e5
  simp only [appS, e5] at y'
  exact y' D'
noncomputable def slO (lo hi : Value) : Obj := { cls := .type "slice", data := .fields #[lo, hi, .none] }
theorem call_slice {prog : Program} {A : Around} {E : Value → Shared → Prop} {s : Shared} {l sl : Addr} {items : Array Value} {vl vu : Value} {lo hi : Option Int} {Q : Value → Shared → Prop} (hl : s.heap.IsList l items)
    (hs : s.heap.IsSliceOf sl vl vu .none) (pl : IsPart vl lo) (pu : IsPart vu hi)
    (h : Q (.ref s.heap.objs.size) { s with heap := s.heap.push { cls := .type "list", data := .seq (slicePick items lo hi none) } })
    (hsz : items.size ≤ sizeLine) : wpAny (model prog w) A (call (.builtin "list.__getitem__") [.ref l, .ref sl]) Q E s := by
  obtain ⟨o, ho, hc, ne, hd⟩ := id hl
  obtain ⟨os, hos, hcs, hds⟩ := id hs
  have hTs : s.TypeIs (.ref sl) "slice" := ⟨os, hos, hcs⟩
  refine wpAny_call_entry slot_list_getitem hl.typeIs entry_list_getitem ?_ (args_list_getitem _ _)
  show wpAny _ _ (Builtin.List.listSubscript? (.ref sl) >>= _) _ _ s
  refine wpAny_bind ?_
  · unfold Builtin.List.listSubscript?
    refine wpAny_bind (wpAny_specialOf hTs slice_no_index ?_)
    simp only [Option.isNone_none, if_true]
    refine wpAny_pure ?_
    show wpAny _ _ (typeOf (.ref sl) >>= _) _ _ s
    refine wpAny_bind (wpAny_typeOf hTs ?_)
    rw [if_neg δ]
    rw [listSliceParts_eq]
    refine wpAny_bind (wpAny_bind (wpAny_field hos hds (x := .none) rfl (wpAny_bind (wpAny_listPart .none ?_))))
    rw [if_neg (by exact Bool.false_ne_true)]
    refine wpAny_bind (wpAny_field hos hds (x := vl) rfl (wpAny_bind (wpAny_listPart pl ?_)))
    refine wpAny_bind (wpAny_field hos hds (x := vu) rfl (wpAny_bind (wpAny_listPart pu (wpAny_pure ?_))))
    refine wpAny_bind (m := Builtin.List.listItems (.ref l)) ?_
    · unfold Builtin.List.listItems
      refine wpAny_bind (wpAny_seqItems ho hd (wpAny_pure ?_))
      refine wpAny_bind (wpAny_of_eq (sliceIndices_raw lo hi none items.size (by simp)) ?_)
      refine wpAny_bind (wpAny_newObj_type (wpAny_pure ⟨_, rfl, h⟩) (Nat.le_trans (slicePick_size_le items lo hi none) hsz))
noncomputable def newlS (vs : List Value) : Mine.Spec := ⟨ωX (.ref (x.n 2 + 981)) [] [⟨(x.n 2 + 981), (lstO ((x.l)) 0), true⟩], fun Z Z x => x.l = vs⟩
theorem can_slice (hB : ∀ h, Holds F h → 981 ≤ h.objs.size) {i j q q' e : Nat} {vs ys : List Value} {vl vu : Value} {lo hi : Option Int} {o1 o2 : Bool} (hz : vs.length < 1000) (pl : IsPart vl lo) (pu : IsPart vu hi) (hy : slicePick vs.toArray lo hi none = ys.toArray) :
    CanV w s₀ h₀ mt F₀ (.call (.builtin "list.__getitem__") ⟨[.ref q, .ref q'], []⟩) d u g F [i, j] [some ⟨q, lstO vs e, o1⟩, some ⟨q', slO vl vu, o2⟩] (newlS ys) := by
  intro M sz tk hsel h R ht D hR
  have hi' : nth M i = some ⟨q, lstO vs e, o1⟩ := (List.cons.inj hsel).1
  have hj : nth M j = some ⟨q', slO vl vu, o2⟩ := (List.cons.inj (List.cons.inj hsel).2).1
  obtain ⟨z, hz'⟩ := sub981 (hB h D.holds)
  obtain ⟨t, rfl⟩ := sub2050 ht
  have ha : h.get? h.objs.size = none := by
    cases q : h.get? h.objs.size with
    | none => rfl
    | some o => exact absurd (Heap.lt_size q) (Nat.lt_irrefl _)
  have D' := D.newOwn (h' := h.push (lstO ys 0)) (fun b o e => Heap.get?_push_of_some _ e) ha (Heap.get?_push_size _ rfl)
  have e5 : (mkA (fun j => match j with | 0 => z + 1 | 1 => t | 2 => z | 41 => ys.length | _ => 0) (fun Z => 0) ys).l = ys := mkA_l rfl
  have y := hR (mkA (fun j => match j with | 0 => z + 1 | 1 => t | 2 => z | 41 => ys.length | _ => 0) (fun Z => 0) ys) F (h.push (lstO ys 0)) (fun Z Z e => e) e5
  refine node_of_wp (call_slice (Q := fun v s' => R (.ok (.ret v)) s') (E := fun Z Z => False) (s := σt h t) (items := vs.toArray) (vl := vl) (vu := vu) (lo := lo) (hi := hi) ⟨_, D.at_ i _ hi', rfl, e, rfl⟩ ⟨_, D.at_ j _ hj, rfl, rfl⟩ pl pu ?_ (by have := sizeLine_is; simp; omega)) (fun Z Z q => q) (fun Z Z q => q.elim)
  rw [hy]
  show R (.ok (.ret (.ref h.objs.size))) _
  rw [Heap.size_push, hz'] at D'
  rw [hz']
  simp only [newlS, e5] at y
  refine y ?_
  show Rep _ _ _ _ (ε z _ :: M) (z + 1 + 981) _
  rw [show z + 1 + 981 = z + 981 + 1 by omega]
  exact D'
end
noncomputable abbrev e28 : PySem.Expr := sTest (lS28 1)
noncomputable abbrev rbE (fr : Nat) : Env := envF 28 0 431 430 "rebuilt.<locals>." (ψ fr)
section
variable {w : World} {s₀ : Shared} {h₀ : Heap} {F F₁ : Gh} {P : Params} {d u : Nat}
theorem parts_w (hb : BaseIn P F) (hw : w.params = P) (hd : d + 2 < 1000) {b1 b2 b3 fr a z tk : Nat} {o1 o2 o3 : Obj} {t : T} {cs : List Nat} {h : Heap} {Q : Value → Shared → Prop} (S : ShapeAt P F₁ a t cs) (D : Rep h₀ [] F F₁ [ε b1 o1, ε b2 o2, ε b3 o3] (ψ z) h)
    (hQ : ∀ q ep z t h' F₂, F₁.le F₂ → Rep h₀ [] F F₂ [ε q (lstO (refs cs) ep), ε b1 o1, ε b2 o2, ε b3 o3] (ψ z) h' → Q (ρ q) (σt h' t)) :
    wpAny (pwm w) (AA d u true) (methodCall (aBase e28) "parts" (aPos e28) (cPos e28) (rbE fr) (ρ a) 0 [] []) Q (fun Z Z => False) (σt h tk) := by
  have FIN : ∀ (q0 q ep sz' tk' : Nat) (h' : Heap) {F₂ : Gh}, q0 = q + 981 → F₁.le F₂ → 2050 ≤ tk' → Rep h₀ [] F F₂ [⟨q0, lstO (refs cs) ep, true⟩, ε b1 o1, ε b2 o2, ε b3 o3] sz' h' → Q (.ref q0) (sto s₀ h' tk') := by
    intro q0 q ep sz' tk' h' F₂ e l T' D
    subst e
    obtain ⟨z', ez⟩ := D.sz hb
    obtain ⟨t', et⟩ := sub2050 T'
    subst ez et
    exact hQ q ep z' t' h' _ l D
  rcases S with ⟨v, dd, k, x, pv, i1, i2⟩ | ⟨n, dd, k, t, i1, i2⟩ | ⟨n, dd, k, t, i1, i2⟩ | ⟨n, t0, c, dd, k1, k2, t, i1, i2⟩ | ⟨n, t0, c, dd, k1, k2, t, i1, i2⟩ | ⟨n, t0, c, dd, k1, k2, t, i1, i2⟩ | ⟨x1, x2, x3, c, e, f, dd, k1, k2, k3, i1, i2⟩ | ⟨l, p, r, x1, c, dd, k1, k2, k3, k4, t1, t2, t3, q, hl, i1, i2⟩ | ⟨l, r, x1, c, dd, k1, k2, k3, k4, t1, t3, q, hl, i1, i2⟩ | ⟨x1, x2, c, e, dd, k1, k2, q, ⟨el, hl⟩, i1, i2⟩ | ⟨x1, x2, c, e, dd, k, q, ⟨el, hl⟩, i1, i2⟩ | ⟨op, x1, c, dd, k1, k2, t, q, ⟨el, hl⟩, i1, i2⟩ | ⟨op, x1, x2, c, e, dd, k1, k2, t, q, ⟨el, hl⟩, i1, i2⟩ | ⟨n, x1, x2, c, e, dd, k1, k2, k3, t, q, m, ⟨el, hl⟩, hm, i1, i2⟩
  · have D := D.addFz (fz := [(dd + 981, _), (a + 981, _)]) al2
    refine lΛ lfM rb_Pconst fun ξ => ⟨by show d + 0 < 1000; omega, qV (N := ν4) fun h' t' D => ?_⟩
    exact FIN _ (z + 1) _ _ _ _ ω (fun Z Z e => e) (Nat.le_add_left _ _) D
  · have D := D.addFz (fz := [(dd + 981, _), (a + 981, _)]) al2
    refine lΛ lfM rb_Ploc fun ξ => ⟨by show d + 0 < 1000; omega, qV (N := ν4) fun h' t' D => ?_⟩
    exact FIN _ (z + 1) _ _ _ _ ω (fun Z Z e => e) (Nat.le_add_left _ _) D
  · have D := D.addFz (fz := [(dd + 981, _), (a + 981, _)]) al2
    refine lΛ lfM rb_Pglob fun ξ => ⟨by show d + 0 < 1000; omega, qV (N := ν4) fun h' t' D => ?_⟩
    exact FIN _ (z + 1) _ _ _ _ ω (fun Z Z e => e) (Nat.le_add_left _ _) D
  · have D := D.addFz (fz := [(dd + 981, _), (a + 981, _)]) al2
    refine lΛ lfM rb_PsetLoc fun ξ => ⟨by show d + 0 < 1000; omega, qV (N := ν4) fun h' t' D => ?_⟩
    exact FIN _ (z + 1) _ _ _ _ ω (fun Z Z e => e) (Nat.le_add_left _ _) D
  · have D := D.addFz (fz := [(dd + 981, _), (a + 981, _)]) al2
    refine lΛ lfM rb_PsetGlob fun ξ => ⟨by show d + 0 < 1000; omega, qV (N := ν4) fun h' t' D => ?_⟩
    exact FIN _ (z + 1) _ _ _ _ ω (fun Z Z e => e) (Nat.le_add_left _ _) D
  · have D := D.addFz (fz := [(dd + 981, _), (a + 981, _)]) al2
    refine lΛ lfM rb_Pdefine fun ξ => ⟨by show d + 0 < 1000; omega, qV (N := ν4) fun h' t' D => ?_⟩
    exact FIN _ (z + 1) _ _ _ _ ω (fun Z Z e => e) (Nat.le_add_left _ _) D
  · have D := D.addFz (fz := [(dd + 981, _), (a + 981, _)]) al2
    refine lΛ lfM rb_Pite fun ξ => ⟨by show d + 0 < 1000; omega, qV (N := ν4) fun h' t' D => ?_⟩
    exact FIN _ (z + 1) _ _ _ _ ω (fun Z Z e => e) (Nat.le_add_left _ _) D
  · have D := D.addFz (fz := [(dd + 981, _), (a + 981, _)]) al2
    refine lΛ lfM rb_Plam fun ξ => ⟨by show d + 0 < 1000; omega, qV (N := ν4) fun h' t' D => ?_⟩
    exact FIN _ (z + 1) _ _ _ _ ω (fun Z Z e => e) (Nat.le_add_left _ _) D
  · have D := D.addFz (fz := [(dd + 981, _), (a + 981, _)]) al2
    refine lΛ lfM rb_Plam fun ξ => ⟨by show d + 0 < 1000; omega, qV (N := ν4) fun h' t' D => ?_⟩
    exact FIN _ (z + 1) _ _ _ _ ω (fun Z Z e => e) (Nat.le_add_left _ _) D
  · have D := D.addFz (fz := [(q + 981, _), (dd + 981, _), (a + 981, _)]) al3
    refine lΛ lfM rb_Pcall fun ξ => ⟨by show d + 0 < 1000; omega, qV (N := ν4) fun h' t' D => ?_⟩
    exact FIN _ (z + 2) _ _ _ _ ω (fun Z Z e => e) (Nat.le_add_left _ _) D
  · have D := D.addFz (fz := [(q + 981, _), (dd + 981, _), (a + 981, _)]) al3
    refine lfM hb hw (sp := [lstS 4]) rfl δ D (fun ξ => rb_Pseq) fun ξ => ⟨by show d + 0 < 1000; omega, can_list (fun h H => (hb.le D.le).size H) (by have := sizeLine_is; simp; omega), fun F₁ l₁ p₁ => qV (N := ν4) fun h' t' D => ?_⟩
    exact FIN _ _ _ _ _ _ rfl l₁ (Nat.le_add_left _ _) D
  · have D := D.addFz (fz := [(q + 981, _), (dd + 981, _), (a + 981, _)]) al3
    refine lfM hb hw (sp := [lstS 4]) rfl δ D (fun ξ => rb_Pprim1) fun ξ => ⟨by show d + 0 < 1000; omega, can_list (fun h H => (hb.le D.le).size H) (by have := sizeLine_is; simp; omega), fun F₁ l₁ p₁ => qV (N := ν4) fun h' t' D => ?_⟩
    exact FIN _ _ _ _ _ _ rfl l₁ (Nat.le_add_left _ _) D
  · have D := D.addFz (fz := [(q + 981, _), (dd + 981, _), (a + 981, _)]) al3
    refine lfM hb hw (sp := [lstS 4]) rfl δ D (fun ξ => rb_Pprim2) fun ξ => ⟨by show d + 0 < 1000; omega, can_list (fun h H => (hb.le D.le).size H) (by have := sizeLine_is; simp; omega), fun F₁ l₁ p₁ => qV (N := ν4) fun h' t' D => ?_⟩
    exact FIN _ _ _ _ _ _ rfl l₁ (Nat.le_add_left _ _) D
  · have D := D.addFz (fz := [(q + 981, _), (dd + 981, _), (a + 981, _)]) al3
    refine lΛ lfM rb_Pfix fun ξ => ⟨by show d + 0 < 1000; omega, qV (N := ν4) fun h' t' D => ?_⟩
    exact FIN _ (z + 2) _ _ _ _ ω (fun Z Z e => e) (Nat.le_add_left _ _) D
theorem with_w (hb : BaseIn P F) (hw : w.params = P) (hd : d + 306 < 1000) {nd m dl wl fq fr a z tk ef kn kc kd kw kh ki kp kq kf kg : Nat} {o1 o2 : Obj} {lo po pa fi : Value} {t : T} {cs gs : List Nat} {ts : List T} {h : Heap} {Q : Flow → Shared → Prop} (S : ShapeAt P F₁ a t cs) (hk : 0 < (kids t).length) (hlen : gs.length = cs.length) (N : Nodes P F₁ gs ts)
    (D : Rep h₀ [] F F₁ [ε dl o1, ε wl o2, ε fq (lstO (refs gs) ef), ε fr (frm P [("node", kn, ρ nd), ("change", kc, ρ m), ("done", kd, ρ dl), ("waiting", kw, ρ wl), ("here", kh, ρ a), ("is_left", ki, lo), ("parts", kp, po), ("part", kq, pa), ("first", kf, fi), ("fresh", kg, ρ fq)])] (ψ z) h)
    (hQ : ∀ a' z t' h' F₂, F₁.le F₂ → NodeAt P F₂ a' (withK t ts) → Rep h₀ [] F F₂ [ε dl o1, ε wl o2, ε fr (frm P [("node", kn, ρ nd), ("change", kc, ρ m), ("done", kd, ρ dl), ("waiting", kw, ρ wl), ("here", kh, ρ a'), ("is_left", ki, lo), ("parts", kp, po), ("part", kq, pa), ("first", kf, fi), ("fresh", kg, ρ fq)])] (ψ z) h' → Q .next (σt h' t')) :
    wpAny (pwm w) (AA d u true) (execs (sBody (eS28 3)) (rbE fr)) Q (fun Z Z => False) (σt h tk) := by
  have FIN : ∀ (a' sz' tk' : Nat) (h' : Heap) (F₂ : Gh), F₁.le F₂ → 2050 ≤ tk' → NodeAt P F₂ a' (withK t ts) → Rep h₀ [] F F₂ [ε dl o1, ε wl o2, ε fr (frm P [("node", kn, ρ nd), ("change", kc, ρ m), ("done", kd, ρ dl), ("waiting", kw, ρ wl), ("here", kh, ρ a'), ("is_left", ki, lo), ("parts", kp, po), ("part", kq, pa), ("first", kf, fi), ("fresh", kg, ρ fq)])] sz' h' → Q .next (sto s₀ h' tk') := by
    intro a' sz' tk' h' F₂ l T' n D
    obtain ⟨z', ez⟩ := D.sz hb
    obtain ⟨t', et⟩ := sub2050 T'
    subst ez et
    exact hQ a' z' t' h' _ l n D
  rcases S with _ | _ | _ | ⟨n, t0, c, dd, k1, k2, t, i1, i2⟩ | ⟨n, t0, c, dd, k1, k2, t, i1, i2⟩ | ⟨n, t0, c, dd, k1, k2, t, i1, i2⟩ | ⟨x1, x2, x3, c, e, f, dd, k1, k2, k3, i1, i2⟩ | ⟨l, p, r, x1, c, dd, k1, k2, k3, k4, t1, t2, t3, q, hl, i1, i2⟩ | ⟨l, r, x1, c, dd, k1, k2, k3, k4, t1, t3, q, hl, i1, i2⟩ | ⟨x1, x2, c, e, dd, k1, k2, q, ⟨el, hl⟩, i1, i2⟩ | ⟨x1, x2, c, e, dd, k, q, ⟨el, hl⟩, i1, i2⟩ | ⟨op, x1, c, dd, k1, k2, t, q, ⟨el, hl⟩, i1, i2⟩ | ⟨op, x1, x2, c, e, dd, k1, k2, t, q, ⟨el, hl⟩, i1, i2⟩ | ⟨n, x1, x2, c, e, dd, k1, k2, k3, t, q, mm, ⟨el, hl⟩, hm, i1, i2⟩
  · exact absurd hk (by simp [kids])
  · exact absurd hk (by simp [kids])
  · exact absurd hk (by simp [kids])
  · obtain ⟨g0, rfl⟩ := len1 hlen
    have D := D.addFz (fz := [(dd + 981, _), (a + 981, _)]) al2
    refine lΛ lfF rb_WsetLoc fun ξ => ⟨by show d + 0 < 1000; omega, by show d + 306 < 1000; omega, qF (N := ν6) fun h' t' D => ?_⟩
    have D := D.pk [2, 3, 5, 0, 1, 4] (ν3 ++ ν3) rfl
    rw [show z + 981 + 2 = (z + 2) + 981 by omega, show z + 981 + 1 = (z + 1) + 981 by omega, show z + 981 + 4 = (z + 4) + 981 by omega] at D
    obtain ⟨F₂, l₂, H₂, D⟩ := D.fy
    have f0 := H₂ _ (.head _)
    have f1 := H₂ _ μ1
    have f3 := H₂ _ μ2
    refine FIN _ _ _ _ _ l₂ (Nat.le_add_left _ _) ?_ D
    obtain ⟨_, e, n0⟩ := N.one
    have n0 := n0.mono l₂
    rw [e]
    exact ⟨z + 1, _, _, _, _, n0, f1, f0⟩
  · obtain ⟨g0, rfl⟩ := len1 hlen
    have D := D.addFz (fz := [(dd + 981, _), (a + 981, _)]) al2
    refine lΛ lfF rb_WsetGlob fun ξ => ⟨by show d + 0 < 1000; omega, by show d + 306 < 1000; omega, qF (N := ν6) fun h' t' D => ?_⟩
    have D := D.pk [2, 3, 5, 0, 1, 4] (ν3 ++ ν3) rfl
    rw [show z + 981 + 2 = (z + 2) + 981 by omega, show z + 981 + 1 = (z + 1) + 981 by omega, show z + 981 + 4 = (z + 4) + 981 by omega] at D
    obtain ⟨F₂, l₂, H₂, D⟩ := D.fy
    have f0 := H₂ _ (.head _)
    have f1 := H₂ _ μ1
    have f3 := H₂ _ μ2
    refine FIN _ _ _ _ _ l₂ (Nat.le_add_left _ _) ?_ D
    obtain ⟨_, e, n0⟩ := N.one
    have n0 := n0.mono l₂
    rw [e]
    exact ⟨z + 1, _, _, _, _, n0, f1, f0⟩
  · obtain ⟨g0, rfl⟩ := len1 hlen
    have D := D.addFz (fz := [(dd + 981, _), (a + 981, _)]) al2
    refine lΛ lfF rb_Wdefine fun ξ => ⟨by show d + 0 < 1000; omega, by show d + 306 < 1000; omega, qF (N := ν6) fun h' t' D => ?_⟩
    have D := D.pk [2, 3, 5, 0, 1, 4] (ν3 ++ ν3) rfl
    rw [show z + 981 + 2 = (z + 2) + 981 by omega, show z + 981 + 1 = (z + 1) + 981 by omega, show z + 981 + 4 = (z + 4) + 981 by omega] at D
    obtain ⟨F₂, l₂, H₂, D⟩ := D.fy
    have f0 := H₂ _ (.head _)
    have f1 := H₂ _ μ1
    have f3 := H₂ _ μ2
    refine FIN _ _ _ _ _ l₂ (Nat.le_add_left _ _) ?_ D
    obtain ⟨_, e, n0⟩ := N.one
    have n0 := n0.mono l₂
    rw [e]
    exact ⟨z + 1, _, _, _, _, n0, f1, f0⟩
  · obtain ⟨g0, g1, g2, rfl⟩ := len3 hlen
    have D := D.addFz (fz := [(dd + 981, _), (a + 981, _)]) al2
    refine lΛ lfF rb_Wite fun ξ => ⟨by show d + 0 < 1000; omega, by show d + 306 < 1000; omega, qF (N := ν6) fun h' t' D => ?_⟩
    have D := D.pk [2, 3, 5, 0, 1, 4] (ν3 ++ ν3) rfl
    rw [show z + 981 + 2 = (z + 2) + 981 by omega, show z + 981 + 1 = (z + 1) + 981 by omega, show z + 981 + 4 = (z + 4) + 981 by omega] at D
    obtain ⟨F₂, l₂, H₂, D⟩ := D.fy
    have f0 := H₂ _ (.head _)
    have f1 := H₂ _ μ1
    have f3 := H₂ _ μ2
    refine FIN _ _ _ _ _ l₂ (Nat.le_add_left _ _) ?_ D
    obtain ⟨_, _, _, e, n0, n1, n2⟩ := N.three
    have n0 := n0.mono l₂
    have n1 := n1.mono l₂
    have n2 := n2.mono l₂
    rw [e]
    exact ⟨z + 1, _, _, _, _, _, _, n0, n1, n2, f1, f0⟩
  · obtain ⟨g0, rfl⟩ := len1 hlen
    have D := D.addFz (fz := [(dd + 981, _), (a + 981, _)]) al2
    refine lΛ lfF rb_Wlam fun ξ => ⟨by show d + 0 < 1000; omega, by show d + 306 < 1000; omega, qF (N := ν6) fun h' t' D => ?_⟩
    have D := D.pk [2, 3, 5, 0, 1, 4] (ν3 ++ ν3) rfl
    rw [show z + 981 + 2 = (z + 2) + 981 by omega, show z + 981 + 1 = (z + 1) + 981 by omega, show z + 981 + 4 = (z + 4) + 981 by omega] at D
    obtain ⟨F₂, l₂, H₂, D⟩ := D.fy
    have f0 := H₂ _ (.head _)
    have f1 := H₂ _ μ1
    have f3 := H₂ _ μ2
    refine FIN _ _ _ _ _ l₂ (Nat.le_add_left _ _) ?_ D
    obtain ⟨_, e, n0⟩ := N.one
    have n0 := n0.mono l₂
    rw [e]
    exact ⟨z + 1, _, _, _, _, _, _, _, _, q, n0, hl.mono l₂, f1, f0⟩
  · obtain ⟨g0, rfl⟩ := len1 hlen
    have D := D.addFz (fz := [(dd + 981, _), (a + 981, _)]) al2
    refine lΛ lfF rb_Wlam fun ξ => ⟨by show d + 0 < 1000; omega, by show d + 306 < 1000; omega, qF (N := ν6) fun h' t' D => ?_⟩
    have D := D.pk [2, 3, 5, 0, 1, 4] (ν3 ++ ν3) rfl
    rw [show z + 981 + 2 = (z + 2) + 981 by omega, show z + 981 + 1 = (z + 1) + 981 by omega, show z + 981 + 4 = (z + 4) + 981 by omega] at D
    obtain ⟨F₂, l₂, H₂, D⟩ := D.fy
    have f0 := H₂ _ (.head _)
    have f1 := H₂ _ μ1
    have f3 := H₂ _ μ2
    refine FIN _ _ _ _ _ l₂ (Nat.le_add_left _ _) ?_ D
    obtain ⟨_, e, n0⟩ := N.one
    have n0 := n0.mono l₂
    rw [e]
    exact ⟨z + 1, _, _, _, _, _, _, _, q, n0, hl.mono l₂, f1, f0⟩
  · obtain ⟨g0, g1, rfl⟩ := len2 hlen
    have D := D.addFz (fz := [(dd + 981, _), (a + 981, _)]) al2
    refine lΛ lfF rb_Wcall fun ξ => ⟨by show d + 0 < 1000; omega, by show d + 306 < 1000; omega, qF (N := ν7) fun h' t' D => ?_⟩
    have D := D.pk [3, 4, 6, 0, 1, 2, 5] (ν3 ++ ν4) rfl
    rw [show z + 981 + 4 = (z + 4) + 981 by omega, show z + 981 + 3 = (z + 3) + 981 by omega, show z + 981 + 2 = (z + 2) + 981 by omega, show z + 981 + 6 = (z + 6) + 981 by omega] at D
    obtain ⟨F₂, l₂, H₂, D⟩ := D.fy
    have f0 := H₂ _ (.head _)
    have f1 := H₂ _ μ1
    have f2 := H₂ _ μ2
    refine FIN _ _ _ _ _ l₂ (Nat.le_add_left _ _) ?_ D
    obtain ⟨_, _, e, n0, n1⟩ := N.two
    have n0 := n0.mono l₂
    have n1 := n1.mono l₂
    rw [e]
    exact ⟨z + 3, _, _, _, _, z + 2, n0, n1, ⟨_, f2⟩, f1, f0⟩
  · obtain ⟨g0, g1, rfl⟩ := len2 hlen
    have D := D.addFz (fz := [(dd + 981, _), (a + 981, _)]) al2
    refine lΛ lfF rb_Wseq fun ξ => ⟨by show d + 0 < 1000; omega, by show d + 306 < 1000; omega, qF (N := ν6) fun h' t' D => ?_⟩
    have D := D.pk [2, 3, 5, 0, 1, 4] (ν3 ++ ν3) rfl
    rw [show z + 981 + 2 = (z + 2) + 981 by omega, show z + 981 + 1 = (z + 1) + 981 by omega, show z + 981 + 4 = (z + 4) + 981 by omega] at D
    obtain ⟨F₂, l₂, H₂, D⟩ := D.fy
    have f0 := H₂ _ (.head _)
    have f1 := H₂ _ μ1
    have f3 := H₂ _ μ2
    refine FIN _ _ _ _ _ l₂ (Nat.le_add_left _ _) ?_ D
    obtain ⟨_, _, e, n0, n1⟩ := N.two
    have n0 := n0.mono l₂
    have n1 := n1.mono l₂
    rw [e]
    exact ⟨z + 1, _, _, _, fq, n0, n1, ⟨_, f3⟩, f1, f0⟩
  · obtain ⟨g0, rfl⟩ := len1 hlen
    have D := D.addFz (fz := [(dd + 981, _), (a + 981, _)]) al2
    refine lΛ lfF rb_Wprim1 fun ξ => ⟨by show d + 0 < 1000; omega, by show d + 306 < 1000; omega, qF (N := ν6) fun h' t' D => ?_⟩
    have D := D.pk [2, 3, 5, 0, 1, 4] (ν3 ++ ν3) rfl
    rw [show z + 981 + 2 = (z + 2) + 981 by omega, show z + 981 + 1 = (z + 1) + 981 by omega, show z + 981 + 4 = (z + 4) + 981 by omega] at D
    obtain ⟨F₂, l₂, H₂, D⟩ := D.fy
    have f0 := H₂ _ (.head _)
    have f1 := H₂ _ μ1
    have f3 := H₂ _ μ2
    refine FIN _ _ _ _ _ l₂ (Nat.le_add_left _ _) ?_ D
    obtain ⟨_, e, n0⟩ := N.one
    have n0 := n0.mono l₂
    rw [e]
    exact ⟨z + 1, _, _, _, _, fq, n0, ⟨_, f3⟩, f1, f0⟩
  · obtain ⟨g0, g1, rfl⟩ := len2 hlen
    have D := D.addFz (fz := [(dd + 981, _), (a + 981, _)]) al2
    refine lΛ lfF rb_Wprim2 fun ξ => ⟨by show d + 0 < 1000; omega, by show d + 306 < 1000; omega, qF (N := ν6) fun h' t' D => ?_⟩
    have D := D.pk [2, 3, 5, 0, 1, 4] (ν3 ++ ν3) rfl
    rw [show z + 981 + 2 = (z + 2) + 981 by omega, show z + 981 + 1 = (z + 1) + 981 by omega, show z + 981 + 4 = (z + 4) + 981 by omega] at D
    obtain ⟨F₂, l₂, H₂, D⟩ := D.fy
    have f0 := H₂ _ (.head _)
    have f1 := H₂ _ μ1
    have f3 := H₂ _ μ2
    refine FIN _ _ _ _ _ l₂ (Nat.le_add_left _ _) ?_ D
    obtain ⟨_, _, e, n0, n1⟩ := N.two
    have n0 := n0.mono l₂
    have n1 := n1.mono l₂
    rw [e]
    exact ⟨z + 1, _, _, _, _, _, fq, n0, n1, ⟨_, f3⟩, f1, f0⟩
  · obtain ⟨g0, g1, rfl⟩ := len2 hlen
    have D := D.addFz (fz := [(dd + 981, _), (a + 981, _)]) al2
    refine lΛ lfF rb_Wfix fun ξ => ⟨by show d + 0 < 1000; omega, by show d + 306 < 1000; omega, qF (N := ν7) fun h' t' D => ?_⟩
    have D := D.pk [3, 4, 6, 0, 1, 2, 5] (ν3 ++ ν4) rfl
    rw [show z + 981 + 4 = (z + 4) + 981 by omega, show z + 981 + 3 = (z + 3) + 981 by omega, show z + 981 + 2 = (z + 2) + 981 by omega, show z + 981 + 6 = (z + 6) + 981 by omega] at D
    obtain ⟨F₂, l₂, H₂, D⟩ := D.fy
    have f0 := H₂ _ (.head _)
    have f1 := H₂ _ μ1
    have f2 := H₂ _ μ2
    refine FIN _ _ _ _ _ l₂ (Nat.le_add_left _ _) ?_ D
    obtain ⟨_, _, e, n0, n1⟩ := N.two
    have n0 := n0.mono l₂
    have n1 := n1.mono l₂
    rw [e]
    exact ⟨z + 3, _, _, _, _, _, _, z + 2, mm, n0, n1, ⟨_, f2⟩, hm.mono l₂, f1, f0⟩
end
noncomputable abbrev k4 (nd m dl wl kn kc kd kw : Nat) (r : KV) : KV := ("node", kn, ρ nd) :: ("change", kc, ρ m) :: ("done", kd, ρ dl) :: ("waiting", kw, ρ wl) :: r
noncomputable abbrev k6 (nd m dl wl h kn kc kd kw kh ki : Nat) (lo : Value) (r : KV) : KV := k4 nd m dl wl kn kc kd kw (("here", kh, ρ h) :: ("is_left", ki, lo) :: r)
noncomputable abbrev k7 (nd m dl wl h pq kn kc kd kw kh ki kp : Nat) (lo : Value) (r : KV) : KV := k6 nd m dl wl h kn kc kd kw kh ki lo (("parts", kp, ρ pq) :: r)
section
variable {F₁ : Gh} {d u : Nat} {g : Bool}
theorem can_app' (hB : ∀ h, Holds F h → 981 ≤ h.objs.size) {i l e : Nat} {y : Value} {vs vs' : List Value} (e1 : vs' = vs) (hsz : vs.length < 1000) :
    CanV w s₀ h₀ mt F₀ (.call (.builtin "list.append") ⟨[.ref l, y], []⟩) d u g F [i] [ςσ l (lstO vs' e)] (appS i (vs ++ [y])) := by
  subst e1
  exact can_app hB hsz
theorem refs_app (as bs : List Nat) : refs (as ++ bs) = refs as ++ refs bs := List.map_append
theorem refs_len (as : List Nat) : (refs as).length = as.length := by simp [refs]
theorem refs_rev (a : Nat) (as : List Nat) : refs (a :: as).reverse = refs as.reverse ++ [ρ a] := by simp [refs]
def Tail (r : KV) : Prop := r = [] ∨ ∃ (k1 k2 : Nat) (v1 v2 : Value), r = ([(PySem.Str.ofString "first", k1, v1), (PySem.Str.ofString "fresh", k2, v2)] : KV)
noncomputable def Parts (P : Params) (F : Gh) : List Nat → List Nat → Prop
  | [], [] => True
  | i :: is, c :: cs => F (ψ i) (tupO [ρ c, .bool false]) ∧ Parts P F is cs
  | _, _ => False
theorem Parts.items {is cs its : List Nat} {ks : List T} {s : List (T × Bool)} (h : Parts P F is cs) (n : Nodes P F cs ks) (r : Items P F its s) : Items P F (is ++ its) (ks.map (fun k => (k, false)) ++ s) := by
  induction n generalizing is with
  | nil => cases is with
    | nil => exact r
    | cons _ _ => exact h.elim
  | cons n _ ih => cases is with
    | nil => exact h.elim
    | cons i is => exact .cons h.1 n (ih h.2)
theorem push_w (hb : BaseIn P F) (hw : w.params = P) {nd m dl wl x pq fr kn kc kd kw kh ki kp z tk ed ew ep : Nat} {ds : List Value} {its cs : List Nat} {rest : KV} {h : Heap} {Q : Flow → Shared → Prop} (hc : 0 < cs.length) (h3 : cs.length ≤ 3) (hz : its.length + 4 < 1000) (hr : rest = [] ∨ ∃ (k : Nat) (v : Value) (r : KV), rest = ((PySem.Str.ofString "part", k, v) :: r : KV) ∧ Tail r)
    (D : Rep h₀ [] F F₁ [ε dl (lstO ds ed), ε wl (lstO (refs its.reverse) ew), ε pq (lstO (refs cs) ep), ε fr (frm P (k7 nd m dl wl x pq kn kc kd kw kh ki kp βF rest))] (ψ z) h)
    (hQ : ∀ is it e' k v r z t h' F₂, F₁.le F₂ → Tail r → Parts P F₂ is cs → F₂ (ψ it) (tupO [ρ x, .bool true]) → Rep h₀ [] F F₂ [ε dl (lstO ds ed), ε wl (lstO (refs (is ++ it :: its).reverse) e'), ε fr (frm P (k7 nd m dl wl x pq kn kc kd kw kh ki kp βF (("part", k, v) :: r)))] (ψ z) h' → Q .next (σt h' t)) :
    wpAny (pwm w) (AA d u true) (execs (sBody (lS28 2)) (rbE fr)) Q (fun Z Z => False) (σt h tk) := by
  have hl : (refs its.reverse).length = its.length := by simp [refs]
  have B₁ : ∀ h, Holds F₁ h → 981 ≤ h.objs.size := fun h H => (hb.le D.le).size H
  have S1 : ∀ c0, cs = [c0] → wpAny (pwm w) (AA d u true) (execs (sBody (lS28 2)) (rbE fr)) Q (fun Z Z => False) (σt h tk) := by
    rintro c0 rfl
    rcases hr with rfl | ⟨k, v, r, rfl, hT⟩
    · refine lfF hb hw (sp := [appS 2 (refs its.reverse ++ [ρ z]), appS 6 ((refs its.reverse ++ [ρ z]) ++ [.ref (z + 981 + 4)])]) rfl δ D (fun ξ => rb_E01) fun ξ => ⟨can_app' B₁ rfl ω, fun G0 l0 p0 => ⟨can_app' (fun h H => B₁ h (fun a o e => H a o (l0 _ _ (e)))) p0 (by simp only [List.length_append, List.length_singleton]; omega), fun G1 l1 p1 => qFz hb (N := ν5) fun h' z9 t9 D => ?_⟩⟩
      rw [show (ξ 1).l = _ from p1] at D
      have D := D.pk [2, 3, 4, 0, 1] (ν3 ++ [_, _]) rfl
      obtain ⟨F₂, l₂, H₂, D⟩ := D.fy
      have f0 := H₂ _ (.head _)
      have f1 := H₂ _ μ1
      have el : refs ([(z + 4)] ++ z :: its).reverse = ((refs its.reverse ++ [ρ z]) ++ [.ref (z + 981 + 4)]) := by
        simp only [List.cons_append, List.nil_append, refs_rev, show z + 4 + 981 = z + 981 + 4 by omega]
      rw [← el] at D
      exact hQ [(z + 4)] z _ _ _ _ z9 t9 _ F₂ (fun Z Z e => l₂ _ _ (l1 _ _ (l0 _ _ (e)))) (.inl rfl) ⟨by rw [show z + 4 + 981 = z + 981 + 4 by omega]; exact f0, trivial⟩ f1 D
    · refine lfF hb hw (sp := [appS 2 (refs its.reverse ++ [ρ z]), appS 6 ((refs its.reverse ++ [ρ z]) ++ [.ref (z + 981 + 4)])]) rfl δ D (fun ξ => rb_E81) fun ξ => ⟨can_app' B₁ rfl ω, fun G0 l0 p0 => ⟨can_app' (fun h H => B₁ h (fun a o e => H a o (l0 _ _ (e)))) p0 (by simp only [List.length_append, List.length_singleton]; omega), fun G1 l1 p1 => qFz hb (N := ν5) fun h' z9 t9 D => ?_⟩⟩
      rw [show (ξ 1).l = _ from p1] at D
      have D := D.pk [2, 3, 4, 0, 1] (ν3 ++ [_, _]) rfl
      obtain ⟨F₂, l₂, H₂, D⟩ := D.fy
      have f0 := H₂ _ (.head _)
      have f1 := H₂ _ μ1
      have el : refs ([(z + 4)] ++ z :: its).reverse = ((refs its.reverse ++ [ρ z]) ++ [.ref (z + 981 + 4)]) := by
        simp only [List.cons_append, List.nil_append, refs_rev, show z + 4 + 981 = z + 981 + 4 by omega]
      rw [← el] at D
      exact hQ [(z + 4)] z _ _ _ _ z9 t9 _ F₂ (fun Z Z e => l₂ _ _ (l1 _ _ (l0 _ _ (e)))) hT ⟨by rw [show z + 4 + 981 = z + 981 + 4 by omega]; exact f0, trivial⟩ f1 D
  have S2 : ∀ c0 c1, cs = [c0, c1] → wpAny (pwm w) (AA d u true) (execs (sBody (lS28 2)) (rbE fr)) Q (fun Z Z => False) (σt h tk) := by
    rintro c0 c1 rfl
    rcases hr with rfl | ⟨k, v, r, rfl, hT⟩
    · refine lfF hb hw (sp := [appS 2 (refs its.reverse ++ [ρ z]), appS 6 ((refs its.reverse ++ [ρ z]) ++ [.ref (z + 981 + 4)]), appS 7 (((refs its.reverse ++ [ρ z]) ++ [.ref (z + 981 + 4)]) ++ [.ref (z + 981 + 5)])]) rfl δ D (fun ξ => rb_E02) fun ξ => ⟨can_app' B₁ rfl ω, fun G0 l0 p0 => ⟨can_app' (fun h H => B₁ h (fun a o e => H a o (l0 _ _ (e)))) p0 (by simp only [List.length_append, List.length_singleton]; omega), fun G1 l1 p1 => ⟨can_app' (fun h H => B₁ h (fun a o e => H a o (l1 _ _ (l0 _ _ (e))))) p1 (by simp only [List.length_append, List.length_singleton]; omega), fun G2 l2 p2 => qFz hb (N := ν6) fun h' z9 t9 D => ?_⟩⟩⟩
      rw [show (ξ 2).l = _ from p2] at D
      have D := D.pk [3, 4, 5, 0, 1, 2] (ν3 ++ ν3) rfl
      obtain ⟨F₂, l₂, H₂, D⟩ := D.fy
      have f0 := H₂ _ (.head _)
      have f1 := H₂ _ μ1
      have f2 := H₂ _ μ2
      have el : refs ([(z + 5), (z + 4)] ++ z :: its).reverse = (((refs its.reverse ++ [ρ z]) ++ [.ref (z + 981 + 4)]) ++ [.ref (z + 981 + 5)]) := by
        simp only [List.cons_append, List.nil_append, refs_rev, show z + 4 + 981 = z + 981 + 4 by omega, show z + 5 + 981 = z + 981 + 5 by omega]
      rw [← el] at D
      exact hQ [(z + 5), (z + 4)] z _ _ _ _ z9 t9 _ F₂ (fun Z Z e => l₂ _ _ (l2 _ _ (l1 _ _ (l0 _ _ (e))))) (.inl rfl) ⟨by rw [show z + 5 + 981 = z + 981 + 5 by omega]; exact f0, by rw [show z + 4 + 981 = z + 981 + 4 by omega]; exact f1, trivial⟩ f2 D
    · refine lfF hb hw (sp := [appS 2 (refs its.reverse ++ [ρ z]), appS 6 ((refs its.reverse ++ [ρ z]) ++ [.ref (z + 981 + 4)]), appS 7 (((refs its.reverse ++ [ρ z]) ++ [.ref (z + 981 + 4)]) ++ [.ref (z + 981 + 5)])]) rfl δ D (fun ξ => rb_E82) fun ξ => ⟨can_app' B₁ rfl ω, fun G0 l0 p0 => ⟨can_app' (fun h H => B₁ h (fun a o e => H a o (l0 _ _ (e)))) p0 (by simp only [List.length_append, List.length_singleton]; omega), fun G1 l1 p1 => ⟨can_app' (fun h H => B₁ h (fun a o e => H a o (l1 _ _ (l0 _ _ (e))))) p1 (by simp only [List.length_append, List.length_singleton]; omega), fun G2 l2 p2 => qFz hb (N := ν6) fun h' z9 t9 D => ?_⟩⟩⟩
      rw [show (ξ 2).l = _ from p2] at D
      have D := D.pk [3, 4, 5, 0, 1, 2] (ν3 ++ ν3) rfl
      obtain ⟨F₂, l₂, H₂, D⟩ := D.fy
      have f0 := H₂ _ (.head _)
      have f1 := H₂ _ μ1
      have f2 := H₂ _ μ2
      have el : refs ([(z + 5), (z + 4)] ++ z :: its).reverse = (((refs its.reverse ++ [ρ z]) ++ [.ref (z + 981 + 4)]) ++ [.ref (z + 981 + 5)]) := by
        simp only [List.cons_append, List.nil_append, refs_rev, show z + 4 + 981 = z + 981 + 4 by omega, show z + 5 + 981 = z + 981 + 5 by omega]
      rw [← el] at D
      exact hQ [(z + 5), (z + 4)] z _ _ _ _ z9 t9 _ F₂ (fun Z Z e => l₂ _ _ (l2 _ _ (l1 _ _ (l0 _ _ (e))))) hT ⟨by rw [show z + 5 + 981 = z + 981 + 5 by omega]; exact f0, by rw [show z + 4 + 981 = z + 981 + 4 by omega]; exact f1, trivial⟩ f2 D
  have S3 : ∀ c0 c1 c2, cs = [c0, c1, c2] → wpAny (pwm w) (AA d u true) (execs (sBody (lS28 2)) (rbE fr)) Q (fun Z Z => False) (σt h tk) := by
    rintro c0 c1 c2 rfl
    rcases hr with rfl | ⟨k, v, r, rfl, hT⟩
    · refine lfF hb hw (sp := [appS 2 (refs its.reverse ++ [ρ z]), appS 6 ((refs its.reverse ++ [ρ z]) ++ [.ref (z + 981 + 4)]), appS 7 (((refs its.reverse ++ [ρ z]) ++ [.ref (z + 981 + 4)]) ++ [.ref (z + 981 + 5)]), appS 8 ((((refs its.reverse ++ [ρ z]) ++ [.ref (z + 981 + 4)]) ++ [.ref (z + 981 + 5)]) ++ [.ref (z + 981 + 6)])]) rfl δ D (fun ξ => rb_E03) fun ξ => ⟨can_app' B₁ rfl ω, fun G0 l0 p0 => ⟨can_app' (fun h H => B₁ h (fun a o e => H a o (l0 _ _ (e)))) p0 (by simp only [List.length_append, List.length_singleton]; omega), fun G1 l1 p1 => ⟨can_app' (fun h H => B₁ h (fun a o e => H a o (l1 _ _ (l0 _ _ (e))))) p1 (by simp only [List.length_append, List.length_singleton]; omega), fun G2 l2 p2 => ⟨can_app' (fun h H => B₁ h (fun a o e => H a o (l2 _ _ (l1 _ _ (l0 _ _ (e)))))) p2 (by simp only [List.length_append, List.length_singleton]; omega), fun G3 l3 p3 => qFz hb (N := ν7) fun h' z9 t9 D => ?_⟩⟩⟩⟩
      rw [show (ξ 3).l = _ from p3] at D
      have D := D.pk [4, 5, 6, 0, 1, 2, 3] (ν3 ++ ν4) rfl
      obtain ⟨F₂, l₂, H₂, D⟩ := D.fy
      have f0 := H₂ _ (.head _)
      have f1 := H₂ _ μ1
      have f2 := H₂ _ μ2
      have f3 := H₂ _ μ3
      have el : refs ([(z + 6), (z + 5), (z + 4)] ++ z :: its).reverse = ((((refs its.reverse ++ [ρ z]) ++ [.ref (z + 981 + 4)]) ++ [.ref (z + 981 + 5)]) ++ [.ref (z + 981 + 6)]) := by
        simp only [List.cons_append, List.nil_append, refs_rev, show z + 4 + 981 = z + 981 + 4 by omega, show z + 5 + 981 = z + 981 + 5 by omega, show z + 6 + 981 = z + 981 + 6 by omega]
      rw [← el] at D
      exact hQ [(z + 6), (z + 5), (z + 4)] z _ _ _ _ z9 t9 _ F₂ (fun Z Z e => l₂ _ _ (l3 _ _ (l2 _ _ (l1 _ _ (l0 _ _ (e)))))) (.inl rfl) ⟨by rw [show z + 6 + 981 = z + 981 + 6 by omega]; exact f0, by rw [show z + 5 + 981 = z + 981 + 5 by omega]; exact f1, by rw [show z + 4 + 981 = z + 981 + 4 by omega]; exact f2, trivial⟩ f3 D
    · refine lfF hb hw (sp := [appS 2 (refs its.reverse ++ [ρ z]), appS 6 ((refs its.reverse ++ [ρ z]) ++ [.ref (z + 981 + 4)]), appS 7 (((refs its.reverse ++ [ρ z]) ++ [.ref (z + 981 + 4)]) ++ [.ref (z + 981 + 5)]), appS 8 ((((refs its.reverse ++ [ρ z]) ++ [.ref (z + 981 + 4)]) ++ [.ref (z + 981 + 5)]) ++ [.ref (z + 981 + 6)])]) rfl δ D (fun ξ => rb_E83) fun ξ => ⟨can_app' B₁ rfl ω, fun G0 l0 p0 => ⟨can_app' (fun h H => B₁ h (fun a o e => H a o (l0 _ _ (e)))) p0 (by simp only [List.length_append, List.length_singleton]; omega), fun G1 l1 p1 => ⟨can_app' (fun h H => B₁ h (fun a o e => H a o (l1 _ _ (l0 _ _ (e))))) p1 (by simp only [List.length_append, List.length_singleton]; omega), fun G2 l2 p2 => ⟨can_app' (fun h H => B₁ h (fun a o e => H a o (l2 _ _ (l1 _ _ (l0 _ _ (e)))))) p2 (by simp only [List.length_append, List.length_singleton]; omega), fun G3 l3 p3 => qFz hb (N := ν7) fun h' z9 t9 D => ?_⟩⟩⟩⟩
      rw [show (ξ 3).l = _ from p3] at D
      have D := D.pk [4, 5, 6, 0, 1, 2, 3] (ν3 ++ ν4) rfl
      obtain ⟨F₂, l₂, H₂, D⟩ := D.fy
      have f0 := H₂ _ (.head _)
      have f1 := H₂ _ μ1
      have f2 := H₂ _ μ2
      have f3 := H₂ _ μ3
      have el : refs ([(z + 6), (z + 5), (z + 4)] ++ z :: its).reverse = ((((refs its.reverse ++ [ρ z]) ++ [.ref (z + 981 + 4)]) ++ [.ref (z + 981 + 5)]) ++ [.ref (z + 981 + 6)]) := by
        simp only [List.cons_append, List.nil_append, refs_rev, show z + 4 + 981 = z + 981 + 4 by omega, show z + 5 + 981 = z + 981 + 5 by omega, show z + 6 + 981 = z + 981 + 6 by omega]
      rw [← el] at D
      exact hQ [(z + 6), (z + 5), (z + 4)] z _ _ _ _ z9 t9 _ F₂ (fun Z Z e => l₂ _ _ (l3 _ _ (l2 _ _ (l1 _ _ (l0 _ _ (e)))))) hT ⟨by rw [show z + 6 + 981 = z + 981 + 6 by omega]; exact f0, by rw [show z + 5 + 981 = z + 981 + 5 by omega]; exact f1, by rw [show z + 4 + 981 = z + 981 + 4 by omega]; exact f2, trivial⟩ f3 D
  rcases cs3 hc h3 with ⟨c0, e⟩ | ⟨c0, c1, e⟩ | ⟨c0, c1, c2, e⟩
  · exact S1 c0 e
  · exact S2 c0 c1 e
  · exact S3 c0 c1 c2 e
end
theorem rb_el : sElse (lS28 2) = (sElse (lS28 2)).take 3 ++ (eS28 3 :: (sElse (lS28 2)).drop 4) := κR
theorem rb_ei : isIf (eS28 3) := by delta isIf; kernel_rfl
theorem rb_ee : sElse (eS28 3) = [] := κR
section
variable {F₁ : Gh} {d u : Nat} {g : Bool}
theorem ShapeAt.mono {F' : Gh} (l : F.le F') {t : T} {a : Nat} {cs : List Nat} (h : ShapeAt P F a t cs) : ShapeAt P F' a t cs := by
  cases h with
  | const v d k x p h => exact .const v d k x (p.mono l) (h.mono l)
  | loc n d k t h => exact .loc n d k t (h.mono l)
  | glob n d k t h => exact .glob n d k t (h.mono l)
  | setLoc n x c d k1 k2 t h => exact .setLoc n x c d k1 k2 t (h.mono l)
  | setGlob n x c d k1 k2 t h => exact .setGlob n x c d k1 k2 t (h.mono l)
  | define n x c d k1 k2 t h => exact .define n x c d k1 k2 t (h.mono l)
  | ite x y z c e f d k1 k2 k3 h => exact .ite x y z c e f d k1 k2 k3 (h.mono l)
  | lam l' p r x c d k1 k2 k3 k4 t1 t2 t3 q y h => exact .lam l' p r x c d k1 k2 k3 k4 t1 t2 t3 q (y.mono l) (h.mono l)
  | lam0 l' r x c d k1 k2 k3 k4 t1 t3 q y h => exact .lam0 l' r x c d k1 k2 k3 k4 t1 t3 q (y.mono l) (h.mono l)
  | call x z c e d k1 k2 q y h => exact .call x z c e d k1 k2 q (y.mono l) (h.mono l)
  | seq x z c e d k q y h => exact .seq x z c e d k q (y.mono l) (h.mono l)
  | prim1 op x c d k1 k2 t q y h => exact .prim1 op x c d k1 k2 t q (y.mono l) (h.mono l)
  | prim2 op x z c e d k1 k2 t q y h => exact .prim2 op x z c e d k1 k2 t q (y.mono l) (h.mono l)
  | fix n x z c e d k1 k2 k3 t q m y y2 h => exact .fix n x z c e d k1 k2 k3 t q m (y.mono l) (y2.mono l) (h.mono l)
noncomputable abbrev tl (kf kg : Nat) (fi : Value) (fq : Nat) : KV := [("first", kf, fi), ("fresh", kg, ρ fq)]
theorem can_sub' (b : BaseIn P F) (hw : w.params = P) {i j v : Int} {t t' : Nat} (e : i - j = v) : CanV w s₀ h₀ mt F₀ (.call (.builtin "int.__sub__") ⟨[.int i t, .int j t'], []⟩) d u true F [] [] (iS fun Z Z r => r = v) := e ▸ can_sub b hw
theorem can_samel (hb : BaseIn P F) (hw : w.params = P) (hd : d + 2 < 1000) {i j p q ep eq : Nat} (hij : i ≠ j) {as bs : List Nat} (hl : as.length = bs.length) (hz : as.length < 1000)
    (hA : ∀ a ∈ as, ∃ c k, F (ψ a) (ins c k)) (hB : ∀ a ∈ bs, ∃ c k, F (ψ a) (ins c k)) :
    CanV w s₀ h₀ mt F₀ (κC 424 [ρ p, ρ q]) d u true F [i, j] [σ p (lstO (refs as) ep), σ q (lstO (refs bs) eq)] (bS fun Z Z r => r = decide (as = bs)) := by
  refine canV_of_callsR (own := [(p + 981, lstO (refs as) ep), (q + 981, lstO (refs bs) eq)]) (fun h H => hb.size H) (same_calls hb hw d u hd hl hz hA hB) (nd2 hij) fun r F' own' z t l' hm' hP => ?_
  obtain ⟨b, rfl, eb, rfl⟩ := hP
  refine ⟨⟨fun k => match k with | 0 => z | _ => t, fun Z => 0, fun Z => .none, fun Z => default, fun Z => b⟩, [], [], fun M z0 t0 => rfl, fun M hM => ?_, eb, fun i e q => by cases i <;> cases q⟩
  have hi : nth M i = σ p (lstO (refs as) ep) := (List.cons.inj hM).1
  have hj : nth M j = σ q (lstO (refs bs) eq) := (List.cons.inj (List.cons.inj hM).2).1
  show M = setN (fun Z => lstO (refs bs) eq) (setN (fun Z => lstO (refs as) ep) M i) j
  rw [setN_same (e := (ε p (lstO (refs as) ep))) hi, setN_same (e := (ε q (lstO (refs bs) eq))) hj]
noncomputable def appN (P : Params) (i : Nat) (vs : List Value) (t : T) : Mine.Spec := ⟨(appS i []).p, fun Z F' x => ∃ r, x.l = vs ++ [ρ r] ∧ NodeAt P F' r t⟩
theorem can_appN (hB : ∀ h, Holds F h → 981 ≤ h.objs.size) {i l e r : Nat} {vs : List Value} {t : T} (hsz : vs.length < 1000) (n : NodeAt P F r t) :
    CanV w s₀ h₀ mt F₀ (.call (.builtin "list.append") ⟨[.ref l, ρ r], []⟩) d u g F [i] [ςσ l (lstO vs e)] (appN P i vs t) :=
  fun M sz tk hsel h R ht D hR => can_app hB hsz M sz tk hsel h R ht D fun x F' h' l p => hR x F' h' l ⟨r, p, n.mono l⟩
theorem fresh_w (hb : BaseIn P F) (hw : w.params = P) {nd m dl wl x pq fr kn kc kd kw kh ki kp z tk ed ew ep : Nat} {ws : List Value} {dss gs cs : List Nat} {lo : Value} {rest : KV} {h : Heap} {Q : Flow → Shared → Prop} (hlen : gs.length = cs.length) (hz : (dss ++ gs).length < 1000) (hr : rest = [] ∨ ∃ (k : Nat) (v : Value) (r : KV), rest = ((PySem.Str.ofString "part", k, v) :: r : KV) ∧ Tail r)
    (D : Rep h₀ [] F F₁ [ε dl (lstO (refs (dss ++ gs)) ed), ε wl (lstO ws ew), ε pq (lstO (refs cs) ep), ε fr (frm P (k7 nd m dl wl x pq kn kc kd kw kh ki kp lo rest))] (ψ z) h)
    (hQ : ∀ dl' fq kf kg fi (pre : KV) z t h' F₂, F₁.le F₂ → ((pre = [] ∧ rest = []) ∨ ∃ (k : Nat) (v : Value), pre = ([(PySem.Str.ofString "part", k, v)] : KV)) → Rep h₀ [] F F₂ [ε dl' (lstO (refs dss) 0), ε wl (lstO ws ew), ε pq (lstO (refs cs) ep), ε fq (lstO (refs gs) 0), ε fr (frm P (k7 nd m dl' wl x pq kn kc kd kw kh ki kp lo (pre ++ tl kf kg fi fq)))] (ψ z) h' → Q .next (σt h' t)) :
    wpAny (pwm w) (AA d u true) (execs ((sElse (lS28 2)).take 3) (rbE fr)) Q (fun Z Z => False) (σt h tk) := by
  have b₁ := hb.le D.le
  have hl : (dss ++ gs).length = dss.length + gs.length := List.length_append
  have E2 : ∀ i j : Int, i = (refs (dss ++ gs)).length → j = (refs cs).length → i - j = dss.length := by
    intro i j e1 e2
    rw [refs_len] at e1 e2
    omega
  have S1 : ∀ i : Int, i = dss.length → slicePick (refs (dss ++ gs)).toArray (some i) none none = (refs gs).toArray := by
    intro i e
    rw [e, slicePick_from _ _ (by simp [refs])]
    simp [refs]
  have S2 : ∀ i : Int, i = dss.length → slicePick (refs (dss ++ gs)).toArray none (some i) none = (refs dss).toArray := by
    intro i e
    rw [e, slicePick_upto _ _ (by simp [refs])]
    simp [refs]
  have zr : (refs (dss ++ gs)).length < 1000 := by rw [refs_len]; exact hz
  have zc : (refs cs).length < 1000 := by rw [refs_len]; omega
  rcases hr with rfl | ⟨k, v, r, rfl, rfl | ⟨k1, k2, v1, v2, rfl⟩⟩
  · refine leaf (d := d) (u := u) (g := true) (fun f => f) (okay hb w hw) ω (fTr_execs _ _) (sp := [iS fun Z Z r => r = (refs (dss ++ gs)).length, iS fun Z Z r => r = (refs cs).length, iS fun Z Z r => r = dss.length, newlS (refs gs), newlS (refs dss)]) rfl δ D (fun ξ => rb_F5) fun ξ =>
      ⟨can_len (fun h H => b₁.size H) zr, fun G0 l0 p0 => have b0 := b₁.le l0; ⟨can_len (fun h H => b0.size H) zc, fun G1 l1 p1 => have b1 := b0.le l1; ⟨can_sub' b1 hw (E2 _ _ p0 p1), fun G2 l2 p2 => have b2 := b1.le l2; ⟨can_slice (fun h H => b2.size H) zr (.int _ _) .none (S1 _ p2), fun G3 l3 p3 => have b3 := b2.le l3; ⟨can_slice (fun h H => b3.size H) zr .none (.int _ _) (S2 _ p2), fun G4 l4 p4 => ⟨_, rfl, fun a ea h' T' D' => ?_⟩⟩⟩⟩⟩⟩
    cases ea
    have D := D' [_, _, _, _, _, _] rfl
    rw [show (ξ 4).l = refs dss from p4, show (ξ 3).l = refs gs from p3] at D
    have D := D.pk [0, 3, 4, 1, 5] ν5 rfl
    obtain ⟨z9, ez⟩ := D.sz hb
    obtain ⟨t9, et⟩ := sub2050 T'
    rw [ez] at D
    rw [et]
    exact hQ _ _ _ _ _ [] _ _ _ _ (fun Z Z e => l4 _ _ (l3 _ _ (l2 _ _ (l1 _ _ (l0 _ _ e))))) (.inl ⟨rfl, rfl⟩) D
  · refine leaf (d := d) (u := u) (g := true) (fun f => f) (okay hb w hw) ω (fTr_execs _ _) (sp := [iS fun Z Z r => r = (refs (dss ++ gs)).length, iS fun Z Z r => r = (refs cs).length, iS fun Z Z r => r = dss.length, newlS (refs gs), newlS (refs dss)]) rfl δ D (fun ξ => rb_F8) fun ξ =>
      ⟨can_len (fun h H => b₁.size H) zr, fun G0 l0 p0 => have b0 := b₁.le l0; ⟨can_len (fun h H => b0.size H) zc, fun G1 l1 p1 => have b1 := b0.le l1; ⟨can_sub' b1 hw (E2 _ _ p0 p1), fun G2 l2 p2 => have b2 := b1.le l2; ⟨can_slice (fun h H => b2.size H) zr (.int _ _) .none (S1 _ p2), fun G3 l3 p3 => have b3 := b2.le l3; ⟨can_slice (fun h H => b3.size H) zr .none (.int _ _) (S2 _ p2), fun G4 l4 p4 => ⟨_, rfl, fun a ea h' T' D' => ?_⟩⟩⟩⟩⟩⟩
    cases ea
    have D := D' [_, _, _, _, _, _] rfl
    rw [show (ξ 4).l = refs dss from p4, show (ξ 3).l = refs gs from p3] at D
    have D := D.pk [0, 3, 4, 1, 5] ν5 rfl
    obtain ⟨z9, ez⟩ := D.sz hb
    obtain ⟨t9, et⟩ := sub2050 T'
    rw [ez] at D
    rw [et]
    exact hQ _ _ _ _ _ [_] _ _ _ _ (fun Z Z e => l4 _ _ (l3 _ _ (l2 _ _ (l1 _ _ (l0 _ _ e))))) (.inr ⟨_, _, rfl⟩) D
  · refine leaf (d := d) (u := u) (g := true) (fun f => f) (okay hb w hw) ω (fTr_execs _ _) (sp := [iS fun Z Z r => r = (refs (dss ++ gs)).length, iS fun Z Z r => r = (refs cs).length, iS fun Z Z r => r = dss.length, newlS (refs gs), newlS (refs dss)]) rfl δ D (fun ξ => rb_F10) fun ξ =>
      ⟨can_len (fun h H => b₁.size H) zr, fun G0 l0 p0 => have b0 := b₁.le l0; ⟨can_len (fun h H => b0.size H) zc, fun G1 l1 p1 => have b1 := b0.le l1; ⟨can_sub' b1 hw (E2 _ _ p0 p1), fun G2 l2 p2 => have b2 := b1.le l2; ⟨can_slice (fun h H => b2.size H) zr (.int _ _) .none (S1 _ p2), fun G3 l3 p3 => have b3 := b2.le l3; ⟨can_slice (fun h H => b3.size H) zr .none (.int _ _) (S2 _ p2), fun G4 l4 p4 => ⟨_, rfl, fun a ea h' T' D' => ?_⟩⟩⟩⟩⟩⟩
    cases ea
    have D := D' [_, _, _, _, _, _] rfl
    rw [show (ξ 4).l = refs dss from p4, show (ξ 3).l = refs gs from p3] at D
    have D := D.pk [0, 3, 4, 1, 5] ν5 rfl
    obtain ⟨z9, ez⟩ := D.sz hb
    obtain ⟨t9, et⟩ := sub2050 T'
    rw [ez] at D
    rw [et]
    exact hQ _ _ _ _ _ [_] _ _ _ _ (fun Z Z e => l4 _ _ (l3 _ _ (l2 _ _ (l1 _ _ (l0 _ _ e))))) (.inr ⟨_, _, rfl⟩) D
def Mid (r : KV) : Prop := ∃ (kp : Nat) (pv : Value) (k : Nat) (v : Value) (q : KV), r = ((PySem.Str.ofString "parts", kp, pv) :: (PySem.Str.ofString "part", k, v) :: q : KV) ∧ Tail q
theorem done_w (hb : BaseIn P F) (hw : w.params = P) (hd : d + 402 < 1000) (hu : u + 310 < 9900) {nd m dl wl x pq fr kn kc kd kw kh ki kp z tk ed ew ep : Nat} {ws : List Value} {dss gs cs : List Nat} {lo : Value} {rest : KV} {h : Heap} {t : T} {ts : List T} {Q : Flow → Shared → Prop} (hm : Meth P F m) (S : ShapeAt P F₁ x t cs) (NC : Nodes P F₁ cs (kids t)) (N : Nodes P F₁ gs ts) (ok : OkW (withK t ts)) (hlen : gs.length = cs.length) (hz : (dss ++ gs).length < 1000) (hr : rest = [] ∨ ∃ (k : Nat) (v : Value) (r : KV), rest = ((PySem.Str.ofString "part", k, v) :: r : KV) ∧ Tail r) (hr0 : rest = [] → cs = [])
    (D : Rep h₀ [] F F₁ [ε dl (lstO (refs (dss ++ gs)) ed), ε wl (lstO ws ew), ε pq (lstO (refs cs) ep), ε fr (frm P (k7 nd m dl wl x pq kn kc kd kw kh ki kp lo rest))] (ψ z) h)
    (hQ : ∀ dl' ed' x' r rest' z t' h' F₂, F₁.le F₂ → NodeAt P F₂ r (turnT (withK t ts)) → (Mid rest' ∨ rest = []) → Rep h₀ [] F F₂ [ε dl' (lstO (refs (dss ++ [r])) ed'), ε wl (lstO ws ew), ε fr (frm P (k6 nd m dl' wl x' kn kc kd kw kh ki lo rest'))] (ψ z) h' → Q .next (σt h' t')) :
    wpAny (pwm w) (AA d u true) (execs (sElse (lS28 2)) (rbE fr)) Q (fun Z Z => False) (σt h tk) := by
  rw [rb_el]
  refine w_app (fresh_w hb hw hlen hz hr D fun dl' fq kf kg fi pre z t' h' F₂ l₂ hp D => ?_)
  have zd : (refs dss).length < 1000 := by rw [refs_len]; simp only [List.length_append] at hz; omega
  have FIN : ∀ x' (rest' : KV) z t' h' F₃, F₁.le F₃ → NodeAt P F₃ x' (withK t ts) → (Mid rest' ∨ rest = []) → Rep h₀ [] F F₃ [ε dl' (lstO (refs dss) 0), ε wl (lstO ws ew), ε fr (frm P (k6 nd m dl' wl x' kn kc kd kw kh ki lo rest'))] (ψ z) h' → wpAny (pwm w) (AA d u true) (execs ((sElse (lS28 2)).drop 4) (rbE fr)) Q (fun Z Z => False) (σt h' t') := by
    intro x' rest' z t' h' F₃ l₃ n hR D
    have b₃ := hb.le D.le
    obtain ⟨kf', ds', s', m1, m2, m3⟩ := id hm
    have D := D.addFz (fz := [(m + 981, _)]) (al1 (D.le _ _ m3))
    refine leaf (d := d) (u := u) (g := true) (fun f => f) (okay hb w hw) ω (fTr_execs _ _) (sp := [rS fun Z F' r => NodeAt P F' r (turnT (withK t ts)), appN P 0 (refs dss) (turnT (withK t ts))]) rfl δ D (fun ξ => rb_H) fun ξ =>
      ⟨can_ref b₃ (turned_all b₃ hw d u ω ω n (hm.mono D.le) ok), fun G0 l0 p0 => ⟨can_appN (fun h H => (b₃.le l0).size H) zd p0, fun G1 l1 p1 => ⟨_, rfl, fun a ea h'' T' D' => ?_⟩⟩⟩
    cases ea
    have D := D' [_, _, _] rfl
    obtain ⟨r, er, nr⟩ := p1
    rw [show (ξ 1).l = refs (dss ++ [r]) by rw [er, refs_app]; rfl] at D
    obtain ⟨z9, ez⟩ := D.sz hb
    obtain ⟨t9, et⟩ := sub2050 T'
    rw [ez] at D
    rw [et]
    exact hQ _ _ _ _ _ _ _ _ _ (fun Z Z e => l1 _ _ (l0 _ _ (l₃ _ _ e))) nr hR D
  have b₂ := hb.le D.le
  have N₂ := N.mono l₂
  have hA : ∀ a ∈ cs, ∃ c k, F₂ (ψ a) (ins c k) := (NC.mono l₂).ins
  have hB := N₂.ins
  have zc : cs.length < 1000 := by simp only [List.length_append] at hz; omega
  refine w_if rb_ei ?_
  have TEST : ∀ {Q' : Bool → Shared → Prop}, (∀ b z t' h' F₃, F₂.le F₃ → b = !decide (cs = gs) → Rep h₀ [] F F₃ [ε dl' (lstO (refs dss) 0), ε wl (lstO ws ew), ε pq (lstO (refs cs) ep), ε fq (lstO (refs gs) 0), ε fr (frm P (k7 nd m dl' wl x pq kn kc kd kw kh ki kp lo (pre ++ tl kf kg fi fq)))] (ψ z) h' → Q' b (σt h' t')) →
      wpAny (pwm w) (AA d u true) (isTrue (sTest (eS28 3)) (rbE fr) (eval (sTest (eS28 3)) (rbE fr))) Q' (fun Z Z => False) (σt h' t') := by
    intro Q' hQ'
    rcases hp with ⟨rfl, _⟩ | ⟨k, v, rfl⟩
    · refine leaf (d := d) (u := u) (g := true) (fun b => .ret (.bool b)) (okay hb w hw) ω (bTr_isTrue _ _) (sp := [bS fun Z Z r => r = decide (cs = gs)]) rfl δ D (fun ξ => rb_G5) fun ξ => ⟨can_samel b₂ hw ω δ hlen.symm zc hA hB, fun G0 l0 p0 => ⟨_, rfl, fun a ea h'' T' D' => ?_⟩⟩
      have D := D' [_, _, _, _, _] rfl
      obtain ⟨t9, et⟩ := sub2050 T'
      rw [et]
      have ea' : a = !(ξ 0).b 0 := by cases ea; rfl
      exact hQ' _ _ _ _ _ l0 (by rw [ea']; exact congrArg _ p0) D
    · refine leaf (d := d) (u := u) (g := true) (fun b => .ret (.bool b)) (okay hb w hw) ω (bTr_isTrue _ _) (sp := [bS fun Z Z r => r = decide (cs = gs)]) rfl δ D (fun ξ => rb_G10) fun ξ => ⟨can_samel b₂ hw ω δ hlen.symm zc hA hB, fun G0 l0 p0 => ⟨_, rfl, fun a ea h'' T' D' => ?_⟩⟩
      have D := D' [_, _, _, _, _] rfl
      obtain ⟨t9, et⟩ := sub2050 T'
      rw [et]
      have ea' : a = !(ξ 0).b 0 := by cases ea; rfl
      exact hQ' _ _ _ _ _ l0 (by rw [ea']; exact congrArg _ p0) D
  have hp' : ∀ kp' : Nat, Mid ((PySem.Str.ofString "parts", kp', Value.ref (ψ pq)) :: (pre ++ tl kf kg fi fq)) ∨ rest = [] := by
    intro kp'
    rcases hp with ⟨_, q⟩ | ⟨k, v, rfl⟩
    · exact .inr q
    · exact .inl ⟨_, _, _, _, _, rfl, .inr ⟨_, _, _, _, rfl⟩⟩
  refine TEST fun b z t' h' F₃ l₃ eb D => ?_
  have l13 : F₁.le F₃ := fun Z Z e => l₃ _ _ (l₂ _ _ e)
  by_cases hcg : cs = gs
  · have : b = false := by rw [eb]; simp [hcg]
    subst this
    show wpAny _ _ (execs (sElse (eS28 3)) _) _ _ _
    rw [rb_ee]
    refine wpAny_execs_nil ?_
    subst hcg
    have D := D.pk [0, 1, 4] ν3 rfl
    exact FIN x _ _ _ _ _ l13 ((S.node N).mono l13) (hp' kp) D
  · have : b = true := by rw [eb]; simp [hcg]
    subst this
    show wpAny _ _ (execs (sBody (eS28 3)) _) _ _ _
    have hc0 : 0 < cs.length := by
      cases cs with
      | nil => cases gs with
        | nil => exact absurd rfl hcg
        | cons _ _ => simp at hlen
      | cons _ _ => simp
    rcases hp with ⟨_, q⟩ | ⟨k, v, rfl⟩
    · have := hr0 q; subst this; simp at hc0
    have D := D.pk [0, 1, 3, 4] ν4 rfl
    refine with_w hb hw ω (S.mono l13) (by rw [← S.len]; exact hc0) hlen (N.mono l13) D fun a' z t' h' F₄ l₄ n D => ?_
    exact FIN a' _ _ _ _ _ (fun Z Z e => l₄ _ _ (l13 _ _ e)) n (hp' kp) D
end
noncomputable def nP2 : Stmt → Pos × Pos
  | .Assign [.Name _ p] _ q => (p, q)
  | _ => (⟨0, 0, 0, 0⟩, ⟨0, 0, 0, 0⟩)
noncomputable def nmP : PySem.Expr → Pos
  | .Name _ p => p
  | _ => ⟨0, 0, 0, 0⟩
theorem rb_p1 : lS28 1 = .Assign [.Name "parts" (nP2 (lS28 1)).1] (.Call (.Attribute (.Name "here" (nmP (aBase e28))) "parts" (aPos e28)) [] [] (cPos e28)) (nP2 (lS28 1)).2 := κR
theorem rb_p2 : aBase e28 = .Name "here" (nmP (aBase e28)) := κR
theorem rb_bl : sBody (fS 28 0 2) = (sBody (fS 28 0 2)).take 1 ++ [lS28 1, lS28 2] := κR
theorem rb_if : isIf (lS28 2) := by delta isIf; kernel_rfl
theorem w_meth {M : Model} {A : Around} {E : Value → Shared → Prop} {s : Shared} {env : Env} {id name : PySem.Str} {p apos pos : Pos} {Q : Value → Shared → Prop}
    (h : wpAny M A (eval (.Name id p) env) (fun ov s₁ => wpAny M A (methodCall (.Name id p) name apos pos env ov 0 [] []) Q E s₁) E s) : wpAny M A (eval (.Call (.Attribute (.Name id p) name apos) [] [] pos) env) Q E s := by
  have he : eval (.Call (.Attribute (.Name id p) name apos) [] [] pos) env = (do
      let ov ← eval (.Name id p) env
      standAt apos.atName
      methodCall (.Name id p) name apos pos env ov 0 [] []) := by rfl
  rw [he]
  exact wpAny_bind (wpAny_mono h (fun ov s₁ q => wpAny_bind (wpAny_standAt q)) fun Z Z x => x)
def KvOk (nd m dl wl : Nat) (kv : KV) (s : List (T × Bool)) : Prop := (∃ kn kc kd kw t, kv = k4 nd m dl wl kn kc kd kw [] ∧ s = [(t, false)]) ∨ ∃ kn kc kd kw kh ki x lo r, kv = k6 nd m dl wl x kn kc kd kw kh ki lo r ∧ (Mid r ∨ s = [])
section
variable {F₁ : Gh} {d u : Nat} {g : Bool}
theorem can_gtb (b : BaseIn P F) (hw : w.params = P) {i j : Int} {t t' : Nat} : CanV w s₀ h₀ mt F₀ (.call (.builtin "int.__gt__") ⟨[.int i t, .int j t'], []⟩) d u true F [] [] (bS fun Z Z r => r = decide (i > j)) := by
  refine can_bool b (calls_of_run (okay b w hw) (own := []) (fz := []) (sp := []) rfl (fun h H => b.size H) ωp (fun z tk ξ => int_gt) ?_)
  intro h' z tk ξ hz
  exact ⟨_, [], rfl, rfl, ωp, _, rfl, rfl⟩
theorem turn_w (hb : BaseIn P F) (hw : w.params = P) (hd : d + 402 < 1000) (hu : u + 310 < 9900) {nd m dl wl x it fr z tk ed ew : Nat} {ds its : List Nat} {t : T} {b : Bool} {s : List (T × Bool)} {Ds Rz : List T} {kv : KV} {h : Heap} {Q : Flow → Shared → Prop} (hm : Meth P F m)
    (hit : F₁ (ψ it) (tupO [ρ x, .bool b])) (n : NodeAt P F₁ x t) (I : Items P F₁ its s) (N : Nodes P F₁ ds Ds) (R : Run ((t, b) :: s) Ds Rz) (hM : ds.length + meas ((t, b) :: s) < 900) (hk : KvOk nd m dl wl kv ((t, b) :: s))
    (D : Rep h₀ [] F F₁ [ε dl (lstO (refs ds) ed), ε wl (lstO (refs its.reverse ++ [ρ it]) ew), ε fr (frm P kv)] (ψ z) h)
    (hQ : ∀ F₂ dl' ds' Ds' ed' its' s' ew' kv' z t' h', Items P F₂ its' s' → Nodes P F₂ ds' Ds' → Run s' Ds' Rz → ds'.length + meas s' < 900 → meas s' < meas ((t, b) :: s) → KvOk nd m dl' wl kv' s' → Rep h₀ [] F F₂ [ε dl' (lstO (refs ds') ed'), ε wl (lstO (refs its'.reverse) ew'), ε fr (frm P kv')] (ψ z) h' → Q .next (σt h' t')) :
    wpAny (pwm w) (AA d u true) (execs (sBody (fS 28 0 2)) (rbE fr)) Q (fun Z Z => False) (σt h tk) := by
  have hil := I.len
  have hml := meas_len s
  have hmt : 1 ≤ (if b then 1 else 2 * szT t) := by have := sz_pos t; split <;> omega
  have hmc : meas ((t, b) :: s) = (if b then 1 else 2 * szT t) + meas s := rfl
  have zi : its.length + 4 < 1000 := by omega
  have zr : (refs its.reverse).length < 1000 := by rw [refs_len, List.length_reverse]; omega
  have b₁ := hb.le D.le
  rw [rb_bl]
  refine w_app ?_
  have STA : ∀ {Q' : Flow → Shared → Prop}, (∀ kn kc kd kw kh ki e' r z t' h' F₂, F₁.le F₂ → ((r = [] ∧ s = [] ∧ b = false) ∨ Mid r) → Rep h₀ [] F F₂ [ε dl (lstO (refs ds) ed), ε wl (lstO (refs its.reverse) e'), ε fr (frm P (k6 nd m dl wl x kn kc kd kw kh ki (.bool b) r))] (ψ z) h' → Q' .next (σt h' t')) →
      wpAny (pwm w) (AA d u true) (execs ((sBody (fS 28 0 2)).take 1) (rbE fr)) Q' (fun Z Z => False) (σt h tk) := by
    intro Q' hQ'
    have D := D.addFz (fz := [(it + 981, _)]) (al1 hit)
    rcases hk with ⟨kn, kc, kd, kw, t₀, rfl, es⟩ | ⟨kn, kc, kd, kw, kh, ki, x₀, lo, r, rfl, hr⟩
    · refine lfF hb hw (sp := [popS 1 (ρ it) (refs its.reverse)]) rfl δ D (fun ξ => rb_A0) fun ξ => ⟨can_popl (fun h H => b₁.size H) zr, fun G0 l0 p0 => qF (N := ν3) fun h'' t9 D => ?_⟩
      rw [show (ξ 0).n 0 + 981 + 3 = ((ξ 0).n 0 + 3) + 981 by omega] at D
      have e1 := (List.cons.inj es).1
      refine hQ' _ _ _ _ _ _ _ [] _ t9 _ _ l0 (.inl ⟨rfl, (List.cons.inj es).2, congrArg Prod.snd e1⟩) D
    · refine lfF hb hw (sp := [popS 1 (ρ it) (refs its.reverse)]) rfl δ D (fun ξ => rb_A8) fun ξ => ⟨can_popl (fun h H => b₁.size H) zr, fun G0 l0 p0 => qF (N := ν3) fun h'' t9 D => ?_⟩
      rw [show (ξ 0).n 0 + 981 + 3 = ((ξ 0).n 0 + 3) + 981 by omega] at D
      exact hQ' _ _ _ _ _ _ _ r _ t9 _ _ l0 (.inr (hr.resolve_right (by simp))) D
  refine STA fun kn kc kd kw kh ki e₂ r z tk h F₂ l₂ hr D => ?_
  have hit := l₂ _ _ hit
  have n := n.mono l₂
  have I := I.mono l₂
  have N := N.mono l₂
  clear STA b₁ l₂ hk
  obtain ⟨cs, S, NC⟩ := n.shape
  refine wpAny_execs_cons ?_
  rw [rb_p1]
  refine wpAny_Assign_Name (w_meth ?_)
  rw [← rb_p2]
  refine lΛ lfV rb_B fun ξ => qV (N := ν3) fun h' t' D => ?_
  refine parts_w hb hw ω S D fun pq ep z tk h F₃ l₃ D => ?_
  have D := D.pk [1, 2, 0, 3] ν4 rfl
  have STC : ∀ {Q' : Shared → Prop}, (∀ kp r' z t' h', ((r' = [] ∧ s = [] ∧ b = false) ∨ ∃ (k : Nat) (v : Value) (q : KV), r' = ((PySem.Str.ofString "part", k, v) :: q : KV) ∧ Tail q) → Rep h₀ [] F F₃ [ε dl (lstO (refs ds) ed), ε wl (lstO (refs its.reverse) e₂), ε pq (lstO (refs cs) ep), ε fr (frm P (k7 nd m dl wl x pq kn kc kd kw kh ki kp (.bool b) r'))] (ψ z) h' → Q' (σt h' t')) →
      wpAny (pwm w) (AA d u true) (storeName (rbE fr) "parts" (ρ pq)) (fun Z => Q') (fun Z Z => False) (σt h tk) := by
    intro Q' hQ'
    rcases hr with ⟨rfl, es, eb⟩ | ⟨kp, pv, k, v, q, rfl, hT⟩
    · refine lΛ lfW rb_C0 fun ξ => qU (N := ν4) fun h' t9 D => ?_
      exact hQ' _ [] _ t9 _ (.inl ⟨rfl, es, eb⟩) D
    · refine lΛ lfW rb_C8 fun ξ => qU (N := ν4) fun h' t9 D => ?_
      exact hQ' _ _ _ t9 _ (.inr ⟨k, v, q, rfl, hT⟩) D
  refine STC fun kp r z tk h hr D => ?_
  clear STC
  have hit := l₃ _ _ hit
  have n := n.mono l₃
  have I := I.mono l₃
  have N := N.mono l₃
  have S := S.mono l₃
  have NC := NC.mono l₃
  have b₃ := hb.le D.le
  have hcl := S.len
  have h3 : cs.length ≤ 3 := by rw [hcl]; exact kids3 t
  have zc : (refs cs).length < 1000 := by rw [refs_len]; omega
  have hr' : r = [] ∨ ∃ (k : Nat) (v : Value) (q : KV), r = ((PySem.Str.ofString "part", k, v) :: q : KV) ∧ Tail q := hr.imp (fun q => q.1) id
  have DONE : ∀ {dss gs : List Nat} {Dt ts : List T} {b' : Bool} {z tk : Nat} {h : Heap} {F₄ : Gh}, F₃.le F₄ → ds = dss ++ gs → Nodes P F₃ dss Dt → Nodes P F₃ gs ts → OkW (withK t ts) → gs.length = cs.length → (r = [] → cs = [] ∧ s = []) → Run s (Dt ++ [turnT (withK t ts)]) Rz →
      dss.length + 1 + meas s < 900 → Rep h₀ [] F F₄ [ε dl (lstO (refs ds) ed), ε wl (lstO (refs its.reverse) e₂), ε pq (lstO (refs cs) ep), ε fr (frm P (k7 nd m dl wl x pq kn kc kd kw kh ki kp (.bool b') r))] (ψ z) h →
      wpAny (pwm w) (AA d u true) (execs (sElse (lS28 2)) (rbE fr)) (fun f s' => match f with | .next => wpAny (pwm w) (AA d u true) (execs [] (rbE fr)) Q (fun Z Z => False) s' | f => Q f s') (fun Z Z => False) (σt h tk) := by
    intro dss gs Dt ts b' z tk h F₄ l₄ ed' N1 N2 ok hg h0 R' hM' D
    subst ed'
    refine done_w hb hw hd hu hm (S.mono l₄) (NC.mono l₄) (N2.mono l₄) ok hg ω hr' (fun q => (h0 q).1) D fun dl' ed' x' rr rest' z t' h' F₅ l₅ nn hm' D => ?_
    refine wpAny_execs_nil ?_
    refine hQ F₅ dl' (dss ++ [rr]) (Dt ++ [turnT (withK t ts)]) ed' its s e₂ _ z t' h' ((I.mono l₄).mono l₅) (((N1.mono l₄).mono l₅).app (.cons nn .nil)) R' (by simp only [List.length_append, List.length_singleton]; exact hM') ω (.inr ⟨_, _, _, _, _, _, _, _, _, rfl, hm'.imp id fun q => (h0 q).2⟩) D
  refine w_if rb_if ?_
  cases b with
  | false =>
    have R1 : OkW t ∧ Run s (Ds ++ [foldT t]) Rz := by cases R with | one ok R => exact ⟨ok, R⟩
    obtain ⟨ok, R1⟩ := R1
    by_cases hc : 0 < cs.length
    · refine leaf (d := d) (u := u) (g := true) (fun b => .ret (.bool b)) (okay hb w hw) ω (bTr_isTrue _ _) (sp := [iS fun Z Z q => q = (refs cs).length, vS βT]) rfl δ D (fun ξ => rb_D0) fun ξ => ⟨can_len (fun h H => b₃.size H) zc, fun G0 l0 p0 => ⟨can_gt' (b₃.le l0) hw (by
        rw [show (ξ 0).i 0 = (refs cs).length from p0, refs_len]; exact decide_eq_true ω), fun G1 l1 p1 => ⟨_, rfl, fun a ea h'' T' D' => ?_⟩⟩⟩
      cases ea
      have D := D' [_, _, _, _] rfl
      obtain ⟨t9, et⟩ := sub2050 T'
      rw [et]
      show wpAny _ _ (execs (sBody (lS28 2)) _) _ _ _
      have l13 : F₃.le G1 := fun Z Z e => l1 _ _ (l0 _ _ e)
      refine push_w hb hw hc h3 ω hr' D fun is it' e' k v q z t' h' F₅ l₅ hT hP hi D => ?_
      refine wpAny_execs_nil ?_
      have I₅ := (I.mono l13).mono l₅
      have n₅ := (n.mono l13).mono l₅
      refine hQ F₅ dl ds Ds ed (is ++ it' :: its) ((kids t).map (fun k => (k, false)) ++ (t, true) :: s) e' _ z t' h' (hP.items ((NC.mono l13).mono l₅) (.cons hi n₅ I₅)) ((N.mono l13).mono l₅) (R1.push ok ω) ?_ ?_ (.inr ⟨_, _, _, _, _, _, _, _, _, rfl, .inl ⟨_, _, _, _, _, rfl, hT⟩⟩) D
      · have := meas_push t s; omega
      · have := meas_push t s; omega
    · have hc0 : cs = [] := List.eq_nil_of_length_eq_zero ω
      refine leaf (d := d) (u := u) (g := true) (fun b => .ret (.bool b)) (okay hb w hw) ω (bTr_isTrue _ _) (sp := [iS fun Z Z q => q = (refs cs).length, vS βF]) rfl δ D (fun ξ => rb_D2) fun ξ => ⟨can_len (fun h H => b₃.size H) zc, fun G0 l0 p0 => ⟨can_gt' (b₃.le l0) hw (by
        rw [show (ξ 0).i 0 = (refs cs).length from p0, refs_len, hc0]; rfl), fun G1 l1 p1 => ⟨_, rfl, fun a ea h'' T' D' => ?_⟩⟩⟩
      cases ea
      have D := D' [_, _, _, _] rfl
      obtain ⟨t9, et⟩ := sub2050 T'
      rw [et]
      show wpAny _ _ (execs (sElse (lS28 2)) _) _ _ _
      have l13 : F₃.le G1 := fun Z Z e => l1 _ _ (l0 _ _ e)
      obtain ⟨z9, ez⟩ := D.sz hb
      have hk0 : kids t = [] := List.eq_nil_of_length_eq_zero (by rw [← hcl]; omega)
      have ew := okw_with ok
      have ef := foldT_is t
      rw [hk0] at ew ef
      rw [ef] at R1
      have hsz : szT t = 1 := by rw [sz_kids, hk0]; rfl
      exact DONE (dss := ds) (gs := []) (ts := []) l13 (by simp) N .nil ew (by rw [hc0]) (fun q => ⟨hc0, by
        rcases hr with q' | ⟨_, _, _, e, _⟩
        · exact q'.2.1
        · rw [q] at e; cases e⟩) R1 (by simp only [meas] at hM; simp at hM; omega) D
  | true =>
    have R1 : ∃ D₀ c₀, Ds = D₀ ++ c₀ ∧ c₀.length = (kids t).length ∧ OkW (withK t c₀) ∧ Run s (D₀ ++ [turnT (withK t c₀)]) Rz := by cases R with | two hl _ ok R => exact ⟨_, _, rfl, hl, ok, R⟩
    obtain ⟨D₀, c₀, rfl, hl0, ok, R1⟩ := R1
    obtain ⟨dss, gs, e9, N1, N2⟩ := N.split
    have hg := N2.len
    refine lΛ lfB rb_D1 fun ξ => qB (N := ν4) fun h'' t9 D => ?_
    show wpAny _ _ (execs (sElse (lS28 2)) _) _ _ _
    refine DONE (fun Z Z e => e) e9 N1 N2 ok ω (fun q => ?_) R1 (by rw [e9] at hM; simp only [List.length_append, meas] at hM; simp at hM; omega) D
    rcases hr with ⟨_, _, q'⟩ | ⟨_, _, _, e, _⟩
    · cases q'
    · rw [q] at e; cases e
end
theorem rb_fb : fBody (fAt 28 0) = (fBody (fAt 28 0)).take 2 ++ (fS 28 0 2 :: (fBody (fAt 28 0)).drop 3) := κR
theorem rb_w : isWh (fS 28 0 2) := by delta isWh; kernel_rfl
theorem rb_we : sElse (fS 28 0 2) = [] := κR
section
variable {w : World} {s₀ : Shared} {h₀ : Heap} {F F₁ : Gh} {P : Params} {d u : Nat}
def RbI (P : Params) (s₀ : Shared) (h₀ : Heap) (F : Gh) (nd m wl fr : Nat) (Rz : List T) (k : Nat) (s : Shared) : Prop := ∃ F₁ dl ds Ds ed its st ew kv z tk h, s = σt h tk ∧ k = meas st ∧ Items P F₁ its st ∧ Nodes P F₁ ds Ds ∧ Run st Ds Rz ∧ ds.length + meas st < 900 ∧ KvOk nd m dl wl kv st ∧ Rep h₀ [] F F₁ [ε dl (lstO (refs ds) ed), ε wl (lstO (refs its.reverse) ew), ε fr (frm P kv)] (ψ z) h
theorem KvOk.k4 {nd m dl wl : Nat} {kv : KV} {s : List (T × Bool)} (h : KvOk nd m dl wl kv s) : ∃ kn kc kd kw r, kv = Mine.k4 nd m dl wl kn kc kd kw r := by
  rcases h with ⟨kn, kc, kd, kw, t, e, _⟩ | ⟨kn, kc, kd, kw, kh, ki, x, lo, r, e, _⟩
  · exact ⟨_, _, _, _, _, e⟩
  · exact ⟨_, _, _, _, _, e⟩
theorem rb_loop (hb : BaseIn P F) (hw : w.params = P) (hd : d + 402 < 1000) (hu : u + 310 < 9900) {nd m wl fr : Nat} {Rz : List T} (hm : Meth P F m) {R : Result → Shared → Prop}
    (hR : ∀ F₁ dl ds ed its ew kn kc kd kw r z tk h, Nodes P F₁ ds Rz → Rep h₀ [] F F₁ [ε dl (lstO (refs ds) ed), ε wl (lstO its ew), ε fr (frm P (k4 nd m dl wl kn kc kd kw r))] (ψ z) h → R (.ok .next) (σt h tk))
    {n : Nat} {s : Shared} (hI : RbI P s₀ h₀ F nd m wl fr Rz n s) : codeAny (pwm w) (AA d u true) (.whileLoop (sTest (fS 28 0 2)) (sBody (fS 28 0 2)) (sElse (fS 28 0 2)) (rbE fr)) R s := by
  refine codeAny_whileLoop (RbI P s₀ h₀ F nd m wl fr Rz) ?_ n hI
  rintro k s ⟨F₁, dl, ds, Ds, ed, its, st, ew, kv, z, tk, h, rfl, rfl, I, N, RR, hM, hk, D⟩
  obtain ⟨kn, kc, kd, kw, r, ek⟩ := hk.k4
  have hil := I.len
  have hml := meas_len st
  have b₁ := hb.le D.le
  have zr : (refs its.reverse).length < 1000 := by rw [refs_len, List.length_reverse]; omega
  subst ek
  refine leaf (d := d) (u := u) (g := true) (fun b => .ret (.bool b)) (okay hb w hw) ω (bTr_isTrue _ _) (sp := [iS fun Z Z q => q = (refs its.reverse).length, bS fun Z Z q => q = decide ((its.length : Int) > 0)]) rfl δ D (fun ξ => rb_t) fun ξ => ⟨can_len (fun h H => b₁.size H) zr, fun G0 l0 p0 => ⟨by
    rw [show (ξ 0).i 0 = (its.length : Int) by rw [show (ξ 0).i 0 = (refs its.reverse).length from p0, refs_len, List.length_reverse]]
    exact can_gtb (b₁.le l0) hw, fun G1 l1 p1 => ⟨_, rfl, fun a ea h'' T' D' => ?_⟩⟩⟩
  have ea' : a = decide ((its.length : Int) > 0) := by
    have : a = (ξ 1).b 0 := by cases ea; rfl
    rw [this]; exact p1
  have D := D' [_, _, _] rfl
  obtain ⟨t9, et⟩ := sub2050 T'
  rw [et]
  have l : F₁.le G1 := fun Z Z e => l1 _ _ (l0 _ _ e)
  cases I with
  | nil =>
    subst ea'
    show wpAny _ _ (execs (sElse (fS 28 0 2)) _) _ _ _
    rw [rb_we]
    refine wpAny_execs_nil ?_
    cases RR
    exact hR _ _ _ _ _ _ _ _ _ _ _ _ _ _ (N.mono l) D
  | @cons it its n t b st f nn I =>
    have : a = true := by rw [ea']; exact decide_eq_true (by simp only [List.length_cons]; omega)
    subst this
    show wpAny _ _ (execs (sBody (fS 28 0 2)) _) _ _ _
    rw [refs_rev] at D
    refine wpAny_mono (turn_w (Q := fun f s₃ => f = .next ∧ ∃ m', m' < meas ((t, b) :: st) ∧ RbI P s₀ h₀ F nd m wl fr Rz m' s₃) hb hw hd hu hm (l _ _ f) (nn.mono l) (I.mono l) (N.mono l) RR hM hk D fun F₂ dl' ds' Ds' ed' its' s' ew' kv' z t' h' I' N' R' hM' hm' hk' D' => ⟨rfl, _, hm', F₂, dl', ds', Ds', ed', its', s', ew', kv', z, t', h', rfl, rfl, I', N', R', hM', hk', D'⟩) (fun f s' q => ?_) fun Z Z q => q.elim
    obtain ⟨rfl, q⟩ := q
    exact q
def FoldAt (P : Params) (t : T) (F' : Gh) (v : Value) : Prop := ∃ r, v = ρ r ∧ NodeAt P F' r (foldT t)
theorem rebuilt_calls (hb : BaseIn P F) (hw : w.params = P) (d0 u0 : Nat) (hd : d0 + 403 < 1000) (hu : u0 + 313 < 9900) {a m : Nat} {t : T} (n : NodeAt P F a t) (hm : Meth P F m) (ok : OkW t) (hs : 2 * szT t < 900) :
    CallsR w s₀ F [] (κC 431 [ρ a, ρ m]) d0 u0 true fun F' r Z => ∃ v, r = .ok (.ret v) ∧ FoldAt P t F' v := by
  refine callsR_intro (fz := []) (fun h H => hb.size H) ωp fun h z tk R D hR => ?_
  refine code_seg (okayh hb w hw) ω (sp := []) rfl δ D (fun ξ => rb_in) fun ξ => ⟨by show d0 + 0 < 1000; omega, fun h' T' D' => ?_⟩
  have D := D' [_] rfl
  rw [show z + 981 + 1 = (z + 1) + 981 by omega] at D
  obtain ⟨t1, et⟩ := sub2050 T'
  rw [et]
  refine codeAny_func ?_
  rw [rb_fb]
  refine w_app ?_
  refine lΛ lfF rb_i fun ξ => qF (N := ν4) fun h' t2 D => ?_
  have D := D.pk [2, 0, 3, 1] (ν3 ++ [_]) rfl
  obtain ⟨F₂, l₂, H₂, D⟩ := D.fy
  have f0 := H₂ _ (.head _)
  rw [show z + 1 + 981 + 3 = (z + 4) + 981 by omega, show z + 1 + 981 + 2 = (z + 3) + 981 by omega] at D
  have f0' : F₂ ((z + 2) + 981) (tupO [ρ a, .bool false]) := by rw [show z + 2 + 981 = z + 1 + 981 + 1 by omega]; exact f0
  refine wpAny_execs_cons ?_
  rw [(show _ = _ from rb_w)]
  refine wpAny_While ?_
  have e2 : Value.ref (z + 1 + 981 + 1) = .ref (z + 2 + 981) := by rw [show z + 1 + 981 + 1 = z + 2 + 981 by omega]
  rw [e2] at D
  refine rb_loop (s₀ := s₀) (d := d0 + 1) (u := u0 + 3) (Rz := [foldT t]) hb hw ω ω hm (fun F₁ dl ds ed its ew kn kc kd kw r z tk h N D => ?_) ⟨F₂, z + 1, [], [], 0, [z + 2], [(t, false)], 0, _, z + 4, t2, h', rfl, rfl, .cons f0' ((n.mono D.le)) .nil, .nil, .one ok (.nil _), by simp only [meas]; simp; omega, .inl ⟨_, _, _, _, _, rfl, rfl⟩, D⟩
  cases N with
  | cons nn N =>
    cases N
    refine lΛ lfF rb_r fun ξ => qF (N := ν3) fun h' t' D => ?_
    exact hR _ _ _ _ _ _ [] (Nat.le_add_left _ _) D rfl ωp ⟨_, rfl, _, rfl, nn.mono fun Z Z e => .inl e⟩
end
section
variable {F₁ : Gh} {d u : Nat} {g : Bool}
noncomputable def foM (P : Params) (z t : Nat) : List (Option Ent) := [σσ z 1 (dct P [("fold", ((t + 2050) + 5), .ref 952)]), σσ z 2 (ins 894 (ζz 1)), σσ z 4 (mT (.ref 891) (ρz 2))]
theorem addF_in {L : List (Option Ent)} {a : Addr} {o : Obj} {w : Bool} {G : Gh} (h : some (⟨a, o, w⟩ : Ent) ∈ L) : addF [] G L a o := .inr ⟨by simp, w, h⟩
theorem folded_calls (hb : BaseIn P F) (hw : w.params = P) (d0 u0 : Nat) (hd : d0 + 405 < 1000) (hu : u0 + 320 < 9900) {a : Nat} {t : T} (n : NodeAt P F a t) (ok : OkW t) (hs : 2 * szT t < 900) :
    CallsR w s₀ F [] (κC 905 [ρ a, .ref 952]) d0 u0 true fun F' r Z => ∃ v, r = .ok (.ret v) ∧ FoldAt P t F' v := by
  refine callsR_intro (fz := []) (fun h H => hb.size H) ωp fun h z tk R D hR => ?_
  refine code_seg (okay hb w hw) ω (sp := [rS fun Z G r => NodeAt P (addF [] G (foM P z tk)) r (foldT t)]) rfl δ D (fun ξ => folded_t) fun ξ => ⟨by show d0 + 0 < 1000; omega, by show d0 + 306 < 1000; omega, ?_, fun F₁ l₁ p₁ => fun h' T' D' => ?_⟩
  · refine canV_frz (L := foM P z tk) (fun h H => hb.size H) (Post := fun F' v Z Z Z Z Z => FoldAt P t F' v) (Calls.ofR (rebuilt_calls (hb.le addF_le) hw (d0 + 1) (u0 + 3) ω ω (m := z + 4) (n.mono addF_le) ⟨tk + 2050 + 5, z + 1, z + 2, ?_, ?_, ?_⟩ ok hs)) fun v F' z' tk' z1 t1 l hP => ?_
    · rw [show z + 1 + 981 = z + 981 + 1 by omega]; exact addF_in (.head _)
    · rw [show z + 1 + 981 = z + 981 + 1 by omega, show z + 2 + 981 = z + 981 + 2 by omega]; exact addF_in μ1
    · rw [show z + 2 + 981 = z + 981 + 2 by omega, show z + 4 + 981 = z + 981 + 4 by omega]; exact addF_in μ2
    · obtain ⟨r, rfl, q⟩ := hP
      exact ⟨ansOf z1 t1 (fun Z => r) 0 default true, [], fun Z => rfl, fun G l => q.mono l, fun i e q => by cases i <;> cases q⟩
  · have D := D' [_, _, _] rfl
    exact hR _ _ _ _ _ _ [] T' D rfl ωp ⟨_, rfl, _, rfl, p₁⟩
noncomputable def VsAt (P : Params) (F : Gh) (vs : List Value) : Option PV → Prop
  | none => vs = []
  | some p => ∃ v, vs = [v] ∧ PVAt P F v p
inductive DuePost (P : Params) (D : PyData) (V : Option PV) (F' : Gh) (v : Value) : Prop
  | mk (r r1 r2 k : Nat) (vs : List Value) (e : v = ρ r) (f1 : F' (ψ r) (tupO [ρ r1, ρ r2])) (q : DatAt F' (ρ r1) D) (f2 : F' (ψ r2) (lstO vs k)) (h : VsAt P F' vs V)
noncomputable def dueS (D : PyData) : Mine.Spec := ⟨ωX (.ref (x.n 2 + 981)) [] [⟨(x.n 2 + 981), (tupO [.ref (x.n 3 + 981), .ref (x.n 4 + 981)]), false⟩], fun Z F' x => DatAt F' (.ref (x.n 3 + 981)) D⟩
noncomputable def toldS (k : Int) (own kids : PyData) : Mine.Spec := ⟨ωX (.ref (x.n 2 + 981)) [] [⟨(x.n 2 + 981), (tupO [.int (x.i 0) (x.n 50), .ref (x.n 3 + 981), .ref (x.n 4 + 981)]), false⟩], fun Z F' x => x.i 0 = k ∧ DatAt F' (.ref (x.n 3 + 981)) own ∧ DatAt F' (.ref (x.n 4 + 981)) kids ∧ F' (x.n 2 + 981) (tupO [.int (x.i 0) (x.n 50), .ref (x.n 3 + 981), .ref (x.n 4 + 981)])⟩
theorem canV_facts (b : BaseIn P F) {c : Code} {s : Mine.Spec} {Post : Gh → Value → List (Addr × Obj) → Nat → Nat → Nat → Nat → Prop} (hc : Calls w s₀ F [] c d u g Post)
    (hs : ∀ v F' z tk z' t', F.le F' → Post F' v [] z tk (ψ z') (t' + 2050) → ∃ x N, (∀ M, s.p x M z tk = ⟨.ok (.ret v), [], N, z' + 981, t' + 2050⟩) ∧ s.P F F' x ∧ ∀ i e, nth N i = some e → e.own = false ∧ F' e.a e.o) : CanV w s₀ h₀ mt F₀ c d u g F [] [] s := by
  refine canV_of_calls (idx := []) hc List.nodup_nil (fun Z Z => rfl) (fun v F' own' z tk z' tk' M l hm hP h1 h2 Z => ?_) fun h H => b.size H
  obtain rfl : own' = [] := by simpa using hm
  obtain ⟨z1, rfl⟩ := sub981 h1
  obtain ⟨t1, rfl⟩ := sub2050 h2
  obtain ⟨x, N, e, y, n⟩ := hs v F' z tk z1 t1 l hP
  exact ⟨x, N, e M, y, n⟩
theorem can_due (b : BaseIn P F) {c : Code} {D : PyData} {V : Option PV} (hc : Calls w s₀ F [] c d u g fun F' v Z Z Z Z Z => DuePost P D V F' v) : CanV w s₀ h₀ mt F₀ c d u g F [] [] (dueS D) :=
  canV_facts b hc fun v F' z tk z' t' Z hP => by
    obtain ⟨r, r1, r2, k, vs, rfl, f1, q, f2, _⟩ := hP
    exact ⟨ansOf z' t' (fun j => match j with | 2 => r | 3 => r1 | _ => r2) 0 default true, [φ r (tupO [ρ r1, ρ r2])], fun Z => rfl, q, fun i e q => by
      cases i with
      | zero => cases q; exact ⟨rfl, f1⟩
      | succ i => cases i <;> cases q⟩
theorem can_told (b : BaseIn P F) {c : Code} {k : Int} {own kids : PyData} (hc : Calls w s₀ F [] c d u g fun F' v Z Z Z Z Z => ToldPost (.tuple [.int k, own, kids]) F' v) : CanV w s₀ h₀ mt F₀ c d u g F [] [] (toldS k own kids) :=
  canV_facts b hc fun v F' z tk z' t' Z hP => by
    obtain ⟨r, t, r1, r2, k', own', kids', rfl, e, f1, q1, q2⟩ := hP
    injection e with e
    injection e with e1 e
    injection e with e2 e
    injection e with e3 e
    injection e1 with e1
    subst e1 e2 e3
    exact ⟨ansOf z' t' (fun j => match j with | 2 => r | 3 => r1 | 4 => r2 | _ => t) k default true, [φ r (tupO [.int k t, ρ r1, ρ r2])], fun Z => rfl, ⟨rfl, q1, q2, f1⟩, fun i e q => by
      cases i with
      | zero => cases q; exact ⟨rfl, f1⟩
      | succ i => cases i <;> cases q⟩
theorem due_cT_c (v0 : VK) (ku da a : Nat) (hb : BaseIn P F) (hw : w.params = P) (d0 u0 : Nat) (hd : d0 + 3 < 1000) (f0 : F (ψ da) (dct P [("value", ku, (vk v0))])) (f1 : F (ψ a) (ins 66 (ψ da)))  {own kids : PyData} (It : hC 969 [ρ a] 1 3 fun F' v => ToldPost (.tuple [.int 0, own, kids]) F' v) {p : PV} (hp : PVAt P F (vk v0) p) (ha : atB p = true) : χK 974 [ρ a] fun F' v => DuePost P (.tuple [.int 0, own, kids]) (if atB p then some p else none) F' v := by
  refine calls_of_run (okay hb w hw) (own := []) (fz := [((ψ da), (dct P [("value", ku, (vk v0))])), ((ψ a), (ins 66 (ψ da)))])
    (sp := [toldS 0 own kids, vS βT]) rfl (fun h H => hb.size H) ?_ (fun z tk ξ => due_cT) ?_
  · intro p hp; simp only [μμ] at hp; rcases hp with rfl | rfl <;> assumption
  · intro h z tk ξ hz
    have b0 := hb
    have l00 : F.le F := fun Z Z e => e
    exact ⟨by show d0 + 0 < 1000; omega, ⟨can_told b0 (It F l00), fun F1 l1 p1 => have b1 := b0.le l1; have l01 : F.le F1 := fun a o e => l1 a o (l00 a o e); ⟨can_val b1 (by have z := isplain_calls (w := w) (s₀ := s₀) b1 hw (d0 + 1) (u0 + 3) ω (hp.mono l01); rw [ha] at z; exact z), fun F2 l2 p2 => have b2 := b1.le l2; have l02 : F.le F2 := fun a o e => l2 a o (l01 a o e); ⟨_, [], rfl, rfl, ωp, _, _, _, _, _, rfl, σ0, DatAt.tup σ1 (.cons (by rw [show (ξ 0).i 0 = 0 from p1.1]; exact DatAt.int _ _) (.cons (DatAt.mono addF_le (DatAt.mono l2 p1.2.1)) (.cons (DatAt.mono addF_le (DatAt.mono l2 p1.2.2.1)) .nil))), σ2, (by rw [if_pos ha]; exact ⟨_, rfl, hp.mono fun a o e => addF_le a o (l2 a o (l1 a o e))⟩)⟩⟩⟩⟩
theorem due_cF_c (v0 : VK) (ku da a : Nat) (hb : BaseIn P F) (hw : w.params = P) (d0 u0 : Nat) (hd : d0 + 3 < 1000) (f0 : F (ψ da) (dct P [("value", ku, (vk v0))])) (f1 : F (ψ a) (ins 66 (ψ da)))  {own kids : PyData} (It : hC 969 [ρ a] 1 3 fun F' v => ToldPost (.tuple [.int 0, own, kids]) F' v) {p : PV} (hp : PVAt P F (vk v0) p) (ha : atB p = false) : χK 974 [ρ a] fun F' v => DuePost P (.tuple [.int 0, own, kids]) (if atB p then some p else none) F' v :=
  flat hb hw [toldS 0 own kids, vS βF] rfl (φf f0 f1) due_cF fun Z z Z ξ Z => ⟨dl hd, fun F0 l00 b0 Z => can_told b0 (It F0 l00), fun Z l01 b1 Z => can_val b1 (by have z := isplain_calls (w := w) (s₀ := s₀) b1 hw (d0 + 1) (u0 + 3) ω (hp.mono l01); rw [ha] at z; exact z), fun Z Z Z h2 => ⟨_, _, _, _, _, rfl, σ0, DatAt.tup σ1 (.cons (by rw [show (ξ 0).i 0 = 0 from (pY h2.1.2 fun Z Z Z q => q.1)]; exact DatAt.int _ _) (.cons (pY h2.1.2 fun Z Z l q => DatAt.mono addF_le (DatAt.mono l q.2.1)) (.cons (pY h2.1.2 fun Z Z l q => DatAt.mono addF_le (DatAt.mono l q.2.2.1)) .nil))), σ2, (by rw [if_neg (by rw [ha]; decide)]; exact rfl)⟩⟩
theorem due_loc_c (v0 : Value) (kM da a : Nat) (hb : BaseIn P F) (hw : w.params = P) (d0 u0 : Nat) (hd : d0 + 3 < 1000) (f0 : F (ψ da) (dct P [("number", kM, v0)])) (f1 : F (ψ a) (ins 85 (ψ da)))  {own kids : PyData} (It : hC 969 [ρ a] 1 3 fun F' v => ToldPost (.tuple [.int 1, own, kids]) F' v) : χK 974 [ρ a] fun F' v => DuePost P (.tuple [.int 1, own, .tuple []]) none F' v :=
  flat hb hw [toldS 1 own kids, tupS 3] rfl (φf f0 f1) due_loc fun h Z Z ξ Z => ⟨dl hd, dl hd, fun F0 l00 b0 Z => can_told b0 (It F0 l00), γT, fun Z Z Z h2 => ⟨_, _, _, _, _, rfl, σ0, DatAt.tup σ1 (.cons (by rw [show (ξ 0).i 0 = 1 from (pY h2.1.2 fun Z Z Z q => q.1)]; exact DatAt.int _ _) (.cons (pY h2.1.2 fun Z Z l q => DatAt.mono addF_le (DatAt.mono l q.2.1)) (.cons (DatAt.tup (shown μ3) .nil) .nil))), σ2, rfl⟩⟩
theorem due_glob_c (v0 : Value) (kE da a : Nat) (hb : BaseIn P F) (hw : w.params = P) (d0 u0 : Nat) (hd : d0 + 3 < 1000) (f0 : F (ψ da) (dct P [("symbol", kE, v0)])) (f1 : F (ψ a) (ins 104 (ψ da)))  {own kids : PyData} (It : hC 969 [ρ a] 1 3 fun F' v => ToldPost (.tuple [.int 2, own, kids]) F' v) : χK 974 [ρ a] fun F' v => DuePost P (.tuple [.int 2, own, .tuple []]) none F' v :=
  flat hb hw [toldS 2 own kids, tupS 3] rfl (φf f0 f1) due_glob fun h Z Z ξ Z => ⟨dl hd, dl hd, fun F0 l00 b0 Z => can_told b0 (It F0 l00), γT, fun Z Z Z h2 => ⟨_, _, _, _, _, rfl, σ0, DatAt.tup σ1 (.cons (by rw [show (ξ 0).i 0 = 2 from (pY h2.1.2 fun Z Z Z q => q.1)]; exact DatAt.int _ _) (.cons (pY h2.1.2 fun Z Z l q => DatAt.mono addF_le (DatAt.mono l q.2.1)) (.cons (DatAt.tup (shown μ3) .nil) .nil))), σ2, rfl⟩⟩
theorem due_setLoc_c (v0 : Value) (c kM ku da a : Nat) (hb : BaseIn P F) (hw : w.params = P) (d0 u0 : Nat) (hd : d0 + 3 < 1000) (f0 : F (ψ da) (dct P [("number", kM, v0), ("value", ku, ρ c)])) (f1 : F (ψ a) (ins 137 (ψ da))) {Dc : PyData} {Vc : Option PV} (Ic : hC 974 [ρ c] 2 6 fun F' v => DuePost P Dc Vc F' v) {own kids : PyData} (It : hC 969 [ρ a] 1 3 fun F' v => ToldPost (.tuple [.int 3, own, kids]) F' v) : χK 974 [ρ a] fun F' v => DuePost P (.tuple [.int 3, own, .tuple [Dc]]) none F' v :=
  flat hb hw [dueS Dc, toldS 3 own kids, tupS 3] rfl (φf f0 f1) due_setLoc fun h Z Z ξ Z => ⟨dl hd, dl hd, fun F0 l00 b0 Z => can_due b0 (Ic F0 l00), fun F1 l01 b1 Z => can_told b1 (It F1 l01), γT, fun Z Z Z h3 => ⟨_, _, _, _, _, rfl, σ0, DatAt.tup σ1 (.cons (by rw [show (ξ 1).i 0 = 3 from (pY h3.1.2 fun Z Z Z q => q.1)]; exact DatAt.int _ _) (.cons (pY h3.1.2 fun Z Z l q => DatAt.mono addF_le (DatAt.mono l q.2.1)) (.cons (DatAt.tup (shown μ3) (.cons (pY h3.1.1.2 fun Z Z l q => DatAt.mono addF_le (DatAt.mono l q)) .nil)) .nil))), σ2, rfl⟩⟩
theorem due_setGlob_c (v0 : Value) (c kE ku da a : Nat) (hb : BaseIn P F) (hw : w.params = P) (d0 u0 : Nat) (hd : d0 + 3 < 1000) (f0 : F (ψ da) (dct P [("symbol", kE, v0), ("value", ku, ρ c)])) (f1 : F (ψ a) (ins 170 (ψ da))) {Dc : PyData} {Vc : Option PV} (Ic : hC 974 [ρ c] 2 6 fun F' v => DuePost P Dc Vc F' v) {own kids : PyData} (It : hC 969 [ρ a] 1 3 fun F' v => ToldPost (.tuple [.int 4, own, kids]) F' v) : χK 974 [ρ a] fun F' v => DuePost P (.tuple [.int 4, own, .tuple [Dc]]) none F' v :=
  flat hb hw [dueS Dc, toldS 4 own kids, tupS 3] rfl (φf f0 f1) due_setGlob fun h Z Z ξ Z => ⟨dl hd, dl hd, fun F0 l00 b0 Z => can_due b0 (Ic F0 l00), fun F1 l01 b1 Z => can_told b1 (It F1 l01), γT, fun Z Z Z h3 => ⟨_, _, _, _, _, rfl, σ0, DatAt.tup σ1 (.cons (by rw [show (ξ 1).i 0 = 4 from (pY h3.1.2 fun Z Z Z q => q.1)]; exact DatAt.int _ _) (.cons (pY h3.1.2 fun Z Z l q => DatAt.mono addF_le (DatAt.mono l q.2.1)) (.cons (DatAt.tup (shown μ3) (.cons (pY h3.1.1.2 fun Z Z l q => DatAt.mono addF_le (DatAt.mono l q)) .nil)) .nil))), σ2, rfl⟩⟩
theorem due_define_c (v0 : Value) (c kE ku da a : Nat) (hb : BaseIn P F) (hw : w.params = P) (d0 u0 : Nat) (hd : d0 + 3 < 1000) (f0 : F (ψ da) (dct P [("symbol", kE, v0), ("value", ku, ρ c)])) (f1 : F (ψ a) (ins 203 (ψ da))) {Dc : PyData} {Vc : Option PV} (Ic : hC 974 [ρ c] 2 6 fun F' v => DuePost P Dc Vc F' v) {own kids : PyData} (It : hC 969 [ρ a] 1 3 fun F' v => ToldPost (.tuple [.int 5, own, kids]) F' v) : χK 974 [ρ a] fun F' v => DuePost P (.tuple [.int 5, own, .tuple [Dc]]) none F' v :=
  flat hb hw [dueS Dc, toldS 5 own kids, tupS 3] rfl (φf f0 f1) due_define fun h Z Z ξ Z => ⟨dl hd, dl hd, fun F0 l00 b0 Z => can_due b0 (Ic F0 l00), fun F1 l01 b1 Z => can_told b1 (It F1 l01), γT, fun Z Z Z h3 => ⟨_, _, _, _, _, rfl, σ0, DatAt.tup σ1 (.cons (by rw [show (ξ 1).i 0 = 5 from (pY h3.1.2 fun Z Z Z q => q.1)]; exact DatAt.int _ _) (.cons (pY h3.1.2 fun Z Z l q => DatAt.mono addF_le (DatAt.mono l q.2.1)) (.cons (DatAt.tup (shown μ3) (.cons (pY h3.1.1.2 fun Z Z l q => DatAt.mono addF_le (DatAt.mono l q)) .nil)) .nil))), σ2, rfl⟩⟩
theorem due_ite_c (c e f ji jl jp da a : Nat) (hb : BaseIn P F) (hw : w.params = P) (d0 u0 : Nat) (hd : d0 + 3 < 1000) (f0 : F (ψ da) (dct P [("test", ji, ρ c), ("yes", jl, ρ e), ("no", jp, ρ f)])) (f1 : F (ψ a) (ins 236 (ψ da))) {Dc : PyData} {Vc : Option PV} (Ic : hC 974 [ρ c] 2 6 fun F' v => DuePost P Dc Vc F' v) {De : PyData} {Ve : Option PV} (Ie : hC 974 [ρ e] 2 6 fun F' v => DuePost P De Ve F' v) {Df : PyData} {Vf : Option PV} (If : hC 974 [ρ f] 2 6 fun F' v => DuePost P Df Vf F' v) {own kids : PyData} (It : hC 969 [ρ a] 1 3 fun F' v => ToldPost (.tuple [.int 6, own, kids]) F' v) : χK 974 [ρ a] fun F' v => DuePost P (.tuple [.int 6, own, .tuple [Dc, De, Df]]) none F' v :=
  flat hb hw [dueS Dc, dueS De, dueS Df, toldS 6 own kids, tupS 3] rfl (φf f0 f1) due_ite fun h Z Z ξ Z => ⟨dl hd, dl hd, fun F0 l00 b0 Z => can_due b0 (Ic F0 l00), fun F1 l01 b1 Z => can_due b1 (Ie F1 l01), fun F2 l02 b2 Z => can_due b2 (If F2 l02), fun F3 l03 b3 Z => can_told b3 (It F3 l03), γT, fun Z Z Z h5 => ⟨_, _, _, _, _, rfl, σ0, DatAt.tup σ1 (.cons (by rw [show (ξ 3).i 0 = 6 from (pY h5.1.2 fun Z Z Z q => q.1)]; exact DatAt.int _ _) (.cons (pY h5.1.2 fun Z Z l q => DatAt.mono addF_le (DatAt.mono l q.2.1)) (.cons (DatAt.tup (shown μ3) (.cons (pY h5.1.1.1.1.2 fun Z Z l q => DatAt.mono addF_le (DatAt.mono l q)) (.cons (pY h5.1.1.1.2 fun Z Z l q => DatAt.mono addF_le (DatAt.mono l q)) (.cons (pY h5.1.1.2 fun Z Z l q => DatAt.mono addF_le (DatAt.mono l q)) .nil)))) .nil))), σ2, rfl⟩⟩
theorem due_lam_c (v0 v1 v2 : Value) (c jc kV jg kP da a : Nat) (hb : BaseIn P F) (hw : w.params = P) (d0 u0 : Nat) (hd : d0 + 3 < 1000) (f0 : F (ψ da) (dct P [("label", jc, v0), ("params", kV, v1), ("rest", jg, v2), ("body", kP, ρ c)])) (f1 : F (ψ a) (ins 283 (ψ da))) {Dc : PyData} {Vc : Option PV} (Ic : hC 974 [ρ c] 2 6 fun F' v => DuePost P Dc Vc F' v) {own kids : PyData} (It : hC 969 [ρ a] 1 3 fun F' v => ToldPost (.tuple [.int 7, own, kids]) F' v) : χK 974 [ρ a] fun F' v => DuePost P (.tuple [.int 7, own, .tuple [Dc]]) none F' v :=
  flat hb hw [dueS Dc, toldS 7 own kids, tupS 3] rfl (φf f0 f1) due_lam fun h Z Z ξ Z => ⟨dl hd, dl hd, fun F0 l00 b0 Z => can_due b0 (Ic F0 l00), fun F1 l01 b1 Z => can_told b1 (It F1 l01), γT, fun Z Z Z h3 => ⟨_, _, _, _, _, rfl, σ0, DatAt.tup σ1 (.cons (by rw [show (ξ 1).i 0 = 7 from (pY h3.1.2 fun Z Z Z q => q.1)]; exact DatAt.int _ _) (.cons (pY h3.1.2 fun Z Z l q => DatAt.mono addF_le (DatAt.mono l q.2.1)) (.cons (DatAt.tup (shown μ3) (.cons (pY h3.1.1.2 fun Z Z l q => DatAt.mono addF_le (DatAt.mono l q)) .nil)) .nil))), σ2, rfl⟩⟩
theorem due_call_c (c e el l kR kb da a : Nat) (hb : BaseIn P F) (hw : w.params = P) (d0 u0 : Nat) (hd : d0 + 3 < 1000) (f0 : F (ψ l) (lstO [ρ e] el)) (f1 : F (ψ da) (dct P [("operator", kR, ρ c), ("operands", kb, ρ l)])) (f2 : F (ψ a) (ins 316 (ψ da))) {Dc : PyData} {Vc : Option PV} (Ic : hC 974 [ρ c] 2 6 fun F' v => DuePost P Dc Vc F' v) {De : PyData} {Ve : Option PV} (Ie : hC 974 [ρ e] 2 6 fun F' v => DuePost P De Ve F' v) {own kids : PyData} (It : hC 969 [ρ a] 1 3 fun F' v => ToldPost (.tuple [.int 8, own, kids]) F' v) : χK 974 [ρ a] fun F' v => DuePost P (.tuple [.int 8, own, .tuple [Dc, De]]) none F' v :=
  flat hb hw [dueS Dc, dueS De, toldS 8 own kids, tupS 3] rfl (φf f0 f1 f2) due_call fun h Z Z ξ Z => ⟨dl hd, dl hd, fun F0 l00 b0 Z => can_due b0 (Ic F0 l00), fun F1 l01 b1 Z => can_due b1 (Ie F1 l01), fun F2 l02 b2 Z => can_told b2 (It F2 l02), γT, fun Z Z Z h4 => ⟨_, _, _, _, _, rfl, σ0, DatAt.tup σ1 (.cons (by rw [show (ξ 2).i 0 = 8 from (pY h4.1.2 fun Z Z Z q => q.1)]; exact DatAt.int _ _) (.cons (pY h4.1.2 fun Z Z l q => DatAt.mono addF_le (DatAt.mono l q.2.1)) (.cons (DatAt.tup (shown μ3) (.cons (pY h4.1.1.1.2 fun Z Z l q => DatAt.mono addF_le (DatAt.mono l q)) (.cons (pY h4.1.1.2 fun Z Z l q => DatAt.mono addF_le (DatAt.mono l q)) .nil))) .nil))), σ2, rfl⟩⟩
theorem due_seq_c (c e el l jf da a : Nat) (hb : BaseIn P F) (hw : w.params = P) (d0 u0 : Nat) (hd : d0 + 3 < 1000) (f0 : F (ψ l) (lstO [ρ c, ρ e] el)) (f1 : F (ψ da) (dct P [("items", jf, ρ l)])) (f2 : F (ψ a) (ins 349 (ψ da))) {Dc : PyData} {Vc : Option PV} (Ic : hC 974 [ρ c] 2 6 fun F' v => DuePost P Dc Vc F' v) {De : PyData} {Ve : Option PV} (Ie : hC 974 [ρ e] 2 6 fun F' v => DuePost P De Ve F' v) {own kids : PyData} (It : hC 969 [ρ a] 1 3 fun F' v => ToldPost (.tuple [.int 9, own, kids]) F' v) : χK 974 [ρ a] fun F' v => DuePost P (.tuple [.int 9, own, .tuple [Dc, De]]) none F' v :=
  flat hb hw [lstS 2, dueS Dc, dueS De, toldS 9 own kids, tupS 3] rfl (φf f0 f1 f2) due_seq fun h Z Z ξ Z => ⟨dl hd, dl hd, γL, fun F1 l01 b1 Z => can_due b1 (Ic F1 l01), fun F2 l02 b2 Z => can_due b2 (Ie F2 l02), fun F3 l03 b3 Z => can_told b3 (It F3 l03), γT, fun Z Z Z h5 => ⟨_, _, _, _, _, rfl, σ0, DatAt.tup σ1 (.cons (by rw [show (ξ 3).i 0 = 9 from (pY h5.1.2 fun Z Z Z q => q.1)]; exact DatAt.int _ _) (.cons (pY h5.1.2 fun Z Z l q => DatAt.mono addF_le (DatAt.mono l q.2.1)) (.cons (DatAt.tup (shown μ3) (.cons (pY h5.1.1.1.2 fun Z Z l q => DatAt.mono addF_le (DatAt.mono l q)) (.cons (pY h5.1.1.2 fun Z Z l q => DatAt.mono addF_le (DatAt.mono l q)) .nil))) .nil))), σ2, rfl⟩⟩
theorem due_set_c (c e el l t0 kO kb da a : Nat) (hb : BaseIn P F) (hw : w.params = P) (d0 u0 : Nat) (hd : d0 + 3 < 1000) (f0 : F (ψ l) (lstO [ρ c, ρ e] el)) (f1 : F (ψ da) (dct P [("op", kO, .int (13) t0), ("operands", kb, ρ l)])) (f2 : F (ψ a) (ins 382 (ψ da))) {Dc : PyData} {Vc : Option PV} (Ic : hC 974 [ρ c] 2 6 fun F' v => DuePost P Dc Vc F' v) {De : PyData} {Ve : Option PV} (Ie : hC 974 [ρ e] 2 6 fun F' v => DuePost P De Ve F' v) {own kids : PyData} (It : hC 969 [ρ a] 1 3 fun F' v => ToldPost (.tuple [.int 10, own, kids]) F' v) : χK 974 [ρ a] fun F' v => DuePost P (.tuple [.int 10, own, .tuple [Dc, De]]) none F' v :=
  flat hb hw [lstS 2, dueS Dc, dueS De, toldS 10 own kids, tupS 3] rfl (φf f0 f1 f2) due_set fun h Z Z ξ Z => ⟨dl hd, dl hd, γL, fun F1 l01 b1 Z => can_due b1 (Ic F1 l01), fun F2 l02 b2 Z => can_due b2 (Ie F2 l02), fun F3 l03 b3 Z => can_told b3 (It F3 l03), γT, fun Z Z Z h5 => ⟨_, _, _, _, _, rfl, σ0, DatAt.tup σ1 (.cons (by rw [show (ξ 3).i 0 = 10 from (pY h5.1.2 fun Z Z Z q => q.1)]; exact DatAt.int _ _) (.cons (pY h5.1.2 fun Z Z l q => DatAt.mono addF_le (DatAt.mono l q.2.1)) (.cons (DatAt.tup (shown μ3) (.cons (pY h5.1.1.1.2 fun Z Z l q => DatAt.mono addF_le (DatAt.mono l q)) (.cons (pY h5.1.1.2 fun Z Z l q => DatAt.mono addF_le (DatAt.mono l q)) .nil))) .nil))), σ2, rfl⟩⟩
theorem due_fix_c (c el l e : Nat) (v0 : Value) (kX kW kP da a : Nat) (hb : BaseIn P F) (hw : w.params = P) (d0 u0 : Nat) (hd : d0 + 3 < 1000) (f0 : F (ψ l) (lstO [ρ c] el)) (f1 : F (ψ da) (dct P [("numbers", kX, v0), ("lambdas", kW, ρ l), ("body", kP, ρ e)])) (f2 : F (ψ a) (ins 415 (ψ da))) {Dc : PyData} {Vc : Option PV} (Ic : hC 974 [ρ c] 2 6 fun F' v => DuePost P Dc Vc F' v) {De : PyData} {Ve : Option PV} (Ie : hC 974 [ρ e] 2 6 fun F' v => DuePost P De Ve F' v) {own kids : PyData} (It : hC 969 [ρ a] 1 3 fun F' v => ToldPost (.tuple [.int 11, own, kids]) F' v) : χK 974 [ρ a] fun F' v => DuePost P (.tuple [.int 11, own, .tuple [Dc, De]]) none F' v :=
  flat hb hw [dueS Dc, dueS De, toldS 11 own kids, tupS 3] rfl (φf f0 f1 f2) due_fix fun h Z Z ξ Z => ⟨dl hd, dl hd, fun F0 l00 b0 Z => can_due b0 (Ic F0 l00), fun F1 l01 b1 Z => can_due b1 (Ie F1 l01), fun F2 l02 b2 Z => can_told b2 (It F2 l02), γT, fun Z Z Z h4 => ⟨_, _, _, _, _, rfl, σ0, DatAt.tup σ1 (.cons (by rw [show (ξ 2).i 0 = 11 from (pY h4.1.2 fun Z Z Z q => q.1)]; exact DatAt.int _ _) (.cons (pY h4.1.2 fun Z Z l q => DatAt.mono addF_le (DatAt.mono l q.2.1)) (.cons (DatAt.tup (shown μ3) (.cons (pY h4.1.1.1.2 fun Z Z l q => DatAt.mono addF_le (DatAt.mono l q)) (.cons (pY h4.1.1.2 fun Z Z l q => DatAt.mono addF_le (DatAt.mono l q)) .nil))) .nil))), σ2, rfl⟩⟩
end
noncomputable def okV : FR → Option PV
  | .val p => some p
  | _ => none
noncomputable def fold1 (op : Int) : Option PV → Option PV
  | some v => if op = 13 then none else okV (foldR op [v])
  | none => none
noncomputable def fold2 (op : Int) : Option PV → Option PV → Option PV
  | some v, some v' => if op = 13 then none else okV (foldR op [v, v'])
  | _, _ => none
noncomputable def dueR (op : Int) (ds : List PyData) : Option PV → PyData × Option PV
  | some p => (.tuple [.int 0, .tuple [plainD p], .tuple []], some p)
  | none => (.tuple [.int 10, .tuple [.int op], .tuple ds], none)
noncomputable def dueD : T → PyData × Option PV
  | .const v => (toldD (.const v), if atB v then some v else none)
  | .loc n => (toldD (.loc n), none)
  | .glob n => (toldD (.glob n), none)
  | .setLoc n t => (.tuple [.int 3, .tuple [.int n], .tuple [(dueD t).1]], none)
  | .setGlob n t => (.tuple [.int 4, .tuple [.int n], .tuple [(dueD t).1]], none)
  | .define n t => (.tuple [.int 5, .tuple [.int n], .tuple [(dueD t).1]], none)
  | .ite a b c => (.tuple [.int 6, .tuple [], .tuple [(dueD a).1, (dueD b).1, (dueD c).1]], none)
  | .lam l p r t => (.tuple [.int 7, .tuple [.int l, .tuple [.int p], .int r], .tuple [(dueD t).1]], none)
  | .lam0 l r t => (.tuple [.int 7, .tuple [.int l, .tuple [], .int r], .tuple [(dueD t).1]], none)
  | .call a b => (.tuple [.int 8, .tuple [], .tuple [(dueD a).1, (dueD b).1]], none)
  | .seq a b => (.tuple [.int 9, .tuple [], .tuple [(dueD a).1, (dueD b).1]], none)
  | .prim1 op a => dueR op [(dueD a).1] (fold1 op (dueD a).2)
  | .prim2 op a b => dueR op [(dueD a).1, (dueD b).1] (fold2 op (dueD a).2 (dueD b).2)
  | .fix n a b => (.tuple [.int 11, .tuple [.tuple [.int n]], .tuple [(dueD a).1, (dueD b).1]], none)
noncomputable def cst : T → Option PV
  | .const v => if atB v then some v else none
  | _ => none
theorem foldR_at {op : Int} {vs : List PV} {p : PV} (e : foldR op vs = .val p) : atB p = true := by
  unfold foldR at e
  split at e
  · split at e <;> cases e; rfl
  split at e
  · split at e <;> cases e; rfl
  split at e
  · split at e <;> cases e; rfl
  split at e
  · split at e
    · cases e; rfl
    · cases e
  split at e <;> cases e
theorem turn1_law (op : Int) (A : T) : toldD (turnT (.prim1 op A)) = (dueR op [toldD A] (fold1 op (cst A))).1 ∧ (dueR op [toldD A] (fold1 op (cst A))).2 = cst (turnT (.prim1 op A)) := by
  cases A with
  | const v =>
    by_cases h13 : op = 13
    · have e : turnT (.prim1 op (.const v)) = .prim1 op (.const v) := by simp only [turnT]; rw [if_pos (.inl h13)]
      have f : fold1 op (cst (.const v)) = none := by unfold fold1; split <;> simp [h13]
      rw [e, f]; exact ⟨rfl, rfl⟩
    · cases ha : atB v with
      | false =>
        have e : turnT (.prim1 op (.const v)) = .prim1 op (.const v) := by simp only [turnT, ha]; rw [if_pos (.inr trivial)]
        have f : fold1 op (cst (.const v)) = none := by simp [fold1, cst, ha]
        rw [e, f]; exact ⟨rfl, rfl⟩
      | true =>
        have f : fold1 op (cst (.const v)) = okV (foldR op [v]) := by simp [fold1, cst, ha, h13]
        rw [f]
        simp only [turnT, ha]
        rw [if_neg (by simp [h13])]
        cases hf : foldR op [v] with
        | none => exact ⟨rfl, rfl⟩
        | pair => exact ⟨rfl, rfl⟩
        | val p =>
          refine ⟨rfl, ?_⟩
          show some p = if atB p then some p else none
          rw [foldR_at hf]; rfl
  | _ => exact ⟨rfl, rfl⟩
theorem turn2_law (op : Int) (A B : T) : toldD (turnT (.prim2 op A B)) = (dueR op [toldD A, toldD B] (fold2 op (cst A) (cst B))).1 ∧ (dueR op [toldD A, toldD B] (fold2 op (cst A) (cst B))).2 = cst (turnT (.prim2 op A B)) := by
  have non : fold2 op (cst A) (cst B) = none → turnT (.prim2 op A B) = .prim2 op A B → toldD (turnT (.prim2 op A B)) = (dueR op [toldD A, toldD B] (fold2 op (cst A) (cst B))).1 ∧ (dueR op [toldD A, toldD B] (fold2 op (cst A) (cst B))).2 = cst (turnT (.prim2 op A B)) := by
    intro e f; rw [e, f]; exact ⟨rfl, rfl⟩
  cases A with
  | const v =>
    cases B with
    | const v' =>
      by_cases h13 : op = 13
      · refine non ?_ ?_
        · unfold fold2; split <;> simp [h13]
        · simp only [turnT]; rw [if_pos (.inl h13)]
      · cases ha : atB v with
        | false =>
          refine non (by simp [fold2, cst, ha]) ?_
          simp only [turnT, ha]; rw [if_pos (.inr (.inl trivial))]
        | true =>
          cases hb : atB v' with
          | false =>
            refine non (by simp [fold2, cst, ha, hb]) ?_
            simp only [turnT, hb]; rw [if_pos (.inr (.inr trivial))]
          | true =>
            have f : fold2 op (cst (.const v)) (cst (.const v')) = okV (foldR op [v, v']) := by simp [fold2, cst, ha, hb, h13]
            rw [f]
            simp only [turnT, ha, hb]
            rw [if_neg (by simp [h13])]
            cases hf : foldR op [v, v'] with
            | none => exact ⟨rfl, rfl⟩
            | pair => exact ⟨rfl, rfl⟩
            | val p =>
              refine ⟨rfl, ?_⟩
              show some p = if atB p then some p else none
              rw [foldR_at hf]; rfl
    | _ => exact non (by simp [fold2, cst]) rfl
  | _ => exact non (by simp [fold2, cst]) rfl
theorem due_law : ∀ t : T, toldD (foldT t) = (dueD t).1 ∧ (dueD t).2 = cst (foldT t)
  | .const _ => ⟨rfl, rfl⟩ | .loc _ => ⟨rfl, rfl⟩ | .glob _ => ⟨rfl, rfl⟩
  | .setLoc n t => by have := due_law t; simp only [foldT, toldD, dueD, this.1]; exact ⟨trivial, rfl⟩
  | .setGlob n t => by have := due_law t; simp only [foldT, toldD, dueD, this.1]; exact ⟨trivial, rfl⟩
  | .define n t => by have := due_law t; simp only [foldT, toldD, dueD, this.1]; exact ⟨trivial, rfl⟩
  | .ite a b c => by have h1 := due_law a; have h2 := due_law b; have h3 := due_law c; simp only [foldT, toldD, dueD, h1.1, h2.1, h3.1]; exact ⟨trivial, rfl⟩
  | .lam l p r t => by have := due_law t; simp only [foldT, toldD, dueD, this.1]; exact ⟨trivial, rfl⟩
  | .lam0 l r t => by have := due_law t; simp only [foldT, toldD, dueD, this.1]; exact ⟨trivial, rfl⟩
  | .call a b => by have h1 := due_law a; have h2 := due_law b; simp only [foldT, toldD, dueD, h1.1, h2.1]; exact ⟨trivial, rfl⟩
  | .seq a b => by have h1 := due_law a; have h2 := due_law b; simp only [foldT, toldD, dueD, h1.1, h2.1]; exact ⟨trivial, rfl⟩
  | .prim1 op a => by
    have h1 := due_law a
    have z := turn1_law op (foldT a)
    rw [← h1.2, h1.1] at z
    exact z
  | .prim2 op a b => by
    have h1 := due_law a
    have h2 := due_law b
    have z := turn2_law op (foldT a) (foldT b)
    rw [← h1.2, ← h2.2, h1.1, h2.1] at z
    exact z
  | .fix n a b => by have h1 := due_law a; have h2 := due_law b; simp only [foldT, toldD, dueD, h1.1, h2.1]; exact ⟨trivial, rfl⟩
theorem eq_nil {prog : Program} {w : World} {A : Around} {E : Value → Shared → Prop} {s : Shared} {a b : Addr} {vs : List Value} {Q : Value → Shared → Prop} (hl : s.heap.IsList a vs.toArray) (hb : s.heap.IsList b #[]) (hu : A.units < cLine) (h : Q (.bool vs.isEmpty) s) : wpAny (model prog w) A (compareOp .Eq (.ref a) (.ref b)) Q E s := by
  show wpAny (model prog w) A (richCompare .Eq (.ref a) (.ref b)) Q E s
  cases vs with
  | nil => exact PySem.SeqAt.RcAt.lists (e := fun Z => true) hl hb rfl hu (fun j h1 => by simp at h1) prog w E Q h
  | cons v vs => exact PySem.SeqAt.RcAt.lists_lengths hl hb (by simp) hu prog w E Q h
noncomputable def cIter : PySem.Expr → PySem.Expr
  | .ListComp _ (⟨_, i, _, _⟩ :: _) _ _ => i
  | _ => x0
noncomputable def cPosE : PySem.Expr → Pos
  | .ListComp _ _ _ p => p
  | _ => ⟨0, 0, 0, 0⟩
theorem ce_is : cE66 = .ListComp (cElt cE66) [⟨cTgt cE66, cIter cE66, [cIf cE66], 0⟩] (cSc cE66) (cPosE cE66) := κR
theorem ce_c : isCmp .Eq (cIf cE66) := by delta isCmp; kernel_rfl
theorem ce_t (it v : Value) : letOwnedTupleGo (cTgt cE66) it v = pure () := κR
noncomputable abbrev itO (dl : Nat) (i : Int) : Obj := (iT (ρ dl) (.int i 0))
noncomputable abbrev itE (n : Int) : Obj := (iT .none (.int n 0))
section
variable {F₁ : Gh} {d u : Nat} {g : Bool}
theorem app_w {A : Around} {E : Value → Shared → Prop} {M : List Ent} {i l e sz tk : Nat} {vs : List Value} {y : Value} {h : Heap} {Q : Value → Shared → Prop} (D : Rep h₀ mt F₀ F M sz h) (hi : nth M i = ςσ l (lstO vs e)) (hsz : vs.length < 1000)
    (hQ : ∀ k h', Rep h₀ mt F₀ F (setN (fun Z => lstO (vs ++ [y]) k) M i) sz h' → Q .none (sto s₀ h' tk)) : wpAny (pwm w) A (call (.builtin "list.append") [.ref l, y]) Q E (sto s₀ h tk) := by
  obtain ⟨k, hk⟩ := app_is y vs e
  refine call_meets (s := sto s₀ h tk) PySem.F.slot_list_append ⟨_, D.at_ i _ hi, rfl⟩ PySem.F.entry_list_append (PySem.F.args_list_append_2 _ _) (list_append l vs.toArray e y (by have := sizeLine_is; simp; omega)) ⟨D.at_ i _ hi, ?_⟩
  have D' := D.update (f := Obj.mapSeq fun xs => xs.push y) hi rfl (by rw [hk]; rfl)
  rw [setN_congr (f' := fun Z => lstO (vs ++ [y]) k) hi hk] at D'
  exact hQ k _ D'
def TurnW (w : World) (d u : Nat) (it ac : Value) (env : Env) (R : Result → Shared → Prop) (Q : Shared → Prop) (s : Shared) : Prop :=
  wpAny (pwm w) (AA d u true) (pyNext it) (fun r s₁ => match r with
    | none => R (.ok .next) s₁
    | some v => wpAny (pwm w) (AA d u true) (assign (cTgt cE66) env v) (fun Z s₂ =>
        wpAny (pwm w) (AA d u true) (isTrue (cIf cE66) env (eval (cIf cE66) env)) (fun ok s₃ =>
          if ok = true then wpAny (pwm w) (AA d u true) (eval (cElt cE66) env) (fun x s₄ => wpAny (pwm w) (AA d u true) (call (.builtin "list.append") [ac, x]) (fun Z s₅ => Q s₅) (fun Z Z => False) s₄) (fun Z Z => False) s₃
          else Q s₃) (fun Z Z => False) s₂) (fun Z Z => False) s₁) (fun Z Z => False) s
theorem comp_loop {it ac : Value} {env : Env} {R : Result → Shared → Prop} (I : Nat → Shared → Prop) (H : ∀ k s, I k s → TurnW w d u it ac env R (fun s' => ∃ m, m < k ∧ I m s') s) (k : Nat) {s : Shared} (h : I k s) :
    codeAny (pwm w) (AA d u true) (.compLoop cE66 0 it ac env) R s := by
  rw [ce_is]
  refine codeAny_compLoop_tests I (fun k s hI => ?_) k h (fun v => ce_t _ v)
  refine wpAny_mono (H k s hI) (fun r s₁ q => ?_) fun Z Z q => q.elim
  cases r with
  | none => exact q
  | some v =>
    refine wpAny_mono q (fun Z s₂ q => ?_) fun Z Z q => q.elim
    refine wpAny_tests_one (wpAny_mono q (fun ok s₃ q => ?_) fun Z Z q => q.elim)
    cases ok with
    | false => exact q
    | true => exact wpAny_mono q (fun x s₄ q => wpAny_mono q (fun Z Z q => q) fun Z Z q => q.elim) fun Z Z q => q.elim
noncomputable def oneIf (vs : List Value) (k : Nat) : Nat := if vs.isEmpty then k + 1 else k
def Ones (vs : List Value) (k : Nat) : Prop := IntsAre vs (List.replicate k 1)
theorem Ones.app {vs : List Value} {k t : Nat} (h : Ones vs k) : Ones (vs ++ [.int 1 t]) (k + 1) := by
  unfold Ones
  rw [List.replicate_succ']
  exact IntsAre.append h (.cons _ _ .nil)
theorem Ones.len {vs : List Value} {k : Nat} (h : Ones vs k) : vs.length = k := by
  have := h.length
  simpa using this
theorem ct10 (hb : BaseIn P F) (hw : w.params = P) (hu : u < 9900) {b0 v0 r0 ev0 edl dl it ac cf fa kd ea z tk k : Nat} {vs0 ones : List Value} {h : Heap} {R : Result → Shared → Prop} {Q : Shared → Prop} (fv0 : F₁ (ψ v0) (lstO vs0 ev0)) (fr0 : F₁ (ψ r0) (tupO [ρ b0, ρ v0])) (ho : Ones ones k) (hk : k < 900)
    (D : Rep h₀ mt F F₁ [ε dl (lstO [ρ r0] edl), ε it (itO dl 0), ε ac (lstO ones ea), ε cf (dct P [])] ζ h)
    (hQ : ∀ ones' ea' kd z t h' F₂, F₁.le F₂ → Ones ones' (oneIf vs0 k) → Rep h₀ mt F F₂ [ε dl (lstO [ρ r0] edl), ε it (itO dl 1), ε ac (lstO ones' ea'), ε cf (dct P [("_law_due", kd, ρ r0)])] ζ h' → Q (σt h' t)) :
    TurnW w d u (ρ it) (ρ ac) (envC66 fa (ψ cf)) R Q (sto s₀ h τ) := by
  have ol := ho.len
  refine lΛ lfO du_n10 fun ξ => qO (N := ν4) fun h' t1 D => ?_
  refine lΛ lfU du_s10 fun ξ => qU (N := ν4) fun h' t2 D => ?_
  refine w_cmp ce_c ?_
  have D := D.addFz (fz := [(v0 + 981, _), (r0 + 981, _)]) al2
  refine lΛ lfV du_l10 fun ξ => qV (N := ν4) fun h' t3 D => ?_
  have D := D.addFz (fz := [(v0 + 981, _), (r0 + 981, _)]) al2
  refine lΛ lfV du_r10 fun ξ => qV (N := ν5) fun h' t' D => ?_
  rw [show z + 981 + 1 = (z + 1) + 981 by omega] at D
  refine eq_nil (vs := vs0) ⟨_, D.holds _ _ fv0, rfl, _, rfl⟩ ⟨_, D.at_ 0 _ rfl, rfl, _, rfl⟩ (by show u < 9900; omega) ⟨_, rfl, ?_⟩
  have D := D.pk [1, 2, 3, 4] ν4 rfl
  cases hv : vs0.isEmpty with
  | false =>
    show Q _
    exact hQ ones ea _ (z + 1) t' _ F₁ (fun Z Z e => e) (by unfold oneIf; rw [hv]; exact ho) D
  | true =>
    show wpAny _ _ (eval (cElt cE66) _) _ _ _
    refine lΛ lfV du_e10 fun ξ => qV (N := ν4) fun h' t4 D => ?_
    refine app_w D (i := 2) rfl ω fun k' h' D => ?_
    exact hQ _ k' _ (z + 1) t4 _ F₁ (fun Z Z e => e) (by unfold oneIf; rw [hv]; exact ho.app) D
theorem ct20 (hb : BaseIn P F) (hw : w.params = P) (hu : u < 9900) {b0 v0 r0 ev0 b1 v1 r1 ev1 edl dl it ac cf fa kd ea z tk k : Nat} {vs0 vs1 ones : List Value} {h : Heap} {R : Result → Shared → Prop} {Q : Shared → Prop} (fv0 : F₁ (ψ v0) (lstO vs0 ev0)) (fr0 : F₁ (ψ r0) (tupO [ρ b0, ρ v0])) (fv1 : F₁ (ψ v1) (lstO vs1 ev1)) (fr1 : F₁ (ψ r1) (tupO [ρ b1, ρ v1])) (ho : Ones ones k) (hk : k < 900)
    (D : Rep h₀ mt F F₁ [ε dl (lstO [ρ r0, ρ r1] edl), ε it (itO dl 0), ε ac (lstO ones ea), ε cf (dct P [])] ζ h)
    (hQ : ∀ ones' ea' kd z t h' F₂, F₁.le F₂ → Ones ones' (oneIf vs0 k) → Rep h₀ mt F F₂ [ε dl (lstO [ρ r0, ρ r1] edl), ε it (itO dl 1), ε ac (lstO ones' ea'), ε cf (dct P [("_law_due", kd, ρ r0)])] ζ h' → Q (σt h' t)) :
    TurnW w d u (ρ it) (ρ ac) (envC66 fa (ψ cf)) R Q (sto s₀ h τ) := by
  have ol := ho.len
  refine lΛ lfO du_n20 fun ξ => qO (N := ν4) fun h' t1 D => ?_
  refine lΛ lfU du_s20 fun ξ => qU (N := ν4) fun h' t2 D => ?_
  refine w_cmp ce_c ?_
  have D := D.addFz (fz := [(v0 + 981, _), (r0 + 981, _), (v1 + 981, _), (r1 + 981, _)]) al4
  refine lΛ lfV du_l20 fun ξ => qV (N := ν4) fun h' t3 D => ?_
  have D := D.addFz (fz := [(v0 + 981, _), (r0 + 981, _), (v1 + 981, _), (r1 + 981, _)]) al4
  refine lΛ lfV du_r20 fun ξ => qV (N := ν5) fun h' t' D => ?_
  rw [show z + 981 + 1 = (z + 1) + 981 by omega] at D
  refine eq_nil (vs := vs0) ⟨_, D.holds _ _ fv0, rfl, _, rfl⟩ ⟨_, D.at_ 0 _ rfl, rfl, _, rfl⟩ (by show u < 9900; omega) ⟨_, rfl, ?_⟩
  have D := D.pk [1, 2, 3, 4] ν4 rfl
  cases hv : vs0.isEmpty with
  | false =>
    show Q _
    exact hQ ones ea _ (z + 1) t' _ F₁ (fun Z Z e => e) (by unfold oneIf; rw [hv]; exact ho) D
  | true =>
    show wpAny _ _ (eval (cElt cE66) _) _ _ _
    refine lΛ lfV du_e20 fun ξ => qV (N := ν4) fun h' t4 D => ?_
    refine app_w D (i := 2) rfl ω fun k' h' D => ?_
    exact hQ _ k' _ (z + 1) t4 _ F₁ (fun Z Z e => e) (by unfold oneIf; rw [hv]; exact ho.app) D
theorem ct21 (hb : BaseIn P F) (hw : w.params = P) (hu : u < 9900) {b0 v0 r0 ev0 b1 v1 r1 ev1 edl dl it ac cf fa kd ea z tk k : Nat} {vs0 vs1 ones : List Value} {h : Heap} {R : Result → Shared → Prop} {Q : Shared → Prop} (fv0 : F₁ (ψ v0) (lstO vs0 ev0)) (fr0 : F₁ (ψ r0) (tupO [ρ b0, ρ v0])) (fv1 : F₁ (ψ v1) (lstO vs1 ev1)) (fr1 : F₁ (ψ r1) (tupO [ρ b1, ρ v1])) (ho : Ones ones k) (hk : k < 900)
    (D : Rep h₀ mt F F₁ [ε dl (lstO [ρ r0, ρ r1] edl), ε it (itO dl 1), ε ac (lstO ones ea), ε cf (dct P [("_law_due", kd, ρ r0)])] ζ h)
    (hQ : ∀ ones' ea' kd z t h' F₂, F₁.le F₂ → Ones ones' (oneIf vs1 k) → Rep h₀ mt F F₂ [ε dl (lstO [ρ r0, ρ r1] edl), ε it (itO dl 2), ε ac (lstO ones' ea'), ε cf (dct P [("_law_due", kd, ρ r1)])] ζ h' → Q (σt h' t)) :
    TurnW w d u (ρ it) (ρ ac) (envC66 fa (ψ cf)) R Q (sto s₀ h τ) := by
  have ol := ho.len
  refine lΛ lfO du_n21 fun ξ => qO (N := ν4) fun h' t1 D => ?_
  refine lΛ lfU du_s21 fun ξ => qU (N := ν4) fun h' t2 D => ?_
  refine w_cmp ce_c ?_
  have D := D.addFz (fz := [(v0 + 981, _), (r0 + 981, _), (v1 + 981, _), (r1 + 981, _)]) al4
  refine lΛ lfV du_l21 fun ξ => qV (N := ν4) fun h' t3 D => ?_
  have D := D.addFz (fz := [(v0 + 981, _), (r0 + 981, _), (v1 + 981, _), (r1 + 981, _)]) al4
  refine lΛ lfV du_r21 fun ξ => qV (N := ν5) fun h' t' D => ?_
  rw [show z + 981 + 1 = (z + 1) + 981 by omega] at D
  refine eq_nil (vs := vs1) ⟨_, D.holds _ _ fv1, rfl, _, rfl⟩ ⟨_, D.at_ 0 _ rfl, rfl, _, rfl⟩ (by show u < 9900; omega) ⟨_, rfl, ?_⟩
  have D := D.pk [1, 2, 3, 4] ν4 rfl
  cases hv : vs1.isEmpty with
  | false =>
    show Q _
    exact hQ ones ea _ (z + 1) t' _ F₁ (fun Z Z e => e) (by unfold oneIf; rw [hv]; exact ho) D
  | true =>
    show wpAny _ _ (eval (cElt cE66) _) _ _ _
    refine lΛ lfV du_e21 fun ξ => qV (N := ν4) fun h' t4 D => ?_
    refine app_w D (i := 2) rfl ω fun k' h' D => ?_
    exact hQ _ k' _ (z + 1) t4 _ F₁ (fun Z Z e => e) (by unfold oneIf; rw [hv]; exact ho.app) D
end
section
variable {F₁ : Gh} {d u : Nat} {g : Bool}
theorem comp_start {it acc : Value} {env : Env} {i l : Nat} {R : Result → Shared → Prop} {s : Shared} (hi : it = .ref i) (hit : s.heap.IsListIter i l 0) (L : codeAny (pwm w) (AA d u true) (.compLoop cE66 0 it acc env) R s) :
    codeAny (pwm w) (AA d u true) (.compStart cE66 0 it acc env) R s := by
  subst hi
  rw [ce_is] at L ⊢
  exact codeAny_compStart_list L (wpAny_pyIter_listiter hit L)
theorem updAll_zero {a b c : Ent} {r : List Ent} {oa ob oc : Obj} : updAll [(2, oc), (1, ob), (0, oa)] (a :: b :: c :: r) = updAll [(0, oa), (1, ob), (2, oc)] (a :: b :: c :: r) := rfl
theorem comp_c1 (hb : BaseIn P F) (hw : w.params = P) (hu : u < 9900) {b0 v0 r0 ev0 edl dl it ac cf fa : Nat} {vs0 : List Value} (fv0 : F (ψ v0) (lstO vs0 ev0)) (fr0 : F (ψ r0) (tupO [ρ b0, ρ v0])) :
    CallsR w s₀ F [(it + 981, itO dl 0), (ac + 981, lstO [] 0), (cf + 981, dct P []), (dl + 981, lstO [ρ r0] edl)] (.compStart cE66 0 (ρ it) (ρ ac) (envC66 fa (ψ cf))) d u true fun F' r own => r = .ok .next ∧ ∃ ones ea kd, Ones ones (oneIf vs0 0) ∧ own = [(it + 981, itE 1), (ac + 981, lstO ones ea), (cf + 981, dct P [(PySem.Str.ofString "_law_due", kd, ρ r0)]), (dl + 981, lstO [ρ r0] edl)] := by
  refine callsR_intro (fz := []) (fun h H => hb.size H) ωp fun h z t R D hR => ?_
  have D := D.pk [3, 0, 1, 2] ν4 rfl
  refine comp_start (i := it + 981) (l := dl + 981) rfl ⟨_, D.at_ 1 _ rfl, rfl, rfl⟩ (comp_loop (fun k s => (k = 1 ∧ ∃ F₂ ones ea kd z t h', s = σt h' t ∧ F.le F₂ ∧ Ones ones 0 ∧ Rep h [it + 981, ac + 981, cf + 981, dl + 981] F F₂ [ε dl (lstO [ρ r0] edl), ε it (itO dl 0), ε ac (lstO ones ea), ε cf (dct P [])] ζ h') ∨ (k = 0 ∧ ∃ F₂ ones ea kd z t h', s = σt h' t ∧ F.le F₂ ∧ Ones ones (oneIf vs0 0) ∧ Rep h [it + 981, ac + 981, cf + 981, dl + 981] F F₂ [ε dl (lstO [ρ r0] edl), ε it (itO dl 1), ε ac (lstO ones ea), ε cf (dct P [("_law_due", kd, ρ r0)])] ζ h')) ?_ 1 (.inl ⟨rfl, F, [], 0, 0, z, t, h, rfl, fun Z Z e => e, .nil, D⟩))
  rintro k s (⟨rfl, F₂, ones, ea, kd, z, t, h', rfl, l, ho, D⟩ | ⟨rfl, F₂, ones, ea, kd, z, t, h', rfl, l, ho, D⟩)
  · refine ct10 (kd := kd) hb hw hu (l _ _ fv0) (l _ _ fr0) ho ω D fun ones' ea' kd' z' t' h'' F₃ l3 ho' D' => ⟨0, by omega, (.inr ⟨rfl, F₃, ones', ea', kd', z', t', h'', rfl, fun Z Z e => l3 _ _ (l _ _ e), ho', D'⟩)⟩
  · refine lΛ lfO du_n11 fun ξ => qN (N := ν4) fun h' t' D => ?_
    refine hR _ _ _ _ _ _ [(it + 981, itE 1), (ac + 981, lstO ones ea), (cf + 981, dct P [(PySem.Str.ofString "_law_due", kd, ρ r0)]), (dl + 981, lstO [ρ r0] edl)] (Nat.le_add_left _ _) D rfl (fun p hp => ?_) ⟨rfl, _, _, _, ho, rfl⟩
    simp only [μμ] at hp
    rcases hp with rfl | rfl | rfl | rfl
    · exact ⟨true, μ1⟩
    · exact ⟨true, μ2⟩
    · exact ⟨true, μ3⟩
    · exact ⟨true, .head _⟩
noncomputable def compS1 (P : Params) (r0 k : Nat) : Mine.Spec := ⟨fun x M Z Z => ⟨.ok .next, [(0, (dct P [("_law_due", (x.n 53), ρ r0)])), (1, (lstO ((x.l)) (x.n 40))), (2, itE 1)], [], x.n 0 + 981, x.n 1 + 2050⟩, fun Z Z x => Ones x.l k⟩
theorem can_comp1 (hb : BaseIn P F) (hw : w.params = P) (hu : u < 9900) {b0 v0 r0 ev0 edl dl it ac cf fa : Nat} {vs0 : List Value} (fv0 : F (ψ v0) (lstO vs0 ev0)) (fr0 : F (ψ r0) (tupO [ρ b0, ρ v0])) :
    CanV w s₀ h₀ mt F₀ (.compStart cE66 0 (ρ it) (ρ ac) (envC66 fa (ψ cf))) d u true F [2, 1, 0, 3] [σ it (itO dl 0), σ ac (lstO [] 0), σ cf (dct P []), σ dl (lstO [ρ r0] edl)] (compS1 P r0 (oneIf vs0 0)) := by
  refine canV_of_callsR (own := [(it + 981, itO dl 0), (ac + 981, lstO [] 0), (cf + 981, dct P []), (dl + 981, lstO [ρ r0] edl)]) (fun h H => hb.size H) (comp_c1 hb hw hu fv0 fr0) δ fun r F' own' z t l' hm' hP => ?_
  obtain ⟨rfl, ones, ea, kd, ho, rfl⟩ := hP
  refine ⟨mkA (fun j => match j with | 0 => z | 1 => t | 40 => ea | 41 => ones.length | 53 => kd | _ => 0) (fun Z => 0) ones, [], [(0, dct P [("_law_due", kd, ρ r0)]), (1, lstO ones ea), (2, itE 1)], fun M z0 t0 => ?_, fun M hM => ?_, ?_, fun i e q => by cases i <;> cases q⟩
  · show (⟨_, [_, (1, lstO (Ans.l _) _), _], _, _, _⟩ : Resp) = _
    rw [mkA_l (by rfl)]; rfl
  · have hj : nth M 3 = σ dl (lstO [ρ r0] edl) := (List.cons.inj (List.cons.inj (List.cons.inj (List.cons.inj hM).2).2).2).1
    match M, hj with
    | a :: b :: c :: dd :: r, hj =>
      cases hj
      rfl
  · show Ones (Ans.l _) _
    rw [mkA_l (by rfl)]; exact ho
theorem comp_c2 (hb : BaseIn P F) (hw : w.params = P) (hu : u < 9900) {b0 v0 r0 ev0 b1 v1 r1 ev1 edl dl it ac cf fa : Nat} {vs0 vs1 : List Value} (fv0 : F (ψ v0) (lstO vs0 ev0)) (fr0 : F (ψ r0) (tupO [ρ b0, ρ v0])) (fv1 : F (ψ v1) (lstO vs1 ev1)) (fr1 : F (ψ r1) (tupO [ρ b1, ρ v1])) :
    CallsR w s₀ F [(it + 981, itO dl 0), (ac + 981, lstO [] 0), (cf + 981, dct P []), (dl + 981, lstO [ρ r0, ρ r1] edl)] (.compStart cE66 0 (ρ it) (ρ ac) (envC66 fa (ψ cf))) d u true fun F' r own => r = .ok .next ∧ ∃ ones ea kd, Ones ones (oneIf vs1 (oneIf vs0 0)) ∧ own = [(it + 981, itE 2), (ac + 981, lstO ones ea), (cf + 981, dct P [(PySem.Str.ofString "_law_due", kd, ρ r1)]), (dl + 981, lstO [ρ r0, ρ r1] edl)] := by
  refine callsR_intro (fz := []) (fun h H => hb.size H) ωp fun h z t R D hR => ?_
  have D := D.pk [3, 0, 1, 2] ν4 rfl
  refine comp_start (i := it + 981) (l := dl + 981) rfl ⟨_, D.at_ 1 _ rfl, rfl, rfl⟩ (comp_loop (fun k s => (k = 2 ∧ ∃ F₂ ones ea kd z t h', s = σt h' t ∧ F.le F₂ ∧ Ones ones 0 ∧ Rep h [it + 981, ac + 981, cf + 981, dl + 981] F F₂ [ε dl (lstO [ρ r0, ρ r1] edl), ε it (itO dl 0), ε ac (lstO ones ea), ε cf (dct P [])] ζ h') ∨ (k = 1 ∧ ∃ F₂ ones ea kd z t h', s = σt h' t ∧ F.le F₂ ∧ Ones ones (oneIf vs0 0) ∧ Rep h [it + 981, ac + 981, cf + 981, dl + 981] F F₂ [ε dl (lstO [ρ r0, ρ r1] edl), ε it (itO dl 1), ε ac (lstO ones ea), ε cf (dct P [("_law_due", kd, ρ r0)])] ζ h') ∨ (k = 0 ∧ ∃ F₂ ones ea kd z t h', s = σt h' t ∧ F.le F₂ ∧ Ones ones (oneIf vs1 (oneIf vs0 0)) ∧ Rep h [it + 981, ac + 981, cf + 981, dl + 981] F F₂ [ε dl (lstO [ρ r0, ρ r1] edl), ε it (itO dl 2), ε ac (lstO ones ea), ε cf (dct P [("_law_due", kd, ρ r1)])] ζ h')) ?_ 2 (.inl ⟨rfl, F, [], 0, 0, z, t, h, rfl, fun Z Z e => e, .nil, D⟩))
  rintro k s (⟨rfl, F₂, ones, ea, kd, z, t, h', rfl, l, ho, D⟩ | ⟨rfl, F₂, ones, ea, kd, z, t, h', rfl, l, ho, D⟩ | ⟨rfl, F₂, ones, ea, kd, z, t, h', rfl, l, ho, D⟩)
  · refine ct20 (kd := kd) hb hw hu (l _ _ fv0) (l _ _ fr0) (l _ _ fv1) (l _ _ fr1) ho ω D fun ones' ea' kd' z' t' h'' F₃ l3 ho' D' => ⟨1, by omega, (.inr (.inl ⟨rfl, F₃, ones', ea', kd', z', t', h'', rfl, fun Z Z e => l3 _ _ (l _ _ e), ho', D'⟩))⟩
  · refine ct21 (kd := kd) hb hw hu (l _ _ fv0) (l _ _ fr0) (l _ _ fv1) (l _ _ fr1) ho (by unfold oneIf; repeat' split <;> omega) D fun ones' ea' kd' z' t' h'' F₃ l3 ho' D' => ⟨0, by omega, (.inr (.inr ⟨rfl, F₃, ones', ea', kd', z', t', h'', rfl, fun Z Z e => l3 _ _ (l _ _ e), ho', D'⟩))⟩
  · refine lΛ lfO du_n22 fun ξ => qN (N := ν4) fun h' t' D => ?_
    refine hR _ _ _ _ _ _ [(it + 981, itE 2), (ac + 981, lstO ones ea), (cf + 981, dct P [(PySem.Str.ofString "_law_due", kd, ρ r1)]), (dl + 981, lstO [ρ r0, ρ r1] edl)] (Nat.le_add_left _ _) D rfl (fun p hp => ?_) ⟨rfl, _, _, _, ho, rfl⟩
    simp only [μμ] at hp
    rcases hp with rfl | rfl | rfl | rfl
    · exact ⟨true, μ1⟩
    · exact ⟨true, μ2⟩
    · exact ⟨true, μ3⟩
    · exact ⟨true, .head _⟩
noncomputable def compS2 (P : Params) (r1 k : Nat) : Mine.Spec := ⟨fun x M Z Z => ⟨.ok .next, [(0, (dct P [("_law_due", (x.n 53), ρ r1)])), (1, (lstO ((x.l)) (x.n 40))), (2, itE 2)], [], x.n 0 + 981, x.n 1 + 2050⟩, fun Z Z x => Ones x.l k⟩
theorem can_comp2 (hb : BaseIn P F) (hw : w.params = P) (hu : u < 9900) {b0 v0 r0 ev0 b1 v1 r1 ev1 edl dl it ac cf fa : Nat} {vs0 vs1 : List Value} (fv0 : F (ψ v0) (lstO vs0 ev0)) (fr0 : F (ψ r0) (tupO [ρ b0, ρ v0])) (fv1 : F (ψ v1) (lstO vs1 ev1)) (fr1 : F (ψ r1) (tupO [ρ b1, ρ v1])) :
    CanV w s₀ h₀ mt F₀ (.compStart cE66 0 (ρ it) (ρ ac) (envC66 fa (ψ cf))) d u true F [2, 1, 0, 3] [σ it (itO dl 0), σ ac (lstO [] 0), σ cf (dct P []), σ dl (lstO [ρ r0, ρ r1] edl)] (compS2 P r1 (oneIf vs1 (oneIf vs0 0))) := by
  refine canV_of_callsR (own := [(it + 981, itO dl 0), (ac + 981, lstO [] 0), (cf + 981, dct P []), (dl + 981, lstO [ρ r0, ρ r1] edl)]) (fun h H => hb.size H) (comp_c2 hb hw hu fv0 fr0 fv1 fr1) δ fun r F' own' z t l' hm' hP => ?_
  obtain ⟨rfl, ones, ea, kd, ho, rfl⟩ := hP
  refine ⟨mkA (fun j => match j with | 0 => z | 1 => t | 40 => ea | 41 => ones.length | 53 => kd | _ => 0) (fun Z => 0) ones, [], [(0, dct P [("_law_due", kd, ρ r1)]), (1, lstO ones ea), (2, itE 2)], fun M z0 t0 => ?_, fun M hM => ?_, ?_, fun i e q => by cases i <;> cases q⟩
  · show (⟨_, [_, (1, lstO (Ans.l _) _), _], _, _, _⟩ : Resp) = _
    rw [mkA_l (by rfl)]; rfl
  · have hj : nth M 3 = σ dl (lstO [ρ r0, ρ r1] edl) := (List.cons.inj (List.cons.inj (List.cons.inj (List.cons.inj hM).2).2).2).1
    match M, hj with
    | a :: b :: c :: dd :: r, hj =>
      cases hj
      rfl
  · show Ones (Ans.l _) _
    rw [mkA_l (by rfl)]; exact ho
end
def isAnd3 (e : PySem.Expr) : Prop := e = .BoolOp .And [bVal e 0, bVal e 1, bVal e 2] (ePos e)
section
variable {M : Model} {A : Around} {E : Value → Shared → Prop} {s : Shared} {env : Env}
theorem w_and3 {e : PySem.Expr} (he : isAnd3 e) {Q : Bool → Shared → Prop}
    (h : wpAny M A (isTrue (bVal e 0) env (eval (bVal e 0) env)) (fun c s' => if c then wpAny M A (isTrue (bVal e 1) env (eval (bVal e 1) env)) (fun c s' => if c then wpAny M A (isTrue (bVal e 2) env (eval (bVal e 2) env)) Q E s' else Q false s') E s' else Q false s') E s) : wpAny M A (isTrue e env (eval e env)) Q E s := by
  generalize hw : eval e env = whole
  rw [(show _ = _ from he)]
  refine isTrue_and (wpAny_mono h (fun c s' q => ?_) fun Z Z q => q)
  cases c with
  | false => exact q
  | true =>
    refine isTrue_and (wpAny_mono q (fun c s' q => ?_) fun Z Z q => q)
    cases c with
    | false => exact q
    | true => exact isTrue_and (wpAny_mono q (fun c s' q => by cases c with | false => exact q | true => exact isTrue_and_nil q) fun Z Z q => q)
end
theorem du_fb : fBody (fAt 66 0) = (fBody (fAt 66 0)).take 2 ++ (fS 66 0 2 :: (fBody (fAt 66 0)).drop 3) := κR
theorem du_fi : isIf (fS 66 0 2) := by delta isIf; kernel_rfl
theorem du_fe : sElse (fS 66 0 2) = [] := κR
theorem du_fa : isAnd3 (sTest (fS 66 0 2)) := by delta isAnd3; kernel_rfl
theorem du_fc : isCmp .Eq (bVal (sTest (fS 66 0 2)) 2) := by delta isCmp; kernel_rfl
section
variable {F₁ : Gh} {d u : Nat} {g : Bool}
noncomputable def dueL (P : Params) (D : PyData) (V : Option PV) : Mine.Spec := ⟨ωX (.ref (x.n 2 + 981)) [] [⟨(x.n 2 + 981), (tupO [.ref (x.n 4 + 981), .ref (x.n 3 + 981)]), false⟩, ⟨(x.n 3 + 981), (lstO ((x.l)) (x.n 40)), false⟩], fun Z F' x => DatAt F' (.ref (x.n 4 + 981)) D ∧ VsAt P F' x.l V⟩
theorem can_dueL (b : BaseIn P F) {c : Code} {D : PyData} {V : Option PV} (hc : Calls w s₀ F [] c d u g fun F' v Z Z Z Z Z => DuePost P D V F' v) : CanV w s₀ h₀ mt F₀ c d u g F [] [] (dueL P D V) :=
  canV_facts b hc fun v F' z tk z' t' Z hP => by
    obtain ⟨r, r1, r2, k, vs, rfl, f1, q, f2, hv⟩ := hP
    refine ⟨mkA (fun j => match j with | 0 => z' | 1 => t' | 2 => r | 3 => r2 | 4 => r1 | 40 => k | 41 => vs.length | _ => 0) (fun Z => 0) vs, [φ r (tupO [ρ r1, ρ r2]), φ r2 (lstO vs k)], fun Z => ?_, ⟨q, ?_⟩, fun i e q => ?_⟩
    · show (⟨_, _, [_, ⟨_, lstO (Ans.l _) _, _⟩], _, _⟩ : Resp) = _
      rw [mkA_l (by rfl)]; rfl
    · show VsAt _ _ (Ans.l _) _
      rw [mkA_l (by rfl)]; exact hv
    · match i, q with
      | 0, q => cases q; exact ⟨rfl, f1⟩
      | 1, q => cases q; exact ⟨rfl, f2⟩
      | i + 2, q => cases i <;> cases q
theorem VsAt.mono {F' : Gh} (l : F.le F') {vs : List Value} : ∀ {V : Option PV}, VsAt P F vs V → VsAt P F' vs V
  | none, h => h
  | some _, ⟨v, e, p⟩ => ⟨v, e, p.mono l⟩
theorem due_q1 (hb : BaseIn P F) (hw : w.params = P) (hd : d + 401 < 1000) (hu : u + 307 < 9900) {c0 el l k1 k2 da a top dl e fr kn kd z tk r0 b0 v0 ev0 : Nat} {op : Int} {vs0 : List Value} {D0 kids : PyData} {V0 : Option PV} {h : Heap} (hop : op = 8 ∨ op = 16 ∨ op = 11 ∨ op = 135) (fl : F₁ (ψ l) (lstO [ρ c0] el)) (fd : F₁ (ψ da) (dct P [("op", k1, .int op top), ("operands", k2, ρ l)])) (fa : F₁ (ψ a) (ins 382 (ψ da))) (tu0 : F₁ (ψ r0) (tupO [ρ b0, ρ v0])) (ls0 : F₁ (ψ v0) (lstO vs0 ev0)) (dd0 : DatAt F₁ (ρ b0) D0) (hv0 : VsAt P F₁ vs0 V0) (O0 : ∀ p, V0 = some p → atB p = true ∧ okPV p)
    (It : ∀ F', F₁.le F' → Cs w s₀ F' (κC 969 [ρ a]) d u fun F' v => ToldPost (.tuple [.int 10, .tuple [.int op], kids]) F' v)
    (D : Rep h₀ [] F F₁ [ε dl (lstO [ρ r0] e), ε fr (frm P (("_law_node", kn, ρ a) :: ("_law_dues", kd, ρ dl) :: []))] ζ h) {Q : Flow → Shared → Prop} (hQ : ∀ v N sz tk h' F₂, 2050 ≤ tk → Rep h₀ [] F F₂ N sz h' → DuePost P (dueR op [D0] (fold1 op V0)).1 (dueR op [D0] (fold1 op V0)).2 (addF [] F₂ (N.map some)) v → Q (.ret v) (sto s₀ h' tk)) :
    wpAny (pwm w) (AA d u true) (execs (fS 66 0 2 :: (fBody (fAt 66 0)).drop 3) η66) Q (fun Z Z => False) (sto s₀ h τ) := by
  have hop13 : op ≠ 13 := by omega
  have REST : ∀ rest z tk h F₂, F₁.le F₂ → fold1 op V0 = none → Rep h₀ [] F F₂ [ε dl (lstO [ρ r0] e), ε fr (frm P (("_law_node", kn, ρ a) :: ("_law_dues", kd, ρ dl) :: rest))] ζ h → wpAny (pwm w) (AA d u true) (execs ((fBody (fAt 66 0)).drop 3) η66) Q (fun Z Z => False) (sto s₀ h τ) := by
    intro rest z tk h F₂ l₂ hf D
    have D := D.addFz (fz := [(l + 981, lstO [ρ c0] el), (da + 981, dct P [(PySem.Str.ofString "op", k1, .int op top), (PySem.Str.ofString "operands", k2, ρ l)]), (a + 981, ins 382 (ψ da)), (r0 + 981, tupO [ρ b0, ρ v0])]) (by intro p hp; simp only [μμ] at hp; rcases hp with rfl | rfl | rfl | rfl <;> (refine l₂ _ _ ?_; assumption))
    have b₂ := hb.le D.le
    refine lfF hb hw (sp := [toldS 10 (.tuple [.int op]) kids, tupS 3]) rfl δ D (fun ξ => du_R1) fun ξ => ⟨can_told b₂ (It F₂ l₂), fun G0 l0 p0 => ⟨can_tuple (fun h H => (b₂.le l0).size H) (sizeLine_lt (by simp)), fun G1 l1 p1 => qF (N := ν4) fun h' t' D => ?_⟩⟩
    refine hQ _ _ _ _ _ _ (Nat.le_add_left _ _) D ?_
    rw [hf]
    exact ⟨_, _, _, _, _, rfl, addF_in (.head _), DatAt.tup (addF_in μ1) (.cons (by rw [show (ξ 0).i 0 = 10 from p0.1]; exact DatAt.int _ _) (.cons (DatAt.mono addF_le (p0.2.1.mono l1)) (.cons (DatAt.tup (addF_in μ3) (.cons (dd0.mono fun a o x => addF_le _ _ (l1 _ _ (l0 _ _ (l₂ _ _ x)))) .nil)) .nil))), addF_in μ2, rfl⟩
  refine w_if du_fi (w_and3 du_fa ?_)
  have fda : ∀ {F₂ : Gh}, F₁.le F₂ → ∀ p ∈ [(da + 981, dct P [(PySem.Str.ofString "op", k1, Value.int op top), (PySem.Str.ofString "operands", k2, ρ l)]), (a + 981, ins 382 (ψ da))], F₂ p.1 p.2 := by intro F₂ l₂ p hp; simp only [μμ] at hp; rcases hp with rfl | rfl <;> (refine l₂ _ _ ?_; assumption)
  have D := D.addFz (fda fun Z Z e => e)
  refine lΛ lfB du_a fun ξ => qB (N := [_, _]) fun h' t1 D => ?_
  have STB : ∀ {Q' : Bool → Shared → Prop}, (∀ t' h', Rep h₀ [] F F₁ [ε dl (lstO [ρ r0] e), ε fr (frm P (("_law_node", kn, ρ a) :: ("_law_dues", kd, ρ dl) :: []))] ζ h' → Q' true (σt h' t')) → wpAny (pwm w) (AA d u true) (isTrue (bVal (sTest (fS 66 0 2)) 1) η66 (eval (bVal (sTest (fS 66 0 2)) 1) η66)) Q' (fun Z Z => False) (σt h' t1) := by
    intro Q' hQ'
    have D := D.addFz (fda fun Z Z e => e)
    rcases hop with rfl | rfl | rfl | rfl
    · refine lΛ lfB du_b8 fun ξ => qB (N := [_, _]) fun h' t2 D => ?_
      exact hQ' _ _ D
    · refine lΛ lfB du_b16 fun ξ => qB (N := [_, _]) fun h' t2 D => ?_
      exact hQ' _ _ D
    · refine lΛ lfB du_b11 fun ξ => qB (N := [_, _]) fun h' t2 D => ?_
      exact hQ' _ _ D
    · refine lΛ lfB du_b135 fun ξ => qB (N := [_, _]) fun h' t2 D => ?_
      exact hQ' _ _ D
  refine STB fun t2 h' D => ?_
  refine w_cmp du_fc ?_
  have b₁ := hb.le D.le
  refine lfV hb hw (sp := [compS1 P r0 (oneIf vs0 0)]) rfl δ D (fun ξ => du_21) fun ξ => ⟨can_comp1 b₁ hw (by show u + 0 < 9900; omega) ls0 tu0, fun G0 l0 p0 => qV (N := ν3) fun h' t3 D => ?_⟩
  rw [show z + 981 + 1 = (z + 1) + 981 by omega] at D ⊢
  have ho : Ones (ξ 0).l (oneIf vs0 0) := p0
  refine lfV hb hw (sp := []) rfl δ D (fun ξ' => du_r) fun ξ' => qV (N := ν4) fun h' t' D => ?_
  rw [show (ξ 0).n 0 + 981 + 1 = ((ξ 0).n 0 + 1) + 981 by omega] at D
  refine eq_nil (vs := (ξ 0).l) ⟨_, D.at_ 1 _ rfl, rfl, _, rfl⟩ ⟨_, D.at_ 0 _ rfl, rfl, _, rfl⟩ (by show u < 9900; omega) ⟨_, rfl, ?_⟩
  have D := D.pk [2, 3] [_, _] rfl
  have hol := ho.len
  cases V0 with
  | none =>
    obtain rfl : vs0 = [] := hv0
    have hE : (ξ 0).l.isEmpty = false := by
      cases h9 : (ξ 0).l with
      | nil => rw [h9] at hol; exfalso; revert hol; unfold oneIf; simp; try (split <;> omega)
      | cons _ _ => rfl
    rw [hE]
    show wpAny _ _ (execs (sElse (fS 66 0 2)) _) _ _ _
    rw [du_fe]
    exact wpAny_execs_nil (REST [] _ _ _ G0 l0 rfl D)
  | some pp0 =>
  obtain ⟨x0, rfl, pv0⟩ := hv0
  obtain ⟨kk0, rfl⟩ := vk_of pv0
  obtain ⟨ha0, ok0⟩ := O0 _ rfl
  have hE : (ξ 0).l.isEmpty = true := by
    cases h9 : (ξ 0).l with
    | nil => rfl
    | cons _ _ => rw [h9] at hol; exfalso; revert hol; unfold oneIf; simp
  rw [hE]
  show wpAny _ _ (execs (sBody (fS 66 0 2)) _) _ _ _
  have D₀ := D
  have D := D.addFz (fz := [(l + 981, lstO [ρ c0] el), (da + 981, dct P [(PySem.Str.ofString "op", k1, .int op top), (PySem.Str.ofString "operands", k2, ρ l)]), (a + 981, ins 382 (ψ da)), (v0 + 981, lstO [vk kk0] ev0), (r0 + 981, tupO [ρ b0, ρ v0])]) (by intro p hp; simp only [μμ] at hp; rcases hp with rfl | rfl | rfl | rfl | rfl <;> (refine l0 _ _ ?_; assumption))
  have FO : ∀ (F' : Gh) q ee, G0.le F' → F' (ψ q) (lstO [vk kk0] ee) → Cs w s₀ F' (κC 952 [.int op top, ρ q]) d u fun F' v => FoldPost P (foldR op [pp0]) F' v := fun F' q ee l hq => fold_calls1 (hb.le (fun a o x => l a o (D.le a o x))) hw d u ω ω hop ((pv0.mono l0).mono l) ha0 ⟨ee, hq⟩
  have FQ : ∀ (q0 ee : Nat), Cs w s₀ (addF [] G0 [σσ q0 1 (lstO [vk kk0] ee)]) (κC 952 [.int op top, .ref ((ψ q0) + 1)]) d u fun F' v => FoldPost P (foldR op [pp0]) F' v := by
    intro q0 ee
    have := FO (addF [] G0 [σσ q0 1 (lstO [vk kk0] ee)]) (q0 + 1) ee addF_le (by rw [show q0 + 1 + 981 = q0 + 981 + 1 by omega]; exact addF_in (.head _))
    rw [show q0 + 1 + 981 = q0 + 981 + 1 by omega] at this
    exact this
  have b₀ := hb.le D.le
  have fe : fold1 op (some pp0) = okV (foldR op [pp0]) := by simp [fold1, hop13]
  rcases fold_kind op [pp0] with q1 | q1 | ⟨r, q1⟩ | ⟨r, q1⟩
  · rw [q1] at FQ fe
    refine lfF hb hw (sp := [fNone]) rfl δ D (fun ξ' => du_T10) fun ξ' => ⟨can_f_none b₀ (FQ _ _), fun G1 l1 p1 => qF (N := [_, _]) fun h' t4 D => ?_⟩
    exact REST _ _ _ _ G1 (fun Z Z x => l1 _ _ (l0 _ _ x)) fe D
  · rw [q1] at FQ fe
    refine leaf (d := d) (u := u) (g := true) (fun f => f) (okay hb w hw) ω (fTr_execs _ _) (sp := [fP P, vS βF]) rfl δ D (fun ξ' => du_T11) fun ξ' => ⟨can_f_pair b₀ (FQ _ _), fun G1 l1 p1 => ⟨by
      obtain ⟨d9, v1, v2, k9, k8, g1, g2⟩ := p1
      exact can_val (b₀.le l1) (isplain_pair_c v1 v2 k9 k8 d9 _ (b₀.le l1) hw _ _ (by show d + 0 + 0 < 1000; omega) g1 g2), fun G2 l2 p2 => ⟨_, rfl, fun a' ea h' T' D' => ?_⟩⟩⟩
    cases ea
    have D := D' [_, _] rfl
    obtain ⟨t4, et⟩ := sub2050 T'
    rw [et]
    exact REST _ _ _ _ G2 (fun Z Z x => l2 _ _ (l1 _ _ (l0 _ _ x))) fe D
  · rw [q1] at FQ fe
    refine lfF hb hw (sp := [fB r, vS βT, bS fun Z Z x => x = r]) rfl δ D (fun ξ' => du_T12) fun ξ' => ⟨can_f_bool b₀ (FQ _ _), fun G1 l1 p1 => ⟨can_val (b₀.le l1) (isplain_calls (p := .bool ((ξ' 0).b 0)) (b₀.le l1) hw _ _ (by show d + 0 + 1 < 1000; omega) rfl), fun G2 l2 p2 => ⟨can_bool ((b₀.le l1).le l2) ((plain_calls (p := .bool ((ξ' 0).b 0)) ((b₀.le l1).le l2) hw _ _ (by show d + 0 + 1 < 1000; omega) rfl).mono fun Z v Z Z Z Z Z hv => ⟨(ξ' 0).b 0, hv, p1⟩), fun G3 l3 p3 => qF (N := ν5) fun h' t' D => ?_⟩⟩⟩
    refine hQ _ _ _ _ _ _ (Nat.le_add_left _ _) D ?_
    rw [fe]
    exact ⟨_, _, _, _, _, rfl, addF_in (.head _), DatAt.tup (addF_in μ1) (.cons (DatAt.int _ _) (.cons (DatAt.tup (addF_in μ3) (.cons (by rw [show (ξ' 2).b 0 = r from p3]; exact DatAt.bool _) .nil)) (.cons (DatAt.tup (addF_in (.tail _ μ3)) .nil) .nil))), addF_in μ2, _, rfl, by rw [show (ξ' 0).b 0 = r from p1]; exact rfl⟩
  · rw [q1] at FQ fe
    refine lfF hb hw (sp := [fI r, vS βT, iS fun Z Z x => x = r]) rfl δ D (fun ξ' => du_T13) fun ξ' => ⟨can_f_int b₀ (FQ _ _), fun G1 l1 p1 => ⟨can_val (b₀.le l1) (isplain_calls (p := .int ((ξ' 0).i 0)) (b₀.le l1) hw _ _ (by show d + 0 + 1 < 1000; omega) ⟨_, rfl⟩), fun G2 l2 p2 => ⟨can_int ((b₀.le l1).le l2) ((plain_calls (p := .int ((ξ' 0).i 0)) ((b₀.le l1).le l2) hw _ _ (by show d + 0 + 1 < 1000; omega) ⟨_, rfl⟩).mono fun _ v _ _ _ _ _ ⟨t, hv⟩ => ⟨(ξ' 0).i 0, t, hv, p1⟩), fun G3 l3 p3 => qF (N := ν5) fun h' t' D => ?_⟩⟩⟩
    refine hQ _ _ _ _ _ _ (Nat.le_add_left _ _) D ?_
    rw [fe]
    exact ⟨_, _, _, _, _, rfl, addF_in (.head _), DatAt.tup (addF_in μ1) (.cons (DatAt.int _ _) (.cons (DatAt.tup (addF_in μ3) (.cons (by rw [show (ξ' 2).i 0 = r from p3]; exact DatAt.int _ _) .nil)) (.cons (DatAt.tup (addF_in (.tail _ μ3)) .nil) .nil))), addF_in μ2, _, rfl, _, by rw [show (ξ' 0).i 0 = r from p1]⟩
theorem due_q2 (hb : BaseIn P F) (hw : w.params = P) (hd : d + 401 < 1000) (hu : u + 307 < 9900) {c0 c1 el l k1 k2 da a top dl e fr kn kd z tk r0 b0 v0 ev0 r1 b1 v1 ev1 : Nat} {op : Int} {vs0 vs1 : List Value} {D0 D1 kids : PyData} {V0 V1 : Option PV} {h : Heap} (hop : op = 4 ∨ op = 9) (fl : F₁ (ψ l) (lstO [ρ c0, ρ c1] el)) (fd : F₁ (ψ da) (dct P [("op", k1, .int op top), ("operands", k2, ρ l)])) (fa : F₁ (ψ a) (ins 382 (ψ da))) (tu0 : F₁ (ψ r0) (tupO [ρ b0, ρ v0])) (ls0 : F₁ (ψ v0) (lstO vs0 ev0)) (dd0 : DatAt F₁ (ρ b0) D0) (hv0 : VsAt P F₁ vs0 V0) (O0 : ∀ p, V0 = some p → atB p = true ∧ okPV p) (tu1 : F₁ (ψ r1) (tupO [ρ b1, ρ v1])) (ls1 : F₁ (ψ v1) (lstO vs1 ev1)) (dd1 : DatAt F₁ (ρ b1) D1) (hv1 : VsAt P F₁ vs1 V1) (O1 : ∀ p, V1 = some p → atB p = true ∧ okPV p)
    (It : ∀ F', F₁.le F' → Cs w s₀ F' (κC 969 [ρ a]) d u fun F' v => ToldPost (.tuple [.int 10, .tuple [.int op], kids]) F' v)
    (D : Rep h₀ [] F F₁ [ε dl (lstO [ρ r0, ρ r1] e), ε fr (frm P (("_law_node", kn, ρ a) :: ("_law_dues", kd, ρ dl) :: []))] ζ h) {Q : Flow → Shared → Prop} (hQ : ∀ v N sz tk h' F₂, 2050 ≤ tk → Rep h₀ [] F F₂ N sz h' → DuePost P (dueR op [D0, D1] (fold2 op V0 V1)).1 (dueR op [D0, D1] (fold2 op V0 V1)).2 (addF [] F₂ (N.map some)) v → Q (.ret v) (sto s₀ h' tk)) :
    wpAny (pwm w) (AA d u true) (execs (fS 66 0 2 :: (fBody (fAt 66 0)).drop 3) η66) Q (fun Z Z => False) (sto s₀ h τ) := by
  have hop13 : op ≠ 13 := by omega
  have REST : ∀ rest z tk h F₂, F₁.le F₂ → fold2 op V0 V1 = none → Rep h₀ [] F F₂ [ε dl (lstO [ρ r0, ρ r1] e), ε fr (frm P (("_law_node", kn, ρ a) :: ("_law_dues", kd, ρ dl) :: rest))] ζ h → wpAny (pwm w) (AA d u true) (execs ((fBody (fAt 66 0)).drop 3) η66) Q (fun Z Z => False) (sto s₀ h τ) := by
    intro rest z tk h F₂ l₂ hf D
    have D := D.addFz (fz := [(l + 981, lstO [ρ c0, ρ c1] el), (da + 981, dct P [(PySem.Str.ofString "op", k1, .int op top), (PySem.Str.ofString "operands", k2, ρ l)]), (a + 981, ins 382 (ψ da)), (r0 + 981, tupO [ρ b0, ρ v0]), (r1 + 981, tupO [ρ b1, ρ v1])]) (by intro p hp; simp only [μμ] at hp; rcases hp with rfl | rfl | rfl | rfl | rfl <;> (refine l₂ _ _ ?_; assumption))
    have b₂ := hb.le D.le
    refine lfF hb hw (sp := [toldS 10 (.tuple [.int op]) kids, tupS 3]) rfl δ D (fun ξ => du_R2) fun ξ => ⟨can_told b₂ (It F₂ l₂), fun G0 l0 p0 => ⟨can_tuple (fun h H => (b₂.le l0).size H) (sizeLine_lt (by simp)), fun G1 l1 p1 => qF (N := ν4) fun h' t' D => ?_⟩⟩
    refine hQ _ _ _ _ _ _ (Nat.le_add_left _ _) D ?_
    rw [hf]
    exact ⟨_, _, _, _, _, rfl, addF_in (.head _), DatAt.tup (addF_in μ1) (.cons (by rw [show (ξ 0).i 0 = 10 from p0.1]; exact DatAt.int _ _) (.cons (DatAt.mono addF_le (p0.2.1.mono l1)) (.cons (DatAt.tup (addF_in μ3) (.cons (dd0.mono fun a o x => addF_le _ _ (l1 _ _ (l0 _ _ (l₂ _ _ x)))) (.cons (dd1.mono fun a o x => addF_le _ _ (l1 _ _ (l0 _ _ (l₂ _ _ x)))) .nil))) .nil))), addF_in μ2, rfl⟩
  refine w_if du_fi (w_and3 du_fa ?_)
  have fda : ∀ {F₂ : Gh}, F₁.le F₂ → ∀ p ∈ [(da + 981, dct P [(PySem.Str.ofString "op", k1, Value.int op top), (PySem.Str.ofString "operands", k2, ρ l)]), (a + 981, ins 382 (ψ da))], F₂ p.1 p.2 := by intro F₂ l₂ p hp; simp only [μμ] at hp; rcases hp with rfl | rfl <;> (refine l₂ _ _ ?_; assumption)
  have D := D.addFz (fda fun Z Z e => e)
  refine lΛ lfB du_a fun ξ => qB (N := [_, _]) fun h' t1 D => ?_
  have STB : ∀ {Q' : Bool → Shared → Prop}, (∀ t' h', Rep h₀ [] F F₁ [ε dl (lstO [ρ r0, ρ r1] e), ε fr (frm P (("_law_node", kn, ρ a) :: ("_law_dues", kd, ρ dl) :: []))] ζ h' → Q' true (σt h' t')) → wpAny (pwm w) (AA d u true) (isTrue (bVal (sTest (fS 66 0 2)) 1) η66 (eval (bVal (sTest (fS 66 0 2)) 1) η66)) Q' (fun Z Z => False) (σt h' t1) := by
    intro Q' hQ'
    have D := D.addFz (fda fun Z Z e => e)
    rcases hop with rfl | rfl
    · refine lΛ lfB du_b4 fun ξ => qB (N := [_, _]) fun h' t2 D => ?_
      exact hQ' _ _ D
    · refine lΛ lfB du_b9 fun ξ => qB (N := [_, _]) fun h' t2 D => ?_
      exact hQ' _ _ D
  refine STB fun t2 h' D => ?_
  refine w_cmp du_fc ?_
  have b₁ := hb.le D.le
  refine lfV hb hw (sp := [compS2 P r1 (oneIf vs1 (oneIf vs0 0))]) rfl δ D (fun ξ => du_22) fun ξ => ⟨can_comp2 b₁ hw (by show u + 0 < 9900; omega) ls0 tu0 ls1 tu1, fun G0 l0 p0 => qV (N := ν3) fun h' t3 D => ?_⟩
  rw [show z + 981 + 1 = (z + 1) + 981 by omega] at D ⊢
  have ho : Ones (ξ 0).l (oneIf vs1 (oneIf vs0 0)) := p0
  refine lfV hb hw (sp := []) rfl δ D (fun ξ' => du_r) fun ξ' => qV (N := ν4) fun h' t' D => ?_
  rw [show (ξ 0).n 0 + 981 + 1 = ((ξ 0).n 0 + 1) + 981 by omega] at D
  refine eq_nil (vs := (ξ 0).l) ⟨_, D.at_ 1 _ rfl, rfl, _, rfl⟩ ⟨_, D.at_ 0 _ rfl, rfl, _, rfl⟩ (by show u < 9900; omega) ⟨_, rfl, ?_⟩
  have D := D.pk [2, 3] [_, _] rfl
  have hol := ho.len
  cases V0 with
  | none =>
    obtain rfl : vs0 = [] := hv0
    have hE : (ξ 0).l.isEmpty = false := by
      cases h9 : (ξ 0).l with
      | nil => rw [h9] at hol; exfalso; revert hol; unfold oneIf; simp; try (split <;> omega)
      | cons _ _ => rfl
    rw [hE]
    show wpAny _ _ (execs (sElse (fS 66 0 2)) _) _ _ _
    rw [du_fe]
    exact wpAny_execs_nil (REST [] _ _ _ G0 l0 rfl D)
  | some pp0 =>
  obtain ⟨x0, rfl, pv0⟩ := hv0
  obtain ⟨kk0, rfl⟩ := vk_of pv0
  obtain ⟨ha0, ok0⟩ := O0 _ rfl
  cases V1 with
  | none =>
    obtain rfl : vs1 = [] := hv1
    have hE : (ξ 0).l.isEmpty = false := by
      cases h9 : (ξ 0).l with
      | nil => rw [h9] at hol; exfalso; revert hol; unfold oneIf; simp; try (split <;> omega)
      | cons _ _ => rfl
    rw [hE]
    show wpAny _ _ (execs (sElse (fS 66 0 2)) _) _ _ _
    rw [du_fe]
    exact wpAny_execs_nil (REST [] _ _ _ G0 l0 rfl D)
  | some pp1 =>
  obtain ⟨x1, rfl, pv1⟩ := hv1
  obtain ⟨kk1, rfl⟩ := vk_of pv1
  obtain ⟨ha1, ok1⟩ := O1 _ rfl
  have hE : (ξ 0).l.isEmpty = true := by
    cases h9 : (ξ 0).l with
    | nil => rfl
    | cons _ _ => rw [h9] at hol; exfalso; revert hol; unfold oneIf; simp
  rw [hE]
  show wpAny _ _ (execs (sBody (fS 66 0 2)) _) _ _ _
  have D₀ := D
  have D := D.addFz (fz := [(l + 981, lstO [ρ c0, ρ c1] el), (da + 981, dct P [(PySem.Str.ofString "op", k1, .int op top), (PySem.Str.ofString "operands", k2, ρ l)]), (a + 981, ins 382 (ψ da)), (v0 + 981, lstO [vk kk0] ev0), (r0 + 981, tupO [ρ b0, ρ v0]), (v1 + 981, lstO [vk kk1] ev1), (r1 + 981, tupO [ρ b1, ρ v1])]) (by intro p hp; simp only [μμ] at hp; rcases hp with rfl | rfl | rfl | rfl | rfl | rfl | rfl <;> (refine l0 _ _ ?_; assumption))
  have FO : ∀ (F' : Gh) q ee, G0.le F' → F' (ψ q) (lstO [vk kk0, vk kk1] ee) → Cs w s₀ F' (κC 952 [.int op top, ρ q]) d u fun F' v => FoldPost P (foldR op [pp0, pp1]) F' v := fun F' q ee l hq => fold_calls2 (hb.le (fun a o x => l a o (D.le a o x))) hw d u ω ω hop ((pv0.mono l0).mono l) ((pv1.mono l0).mono l) ha0 ha1 ok0 ok1 ⟨ee, hq⟩
  have FQ : ∀ (q0 ee : Nat), Cs w s₀ (addF [] G0 [σσ q0 1 (lstO [vk kk0, vk kk1] ee)]) (κC 952 [.int op top, .ref ((ψ q0) + 1)]) d u fun F' v => FoldPost P (foldR op [pp0, pp1]) F' v := by
    intro q0 ee
    have := FO (addF [] G0 [σσ q0 1 (lstO [vk kk0, vk kk1] ee)]) (q0 + 1) ee addF_le (by rw [show q0 + 1 + 981 = q0 + 981 + 1 by omega]; exact addF_in (.head _))
    rw [show q0 + 1 + 981 = q0 + 981 + 1 by omega] at this
    exact this
  have b₀ := hb.le D.le
  have fe : fold2 op (some pp0) (some pp1) = okV (foldR op [pp0, pp1]) := by simp [fold2, hop13]
  rcases fold_kind op [pp0, pp1] with q1 | q1 | ⟨r, q1⟩ | ⟨r, q1⟩
  · rw [q1] at FQ fe
    refine lfF hb hw (sp := [fNone]) rfl δ D (fun ξ' => du_T20) fun ξ' => ⟨can_f_none b₀ (FQ _ _), fun G1 l1 p1 => qF (N := [_, _]) fun h' t4 D => ?_⟩
    exact REST _ _ _ _ G1 (fun Z Z x => l1 _ _ (l0 _ _ x)) fe D
  · rw [q1] at FQ fe
    refine leaf (d := d) (u := u) (g := true) (fun f => f) (okay hb w hw) ω (fTr_execs _ _) (sp := [fP P, vS βF]) rfl δ D (fun ξ' => du_T21) fun ξ' => ⟨can_f_pair b₀ (FQ _ _), fun G1 l1 p1 => ⟨by
      obtain ⟨d9, v1, v2, k9, k8, g1, g2⟩ := p1
      exact can_val (b₀.le l1) (isplain_pair_c v1 v2 k9 k8 d9 _ (b₀.le l1) hw _ _ (by show d + 0 + 0 < 1000; omega) g1 g2), fun G2 l2 p2 => ⟨_, rfl, fun a' ea h' T' D' => ?_⟩⟩⟩
    cases ea
    have D := D' [_, _] rfl
    obtain ⟨t4, et⟩ := sub2050 T'
    rw [et]
    exact REST _ _ _ _ G2 (fun Z Z x => l2 _ _ (l1 _ _ (l0 _ _ x))) fe D
  · rw [q1] at FQ fe
    refine lfF hb hw (sp := [fB r, vS βT, bS fun Z Z x => x = r]) rfl δ D (fun ξ' => du_T22) fun ξ' => ⟨can_f_bool b₀ (FQ _ _), fun G1 l1 p1 => ⟨can_val (b₀.le l1) (isplain_calls (p := .bool ((ξ' 0).b 0)) (b₀.le l1) hw _ _ (by show d + 0 + 1 < 1000; omega) rfl), fun G2 l2 p2 => ⟨can_bool ((b₀.le l1).le l2) ((plain_calls (p := .bool ((ξ' 0).b 0)) ((b₀.le l1).le l2) hw _ _ (by show d + 0 + 1 < 1000; omega) rfl).mono fun Z v Z Z Z Z Z hv => ⟨(ξ' 0).b 0, hv, p1⟩), fun G3 l3 p3 => qF (N := ν5) fun h' t' D => ?_⟩⟩⟩
    refine hQ _ _ _ _ _ _ (Nat.le_add_left _ _) D ?_
    rw [fe]
    exact ⟨_, _, _, _, _, rfl, addF_in (.head _), DatAt.tup (addF_in μ1) (.cons (DatAt.int _ _) (.cons (DatAt.tup (addF_in μ3) (.cons (by rw [show (ξ' 2).b 0 = r from p3]; exact DatAt.bool _) .nil)) (.cons (DatAt.tup (addF_in (.tail _ μ3)) .nil) .nil))), addF_in μ2, _, rfl, by rw [show (ξ' 0).b 0 = r from p1]; exact rfl⟩
  · rw [q1] at FQ fe
    refine lfF hb hw (sp := [fI r, vS βT, iS fun Z Z x => x = r]) rfl δ D (fun ξ' => du_T23) fun ξ' => ⟨can_f_int b₀ (FQ _ _), fun G1 l1 p1 => ⟨can_val (b₀.le l1) (isplain_calls (p := .int ((ξ' 0).i 0)) (b₀.le l1) hw _ _ (by show d + 0 + 1 < 1000; omega) ⟨_, rfl⟩), fun G2 l2 p2 => ⟨can_int ((b₀.le l1).le l2) ((plain_calls (p := .int ((ξ' 0).i 0)) ((b₀.le l1).le l2) hw _ _ (by show d + 0 + 1 < 1000; omega) ⟨_, rfl⟩).mono fun _ v _ _ _ _ _ ⟨t, hv⟩ => ⟨(ξ' 0).i 0, t, hv, p1⟩), fun G3 l3 p3 => qF (N := ν5) fun h' t' D => ?_⟩⟩⟩
    refine hQ _ _ _ _ _ _ (Nat.le_add_left _ _) D ?_
    rw [fe]
    exact ⟨_, _, _, _, _, rfl, addF_in (.head _), DatAt.tup (addF_in μ1) (.cons (DatAt.int _ _) (.cons (DatAt.tup (addF_in μ3) (.cons (by rw [show (ξ' 2).i 0 = r from p3]; exact DatAt.int _ _) .nil)) (.cons (DatAt.tup (addF_in (.tail _ μ3)) .nil) .nil))), addF_in μ2, _, rfl, _, by rw [show (ξ' 0).i 0 = r from p1]⟩
end
section
variable {F₁ : Gh} {d u : Nat} {g : Bool}
theorem due_p1 (hb : BaseIn P F) (hw : w.params = P) (d0 u0 : Nat) (hd : d0 + 402 < 1000) (hu : u0 + 310 < 9900) {c0 el l k1 k2 da a top : Nat} {op : Int} (hop : op = 8 ∨ op = 16 ∨ op = 11 ∨ op = 135) (fl : F (ψ l) (lstO [ρ c0] el)) (fd : F (ψ da) (dct P [("op", k1, .int op top), ("operands", k2, ρ l)])) (fa : F (ψ a) (ins 382 (ψ da))) {D0 : PyData} {V0 : Option PV} (I0 : hC 974 [ρ c0] 2 6 fun F' v => DuePost P D0 V0 F' v) (O0 : ∀ p, V0 = some p → atB p = true ∧ okPV p)
    {kids : PyData} (It : hC 969 [ρ a] 1 3 fun F' v => ToldPost (.tuple [.int 10, .tuple [.int op], kids]) F' v) :
    CallsR w s₀ F [] (κC 974 [ρ a]) d0 u0 true fun F' r Z => ∃ v, r = .ok (.ret v) ∧ DuePost P (dueR op [D0] (fold1 op V0)).1 (dueR op [D0] (fold1 op V0)).2 F' v := by
  refine callsR_intro (fz := []) (fun h H => hb.size H) ωp fun h z tk R D hR => ?_
  refine code_seg (okayh hb w hw) ω (sp := []) rfl δ D (fun ξ => du_in) fun ξ => ⟨by show d0 + 0 < 1000; omega, fun h' T' D' => ?_⟩
  have D := D' [_] rfl
  rw [show z + 981 + 1 = (z + 1) + 981 by omega] at D
  obtain ⟨t1, et⟩ := sub2050 T'
  rw [et]
  refine codeAny_func ?_
  rw [du_fb]
  refine w_app ?_
  have fz3 : ∀ {F₁ : Gh}, F.le F₁ → ∀ p ∈ [(l + 981, lstO [ρ c0] el), (da + 981, dct P [("op", k1, .int op top), ("operands", k2, ρ l)]), (a + 981, ins 382 (ψ da))], F₁ p.1 p.2 := by
    intro F₁ l p hp
    simp only [μμ] at hp
    rcases hp with rfl | rfl | rfl
    · exact l _ _ fl
    · exact l _ _ fd
    · exact l _ _ fa
  have D := D.addFz (fz3 fun Z Z e => e)
  refine lfF hb hw (sp := [lstS 2, dueL P D0 V0]) rfl δ D (fun ξ => du_01) fun ξ => ⟨by show d0 + 1 + 0 < 1000; omega, ⟨can_list (fun h H => hb.size H) (sizeLine_lt (by simp)), fun G0 l0 p0 => have b0 := hb.le l0; have m0 : F.le G0 := l0; ⟨can_dueL b0 (I0 G0 m0), fun G1 l1 p1 => have b1 := b0.le l1; have m1 : F.le G1 := fun a o e => l1 a o (m0 a o e); qFz hb (N := ν4) fun h' z9 t2 D => ?_⟩⟩⟩
  have tu0 := D.fz 0 _ rfl rfl
  have ls0 := D.fz 1 _ rfl rfl
  obtain ⟨dd0, hv0⟩ : DatAt G1 (.ref ((ξ 1).n 4 + 981)) D0 ∧ VsAt P G1 (ξ 1).l V0 := ⟨p1.1.mono (fun Z Z e => e), p1.2.mono (fun Z Z e => e)⟩
  have D := D.pk [2, 3] [_, _] rfl
  rw [show (ξ 0).n 0 + 981 + 1 = ((ξ 0).n 0 + 1) + 981 by omega] at D
  have lG : F.le G1 := m1
  refine wpAny_mono (due_q1 (Q := fun f s' => ∃ v, f = .ret v ∧ R (.ok (.ret v)) s') (d := d0 + 1) (u := u0 + 3) hb hw ω ω hop (lG _ _ fl) (lG _ _ fd) (lG _ _ fa) tu0 ls0 dd0 hv0 O0 (fun F' l => It F' fun a o x => l a o (lG a o x)) D fun v N sz tk h' F₂ T' D hP => ⟨v, rfl, hR _ _ _ _ _ _ [] T' D rfl ωp ⟨_, rfl, hP⟩⟩) (fun f s' q => ?_) fun Z Z q => q.elim
  obtain ⟨v, rfl, q⟩ := q
  exact q
theorem due_p2 (hb : BaseIn P F) (hw : w.params = P) (d0 u0 : Nat) (hd : d0 + 402 < 1000) (hu : u0 + 310 < 9900) {c0 c1 el l k1 k2 da a top : Nat} {op : Int} (hop : op = 4 ∨ op = 9) (fl : F (ψ l) (lstO [ρ c0, ρ c1] el)) (fd : F (ψ da) (dct P [("op", k1, .int op top), ("operands", k2, ρ l)])) (fa : F (ψ a) (ins 382 (ψ da))) {D0 : PyData} {V0 : Option PV} (I0 : hC 974 [ρ c0] 2 6 fun F' v => DuePost P D0 V0 F' v) (O0 : ∀ p, V0 = some p → atB p = true ∧ okPV p) {D1 : PyData} {V1 : Option PV} (I1 : hC 974 [ρ c1] 2 6 fun F' v => DuePost P D1 V1 F' v) (O1 : ∀ p, V1 = some p → atB p = true ∧ okPV p)
    {kids : PyData} (It : hC 969 [ρ a] 1 3 fun F' v => ToldPost (.tuple [.int 10, .tuple [.int op], kids]) F' v) :
    CallsR w s₀ F [] (κC 974 [ρ a]) d0 u0 true fun F' r Z => ∃ v, r = .ok (.ret v) ∧ DuePost P (dueR op [D0, D1] (fold2 op V0 V1)).1 (dueR op [D0, D1] (fold2 op V0 V1)).2 F' v := by
  refine callsR_intro (fz := []) (fun h H => hb.size H) ωp fun h z tk R D hR => ?_
  refine code_seg (okayh hb w hw) ω (sp := []) rfl δ D (fun ξ => du_in) fun ξ => ⟨by show d0 + 0 < 1000; omega, fun h' T' D' => ?_⟩
  have D := D' [_] rfl
  rw [show z + 981 + 1 = (z + 1) + 981 by omega] at D
  obtain ⟨t1, et⟩ := sub2050 T'
  rw [et]
  refine codeAny_func ?_
  rw [du_fb]
  refine w_app ?_
  have fz3 : ∀ {F₁ : Gh}, F.le F₁ → ∀ p ∈ [(l + 981, lstO [ρ c0, ρ c1] el), (da + 981, dct P [("op", k1, .int op top), ("operands", k2, ρ l)]), (a + 981, ins 382 (ψ da))], F₁ p.1 p.2 := by
    intro F₁ l p hp
    simp only [μμ] at hp
    rcases hp with rfl | rfl | rfl
    · exact l _ _ fl
    · exact l _ _ fd
    · exact l _ _ fa
  have D := D.addFz (fz3 fun Z Z e => e)
  refine lfF hb hw (sp := [lstS 2, dueL P D0 V0, dueL P D1 V1]) rfl δ D (fun ξ => du_02) fun ξ => ⟨by show d0 + 1 + 0 < 1000; omega, ⟨can_list (fun h H => hb.size H) (sizeLine_lt (by simp)), fun G0 l0 p0 => have b0 := hb.le l0; have m0 : F.le G0 := l0; ⟨can_dueL b0 (I0 G0 m0), fun G1 l1 p1 => have b1 := b0.le l1; have m1 : F.le G1 := fun a o e => l1 a o (m0 a o e); ⟨can_dueL b1 (I1 G1 m1), fun G2 l2 p2 => have b2 := b1.le l2; have m2 : F.le G2 := fun a o e => l2 a o (m1 a o e); qFz hb (N := ν6) fun h' z9 t2 D => ?_⟩⟩⟩⟩
  have tu0 := D.fz 2 _ rfl rfl
  have ls0 := D.fz 3 _ rfl rfl
  have tu1 := D.fz 0 _ rfl rfl
  have ls1 := D.fz 1 _ rfl rfl
  obtain ⟨dd0, hv0⟩ : DatAt G2 (.ref ((ξ 1).n 4 + 981)) D0 ∧ VsAt P G2 (ξ 1).l V0 := ⟨p1.1.mono (fun Z Z e => l2 _ _ (e)), p1.2.mono (fun Z Z e => l2 _ _ (e))⟩
  obtain ⟨dd1, hv1⟩ : DatAt G2 (.ref ((ξ 2).n 4 + 981)) D1 ∧ VsAt P G2 (ξ 2).l V1 := ⟨p2.1.mono (fun Z Z e => e), p2.2.mono (fun Z Z e => e)⟩
  have D := D.pk [4, 5] [_, _] rfl
  rw [show (ξ 0).n 0 + 981 + 1 = ((ξ 0).n 0 + 1) + 981 by omega] at D
  have lG : F.le G2 := m2
  refine wpAny_mono (due_q2 (Q := fun f s' => ∃ v, f = .ret v ∧ R (.ok (.ret v)) s') (d := d0 + 1) (u := u0 + 3) hb hw ω ω hop (lG _ _ fl) (lG _ _ fd) (lG _ _ fa) tu0 ls0 dd0 hv0 O0 tu1 ls1 dd1 hv1 O1 (fun F' l => It F' fun a o x => l a o (lG a o x)) D fun v N sz tk h' F₂ T' D hP => ⟨v, rfl, hR _ _ _ _ _ _ [] T' D rfl ωp ⟨_, rfl, hP⟩⟩) (fun f s' q => ?_) fun Z Z q => q.elim
  obtain ⟨v, rfl, q⟩ := q
  exact q
end
theorem due_ok {t : T} (ok : OkW t) : ∀ p, (dueD t).2 = some p → atB p = true ∧ okPV p := by
  intro p hp
  rw [(due_law t).2] at hp
  have o := okw_foldT ok
  revert hp o
  cases foldT t with
  | const v =>
    intro hp o
    have hp : (if atB v = true then some v else none) = some p := hp
    by_cases ha : atB v = true
    · rw [if_pos ha] at hp
      obtain rfl := Option.some.inj hp
      exact ⟨ha, o.1⟩
    · rw [if_neg ha] at hp; cases hp
  | _ => intro hp; cases hp
section
variable {w : World} {s₀ : Shared} {P : Params}
theorem due_all : ∀ (t : T) {F : Gh} {a : Nat} (hb : BaseIn P F) (hw : w.params = P) (n : NodeAt P F a t) (ok : OkW t) (d0 u0 : Nat) (hd : d0 + 2 * hT t + 405 < 1000) (hu : u0 + 6 * hT t + 320 < 9900), χK 974 [ρ a] fun F' v => DuePost P (dueD t).1 (dueD t).2 F' v := by
  intro t
  induction t with
  | const v =>
    intro F a hb hw n ok d0 u0 hd hu
    have It := fun (F' : Gh) (l : F.le F') => told_all (w := w) (s₀ := s₀) (.const v) (hb.le l) hw (n.mono l) (d0 + 1) (u0 + 3) ω
    obtain ⟨d, k, x, pv, i1, i2⟩ := n
    obtain ⟨k0, rfl⟩ := vk_of pv
    cases ha : atB v with
    | true => exact due_cT_c k0 k d a hb hw d0 u0 ω i1 i2 It pv ha
    | false => exact due_cF_c k0 k d a hb hw d0 u0 ω i1 i2 It pv ha
  | loc x =>
    intro F a hb hw n ok d0 u0 hd hu
    have It := fun (F' : Gh) (l : F.le F') => told_all (w := w) (s₀ := s₀) (.loc x) (hb.le l) hw (n.mono l) (d0 + 1) (u0 + 3) ω
    obtain ⟨d, k, t, i1, i2⟩ := n
    exact due_loc_c _ k d a hb hw d0 u0 ω i1 i2 It
  | glob x =>
    intro F a hb hw n ok d0 u0 hd hu
    have It := fun (F' : Gh) (l : F.le F') => told_all (w := w) (s₀ := s₀) (.glob x) (hb.le l) hw (n.mono l) (d0 + 1) (u0 + 3) ω
    obtain ⟨d, k, t, i1, i2⟩ := n
    exact due_glob_c _ k d a hb hw d0 u0 ω i1 i2 It
  | setLoc x t ih =>
    intro F a hb hw n ok d0 u0 hd hu
    simp only [hT] at hd hu
    have It := fun (F' : Gh) (l : F.le F') => told_all (w := w) (s₀ := s₀) (.setLoc x t) (hb.le l) hw (n.mono l) (d0 + 1) (u0 + 3) (by simp only [hT]; omega)
    obtain ⟨d, k1, k2, tk, c, nc, i1, i2⟩ := n
    exact due_setLoc_c _ c k1 k2 d a hb hw d0 u0 ω i1 i2 (fun F' l => ih (hb.le l) hw (nc.mono l) ⟨ok.1.2, ok.2⟩ _ _ ω ω) It
  | setGlob x t ih =>
    intro F a hb hw n ok d0 u0 hd hu
    simp only [hT] at hd hu
    have It := fun (F' : Gh) (l : F.le F') => told_all (w := w) (s₀ := s₀) (.setGlob x t) (hb.le l) hw (n.mono l) (d0 + 1) (u0 + 3) (by simp only [hT]; omega)
    obtain ⟨d, k1, k2, tk, c, nc, i1, i2⟩ := n
    exact due_setGlob_c _ c k1 k2 d a hb hw d0 u0 ω i1 i2 (fun F' l => ih (hb.le l) hw (nc.mono l) ⟨ok.1.2, ok.2⟩ _ _ ω ω) It
  | define x t ih =>
    intro F a hb hw n ok d0 u0 hd hu
    simp only [hT] at hd hu
    have It := fun (F' : Gh) (l : F.le F') => told_all (w := w) (s₀ := s₀) (.define x t) (hb.le l) hw (n.mono l) (d0 + 1) (u0 + 3) (by simp only [hT]; omega)
    obtain ⟨d, k1, k2, tk, c, nc, i1, i2⟩ := n
    exact due_define_c _ c k1 k2 d a hb hw d0 u0 ω i1 i2 (fun F' l => ih (hb.le l) hw (nc.mono l) ⟨ok.1.2, ok.2⟩ _ _ ω ω) It
  | ite x y z ih1 ih2 ih3 =>
    intro F a hb hw n ok d0 u0 hd hu
    simp only [hT] at hd hu
    have It := fun (F' : Gh) (l : F.le F') => told_all (w := w) (s₀ := s₀) (.ite x y z) (hb.le l) hw (n.mono l) (d0 + 1) (u0 + 3) (by simp only [hT]; omega)
    obtain ⟨d, k1, k2, k3, c, e, f, n1, n2, n3, i1, i2⟩ := n
    exact due_ite_c c e f k1 k2 k3 d a hb hw d0 u0 ω i1 i2 (fun F' l => ih1 (hb.le l) hw (n1.mono l) ⟨ok.1.1, ok.2.1⟩ _ _ ω ω) (fun F' l => ih2 (hb.le l) hw (n2.mono l) ⟨ok.1.2.1, ok.2.2.1⟩ _ _ ω ω) (fun F' l => ih3 (hb.le l) hw (n3.mono l) ⟨ok.1.2.2, ok.2.2.2⟩ _ _ ω ω) It
  | lam l p r t ih =>
    intro F a hb hw n ok d0 u0 hd hu
    simp only [hT] at hd hu
    have It := fun (F' : Gh) (l' : F.le F') => told_all (w := w) (s₀ := s₀) (.lam l p r t) (hb.le l') hw (n.mono l') (d0 + 1) (u0 + 3) (by simp only [hT]; omega)
    obtain ⟨d, k1, k2, k3, k4, t1, t2, t3, c, q, nc, x, i1, i2⟩ := n
    exact due_lam_c _ _ _ c k1 k2 k3 k4 d a hb hw d0 u0 ω i1 i2 (fun F' l => ih (hb.le l) hw (nc.mono l) ⟨ok.1.2.2.2, ok.2⟩ _ _ ω ω) It
  | lam0 l r t ih =>
    intro F a hb hw n ok d0 u0 hd hu
    simp only [hT] at hd hu
    have It := fun (F' : Gh) (l' : F.le F') => told_all (w := w) (s₀ := s₀) (.lam0 l r t) (hb.le l') hw (n.mono l') (d0 + 1) (u0 + 3) (by simp only [hT]; omega)
    obtain ⟨d, k1, k2, k3, k4, t1, t3, c, q, nc, x, i1, i2⟩ := n
    exact due_lam_c _ _ _ c k1 k2 k3 k4 d a hb hw d0 u0 ω i1 i2 (fun F' l => ih (hb.le l) hw (nc.mono l) ⟨ok.1.2.2, ok.2⟩ _ _ ω ω) It
  | call x y ih1 ih2 =>
    intro F a hb hw n ok d0 u0 hd hu
    simp only [hT] at hd hu
    have It := fun (F' : Gh) (l : F.le F') => told_all (w := w) (s₀ := s₀) (.call x y) (hb.le l) hw (n.mono l) (d0 + 1) (u0 + 3) (by simp only [hT]; omega)
    obtain ⟨d, k1, k2, c, e, q, n1, n2, ⟨el, hl⟩, i1, i2⟩ := n
    exact due_call_c c e el q k1 k2 d a hb hw d0 u0 ω hl i1 i2 (fun F' l => ih1 (hb.le l) hw (n1.mono l) ⟨ok.1.1, ok.2.1⟩ _ _ ω ω) (fun F' l => ih2 (hb.le l) hw (n2.mono l) ⟨ok.1.2, ok.2.2⟩ _ _ ω ω) It
  | seq x y ih1 ih2 =>
    intro F a hb hw n ok d0 u0 hd hu
    simp only [hT] at hd hu
    have It := fun (F' : Gh) (l : F.le F') => told_all (w := w) (s₀ := s₀) (.seq x y) (hb.le l) hw (n.mono l) (d0 + 1) (u0 + 3) (by simp only [hT]; omega)
    obtain ⟨d, k, c, e, q, n1, n2, ⟨el, hl⟩, i1, i2⟩ := n
    exact due_seq_c c e el q k d a hb hw d0 u0 ω hl i1 i2 (fun F' l => ih1 (hb.le l) hw (n1.mono l) ⟨ok.1.1, ok.2.1⟩ _ _ ω ω) (fun F' l => ih2 (hb.le l) hw (n2.mono l) ⟨ok.1.2, ok.2.2⟩ _ _ ω ω) It
  | prim1 op x ih =>
    intro F a hb hw n ok d0 u0 hd hu
    simp only [hT] at hd hu
    have It := fun (F' : Gh) (l : F.le F') => told_all (w := w) (s₀ := s₀) (.prim1 op x) (hb.le l) hw (n.mono l) (d0 + 1) (u0 + 3) (by simp only [hT]; omega)
    obtain ⟨d, k1, k2, t, c, q, nc, ⟨el, hl⟩, i1, i2⟩ := n
    have okx : OkW x := ⟨ok.1.2, ok.2.2⟩
    exact Calls.ofR (due_p1 hb hw d0 u0 ω ω ok.2.1 hl i1 i2 (fun F' l => ih (hb.le l) hw (nc.mono l) okx _ _ ω ω) (due_ok okx) It)
  | prim2 op x y ih1 ih2 =>
    intro F a hb hw n ok d0 u0 hd hu
    simp only [hT] at hd hu
    have It := fun (F' : Gh) (l : F.le F') => told_all (w := w) (s₀ := s₀) (.prim2 op x y) (hb.le l) hw (n.mono l) (d0 + 1) (u0 + 3) (by simp only [hT]; omega)
    obtain ⟨d, k1, k2, t, c, e, q, n1, n2, ⟨el, hl⟩, i1, i2⟩ := n
    have okx : OkW x := ⟨ok.1.2.1, ok.2.2.1⟩
    have oky : OkW y := ⟨ok.1.2.2, ok.2.2.2⟩
    by_cases h13 : op = 13
    · subst h13
      have e13 : fold2 13 (dueD x).2 (dueD y).2 = none := by unfold fold2; split <;> simp
      show Cs w s₀ F _ d0 u0 fun F' v => DuePost P (dueR 13 [(dueD x).1, (dueD y).1] (fold2 13 (dueD x).2 (dueD y).2)).1 (dueR 13 [(dueD x).1, (dueD y).1] (fold2 13 (dueD x).2 (dueD y).2)).2 F' v
      rw [e13]
      exact due_set_c c e el q t k1 k2 d a hb hw d0 u0 ω hl i1 i2 (fun F' l => ih1 (hb.le l) hw (n1.mono l) okx _ _ ω ω) (fun F' l => ih2 (hb.le l) hw (n2.mono l) oky _ _ ω ω) It
    · have hop : op = 4 ∨ op = 9 := by have := ok.2.1; omega
      exact Calls.ofR (due_p2 hb hw d0 u0 ω ω hop hl i1 i2 (fun F' l => ih1 (hb.le l) hw (n1.mono l) okx _ _ ω ω) (due_ok okx) (fun F' l => ih2 (hb.le l) hw (n2.mono l) oky _ _ ω ω) (due_ok oky) It)
  | fix x y z ih1 ih2 =>
    intro F a hb hw n ok d0 u0 hd hu
    simp only [hT] at hd hu
    have It := fun (F' : Gh) (l : F.le F') => told_all (w := w) (s₀ := s₀) (.fix x y z) (hb.le l) hw (n.mono l) (d0 + 1) (u0 + 3) (by simp only [hT]; omega)
    obtain ⟨d, k1, k2, k3, t, c, e, q, m, n1, n2, ⟨el, hl⟩, hm, i1, i2⟩ := n
    exact due_fix_c c el q e _ k1 k2 k3 d a hb hw d0 u0 ω hl i1 i2 (fun F' l => ih1 (hb.le l) hw (n1.mono l) ⟨ok.1.2.1, ok.2.1⟩ _ _ ω ω) (fun F' l => ih2 (hb.le l) hw (n2.mono l) ⟨ok.1.2.2, ok.2.2⟩ _ _ ω ω) It
end
theorem meets_enumerate_newT (l : Addr) (items : Array Value) (n : Nat) :
    Meets (Builtin.«enumerate.__new__» ⟨[.type "enumerate", .ref l], []⟩) (fun Z R s => s.heap.get? l = some { cls := .type "tuple", dict := none, data := .seq items n, slots := #[] } ∧
      R (.ok (.ret (.ref (s.heap.push (iσ (.ref l) (.int 0 0))).objs.size)))
        { s with heap := (s.heap.push (iσ (.ref l) (.int 0 0))).push { cls := .type "enumerate", data := .fields #[.none, .bool false, .ref s.heap.objs.size, rawInt 0, .none, .none] } }) :=
  .of_wp fun prog w A R s h => by
    obtain ⟨hp, g, d, tk, os⟩ := s; obtain ⟨hl, h⟩ := h
    have hsub := sub_enumerate
    have hL : Heap.IsTuple (Shared.heap ⟨hp, g, d, tk, os⟩) l items := ⟨_, hl, rfl, n, rfl⟩
    wp_walk using AutoSeq1.wpAny_loadPart' hl
    refine wpAny_stack_any fun st => wpAny_pure ?_
    split
    · rename_i c _ _ _ _ _
      cases (c == Value.type "enumerate")
      · wp_walk using AutoSeq1.wpAny_loadPart' hl, wpAny_pyIter_tuple hL
        exact ⟨_, rfl, h⟩
      · wp_walk using AutoSeq1.wpAny_loadPart' hl, wpAny_pyIter_tuple hL
        exact ⟨_, rfl, h⟩
    · wp_walk using AutoSeq1.wpAny_loadPart' hl, wpAny_pyIter_tuple hL
      exact ⟨_, rfl, h⟩
theorem call_enumerate_tuple {prog : Program} {w : World} {A : Around} {E : Value → Shared → Prop} {s : Shared} {l : Addr} {items : Array Value} {n : Nat} {Q : Value → Shared → Prop} (hl : s.heap.get? l = some { cls := .type "tuple", dict := none, data := .seq items n, slots := #[] })
    (h : Q (.ref (s.heap.objs.size + 1)) { s with heap := (s.heap.push (iσ (.ref l) (.int 0 0))).push { cls := .type "enumerate", data := .fields #[.none, .bool false, .ref s.heap.objs.size, rawInt 0, .none, .none] } }) :
    wpAny (model prog w) A (call (.type "enumerate") [.ref l]) Q E s := by
  refine callType_new F.called_enumerate δ (F.typeCall_enumerate_1 _) (F.newCall_enumerate_1 _) (fun obj => F.args_object_init_2 obj _) F.entry_enumerate_new
    (meets_enumerate_newT l items n) ⟨hl, ?_⟩
  have hz : (s.heap.push (iσ (.ref l) (.int 0 0))).objs.size = s.heap.objs.size + 1 := Heap.size_push ..
  show _ ∧ _
  rw [hz]
  have he := Heap.get?_push_size (s.heap.push (iσ (.ref l) (.int 0 0))) (o := { cls := .type "enumerate", data := .fields #[.none, .bool false, .ref s.heap.objs.size, rawInt 0, .none, .none] }) rfl
  rw [hz] at he
  exact ⟨⟨_, he, rfl⟩, h⟩
section
variable {P : Params} {ξ : Nat → Ans} {z tk d0 u0 tnm jm fr i it e ti tp jq jw ts : Nat} {nm s : PySem.Str} {ov v1 v2 x1 x2 x3 : Value} {kv : KV} {o1 o2 : Obj}
theorem op_in : τH 10 (κC 865 [.str nm tnm]) [] (dec 5 0x10200000) [] [[0]]
  (δP 0 (.agn (.func (fBody (fAt 49 0)) (envF 49 0 865 864 "op_of.<locals>." ζ)) (d0 + 0) (u0 + 0) true [σ z (frm P [("name", τ, .str nm tnm)])] (ζz 1) (τt 1))) := κR
theorem op_i : τB 11 (vTr (evalT (sTest (fS 49 0 0)) η49)) [ε fr (frm P [("name", jm, .str nm tnm)])] (dec 4 0x200000) [ωX (.ref (x.n 2 + 981)) [] [⟨(x.n 2 + 981), { cls := .type "enumerate", data := .fields #[.none, .bool false, .ref (x.n 3 + 981), .int 0 0, .none, .none] }, true⟩, ⟨(x.n 3 + 981), (iσ (.ref 858) (.int 0 0)), true⟩]] [[], [0, 1, 2]]
  (ρC (.type "enumerate") [.ref 858] 0 0 [] (ρF (ξr 0) [ςσ ((ξ 0).n 2 + 981) { cls := .type "enumerate", data := .fields #[.none, .bool false, .ref ((ξ 0).n 3 + 981), .int 0 0, .none, .none] }, ςσ ((ξ 0).n 3 + 981) (iσ (.ref 858) (.int 0 0)), σ fr (frm P [("name", jm, .str nm tnm)])] (ξy 0) (ξu 0))) := κR
theorem op_n : τB 29 (oTr (nextT (ρ e))) [ε it (iσ (.ref 858) (.int (Int.ofNat i) 0)), ε e { cls := .type "enumerate", data := .fields #[.none, .bool false, ρ it, .int (Int.ofNat i) 0, .none, ov] }, ε fr (frm P kv)] (dec 21 0x3060c183060c182040810204040820808002) [(wM fun x => (.ok (.ret ((x.v 0))), [(0, (iσ (.ref 858) (.int (Int.ofNat i + 1) 0)))]))] [[0], [0, 1, 2, 3]]
  (.req (.call (.builtin "tuple_iterator.__next__") ⟨[ρ it], []⟩) (d0 + 305) (u0 + 10) false [σ it (iσ (.ref 858) (.int (Int.ofNat i) 0))] (ρF (.ref (ξy 0)) [ςσ (ξy 0) (tupO [.int (Int.ofNat i) (ξu 0), ((ξ 0).v 0)]), σ it (iσ (.ref 858) (.int (Int.ofNat i + 1) 0)), σ e { cls := .type "enumerate", data := .fields #[.int (Int.ofNat (ξy 0)) 0, .bool false, ρ it, .int (Int.ofNat i + 1) 0, .none, ((ξ 0).v 0)] }, σ fr (frm P kv)] (ξz 0 1) (ξt 0 1))) := κR
theorem op_a0 : τB 63 (uTr (assignT (sTgt (fS 49 0 0)) η49 (ρ tp))) [ε fr (frm P [("name", jm, .str nm tnm)]), ε it o1, ε e o2, ε tp (tupO [.int (Int.ofNat i) ti, .ref (i + 666)])] ο33 [] [[3, 4, 5]]
  (νF [σ fr (frm P [("name", jm, .str nm tnm), ("place", τ, .int (Int.ofNat i) ti), ("row", (τt 1), .ref (i + 666))]), σ it o1, σ e o2] (ζz 3) (τt 2)) := κR
theorem op_a1 : τB 63 (uTr (assignT (sTgt (fS 49 0 0)) η49 (ρ tp))) [ε fr (frm P [("name", jm, .str nm tnm), ("place", jq, v1), ("row", jw, v2)]), ε it o1, ε e o2, ε tp (tupO [.int (Int.ofNat i) ti, .ref (i + 666)])] ο33 [] [[3, 4, 5]]
  (νF [σ fr (frm P [("name", jm, .str nm tnm), ("place", jq, .int (Int.ofNat i) ti), ("row", jw, .ref (i + 666))]), σ it o1, σ e o2] (ζz 3) (τt 2)) := κR
theorem op_b0 : τB 21 (fTr (execsT (sBody (fS 49 0 0)) η49)) [ε fr (frm P [("name", jm, .str nm tnm), ("place", jq, .int (Int.ofNat i) ti), ("row", jw, .ref (i + 666))]), ε it o1, ε e o2, ⟨(i + 666), (tupO [.str s ts, x1, x2, x3]), false⟩] (dec 11 0x408108cc2000810201) [wV βF] [[], [0, 1, 2]]
  (ρD "str.__eq__" [.str s ts, .str nm tnm] 0 0 [] (νF [σ fr (frm P [("name", jm, .str nm tnm), ("place", jq, .int (Int.ofNat i) ti), ("row", jw, .ref (i + 666))]), σ it o1, σ e o2] (ξy 0) (ξu 0))) := κR
theorem op_b1 : τB 24 (fTr (execsT (sBody (fS 49 0 0)) η49)) [ε fr (frm P [("name", jm, .str nm tnm), ("place", jq, .int (Int.ofNat i) ti), ("row", jw, .ref (i + 666))]), ε it o1, ε e o2, ⟨(i + 666), (tupO [.str s ts, x1, x2, x3]), false⟩] (dec 12 0x20408108cc2000810201) [wV βT] [[], [0, 1, 2]]
  (ρD "str.__eq__" [.str s ts, .str nm tnm] 0 0 [] (ρF (.int (Int.ofNat i) ti) [σ fr (frm P [("name", jm, .str nm tnm), ("place", jq, .int (Int.ofNat i) ti), ("row", jw, .ref (i + 666))]), σ it o1, σ e o2] (ξy 0) (ξu 0))) := κR
end
section
variable {d u : Nat} {g : Bool}
theorem Rep.set1 {M : List Ent} {sz : Nat} {h h' : Heap} {i : Nat} {a : Addr} {o o' : Obj} (D : Rep h₀ mt F₀ F M sz h) (hi : nth M i = ςσ a o) (hs : Heap.SameBut a h h') (hg : h'.get? a = some o') :
    Rep h₀ mt F₀ F (setN (fun Z => o') M i) sz h' := by
  have z := D.behind (F' := F) (idx := [i]) (own := [(a, o)]) (own' := [(a, o')]) (N := []) (h' := h') (by simp) (by show [nth M i] = _; rw [hi]; rfl) (fun Z Z e => e)
    (fun b o1 e => by
      have hne : b ≠ a := by rintro rfl; exact D.own i _ hi rfl _ e
      rw [hs.2 b hne]; exact D.holds b o1 e)
    (fun b o1 e hb => by
      have hne : b ≠ a := by rintro rfl; exact hb (.head _)
      rw [hs.2 b hne]; exact e) (fun Z Z e => .inl e) rfl (by intro p hp; cases List.mem_singleton.mp hp; exact hg) (by intro i e q; cases i <;> cases q) (by intro i j e e' q; cases i <;> cases q)
  rw [hs.1, D.size] at z
  exact z
theorem call_tupnext {prog : Program} {A : Around} {E : Value → Shared → Prop} {s : Shared} {it t : Addr} {i : Nat} {items : Array Value} {x : Value} {n : Nat} {Q : Value → Shared → Prop}
    (ho : s.heap.get? it = some (iσ (.ref t) (.int (Int.ofNat i) 0))) (ht : s.heap.get? t = some { cls := .type "tuple", data := .seq items n }) (hx : items[i]? = some x)
    (hQ : ∀ h', Heap.SameBut it s.heap h' → h'.get? it = some (iσ (.ref t) (.int (Int.ofNat i + 1) 0)) → Q x { s with heap := h' }) :
    wpAny (model prog w) A (call (.builtin "tuple_iterator.__next__") [.ref it]) Q E s := by
  have hT : s.TypeIs (.ref it) "tuple_iterator" := ⟨_, ho, rfl⟩
  refine wpAny_call_entry F.slot_tuple_iterator_next hT F.entry_tuple_iterator_next ?_ (F.args_tuple_iterator_next_1 _)
  show wpAny _ _ (field (.ref it) 0 >>= _) _ _ s
  refine wpAny_bind (wpAny_field ho rfl (x := .ref t) rfl ?_)
  show wpAny _ _ (if (Value.ref t == Value.none) = true then _ else _) _ _ s
  rw [if_neg (show ¬ ((Value.ref t == Value.none) = true) from Bool.false_ne_true)]
  show wpAny _ _ (field (.ref it) 1 >>= _) _ _ s
  refine wpAny_bind (wpAny_field ho rfl (x := .int (Int.ofNat i) 0) rfl ?_)
  show wpAny _ _ (seqItems? (.ref t) >>= _) _ _ s
  refine wpAny_bind (wpAny_seqItems ht rfl ?_)
  have e : items[(Int.ofNat i).toNat]? = some x := hx
  simp only [e]
  exact wpAny_bind (wpAny_setField_rec ho (by simp) fun h' he' hs' => wpAny_pure ⟨x, rfl, hQ h' hs' he'⟩)
noncomputable def tiO (i : Int) : Obj := (iσ (.ref 858) (.int i 0))
noncomputable def enO (a : Value) (it : Nat) (i : Int) (v : Value) : Obj := { cls := .type "enumerate", data := .fields #[a, .bool false, ρ it, .int i 0, .none, v] }
noncomputable def tnS (k i : Nat) : Mine.Spec := ⟨ωX (x.v 0) [(k, (iσ (.ref 858) (.int (Int.ofNat i + 1) 0)))] [], fun Z Z x => x.v 0 = .ref (i + 666)⟩
theorem rows_tup (P : Params) : (bt P).get 858 = some (tupO ((List.range 192).map fun i => .ref (i + 666))) := κR
noncomputable def rowL (P : Params) (i : Nat) : List Value := match (bt P).get (i + 666) with
  | some o => match o.data with
    | .seq xs _ => xs.toList
    | _ => []
  | none => []
noncomputable def rowNm (P : Params) (i : Nat) : PySem.Str := match rowL P i with
  | .str s _ :: _ => s
  | _ => default
noncomputable def rowTk (P : Params) (i : Nat) : Nat := match rowL P i with
  | .str _ t :: _ => t
  | _ => 0
noncomputable def rowV (P : Params) (i j : Nat) : Value := ((rowL P i)[j]?).getD .none
theorem rows_are (P : Params) : (List.range 192).map (fun i => (bt P).get (i + 666)) = (List.range 192).map (fun i => some (tupO [.str (rowNm P i) (rowTk P i), rowV P i 1, rowV P i 2, rowV P i 3])) := κR
theorem row_at (P : Params) {i : Nat} (h : i < 192) : (bt P).get (i + 666) = some (tupO [.str (rowNm P i) (rowTk P i), rowV P i 1, rowV P i 2, rowV P i 3]) := by
  have e := congrArg (fun l => l[i]?) (rows_are P)
  simp only [List.getElem?_map, List.getElem?_range h, Option.map_some] at e
  exact Option.some.inj e
theorem can_tn (hb : BaseIn P F) {k it i : Nat} (hi : i < 192) : CanV w s₀ h₀ mt F₀ (.call (.builtin "tuple_iterator.__next__") ⟨[ρ it], []⟩) d u g F [k] [σ it (iσ (.ref 858) (.int (Int.ofNat i) 0))] (tnS k i) := by
  intro M sz tk hsel h R ht D hR
  have hk : nth M k = σ it (iσ (.ref 858) (.int (Int.ofNat i) 0)) := (List.cons.inj hsel).1
  have hx : ((List.range 192).map fun i => Value.ref (i + 666)).toArray[i]? = some (.ref (i + 666)) := by
    rw [List.getElem?_toArray, List.getElem?_map, List.getElem?_range hi]; rfl
  refine node_of_wp (call_tupnext (s := sto s₀ h tk) (i := i) (Q := fun v s' => R (.ok (.ret v)) s') (E := fun Z Z => False) (D.at_ k _ hk) (D.holds _ _ (hb.1 858 _ (rows_tup P))) hx fun h' hs' hg' => ?_) (fun Z Z q => q) (fun Z Z q => q.elim)
  have D' := D.set1 hk hs' hg'
  obtain ⟨z, hz'⟩ := sub981 (hb.size D.holds)
  obtain ⟨t, rfl⟩ := sub2050 ht
  have hsz : sz = z + 981 := D.size ▸ hz'
  subst hsz
  exact hR (mkA (fun j => match j with | 0 => z | 1 => t | _ => 0) (fun Z => 0) [] true (.ref (i + 666))) F h' (fun Z Z e => e) rfl D'
noncomputable def enS : Mine.Spec := ⟨ωX (.ref (x.n 2 + 981)) [] [⟨(x.n 2 + 981), { cls := .type "enumerate", data := .fields #[.none, .bool false, .ref (x.n 3 + 981), .int (0) 0, .none, .none] }, true⟩, ⟨(x.n 3 + 981), (iσ (.ref 858) (.int (0) 0)), true⟩], fun Z Z Z => True⟩
theorem can_en (hb : BaseIn P F) : CanV w s₀ h₀ mt F₀ (.call (.type "enumerate") ⟨[.ref 858], []⟩) d u g F [] [] enS := by
  intro M sz tk hsel h R ht D hR
  obtain ⟨z, hz'⟩ := sub981 (hb.size D.holds)
  obtain ⟨tt, rfl⟩ := sub2050 ht
  have hsz : sz = z + 981 := D.size ▸ hz'
  subst hsz
  refine node_of_wp (call_enumerate_tuple (s := σt h tt) (n := 0) (Q := fun v s' => R (.ok (.ret v)) s') (E := fun Z Z => False) (D.holds _ _ (hb.1 858 _ (rows_tup P))) ?_) (fun Z Z q => q) (fun Z Z q => q.elim)
  have D1 := D.alloc (o := (iσ (.ref 858) (.int 0 0))) rfl
  have D2 := D1.alloc (o := { cls := .type "enumerate", data := .fields #[.none, .bool false, .ref h.objs.size, rawInt 0, .none, .none] }) rfl
  show R (.ok (.ret (.ref (h.objs.size + 1)))) _
  rw [hz'] at D2 ⊢
  have y := hR (mkA (fun j => match j with | 0 => z + 2 | 1 => tt | 2 => z + 1 | 3 => z | _ => 0) (fun Z => 0) []) F _ (fun Z Z e => e) trivial (by
    show Rep _ _ _ _ (⟨z + 1 + 981, _, true⟩ :: (ε z _) :: M) (z + 2 + 981) _
    rw [show z + 1 + 981 = z + 981 + 1 by omega, show z + 2 + 981 = z + 981 + 1 + 1 by omega]
    exact D2)
  rw [show z + 981 + 1 = z + 1 + 981 by omega]
  exact y
end
section
variable {d u : Nat} {g : Bool}
noncomputable def tE : PySem.Expr → List PySem.Expr
  | .Tuple es _ _ => es
  | _ => []
noncomputable def tX : PySem.Expr → Nat
  | .Tuple _ x _ => x
  | _ => 0
noncomputable def tP : PySem.Expr → Pos
  | .Tuple _ _ p => p
  | _ => ⟨0, 0, 0, 0⟩
noncomputable abbrev opE (fr : Nat) : Env := envF 49 0 865 864 "op_of.<locals>." (ψ fr)
theorem op_tg : sTgt (fS 49 0 0) = .Tuple (tE (sTgt (fS 49 0 0))) (tX (sTgt (fS 49 0 0))) (tP (sTgt (fS 49 0 0))) := κR
theorem op_bd : fBody (fAt 49 0) = fS 49 0 0 :: (fBody (fAt 49 0)).drop 1 := κR
theorem op_for : isFor (fS 49 0 0) := by delta isFor; kernel_rfl
theorem op_it (fr : Nat) (x : Value) : foldedSetIterable (sTest (fS 49 0 0)) (opE fr) x = pure x := κR
noncomputable abbrev opK0 (nm : PySem.Str) (tnm kn : Nat) : KV := [("name", kn, .str nm tnm)]
noncomputable abbrev opK1 (nm : PySem.Str) (tnm kn kp kr : Nat) (v1 v2 : Value) : KV := [("name", kn, .str nm tnm), ("place", kp, v1), ("row", kr, v2)]
noncomputable abbrev enI (a : Value) (it : Nat) (i : Int) (v : Value) : Obj := { cls := .type "enumerate", data := .fields #[a, .bool false, ρ it, .int i 0, .none, v] }
noncomputable abbrev tiI (i : Int) : Obj := (iσ (.ref 858) (.int i 0))
def opOk (P : Params) (nm : PySem.Str) (k : Nat) : Prop := k < 192 ∧ (∀ i < k, eqS (rowNm P i) nm = false) ∧ eqS (rowNm P k) nm = true
theorem op_loop (hb : BaseIn P F) (hw : w.params = P) (hd : d + 1 < 1000) {h : Heap} {it e fr tnm kn k : Nat} {nm : PySem.Str} (hk : opOk P nm k) {R : Result → Shared → Prop}
    (hF : ∀ F' N sz t h' ti, Rep h [] F F' N sz h' → 2050 ≤ t → R (.ok (.ret (.int (Int.ofNat k) ti))) (sto s₀ h' t))
    {F' : Gh} {z t : Nat} {h' : Heap} (D0 : Rep h [] F F' [ε fr (frm P (opK0 nm tnm kn)), ε it (tiI (Int.ofNat 0)), ε e (enI .none it (Int.ofNat 0) .none)] (ψ z) h') :
    codeAny (pwm w) (AA d u true) (.forLoop (sTgt (fS 49 0 0)) (ρ e) (sBody (fS 49 0 0)) (sElse (fS 49 0 0)) (opE fr)) R (σt h' t) := by
  refine codeAny_forLoop_any (fun m s => ∃ i kv ov F' z t h', s = σt h' t ∧ m = k - i ∧ i ≤ k ∧ (kv = opK0 nm tnm kn ∨ ∃ kp kr v1 v2, kv = opK1 nm tnm kn kp kr v1 v2) ∧
    Rep h [] F F' [ε fr (frm P kv), ε it (tiI (Int.ofNat i)), ε e (enI .none it (Int.ofNat i) ov)] (ψ z) h') ?_ k ⟨0, _, _, F', z, t, h', rfl, rfl, Nat.zero_le _, .inl rfl, D0⟩
  rintro m s ⟨i, kv, ov, F₁, z, t, h', rfl, hm, hik, hkv, D⟩
  obtain ⟨hk1, hk2, hk3⟩ := hk
  have hi : i < 192 := by omega
  have D := D.weak rfl
  have D := D.pk [1, 2, 0] ν3 rfl
  refine lfO hb hw (sp := [tnS 0 i]) rfl δ D (fun ξ => op_n) fun ξ => ⟨can_tn hb hi, fun F₂ l₂ p₂ => qOz hb (N := ν4) fun h' z1 t1 D => ?_⟩
  have ev : (ξ 0).v 0 = .ref (i + 666) := p₂
  rw [ev] at D
  show wpAny _ _ (letOwnedTupleGo (sTgt (fS 49 0 0)) (ρ e) (.ref ((ξ 0).n 0 + 981))) _ _ _
  rw [op_tg]
  refine wpAny_letOwnedTupleGo_enum (s := σt h' t1) (D.at_ 2 _ rfl) fun h' he' hs' => ?_
  have D := D.set1 (i := 2) rfl hs' he'
  have D := D.pick (N := ν4) (ss := [3, 1, 2, 0]) δ rfl
  have D := D.weak rfl
  have eI : Int.ofNat i + 1 = Int.ofNat (i + 1) := rfl
  rw [eI] at D
  have AT : ∀ {Q : Shared → Prop}, (∀ kp kr ti z t h'' F₂, Rep h [] F F₂ [ε fr (frm P (opK1 nm tnm kn kp kr (.int (Int.ofNat i) ti) (.ref (i + 666)))), ε it (tiI (Int.ofNat (i + 1))), ε e (enI .none it (Int.ofNat (i + 1)) (.ref (i + 666)))] (ψ z) h'' → Q (σt h'' t)) →
      wpAny (pwm w) (AA d u true) (assign (sTgt (fS 49 0 0)) (opE fr) (.ref ((ξ 0).n 0 + 981))) (fun Z s₂ => Q s₂) (fun Z Z => False) (σt h' t1) := by
    intro Q hQ
    rcases hkv with rfl | ⟨kp, kr, v1, v2, rfl⟩
    · refine lfU hb hw (sp := []) rfl δ D (fun ξ' => op_a0) fun ξ => qU (N := ν3) fun h' t2 D => ?_
      exact hQ _ _ _ _ _ _ _ D
    · refine lfU hb hw (sp := []) rfl δ D (fun ξ' => op_a1) fun ξ => qU (N := ν3) fun h' t2 D => ?_
      exact hQ _ _ _ _ _ _ _ D
  rw [← op_tg]
  refine wpAny_mono (AT fun kp kr ti z t h'' F₂ D => ?_) (fun Z Z q => q) fun Z Z q => q.elim
  have b₂ := hb.le D.le
  have D := D.addFz (fz := [(i + 666, tupO [.str (rowNm P i) (rowTk P i), rowV P i 1, rowV P i 2, rowV P i 3])]) (by
    intro p hp; cases List.mem_singleton.mp hp; exact b₂.1 _ _ (row_at P hi))
  by_cases hlt : i < k
  · refine leaf (d := d) (u := u) (g := true) (fun f => f) (okay hb w hw) ω (fTr_execs _ _) (sp := [vS βF]) rfl δ D (fun ξ => op_b0) fun ξ =>
      ⟨can_val b₂ ((str_eq_c _ _ _ _ b₂ hw _ _).mono fun Z Z Z Z Z Z Z q => by rw [q, hk2 i hlt]), fun F₃ l₃ p₃ => ⟨_, rfl, fun a ea h' T' D' => ?_⟩⟩
    cases ea
    have D := D' [_, _, _] rfl
    obtain ⟨t2, e2⟩ := sub2050 T'
    rw [e2]
    exact ⟨k - (i + 1), by omega, i + 1, _, _, _, _, _, _, rfl, rfl, hlt, .inr ⟨_, _, _, _, rfl⟩, D⟩
  · obtain rfl : i = k := by omega
    refine leaf (d := d) (u := u) (g := true) (fun f => f) (okay hb w hw) ω (fTr_execs _ _) (sp := [vS βT]) rfl δ D (fun ξ => op_b1) fun ξ =>
      ⟨can_val b₂ ((str_eq_c _ _ _ _ b₂ hw _ _).mono fun Z Z Z Z Z Z Z q => by rw [q, hk3]), fun F₃ l₃ p₃ => ⟨_, rfl, fun a ea h' T' D' => ?_⟩⟩
    cases ea
    exact hF _ _ _ _ _ _ (D' [_, _, _] rfl) T'
theorem op_calls (hb : BaseIn P F) (hw : w.params = P) (d0 u0 : Nat) (hd : d0 + 2 < 1000) {nm : PySem.Str} {tnm k : Nat} (hk : opOk P nm k) :
    χK 865 [.str nm tnm] fun Z v => ∃ t, v = .int (Int.ofNat k) t := by
  refine Calls.ofR (Post := fun Z v Z => ∃ t, v = .int (Int.ofNat k) t) (callsR_intro (fz := []) (fun h H => hb.size H) ωp fun h z t R D hR => ?_)
  refine code_seg (okayh hb w hw) ω (sp := []) rfl δ D (fun ξ => op_in) fun ξ => ⟨by show d0 + 0 < 1000; omega, fun h' T' D' => ?_⟩
  have D := D' [_] rfl
  rw [show z + 981 + 1 = (z + 1) + 981 by omega] at D
  obtain ⟨t1, et⟩ := sub2050 T'
  rw [et]
  refine codeAny_func ?_
  rw [op_bd]
  refine wpAny_execs_cons ?_
  rw [(show _ = _ from op_for)]
  refine wpAny_For ?_ (fun x => op_it _ x)
  refine leaf (d := d0 + 1) (u := u0 + 3) (g := true) (fun v => .ret v) (okay hb w hw) ω (vTr_eval _ _) (sp := [enS]) rfl δ D (fun ξ => op_i) fun ξ =>
    ⟨can_en hb, fun F₁ l₁ p₁ => ⟨_, rfl, fun a ea h' T' D' => ?_⟩⟩
  cases ea
  have D := D' [_, _, _] rfl
  obtain ⟨t3, et⟩ := sub2050 T'
  rw [et]
  refine wpAny_pyIter_enum (s := σt h' t3) (D.at_ 0 _ rfl) ?_
  have D := D.pk [2, 1, 0] ν3 rfl
  refine op_loop (s₀ := s₀) (d := d0 + 1) (u := u0 + 3) hb hw ω hk (fun F' N sz t h' ti D T => ?_) D
  exact hR _ _ _ _ _ _ [] T D rfl ωp ⟨_, rfl, _, rfl⟩
end
noncomputable def opOkB (P : Params) (nm : PySem.Str) (k : Nat) : Bool := Nat.blt k 192 && (((List.range k).all fun i => !eqS (rowNm P i) nm) && eqS (rowNm P k) nm)
theorem opOk_of {P : Params} {nm : PySem.Str} {k : Nat} (h : opOkB P nm k = true) : opOk P nm k := by
  simp only [opOkB, Bool.and_eq_true, List.all_eq_true, List.mem_range, Bool.not_eq_true'] at h
  exact ⟨Nat.le_of_ble_eq_true h.1, h.2.1, h.2.2⟩
theorem op_not (P : Params) : opOk P "not" 8 := opOk_of (by kernel_rfl)
theorem op_eq (P : Params) : opOk P "eq?" 4 := opOk_of (by kernel_rfl)
theorem op_null (P : Params) : opOk P "null?" 16 := opOk_of (by kernel_rfl)
theorem op_car (P : Params) : opOk P "car" 11 := opOk_of (by kernel_rfl)
theorem op_cons (P : Params) : opOk P "cons" 9 := opOk_of (by kernel_rfl)
theorem op_set (P : Params) : opOk P "set-car!" 13 := opOk_of (by kernel_rfl)
noncomputable def bL : PySem.Expr → PySem.Expr
  | .BinOp l _ _ _ => l
  | _ => x0
noncomputable def cE57 : PySem.Expr := bL (sTest (fS 57 0 0))
noncomputable def envC57 (fr cf : Nat) : Env := { scope := cSc cE57, locals := cf, globals := 3, cells := [], qual := "_law_deck_of.<locals>.", func := none, code := .ref 916, frame := some fr, builtins := 0 }
section
variable {P : Params} {ξ : Nat → Ans} {z tk d0 u0 sc esc l i ac tc jn cf fa tj : Nat} {xs : List Value} {o1 o2 o3 : Obj} {c j : Int}
theorem dk0 : τC 47 (κC 917 [.ref (sc + 980)]) [⟨(sc + 980), (lstO xs esc), false⟩] (dec 23 0x418106040813c040010204083060c0810200000) [wL, (wM fun x => (.ok .next, [(0, (dct P [])), (1, (lstO x.l (x.n 40))), (2, (iT .none (.int (x.i 7) 0)))])), wL] [[2, 0], [2, 1, 0, 3], [2, 0], [0]]
  (δP 0 (ρD "list.__getitem__" [.ref (sc + 980), ρz 1] 1 3 [some ⟨(sc + 980), (lstO xs esc), false⟩, σσ z 1 { cls := .type "slice", data := .fields #[.none, .int 24 (τt 1), .none] }] (.req (.compStart cE57 0 (.ref (ξy 0)) (ξa 0 1) (envC57 ζ (ξz 0 2))) (d0 + 1) (u0 + 3) true [ςσ (ξy 0) (iT (ξr 0) (.int 0 0)), ςσ (ξz 0 1) (lstO [] 0), ςσ (ξz 0 2) (dct P []), ςσ ((ξ 0).n 2 + 981) (lstO (((ξ 0).l)) 0)] (ρD "list.__add__" [ξa 0 1, .ref (ξy 1)] 1 3 [ςσ (ξz 0 1) (lstO (((ξ 1).l)) ((ξ 1).n 40)), ςσ (ξy 1) (lstO [.int 1234567890123456789012345 (ξu 1)] 0)] (ρF (ξr 2) [ςσ ((ξ 2).n 2 + 981) (lstO (((ξ 2).l)) 0)] (ξy 2) (ξu 2)))))) := κR
theorem dk1 : τC 51 (κC 917 [.ref (sc + 980)]) [⟨(sc + 980), (lstO xs esc), false⟩] (dec 25 0x1060418102040813c040010204083060c0810200000) [wL, (wM fun x => (.ok .next, [(0, (dct P [("_law_cell", (x.n 53), .int (x.i 8) (x.n 54))])), (1, (lstO x.l (x.n 40))), (2, (iT .none (.int (x.i 7) 0)))])), wL] [[2, 0], [2, 1, 0, 3], [2, 0], [0]]
  (δP 0 (ρD "list.__getitem__" [.ref (sc + 980), ρz 1] 1 3 [some ⟨(sc + 980), (lstO xs esc), false⟩, σσ z 1 { cls := .type "slice", data := .fields #[.none, .int 24 (τt 1), .none] }] (.req (.compStart cE57 0 (.ref (ξy 0)) (ξa 0 1) (envC57 ζ (ξz 0 2))) (d0 + 1) (u0 + 3) true [ςσ (ξy 0) (iT (ξr 0) (.int 0 0)), ςσ (ξz 0 1) (lstO [] 0), ςσ (ξz 0 2) (dct P []), ςσ ((ξ 0).n 2 + 981) (lstO (((ξ 0).l)) 0)] (ρD "list.__add__" [ξa 0 1, .ref (ξy 1)] 1 3 [ςσ (ξz 0 1) (lstO (((ξ 1).l)) ((ξ 1).n 40)), ςσ (ξy 1) (lstO [.int 1234567890123456789012345 (ξu 1)] 0)] (ρF (ξr 2) [ςσ ((ξ 2).n 2 + 981) (lstO (((ξ 2).l)) 0)] (ξy 2) (ξu 2)))))) := κR
theorem dk_e : τB 20 (vTr (evalT (cElt cE57) (envC57 fa (ψ cf)))) [ε l o1, ε i o2, ε ac o3, ε cf (dct P [("_law_cell", jn, .int c tc)])] (dec 7 0x49000210000) [wI, wI] [[], [], [0, 1, 2, 3]]
  (ρD "abs" [.int c tc] 0 0 [] (ρD "int.__mod__" [ξi 0, .int 1000000000000000000000000000000000000000000000000000000000000 (ξt 0 2)] 0 0 [] (ρF (ξi 1) [σ l o1, σ i o2, σ ac o3, σ cf (dct P [("_law_cell", jn, .int c tc)])] (ξy 1) (ξu 1)))) := κR
theorem dk_s0 : τB 10 (uTr (assignT (cTgt cE57) (envC57 fa (ψ cf)) (.int j tj))) [ε l o1, ε i o2, ε ac o3, ε cf (dct P [])] ο35 [] [[0, 1, 2, 3]]
  (νF [σ l o1, σ i o2, σ ac o3, σ cf (dct P [("_law_cell", τ, .int j tj)])] ζ (τt 1)) := κR
theorem dk_s1 : τB 10 (uTr (assignT (cTgt cE57) (envC57 fa (ψ cf)) (.int j tj))) [ε l o1, ε i o2, ε ac o3, ε cf (dct P [("_law_cell", jn, .int c tc)])] ο35 [] [[0, 1, 2, 3]]
  (νF [σ l o1, σ i o2, σ ac o3, σ cf (dct P [("_law_cell", jn, .int j tj)])] ζ (τt 1)) := κR
end
section
variable {prog : Program} {w : World} {A : Around} {E : Value → Shared → Prop} {s : Shared}
theorem next_item {it l : Addr} {i : Nat} {items : Array Value} {x : Value} {Q : Option Value → Shared → Prop} (ho : s.heap.get? it = some (iT (.ref l) (.int (Int.ofNat i) 0)))
    (hl : s.heap.IsList l items) (hx : items[i]? = some x)
    (hQ : ∀ h', h'.get? it = some (iT (.ref l) (.int (Int.ofNat (i + 1)) 0)) → Heap.SameBut it s.heap h' → Q (some x) { s with heap := h' }) : wpAny (model prog w) A (pyNext (.ref it)) Q E s := by
  have hT : s.TypeIs (.ref it) "list_iterator" := ⟨_, ho, rfl⟩
  obtain ⟨ol, hol, _, nl, hdl⟩ := hl
  unfold pyNext
  refine wpAny_bind (wpAny_attempt (wpAny_callSpecial?_slot (name := Str.ofString "__next__") hT slot_listiter_next (wpAny_call_entry slot_listiter_next hT entry_listiter_next ?_ (args_listiter_next _))))
  show wpAny _ _ (field (.ref it) 0 >>= _) _ _ s
  refine wpAny_bind (wpAny_field ho rfl (x := .ref l) rfl ?_)
  show wpAny _ _ (if (Value.ref l == Value.none) = true then _ else _) _ _ s
  rw [if_neg (show ¬ ((Value.ref l == Value.none) = true) from Bool.false_ne_true)]
  show wpAny _ _ (field (.ref it) 1 >>= _) _ _ s
  refine wpAny_bind (wpAny_field ho rfl (x := .int (Int.ofNat i) 0) rfl ?_)
  show wpAny _ _ (seqItems? (.ref l) >>= _) _ _ s
  refine wpAny_bind (wpAny_seqItems hol hdl ?_)
  have e : items[(Int.ofNat i).toNat]? = some x := hx
  simp only [e]
  exact wpAny_bind (wpAny_setField_rec ho (by simp) fun h' he' hs' => wpAny_pure ⟨x, rfl, wpAny_pure (hQ h' he' hs')⟩)
theorem next_end {it l : Addr} {i : Nat} {items : Array Value} {Q : Option Value → Shared → Prop} (hh : A.handled = none) (ho : s.heap.get? it = some (iT (.ref l) (.int (Int.ofNat i) 0)))
    (hl : s.heap.IsList l items) (hx : items[i]? = none)
    (hQ : ∀ h', h'.get? it = some (iT .none (.int (Int.ofNat i) 0)) → Heap.ExtBut it s.heap h' → Q none { s with heap := h' }) : wpAny (model prog w) A (pyNext (.ref it)) Q E s := by
  have hT : s.TypeIs (.ref it) "list_iterator" := ⟨_, ho, rfl⟩
  obtain ⟨ol, hol, _, nl, hdl⟩ := hl
  unfold pyNext
  refine wpAny_bind (wpAny_attempt (wpAny_callSpecial?_slot (name := Str.ofString "__next__") hT slot_listiter_next (wpAny_call_entry slot_listiter_next hT entry_listiter_next ?_ (args_listiter_next _))))
  show wpAny _ _ (field (.ref it) 0 >>= _) _ _ s
  refine wpAny_bind (wpAny_field ho rfl (x := .ref l) rfl ?_)
  show wpAny _ _ (if (Value.ref l == Value.none) = true then _ else _) _ _ s
  rw [if_neg (show ¬ ((Value.ref l == Value.none) = true) from Bool.false_ne_true)]
  show wpAny _ _ (field (.ref it) 1 >>= _) _ _ s
  refine wpAny_bind (wpAny_field ho rfl (x := .int (Int.ofNat i) 0) rfl ?_)
  show wpAny _ _ (seqItems? (.ref l) >>= _) _ _ s
  refine wpAny_bind (wpAny_seqItems hol hdl ?_)
  have e : items[(Int.ofNat i).toNat]? = none := hx
  simp only [e]
  refine wpAny_bind (wpAny_rule (wpAny_bind (wpAny_setField_rec ho (by simp) fun h' he' hs' => ?_)))
  show wpAny _ _ (newExc (.type "StopIteration") [] >>= _) _ _ _
  refine wpAny_bind ?_
  simp only [newExc, newTuple]
  refine wpAny_bind (wpAny_newObj_type ?_ (by size_fits))
  refine wpAny_bind (m := firstArgMember _ _) (wpAny_of_eq (a := Value.none) (by first | rfl | (simp only [firstArgMember]; rfl)) ?_)
  refine wpAny_newObj_type ?_ (by size_fits)
  simp only [raiseNew]
  refine wpAny_bind (wpAny_handled ?_)
  rw [show A.in1.handled = none from hh]
  refine wpAny_bind (wpAny_pure (wpAny_throw ?_))
  refine wpAny_bind (wpAny_isInstance (T := "StopIteration") (b := true) ⟨_, Heap.get?_push_size _ rfl, rfl⟩ isSubtype_stop ?_)
  exact wpAny_pure (hQ _ (Heap.get?_push_of_some _ (Heap.get?_push_of_some _ he')) ((hs'.extBut.push _).push _))
end
section
variable {d u : Nat} {g : Bool}
theorem Rep.ext1 {M : List Ent} {sz : Nat} {h h' : Heap} {i : Nat} {a : Addr} {o o' : Obj} (D : Rep h₀ mt F₀ F M sz h) (hi : nth M i = ςσ a o) (hs : Heap.ExtBut a h h') (hg : h'.get? a = some o') :
    Rep h₀ mt F₀ F (setN (fun Z => o') M i) h'.objs.size h' :=
  D.behind (F' := F) (idx := [i]) (own := [(a, o)]) (own' := [(a, o')]) (N := []) (h' := h') (by simp) (by show [nth M i] = _; rw [hi]; rfl) (fun Z Z e => e)
    (fun b o1 e => hs b o1 (by rintro rfl; exact D.own i _ hi rfl _ e) (D.holds b o1 e))
    (fun b o1 e hb => hs b o1 (by rintro rfl; exact hb (.head _)) e) (fun Z Z e => .inl e) rfl (by intro p hp; cases List.mem_singleton.mp hp; exact hg) (by intro i e q; cases i <;> cases q) (by intro i j e e' q; cases i <;> cases q)
noncomputable def absI (c : Int) : Int := if c < 0 then -c else c
theorem can_abs (hb : BaseIn P F) {c : Int} {t : Nat} : CanV w s₀ h₀ mt F₀ (.call (.builtin "abs") ⟨[.int c t], []⟩) d u g F [] [] (iS fun Z Z r => r = absI c) := by
  intro M sz tk hsel h R ht D hR
  refine node_toks (node_of_wp (call_abs_int (s := sto s₀ h tk) (Q := fun v s' => (sto s₀ h tk).toks ≤ s'.toks → R (.ok (.ret v)) s') (E := fun Z Z => False) fun u' tk' hle => ?_) (fun v s' q t => q t) (fun Z Z q => q.elim))
  have hle' : tk ≤ tk' := hle
  obtain ⟨t', rfl⟩ := sub2050 (Nat.le_trans ht hle')
  obtain ⟨z, hz⟩ := sub981 (hb.size D.holds)
  have hsz : sz = z + 981 := D.size ▸ hz
  subst hsz
  exact hR (xI (absI c) u' z t') F h (fun Z Z e => e) rfl D
theorem can_posmod (hb : BaseIn P F) {a : Int} {t t' : Nat} : CanV w s₀ h₀ mt F₀ (.call (.builtin "int.__mod__") ⟨[.int a t, .int (1000000000000000000000000000000000000000000000000000000000000) t'], []⟩) d u g F [] [] (iS fun Z Z r => 0 ≤ r) :=
  can_same (fun h H => hb.size H) (v := fun t => .int (a.fmod 1000000000000000000000000000000000000000000000000000000000000) t) (xI (a.fmod 1000000000000000000000000000000000000000000000000000000000000)) (fun h tk Q ht Z hQ => wpAny_mono (call_int_mod (Q := Q) δ (hQ tk (tk + 1) (Nat.le_succ _))) (fun Z Z q => q.2) fun Z Z q => q) fun t z tk M sz tk0 => ⟨rfl, Int.fmod_nonneg_of_pos _ δ⟩
theorem d57_is : cE57 = .ListComp (cElt cE57) [⟨cTgt cE57, cIter cE57, [], 0⟩] (cSc cE57) (cPosE cE57) := κR
theorem d57_t (it v : Value) : letOwnedTupleGo (cTgt cE57) it v = pure () := κR
def Pos0 (vs : List Value) (n : Nat) : Prop := ∃ ns, IntsAre vs ns ∧ (∀ k ∈ ns, (0 : Int) ≤ k) ∧ vs.length = n
theorem Pos0.app {vs : List Value} {n t : Nat} {r : Int} (h : Pos0 vs n) (hr : 0 ≤ r) : Pos0 (vs ++ [.int r t]) (n + 1) := by
  obtain ⟨ns, a, b, c⟩ := h
  exact ⟨ns ++ [r], IntsAre.append a (.cons _ _ .nil), fun k hk => (List.mem_append.mp hk).elim (b k) fun h => by simp only [List.mem_singleton] at h; subst h; exact hr, by simp [c]⟩
theorem intsAt : ∀ {vs : List Value} {ns : List Int} (h : IntsAre vs ns) (i : Nat) (hi : i < vs.length), ∃ c t, vs[i]? = some (.int c t)
  | _, _, .cons c t h, 0, _ => ⟨c, t, rfl⟩
  | _, _, .cons c t h, i + 1, hi => by
    obtain ⟨c', t', e⟩ := intsAt h i (by simpa using hi)
    exact ⟨c', t', by simpa using e⟩
noncomputable abbrev kC (k : Nat) (c : Int) (t : Nat) : KV := [("_law_cell", k, .int c t)]
def KvC (kv : KV) (i : Nat) : Prop := (i = 0 ∧ kv = []) ∨ (0 < i ∧ ∃ k c t, kv = kC k c t)
theorem d57_loop (hb : BaseIn P F) (hw : w.params = P) (hu : u < 9900) {h : Heap} {dl edl it ac cf fa : Nat} {vs : List Value} {ns : List Int} (hv : IntsAre vs ns) (hz : vs.length < 900) {mt : List Addr} {R : Result → Shared → Prop}
    (hR : ∀ F₂ ones ea kv sz t h', Pos0 ones vs.length → KvC kv vs.length → 2050 ≤ t → Rep h mt F F₂ [ε dl (lstO vs edl), ε it (itE (Int.ofNat vs.length)), ε ac (lstO ones ea), ε cf (dct P kv)] sz h' → R (.ok .next) (sto s₀ h' t))
    {z t : Nat} {h' : Heap} (D0 : Rep h mt F F [ε dl (lstO vs edl), ε it (itO dl 0), ε ac (lstO [] 0), ε cf (dct P [])] (ψ z) h') :
    codeAny (pwm w) (AA d u true) (.compLoop cE57 0 (ρ it) (ρ ac) (envC57 fa (ψ cf))) R (σt h' t) := by
  rw [d57_is]
  refine codeAny_compLoop_list (fun m s => ∃ i ones ea kv F₂ z t h', s = σt h' t ∧ m = vs.length - i ∧ i ≤ vs.length ∧ Pos0 ones i ∧ KvC kv i ∧
    Rep h mt F F₂ [ε dl (lstO vs edl), ε it (itO dl (Int.ofNat i)), ε ac (lstO ones ea), ε cf (dct P kv)] (ψ z) h') ?_ vs.length ⟨0, [], 0, [], F, z, t, h', rfl, rfl, Nat.zero_le _, ⟨[], .nil, by simp, rfl⟩, .inl ⟨rfl, rfl⟩, D0⟩ (fun v => d57_t _ v)
  rintro m s ⟨i, ones, ea, kv, F₂, z, t, h', rfl, hm, hi, ho, hk, D⟩
  by_cases hlt : i < vs.length
  · obtain ⟨c, tc, hc⟩ := intsAt hv i hlt
    refine next_item (s := σt h' t) (D.at_ 1 _ rfl) ⟨_, D.at_ 0 _ rfl, rfl, _, rfl⟩ (by rw [List.getElem?_toArray]; exact hc) fun h₁ hg hs => ?_
    have D := D.set1 (i := 1) rfl hs hg
    have AT : ∀ {Q : Shared → Prop}, (∀ k z t h'' F₃, Rep h mt F F₃ [ε dl (lstO vs edl), ε it (itO dl (Int.ofNat (i + 1))), ε ac (lstO ones ea), ε cf (dct P (kC k c tc))] (ψ z) h'' → Q (σt h'' t)) →
        wpAny (pwm w) (AA d u true) (assign (cTgt cE57) (envC57 fa (ψ cf)) (.int c tc)) (fun Z s₂ => Q s₂) (fun Z Z => False) (σt h₁ t) := by
      intro Q hQ
      rcases hk with ⟨rfl, rfl⟩ | ⟨_, k, c', t', rfl⟩
      · refine lΛ lfU dk_s0 fun ξ => qU (N := ν4) fun h' t2 D => ?_
        exact hQ _ _ _ _ _ D
      · refine lΛ lfU dk_s1 fun ξ => qU (N := ν4) fun h' t2 D => ?_
        exact hQ _ _ _ _ _ D
    refine wpAny_mono (AT fun k z t h'' F₃ D => ?_) (fun Z Z q => q) fun Z Z q => q.elim
    have b₃ := hb.le D.le
    refine leaf (d := d) (u := u) (g := true) (fun v => .ret v) (okay hb w hw) ω (vTr_eval _ _) (sp := [iS fun Z Z r => r = absI c, iS fun Z Z r => 0 ≤ r]) rfl δ D (fun ξ => dk_e) fun ξ =>
      ⟨can_abs b₃, fun F₄ l₄ p₄ => ⟨can_posmod (b₃.le l₄), fun F₅ l₅ p₅ => ⟨_, rfl, fun a ea' h' T' D' => ?_⟩⟩⟩
    cases ea'
    have D := D' [_, _, _, _] rfl
    obtain ⟨t4, et⟩ := sub2050 T'
    rw [et]
    obtain ⟨_, _, _, ol⟩ := id ho
    refine app_w D (i := 2) rfl ω fun k' h' D => ?_
    exact ⟨vs.length - (i + 1), by omega, i + 1, _, _, _, _, _, _, _, rfl, rfl, hlt, ho.app p₅, .inr ⟨Nat.succ_pos _, _, _, _, rfl⟩, D⟩
  · have hil : i = vs.length := by omega
    subst hil
    refine next_end (s := σt h' t) rfl (D.at_ 1 _ rfl) ⟨_, D.at_ 0 _ rfl, rfl, _, rfl⟩ (by rw [List.getElem?_toArray]; exact List.getElem?_eq_none (Nat.le_refl _)) fun h₁ hg hs => ?_
    have D := D.ext1 (i := 1) rfl hs hg
    exact hR _ _ _ _ _ (t + 2050) _ ho hk ω D
end
section
variable {P : Params} {ξ : Nat → Ans} {z tk d0 u0 sc esc kQ fr : Nat} {xs : List Value}
theorem lw_in : τH 10 (κC 979 [.ref (sc + 980)]) [] (dec 5 0x10200000) [] [[0]]
  (δP 0 (.agn (.func (fBody (fAt 67 0)) (envF 67 0 979 978 "law.<locals>." ζ)) (d0 + 0) (u0 + 0) true [σ z (frm P [("script", τ, .ref (sc + 980))])] (ζz 1) (τt 1))) := κR
theorem lw_00 : τB 848 (fTr (execsT ((fBody (fAt 67 0)).take 1) η67)) [ε fr (frm P [("script", kQ, .ref (sc + 980))]), ⟨(sc + 980), (lstO xs esc), false⟩] (dec 547 0xe1c0070e0001020410102e008002040820205c01000408104040b802000816804001020409f3e7cf9f3e04f9f407cfa53e00f803c78f233c00e01007001c3800e1c00040813c040b80200081027808170040010204f0102e00800205a1d0004e9d3a6cd9b386cda53600d803468d233400c0100600183000c18000408136040b80200081026c08170040010204d8102e00800205a1a0004d1a345cb97305cba52e00b802c58b232c00a0100500142800a14000408130040b80200081026008170040010204c0102e00800205a170004b972e4c993284c9a52600980244892324008010040010200081000040812a040b80200081025408170040010204a8102e00800205a140004a14283c78f203c7a51e007801c387231c00601003000c180060c000408124040b8020008102480817004001020490102e00800205a110004891222c58b182c5a51600580142852314004010020008100040800040811e040b80200081023c0817004001020478102e00800205a0e000470e1c1c387101c3a50e003800c183230c0020100100040800204000408118040b8020008102300817004001020460102e00800205a0b000458b160c183080c1a506001800804f0100040810000000000418106040813c040010204084081008102000000000080) [wL, (wM fun x => (.ok .next, [(0, (dct P [])), (1, (lstO x.l (x.n 40))), (2, (iT .none (.int (x.i 7) 0)))])), wL, wK 8, wK 4, wK 16, wK 11, wK 9, wK 13, wK 135] [[3, 0], [2, 1, 0, 3], [2, 0], [], [], [], [], [], [], [], [55, 4, 47, 36, 31, 27, 23, 19, 15, 11, 7]]
  (δP 0 (ρD "list.__getitem__" [.ref (sc + 980), ρz 1] 1 3 [some ⟨(sc + 980), (lstO xs esc), false⟩, σσ z 1 { cls := .type "slice", data := .fields #[.none, .int 24 (τt 1), .none] }] (.req (.compStart cE57 0 (.ref (ξy 0)) (ξa 0 1) (envC57 ζ (ξz 0 2))) (d0 + 1) (u0 + 3) true [ςσ (ξy 0) (iT (ξr 0) (.int 0 0)), ςσ (ξz 0 1) (lstO [] 0), ςσ (ξz 0 2) (dct P []), ςσ ((ξ 0).n 2 + 981) (lstO (((ξ 0).l)) 0)] (ρD "list.__add__" [ξa 0 1, .ref (ξy 1)] 1 3 [ςσ (ξz 0 1) (lstO (((ξ 1).l)) ((ξ 1).n 40)), ςσ (ξy 1) (lstO [.int 1234567890123456789012345 (ξu 1)] 0)] (δP 0 (ρE 865 [.str "not" (ξt 2 2)] 1 3 [] (ρE 865 [.str "eq?" (ξt 2 4)] 1 3 [] (ρE 865 [.str "null?" (ξt 2 6)] 1 3 [] (ρE 865 [.str "car" (ξt 2 8)] 1 3 [] (ρE 865 [.str "cons" (ξt 2 10)] 1 3 [] (ρE 865 [.str "set-car!" (ξt 2 12)] 1 3 [] (ρE 865 [.str "char->integer" (ξt 2 14)] 1 3 [] (νF [σ fr (frm P [("script", kQ, .ref (sc + 980)), ("_law_state", (ξu 9), ξa 9 3), ("_law_deck", (ξt 9 1), ξr 2)]), ςσ (ξz 9 3) (lstO [.int 0 (ξu 2), .int 0 (ξt 2 1), ξa 2 10] 0), ςσ ((ξ 2).n 2 + 981) (lstO (((ξ 2).l)) 0), ςσ (ξz 2 10) (lstO [.ref (ξy 3), .ref (ξy 4), .ref (ξy 5), .ref (ξy 6), .ref (ξy 7), .ref (ξy 8), .ref (ξy 9)] 7), ςσ (ξy 3) (tupO [.int 8 ((ξ 3).n 50), .int 1 (ξt 2 3)]), ςσ (ξy 4) (tupO [.int 4 ((ξ 4).n 50), .int 2 (ξt 2 5)]), ςσ (ξy 5) (tupO [.int 16 ((ξ 5).n 50), .int 1 (ξt 2 7)]), ςσ (ξy 6) (tupO [.int 11 ((ξ 6).n 50), .int 1 (ξt 2 9)]), ςσ (ξy 7) (tupO [.int 9 ((ξ 7).n 50), .int 2 (ξt 2 11)]), ςσ (ξy 8) (tupO [.int 13 ((ξ 8).n 50), .int 2 (ξt 2 13)]), ςσ (ξy 9) (tupO [.int 135 ((ξ 9).n 50), .int 1 (ξt 2 15)])] (ξz 9 8) (ξt 9 2)))))))))))))) := κR
theorem lw_01 : τB 852 (fTr (execsT ((fBody (fAt 67 0)).take 1) η67)) [ε fr (frm P [("script", kQ, .ref (sc + 980))]), ⟨(sc + 980), (lstO xs esc), false⟩] (dec 549 0x387001c38000408104040b8020008102080817004001020410102e00800205a010004081027cf9f3e7cf813e7d01f3e94f803e00f1e3c8cf00380401c0070e0038700010204f0102e0080020409e0205c0100040813c040b8020008168740013a74e9b366ce1b3694d803600d1a348cd0030040180060c0030600010204d8102e0080020409b0205c01000408136040b8020008168680013468d172e5cc172e94b802e00b162c8cb0028040140050a0028500010204c0102e008002040980205c01000408130040b80200081685c0012e5cb93264ca1326949802600912248c9002004010004080020400010204a8102e008002040950205c0100040812a040b8020008168500012850a0f1e3c80f1e947801e0070e1c8c700180400c00306001830001020490102e008002040920205c01000408124040b802000816844001224488b162c60b1694580160050a148c500100400800204001020001020478102e0080020408f0205c0100040811e040b8020008168380011c387070e1c4070e943800e003060c8c300080400400102000810001020460102e0080020408c0205c01000408118040b80200081682c001162c583060c203069418006002013c0400102040000000001060418102040813c040010204084081008102000000000080) [wL, (wM fun x => (.ok .next, [(0, (dct P [("_law_cell", (x.n 53), .int (x.i 8) (x.n 54))])), (1, (lstO x.l (x.n 40))), (2, (iT .none (.int (x.i 7) 0)))])), wL, wK 8, wK 4, wK 16, wK 11, wK 9, wK 13, wK 135] [[3, 0], [2, 1, 0, 3], [2, 0], [], [], [], [], [], [], [], [55, 4, 47, 36, 31, 27, 23, 19, 15, 11, 7]]
  (δP 0 (ρD "list.__getitem__" [.ref (sc + 980), ρz 1] 1 3 [some ⟨(sc + 980), (lstO xs esc), false⟩, σσ z 1 { cls := .type "slice", data := .fields #[.none, .int 24 (τt 1), .none] }] (.req (.compStart cE57 0 (.ref (ξy 0)) (ξa 0 1) (envC57 ζ (ξz 0 2))) (d0 + 1) (u0 + 3) true [ςσ (ξy 0) (iT (ξr 0) (.int 0 0)), ςσ (ξz 0 1) (lstO [] 0), ςσ (ξz 0 2) (dct P []), ςσ ((ξ 0).n 2 + 981) (lstO (((ξ 0).l)) 0)] (ρD "list.__add__" [ξa 0 1, .ref (ξy 1)] 1 3 [ςσ (ξz 0 1) (lstO (((ξ 1).l)) ((ξ 1).n 40)), ςσ (ξy 1) (lstO [.int 1234567890123456789012345 (ξu 1)] 0)] (δP 0 (ρE 865 [.str "not" (ξt 2 2)] 1 3 [] (ρE 865 [.str "eq?" (ξt 2 4)] 1 3 [] (ρE 865 [.str "null?" (ξt 2 6)] 1 3 [] (ρE 865 [.str "car" (ξt 2 8)] 1 3 [] (ρE 865 [.str "cons" (ξt 2 10)] 1 3 [] (ρE 865 [.str "set-car!" (ξt 2 12)] 1 3 [] (ρE 865 [.str "char->integer" (ξt 2 14)] 1 3 [] (νF [σ fr (frm P [("script", kQ, .ref (sc + 980)), ("_law_state", (ξu 9), ξa 9 3), ("_law_deck", (ξt 9 1), ξr 2)]), ςσ (ξz 9 3) (lstO [.int 0 (ξu 2), .int 0 (ξt 2 1), ξa 2 10] 0), ςσ ((ξ 2).n 2 + 981) (lstO (((ξ 2).l)) 0), ςσ (ξz 2 10) (lstO [.ref (ξy 3), .ref (ξy 4), .ref (ξy 5), .ref (ξy 6), .ref (ξy 7), .ref (ξy 8), .ref (ξy 9)] 7), ςσ (ξy 3) (tupO [.int 8 ((ξ 3).n 50), .int 1 (ξt 2 3)]), ςσ (ξy 4) (tupO [.int 4 ((ξ 4).n 50), .int 2 (ξt 2 5)]), ςσ (ξy 5) (tupO [.int 16 ((ξ 5).n 50), .int 1 (ξt 2 7)]), ςσ (ξy 6) (tupO [.int 11 ((ξ 6).n 50), .int 1 (ξt 2 9)]), ςσ (ξy 7) (tupO [.int 9 ((ξ 7).n 50), .int 2 (ξt 2 11)]), ςσ (ξy 8) (tupO [.int 13 ((ξ 8).n 50), .int 2 (ξt 2 13)]), ςσ (ξy 9) (tupO [.int 135 ((ξ 9).n 50), .int 1 (ξt 2 15)])] (ξz 9 8) (ξt 9 2)))))))))))))) := κR
end
section
variable {P : Params} {ξ : Nat → Ans} {z tk d0 u0 p1 p2 p3 p4 p6 ap0 bp0 p0 ap5 bp5 p5 ewd wd ta tb est st dk kQ kN kB fr edk ac kU l i n ke jh : Nat} {o1 o2 : Obj} {v0 v1 v2 v3 v4 v5 : Value} {vs : List Value}
theorem lw_1 : τB 549 (fTr (execsT (((fBody (fAt 67 0)).drop 1).take 1) η67)) [ε st (lstO [.int 0 ta, .int 0 tb, ρ wd] est), ε dk o1, ε fr (frm P [("script", kQ, v0), ("_law_state", kN, ρ st), ("_law_deck", kB, ρ dk)]), φ p0 (tupO [.int 8 ap0, .int 1 bp0]), φ p5 (tupO [.int 13 ap5, .int 2 bp5]), φ wd (lstO [ρ p0, ρ p1, ρ p2, ρ p3, ρ p4, ρ p5, ρ p6] ewd)] (dec 409 0x112200183060000200000000008002520010000000000008081060c18000080000000002000948004000000000002020408100040800204000000000000000800200000000000000000000001400000000000000000001c800000000000c183000010000000000400129000800000000000404081020008100000000000000020008000000000000000000000050000000000000000000072000000000000060c1800008000000000200094800400000000000202041830600002000000000080025200100000000000080810204001020008100000000000000020008000000000000000000000050000000000000000000072000000000003060c0000400000000010004a40020000000000010102040800204000000000000000800200000000000000000000001400000000000000000001c80000000000000046610004081000636180060c1809b0200081020c0000acc2800a142800c6c3000c1830136040010204180) [] [[16, 14, 15, 1, 2, 3, 8, 5, 9, 6, 10, 12, 13]]
  (δP 305 (δP 305 (δP 305 (δP 305 (νF [σ fr (frm P [("script", kQ, v0), ("_law_state", kN, ρ st), ("_law_deck", kB, ρ dk), ("_law_acts", (τt 30), ρz 12)]), σ st (lstO [.int 0 ta, .int 0 tb, ρ wd] est), σ dk o1, σσ z 12 (ins 382 (ζz 11)), σσ z 11 (dct P [("op", (τt 27), .int 13 ap5), ("operands", (τt 29), ρz 10)]), σσ z 10 (lstO [ρz 5, ρz 8] 0), σσ z 5 (ins 382 (ζz 4)), σσ z 8 (ins 66 (ζz 7)), σσ z 4 (dct P [("op", (τt 15), .int 8 ap0), ("operands", (τt 17), ρz 3)]), σσ z 7 (dct P [("value", (τt 22), .int 1 (τt 18))]), σσ z 3 (lstO [ρz 1] 0), σσ z 1 (ins 66 ζ), σ z (dct P [("value", (τt 10), .int 0 (τt 6))])] (ζz 14) (τt 31)))))) := κR
theorem lw_2 : τB 168 (vTr (evalT (sTest (fS 67 0 2)) η67)) [ε dk (lstO vs edk), ε st (lstO [.int 0 ta, .int 0 tb, ρ wd] est), ε fr (frm P [("script", kQ, v0), ("_law_state", kN, ρ st), ("_law_deck", kB, ρ dk), ("_law_acts", kU, ρ ac)])] (dec 115 0x40070e000800c18003060c0000400000000010004a400200000000000101020c1830000100000000004001290008000000000004040810200081000408000000000000001000400000000000000000000002800000000000000000003900000000000180) [(wM fun x => (.ok (.ret (.ref (x.n 2 + 981))), [(4, (lstO x.l (x.n 40))), (5, (lstO [.int (x.i 1) (x.n 51), .int (x.i 2) (x.n 52), ρ wd] (x.n 42)))])), (wM fun x => (.ok (.ret (.ref (x.n 2 + 981))), [(5, (lstO x.l (x.n 40))), (6, (lstO [.int (x.i 1) (x.n 51), .int (x.i 2) (x.n 52), ρ wd] (x.n 42)))]))] [[4, 5, 0], [5, 6, 0], [0, 4, 5, 8]]
  (δP 305 (ρE 964 [ρ dk, ρ st, ρz 3, .int 3 (τt 8)] 0 0 [σ dk (lstO vs edk), σ st (lstO [.int 0 ta, .int 0 tb, ρ wd] est), σσ z 3 (lstO [] 0)] (ρE 964 [ρ dk, ρ st, .ref (ξy 0), .int 3 (ξu 0)] 0 0 [σ dk (lstO (((ξ 0).l)) ((ξ 0).n 40)), σ st (lstO [.int ((ξ 0).i 1) ((ξ 0).n 51), .int ((ξ 0).i 2) ((ξ 0).n 52), ρ wd] ((ξ 0).n 42)), ςσ (ξy 0) (lstO [] 0)] (ρF (.ref (ξy 1)) [ςσ (ξy 1) (lstO [ρz 1, ξr 0, ξr 1] 0), σσ z 1 (ins 203 ζ), σ z (dct P [("symbol", (τt 5), .int 2 τ), ("value", (τt 7), ρ ac)]), σ fr (frm P [("script", kQ, v0), ("_law_state", kN, ρ st), ("_law_deck", kB, ρ dk), ("_law_acts", kU, ρ ac)])] (ξz 1 1) (ξu 1))))) := κR
theorem lw_a0 : τB 10 (uTr (assignT (sTgt (fS 67 0 2)) η67 (ρ n))) [ε fr (frm P [("script", kQ, v0), ("_law_state", kN, v1), ("_law_deck", kB, v2), ("_law_acts", kU, v3)]), ε l o1, ε i o2] (dec 3 0x4080) [] [[0, 1, 2]]
  (νF [σ fr (frm P [("script", kQ, v0), ("_law_state", kN, v1), ("_law_deck", kB, v2), ("_law_acts", kU, v3), ("_law_node", τ, ρ n)]), σ l o1, σ i o2] ζ (τt 1)) := κR
theorem lw_b0 : τB 96 (fTr (execsT (sBody (fS 67 0 2)) η67)) [ε fr (frm P [("script", kQ, v0), ("_law_state", kN, v1), ("_law_deck", kB, v2), ("_law_acts", kU, v3), ("_law_node", ke, ρ n)]), ε l o1, ε i o2] ο30 [wR, wS, wR, wR, wS, wP, wS, wV βF, wR, wS, wV βF] (φe 11 [1, 2, 3])
  (ρE 969 [ρ n] 0 0 [] (ρD "repr" [ξr 0] 0 0 [] (ρE 905 [ρ n, .ref 952] 0 0 [] (ρE 969 [ξr 2] 0 0 [] (ρD "repr" [ξr 3] 0 0 [] (ρE 974 [ρ n] 0 0 [] (ρD "repr" [.ref ((ξ 5).n 3 + 981)] 0 0 [] (ρD "str.__ne__" [ξs 4, ξs 6] 0 0 [] (ρE 969 [ρ n] 0 0 [] (ρD "repr" [ξr 8] 0 0 [] (ρD "str.__ne__" [ξs 9, ξs 1] 0 0 [] (νF [σ fr (frm P [("script", kQ, v0), ("_law_state", kN, v1), ("_law_deck", kB, v2), ("_law_acts", kU, v3), ("_law_node", ke, ρ n), ("_law_ahead", (ξu 1), ξs 1)]), σ l o1, σ i o2] (ξy 10) (ξu 10))))))))))))) := κR
theorem lw_a1 : τB 10 (uTr (assignT (sTgt (fS 67 0 2)) η67 (ρ n))) [ε fr (frm P [("script", kQ, v0), ("_law_state", kN, v1), ("_law_deck", kB, v2), ("_law_acts", kU, v3), ("_law_node", ke, v4), ("_law_ahead", jh, v5)]), ε l o1, ε i o2] (dec 3 0x4080) [] [[0, 1, 2]]
  (νF [σ fr (frm P [("script", kQ, v0), ("_law_state", kN, v1), ("_law_deck", kB, v2), ("_law_acts", kU, v3), ("_law_node", ke, ρ n), ("_law_ahead", jh, v5)]), σ l o1, σ i o2] ζ (τt 1)) := κR
theorem lw_b1 : τB 96 (fTr (execsT (sBody (fS 67 0 2)) η67)) [ε fr (frm P [("script", kQ, v0), ("_law_state", kN, v1), ("_law_deck", kB, v2), ("_law_acts", kU, v3), ("_law_node", ke, ρ n), ("_law_ahead", jh, v5)]), ε l o1, ε i o2] ο30 [wR, wS, wR, wR, wS, wP, wS, wV βF, wR, wS, wV βF] (φe 11 [1, 2, 3])
  (ρE 969 [ρ n] 0 0 [] (ρD "repr" [ξr 0] 0 0 [] (ρE 905 [ρ n, .ref 952] 0 0 [] (ρE 969 [ξr 2] 0 0 [] (ρD "repr" [ξr 3] 0 0 [] (ρE 974 [ρ n] 0 0 [] (ρD "repr" [.ref ((ξ 5).n 3 + 981)] 0 0 [] (ρD "str.__ne__" [ξs 4, ξs 6] 0 0 [] (ρE 969 [ρ n] 0 0 [] (ρD "repr" [ξr 8] 0 0 [] (ρD "str.__ne__" [ξs 9, ξs 1] 0 0 [] (νF [σ fr (frm P [("script", kQ, v0), ("_law_state", kN, v1), ("_law_deck", kB, v2), ("_law_acts", kU, v3), ("_law_node", ke, ρ n), ("_law_ahead", jh, ξs 1)]), σ l o1, σ i o2] (ξy 10) (ξu 10))))))))))))) := κR
theorem lw_T : τB 4 (fTr (execsT ((fBody (fAt 67 0)).drop 3) η67)) [ε fr (frm P [("script", kQ, v0), ("_law_state", kN, v1), ("_law_deck", kB, v2), ("_law_acts", kU, v3), ("_law_node", ke, v4), ("_law_ahead", jh, v5)])] ο32 [] [[0]]
  (ρF βT [σ fr (frm P [("script", kQ, v0), ("_law_state", kN, v1), ("_law_deck", kB, v2), ("_law_acts", kU, v3), ("_law_node", ke, v4), ("_law_ahead", jh, v5)])] ζ τ) := κR
end
theorem turn_sz (t : T) : szT (turnT t) ≤ szT t ∧ hT (turnT t) ≤ hT t := by
  cases t with
  | prim1 op x =>
    cases x with
    | const v =>
      simp only [turnT]
      split
      · exact ⟨Nat.le_refl _, Nat.le_refl _⟩
      · split
        · exact ⟨by simp only [szT]; omega, by simp only [hT]; omega⟩
        · exact ⟨Nat.le_refl _, Nat.le_refl _⟩
    | _ => exact ⟨Nat.le_refl _, Nat.le_refl _⟩
  | prim2 op x y =>
    cases x with
    | const v =>
      cases y with
      | const v' =>
        simp only [turnT]
        split
        · exact ⟨Nat.le_refl _, Nat.le_refl _⟩
        · split
          · exact ⟨by simp only [szT]; omega, by simp only [hT]; omega⟩
          · exact ⟨Nat.le_refl _, Nat.le_refl _⟩
      | _ => exact ⟨Nat.le_refl _, Nat.le_refl _⟩
    | _ => exact ⟨Nat.le_refl _, Nat.le_refl _⟩
  | _ => exact ⟨Nat.le_refl _, Nat.le_refl _⟩
theorem leM {a b c d : Nat} (h : a ≤ b) (k : c ≤ d) : max a c ≤ max b d := Nat.max_le.mpr ⟨Nat.le_trans h (Nat.le_max_left b d), Nat.le_trans k (Nat.le_max_right b d)⟩
theorem leP {a b x y : Nat} (h : a ≤ b ∧ x ≤ y) : a + 1 ≤ b + 1 ∧ x + 1 ≤ y + 1 := ⟨Nat.succ_le_succ h.1, Nat.succ_le_succ h.2⟩
theorem leQ {a b c d x y z u : Nat} (h : a ≤ b ∧ x ≤ y) (k : c ≤ d ∧ z ≤ u) : a + c + 1 ≤ b + d + 1 ∧ max x z + 1 ≤ max y u + 1 := leP ⟨Nat.add_le_add h.1 k.1, leM h.2 k.2⟩
theorem leT {a b c x y z : Nat} (h : a ≤ b ∧ x ≤ y) (k : b ≤ c ∧ y ≤ z) : a ≤ c ∧ x ≤ z := ⟨Nat.le_trans h.1 k.1, Nat.le_trans h.2 k.2⟩
theorem fold_sz : ∀ t : T, szT (foldT t) ≤ szT t ∧ hT (foldT t) ≤ hT t
  | .const _ => ⟨Nat.le_refl _, Nat.le_refl _⟩ | .loc _ => ⟨Nat.le_refl _, Nat.le_refl _⟩ | .glob _ => ⟨Nat.le_refl _, Nat.le_refl _⟩
  | .setLoc _ t => leP (fold_sz t) | .setGlob _ t => leP (fold_sz t) | .define _ t => leP (fold_sz t)
  | .ite a b c => ⟨Nat.succ_le_succ (Nat.add_le_add (Nat.add_le_add (fold_sz a).1 (fold_sz b).1) (fold_sz c).1), Nat.succ_le_succ (leM (fold_sz a).2 (leM (fold_sz b).2 (fold_sz c).2))⟩
  | .lam _ _ _ t => leP (fold_sz t) | .lam0 _ _ t => leP (fold_sz t)
  | .call a b => leQ (fold_sz a) (fold_sz b) | .seq a b => leQ (fold_sz a) (fold_sz b)
  | .prim1 op a => leT (turn_sz (.prim1 op (foldT a))) (leP (fold_sz a))
  | .prim2 op a b => leT (turn_sz (.prim2 op (foldT a) (foldT b))) (leQ (fold_sz a) (fold_sz b))
  | .fix _ a b => leQ (fold_sz a) (fold_sz b)
structure LawT (t : T) : Prop where
  ok : OkW t
  s : 2 * szT t < 900
  h : hT t ≤ 40
theorem LawT.shows {t : T} (l : LawT t) : Shows (toldD t) := (told_sm l.ok.1).shows (by have := l.s; omega) (by have := l.h; omega)
theorem LawT.fold {t : T} (l : LawT t) : LawT (foldT t) := ⟨okw_foldT l.ok, by have := (fold_sz t).1; have := l.s; omega, by have := (fold_sz t).2; have := l.h; omega⟩
theorem ne_self {x y : PySem.Str} (h : x = y) : neS x y = false := by subst h; simp [neS]
section
variable {d u : Nat} {g : Bool}
theorem can_toldR (hb : BaseIn P F) (hw : w.params = P) {a : Nat} {t : T} (n : NodeAt P F a t) (hd : d + 2 * hT t + 4 < 1000) : CanV w s₀ h₀ mt F₀ (κC 969 [ρ a]) d u true F [] [] (rS fun Z F' r => DatAt F' (ρ r) (toldD t)) :=
  can_ref hb ((told_all t hb hw n d u hd).mono fun Z Z Z Z Z Z Z q => q.dat)
theorem can_foldR (hb : BaseIn P F) (hw : w.params = P) {a : Nat} {t : T} (n : NodeAt P F a t) (l : LawT t) (hd : d + 405 < 1000) (hu : u + 320 < 9900) : CanV w s₀ h₀ mt F₀ (κC 905 [ρ a, .ref 952]) d u true F [] [] (rS fun Z F' r => NodeAt P F' r (foldT t)) :=
  can_ref hb ((Calls.ofR (folded_calls hb hw d u hd hu n l.ok l.s)).mono fun Z Z Z Z Z Z Z q => q)
noncomputable abbrev lwE (fr : Nat) : Env := envF 67 0 979 978 "law.<locals>." (ψ fr)
noncomputable abbrev lwSp (P : Params) (t : T) : List Mine.Spec := [rS fun Z F' r => DatAt F' (ρ r) (toldD t), sS fun Z Z r => r = (toldD t).shown, rS fun Z F' r => NodeAt P F' r (foldT t), rS fun Z F' r => DatAt F' (ρ r) (toldD (foldT t)), sS fun Z Z r => r = (toldD (foldT t)).shown,
  dueS (dueD t).1, sS fun Z Z r => r = (dueD t).1.shown, vS βF, rS fun Z F' r => DatAt F' (ρ r) (toldD t), sS fun Z Z r => r = (toldD t).shown, vS βF]
theorem lw_good (hb : BaseIn P F) (hw : w.params = P) (hd : d + 600 < 1000) (hu : u + 700 < 9900) {n : Nat} {t : T} (nd : NodeAt P F n t) (l : LawT t) {ξ : Nat → Ans} {Q : Gh → Result → List (Option Ent) → Nat → Nat → Prop} {QA : Gh → Code → Nat → Nat → Bool → List (Option Ent) → Nat → Nat → Prop} {V : View} {ss : List (List Nat)}
    (H : ∀ F', F.le F' → GoodV w s₀ h₀ mt F₀ Q QA ss [] (fun j => ξ (j + 11)) F' V) :
    GoodV w s₀ h₀ mt F₀ Q QA ([] :: [] :: [] :: [] :: [] :: [] :: [] :: [] :: [] :: [] :: [] :: ss) (lwSp P t) ξ F
      (.req (κC 969 [ρ n]) (d + 0) (u + 0) true [] (.req (.call (.builtin "repr") ⟨[.ref ((ξ 0).n 2 + 981)], []⟩) (d + 0) (u + 0) true [] (.req (κC 905 [ρ n, .ref 952]) (d + 0) (u + 0) true [] (.req (κC 969 [.ref ((ξ 2).n 2 + 981)]) (d + 0) (u + 0) true [] (.req (.call (.builtin "repr") ⟨[.ref ((ξ 3).n 2 + 981)], []⟩) (d + 0) (u + 0) true [] (.req (κC 974 [ρ n]) (d + 0) (u + 0) true [] (.req (.call (.builtin "repr") ⟨[.ref ((ξ 5).n 3 + 981)], []⟩) (d + 0) (u + 0) true [] (.req (.call (.builtin "str.__ne__") ⟨[.str ((ξ 4).s 0) ((ξ 4).n 50), .str ((ξ 6).s 0) ((ξ 6).n 50)], []⟩) (d + 0) (u + 0) true [] (.req (κC 969 [ρ n]) (d + 0) (u + 0) true [] (.req (.call (.builtin "repr") ⟨[.ref ((ξ 8).n 2 + 981)], []⟩) (d + 0) (u + 0) true [] (.req (.call (.builtin "str.__ne__") ⟨[.str ((ξ 9).s 0) ((ξ 9).n 50), .str ((ξ 1).s 0) ((ξ 1).n 50)], []⟩) (d + 0) (u + 0) true [] V))))))))))) := by
  have lf := l.fold
  have hh := l.h
  have hh' := lf.h
  have sd : Shows (dueD t).1 := (due_law t).1 ▸ lf.shows
  refine ⟨can_toldR hb hw nd ω, fun F1 l1 p1 => ?_⟩
  have b1 := hb.le l1
  refine ⟨can_repr b1 p1 l.shows ω, fun F2 l2 p2 => ?_⟩
  have b2 := b1.le l2
  have n2 := (nd.mono l1).mono l2
  refine ⟨can_foldR b2 hw n2 l ω ω, fun F3 l3 p3 => ?_⟩
  have b3 := b2.le l3
  refine ⟨can_toldR b3 hw p3 ω, fun F4 l4 p4 => ?_⟩
  have b4 := b3.le l4
  refine ⟨can_repr b4 p4 lf.shows ω, fun F5 l5 p5 => ?_⟩
  have b5 := b4.le l5
  have n5 := ((n2.mono l3).mono l4).mono l5
  refine ⟨can_due b5 (due_all t b5 hw n5 l.ok (d + 0) (u + 0) ω ω), fun F6 l6 p6 => ?_⟩
  have b6 := b5.le l6
  refine ⟨can_repr b6 p6 sd ω, fun F7 l7 p7 => ?_⟩
  have b7 := b6.le l7
  have e5 : (ξ 4).s 0 = (toldD (foldT t)).shown := p5
  have e7 : (ξ 6).s 0 = (dueD t).1.shown := p7
  refine ⟨can_val b7 ((str_ne_c _ _ _ _ b7 hw _ _).mono fun Z Z Z Z Z Z Z q => by rw [q, ne_self (by rw [e5, e7, (due_law t).1])]), fun F8 l8 p8 => ?_⟩
  have b8 := b7.le l8
  have n8 := ((n5.mono l6).mono l7).mono l8
  refine ⟨can_toldR b8 hw n8 ω, fun F9 l9 p9 => ?_⟩
  have b9 := b8.le l9
  refine ⟨can_repr b9 p9 l.shows ω, fun F10 l10 p10 => ?_⟩
  have b10 := b9.le l10
  have e2 : (ξ 1).s 0 = (toldD t).shown := p2
  have e10 : (ξ 9).s 0 = (toldD t).shown := p10
  refine ⟨can_val b10 ((str_ne_c _ _ _ _ b10 hw _ _).mono fun Z Z Z Z Z Z Z q => by rw [q, ne_self (by rw [e2, e10])]), fun F11 l11 p11 => ?_⟩
  exact H F11 fun a o e => l11 _ _ (l10 _ _ (l9 _ _ (l8 _ _ (l7 _ _ (l6 _ _ (l5 _ _ (l4 _ _ (l3 _ _ (l2 _ _ (l1 _ _ e))))))))))
end
section
variable {d u : Nat} {g : Bool}
noncomputable abbrev lk4 (v0 v1 v2 v3 : Value) (a b c e : Nat) : KV := [("script", a, v0), ("_law_state", b, v1), ("_law_deck", c, v2), ("_law_acts", e, v3)]
noncomputable abbrev lk6 (v0 v1 v2 v3 v4 v5 : Value) (a b c e f g : Nat) : KV := [("script", a, v0), ("_law_state", b, v1), ("_law_deck", c, v2), ("_law_acts", e, v3), ("_law_node", f, v4), ("_law_ahead", g, v5)]
theorem lw_for : isFor (fS 67 0 2) := by delta isFor; kernel_rfl
theorem lw_else : sElse (fS 67 0 2) = [] := κR
theorem lw_tg (it v : Value) : letOwnedTupleGo (sTgt (fS 67 0 2)) it v = pure () := κR
theorem lw_itf (fr : Nat) (x : Value) : foldedSetIterable (sTest (fS 67 0 2)) (lwE fr) x = pure x := κR
theorem lw_body : fBody (fAt 67 0) = (fBody (fAt 67 0)).take 1 ++ (((fBody (fAt 67 0)).drop 1).take 1 ++ (fS 67 0 2 :: (fBody (fAt 67 0)).drop 3)) := κR
theorem lw_loop (hb : BaseIn P F) (hw : w.params = P) (hd : d + 600 < 1000) (hu : u + 700 < 9900) {h : Heap} {it fr l e a b c k : Nat} {v0 v1 v2 v3 : Value} {as : List Nat} {F' : Gh} (hN : ∀ x ∈ as, ∃ t, NodeAt P F' x t ∧ LawT t) (hz : 0 < as.length) {R : Result → Shared → Prop}
    (hR : ∀ F' v4 v5 f g z t h', Rep h mt F F' [ε fr (frm P (lk6 v0 v1 v2 v3 v4 v5 a b c k f g))] (ψ z) h' → R (.ok .next) (σt h' t))
    {z t : Nat} {h' : Heap} (D0 : Rep h mt F F' [ε fr (frm P (lk4 v0 v1 v2 v3 a b c k)), ε l (lstO (refs as) e), ε it (itO l (Int.ofNat 0))] (ψ z) h') :
    codeAny (pwm w) (AA d u true) (.forLoop (sTgt (fS 67 0 2)) (ρ it) (sBody (fS 67 0 2)) (sElse (fS 67 0 2)) (lwE fr)) R (σt h' t) := by
  refine codeAny_forLoop (fun m s => ∃ i kv F₂ z t h', s = σt h' t ∧ F'.le F₂ ∧ m = as.length - i ∧ i ≤ as.length ∧ ((i = 0 ∧ kv = lk4 v0 v1 v2 v3 a b c k) ∨ (0 < i ∧ ∃ v4 v5 f g, kv = lk6 v0 v1 v2 v3 v4 v5 a b c k f g)) ∧
    Rep h mt F F₂ [ε fr (frm P kv), ε l (lstO (refs as) e), ε it (itO l (Int.ofNat i))] (ψ z) h') ?_ as.length ⟨0, _, F', z, t, h', rfl, fun Z Z e => e, rfl, Nat.zero_le _, .inl ⟨rfl, rfl⟩, D0⟩ (fun v => lw_tg _ v)
  rintro m s ⟨i, kv, F₁, z, t, h', rfl, hle, hm, hi, hkv, D⟩
  by_cases hlt : i < as.length
  · obtain ⟨x, hx⟩ : ∃ x, as[i]? = some x := ⟨_, List.getElem?_eq_getElem hlt⟩
    obtain ⟨tr, nd, lt⟩ := hN x (List.mem_of_getElem? hx)
    refine next_item (s := σt h' t) (x := ρ x) (D.at_ 2 _ rfl) ⟨_, D.at_ 1 _ rfl, rfl, _, rfl⟩ (by rw [List.getElem?_toArray]; unfold refs; rw [List.getElem?_map, hx]; rfl) fun h₁ hg hs => ?_
    have D := D.set1 (i := 2) rfl hs hg
    have b₁ := hb.le D.le
    have n₁ := nd.mono hle
    show wpAny (pwm w) (AA d u true) (assign (sTgt (fS 67 0 2)) (lwE fr) (ρ x)) _ _ (σt h₁ t)
    rcases hkv with ⟨rfl, rfl⟩ | ⟨_, v4, v5, f, gg, rfl⟩
    · refine leaf (d := d) (u := u) (g := true) (fun Z => .next) (okay hb w hw) ω (uTr_assign _ _ _) (sp := []) rfl δ D (fun ξ => lw_a0) fun ξ => ⟨_, rfl, fun aa ea h' T' D' => ?_⟩
      have D := D' [_, _, _] rfl
      obtain ⟨t2, e2⟩ := sub2050 T'
      rw [e2]
      refine leaf (d := d) (u := u) (g := true) (fun f => f) (okay hb w hw) ω (fTr_execs _ _) (sp := lwSp P tr) rfl δ D (fun ξ => lw_b0) fun ξ => lw_good b₁ hw hd hu n₁ lt fun F₃ l' => ⟨_, rfl, fun aa ea h' T' D' => ?_⟩
      cases ea
      have D := D' [_, _, _] rfl
      obtain ⟨z3, ez⟩ := D.sz hb
      obtain ⟨t3, e3⟩ := sub2050 T'
      rw [ez] at D
      rw [e3]
      exact ⟨as.length - (0 + 1), by omega, 0 + 1, _, _, _, _, _, rfl, (fun a o q => l' a o (hle a o q)), rfl, hlt, .inr ⟨by omega, _, _, _, _, rfl⟩, D⟩
    · refine leaf (d := d) (u := u) (g := true) (fun Z => .next) (okay hb w hw) ω (uTr_assign _ _ _) (sp := []) rfl δ D (fun ξ => lw_a1) fun ξ => ⟨_, rfl, fun aa ea h' T' D' => ?_⟩
      have D := D' [_, _, _] rfl
      obtain ⟨t2, e2⟩ := sub2050 T'
      rw [e2]
      refine leaf (d := d) (u := u) (g := true) (fun f => f) (okay hb w hw) ω (fTr_execs _ _) (sp := lwSp P tr) rfl δ D (fun ξ => lw_b1) fun ξ => lw_good b₁ hw hd hu n₁ lt fun F₃ l' => ⟨_, rfl, fun aa ea h' T' D' => ?_⟩
      cases ea
      have D := D' [_, _, _] rfl
      obtain ⟨z3, ez⟩ := D.sz hb
      obtain ⟨t3, e3⟩ := sub2050 T'
      rw [ez] at D
      rw [e3]
      exact ⟨as.length - (i + 1), by omega, i + 1, _, _, _, _, _, rfl, (fun a o q => l' a o (hle a o q)), rfl, hlt, .inr ⟨by omega, _, _, _, _, rfl⟩, D⟩
  · have hil : i = as.length := by omega
    subst hil
    refine next_end (s := σt h' t) rfl (D.at_ 2 _ rfl) ⟨_, D.at_ 1 _ rfl, rfl, _, rfl⟩ (by rw [List.getElem?_toArray]; exact List.getElem?_eq_none (by simp [refs])) fun h₁ hg hs => ?_
    have D := D.ext1 (i := 2) rfl hs hg
    show wpAny _ _ (execs (sElse (fS 67 0 2)) _) _ _ _
    rw [lw_else]
    rcases hkv with ⟨h0, _⟩ | ⟨_, v4, v5, f, gg, rfl⟩
    · omega
    · have D := D.pk [0] [_] rfl
      obtain ⟨z3, ez⟩ := D.sz hb
      rw [ez] at D
      exact wpAny_execs_nil (hR _ _ _ _ _ _ t _ D)
end
theorem op_ci (P : Params) : opOk P "char->integer" 135 := opOk_of (by kernel_rfl)
section
variable {d u : Nat} {g : Bool}
theorem d57_start {it acc : Value} {env : Env} {i l : Nat} {R : Result → Shared → Prop} {s : Shared} (hi : it = .ref i) (hit : s.heap.IsListIter i l 0) (L : codeAny (pwm w) (AA d u true) (.compLoop cE57 0 it acc env) R s) :
    codeAny (pwm w) (AA d u true) (.compStart cE57 0 it acc env) R s := by
  subst hi
  rw [d57_is] at L ⊢
  exact codeAny_compStart_list L (wpAny_pyIter_listiter hit L)
theorem d57_c (hb : BaseIn P F) (hw : w.params = P) (hu : u < 9900) {it dl ac cf edl fa : Nat} {vs : List Value} {ns : List Int} (hv : IntsAre vs ns) (hz : vs.length < 900) :
    CallsR w s₀ F [(it + 981, itO dl 0), (ac + 981, lstO [] 0), (cf + 981, dct P []), (dl + 981, lstO vs edl)] (.compStart cE57 0 (ρ it) (ρ ac) (envC57 fa (ψ cf))) d u true fun F' r own => r = .ok .next ∧ ∃ ones ea kv, Pos0 ones vs.length ∧ KvC kv vs.length ∧
      own = [(it + 981, itE (Int.ofNat vs.length)), (ac + 981, lstO ones ea), (cf + 981, dct P kv), (dl + 981, lstO vs edl)] := by
  refine callsR_intro (fz := []) (fun h H => hb.size H) ωp fun h z t R D hR => ?_
  have D := D.pk [3, 0, 1, 2] ν4 rfl
  refine d57_start (i := it + 981) (l := dl + 981) rfl ⟨_, D.at_ 1 _ rfl, rfl, rfl⟩ (d57_loop hb hw hu hv hz (fun F₂ ones ea kv sz t h' ho hk T D => ?_) D)
  refine hR _ _ _ _ _ _ [(it + 981, itE (Int.ofNat vs.length)), (ac + 981, lstO ones ea), (cf + 981, dct P kv), (dl + 981, lstO vs edl)] T D rfl (fun p hp => ?_) ⟨rfl, _, _, _, ho, hk, rfl⟩
  simp only [μμ] at hp
  rcases hp with rfl | rfl | rfl | rfl
  · exact ⟨true, μ1⟩
  · exact ⟨true, μ2⟩
  · exact ⟨true, μ3⟩
  · exact ⟨true, .head _⟩
noncomputable def dkP (x : Ans) (kv : KV) (P : Params) : Resp := ⟨.ok .next, [(0, (dct P kv)), (1, (lstO ((x.l)) (x.n 40))), (2, (iT .none (.int (x.i 7) 0)))], [], x.n 0 + 981, x.n 1 + 2050⟩
noncomputable def dkS0 (P : Params) (n : Nat) : Mine.Spec := ⟨fun x M Z Z => dkP x [] P, fun Z Z x => Pos0 x.l n⟩
noncomputable def dkS1 (P : Params) (n : Nat) : Mine.Spec := ⟨fun x M Z Z => dkP x [("_law_cell", (x.n 53), .int (x.i 8) (x.n 54))] P, fun Z Z x => Pos0 x.l n⟩
theorem dk_up {M : List Ent} {i a c l : Addr} {o1 o2 o3 o1' o2' o3' o4 : Obj} (hM : sel [2, 1, 0, 3] M = [ςσ i o1, ςσ a o2, ςσ c o3, ςσ l o4]) : updAll [(0, o3'), (1, o2'), (2, o1')] M = updAll [(2, o1'), (1, o2'), (0, o3'), (3, o4)] M := by
  have hj : nth M 3 = ςσ l o4 := (List.cons.inj (List.cons.inj (List.cons.inj (List.cons.inj hM).2).2).2).1
  match M, hj with
  | a :: b :: c :: dd :: r, hj =>
    cases hj
    rfl
theorem can_d57 (hb : BaseIn P F) (hw : w.params = P) (hu : u < 9900) {it dl ac cf edl fa n : Nat} {vs : List Value} {ns : List Int} (hv : IntsAre vs ns) (hz : vs.length < 900) (hn : vs.length = n) (b : Bool) (hb' : b = decide (0 < n)) :
    CanV w s₀ h₀ mt F₀ (.compStart cE57 0 (ρ it) (ρ ac) (envC57 fa (ψ cf))) d u true F [2, 1, 0, 3] [σ it (itO dl 0), σ ac (lstO [] 0), σ cf (dct P []), σ dl (lstO vs edl)] (if b = true then dkS1 P n else dkS0 P n) := by
  refine canV_of_callsR (own := [(it + 981, itO dl 0), (ac + 981, lstO [] 0), (cf + 981, dct P []), (dl + 981, lstO vs edl)]) (fun h H => hb.size H) (d57_c hb hw hu hv hz) δ fun r F' own' z t l' hm' hP => ?_
  obtain ⟨rfl, ones, ea, kv, ho, hk, rfl⟩ := hP
  rw [hn] at ho hk
  rcases hk with ⟨h0, rfl⟩ | ⟨h0, k, c, tc, rfl⟩
  · have eb : b = false := by rw [hb']; simp [h0]
    subst eb
    refine ⟨mkA (fun j => match j with | 0 => z | 1 => t | 40 => ea | 41 => ones.length | _ => 0) (fun Z => Int.ofNat vs.length) ones, [], [(0, dct P []), (1, lstO ones ea), (2, itE (Int.ofNat vs.length))], fun M z0 t0 => ?_, fun M hM => ?_, ?_, fun i e q => by cases i <;> cases q⟩
    · show dkP _ _ _ = _
      unfold dkP
      rw [mkA_l (by rfl)]; rfl
    · exact dk_up hM
    · show Pos0 (Ans.l _) _
      rw [mkA_l (by rfl)]; exact ho
  · have eb : b = true := by rw [hb']; simp [h0]
    subst eb
    refine ⟨mkA (fun j => match j with | 0 => z | 1 => t | 40 => ea | 41 => ones.length | 53 => k | 54 => tc | _ => 0) (fun j => match j with | 7 => Int.ofNat vs.length | _ => c) ones, [], [(0, dct P (kC k c tc)), (1, lstO ones ea), (2, itE (Int.ofNat vs.length))], fun M z0 t0 => ?_, fun M hM => ?_, ?_, fun i e q => by cases i <;> cases q⟩
    · show dkP _ _ _ = _
      unfold dkP
      rw [mkA_l (by rfl)]; rfl
    · exact dk_up hM
    · show Pos0 (Ans.l _) _
      rw [mkA_l (by rfl)]; exact ho
theorem can_op (hb : BaseIn P F) (hw : w.params = P) (hd : d + 2 < 1000) {nm : PySem.Str} {t k : Nat} (hk : opOk P nm k) : CanV w s₀ h₀ mt F₀ (κC 865 [.str nm t]) d u true F [] [] (kS (Int.ofNat k)) :=
  can_k hb (op_calls hb hw d u hd hk)
theorem lw_ops (hb : BaseIn P F) (hw : w.params = P) (hd : d + 2 < 1000) {t1 t2 t3 t4 t5 t6 t7 : Nat} {ξ : Nat → Ans} {Q : Gh → Result → List (Option Ent) → Nat → Nat → Prop} {QA : Gh → Code → Nat → Nat → Bool → List (Option Ent) → Nat → Nat → Prop} {V : View} {ss : List (List Nat)}
    (H : ∀ F', F.le F' → GoodV w s₀ h₀ mt F₀ Q QA ss [] (fun j => ξ (j + 7)) F' V) :
    GoodV w s₀ h₀ mt F₀ Q QA ([] :: [] :: [] :: [] :: [] :: [] :: [] :: ss) [kS 8, kS 4, kS 16, kS 11, kS 9, kS 13, kS 135] ξ F
      (.req (κC 865 [.str "not" t1]) d u true [] (.req (κC 865 [.str "eq?" t2]) d u true [] (.req (κC 865 [.str "null?" t3]) d u true [] (.req (κC 865 [.str "car" t4]) d u true [] (.req (κC 865 [.str "cons" t5]) d u true [] (.req (κC 865 [.str "set-car!" t6]) d u true [] (.req (κC 865 [.str "char->integer" t7]) d u true [] V))))))) := by
  refine ⟨can_op hb hw hd (op_not P), fun F1 l1 Z => ?_⟩
  have b1 := hb.le l1
  refine ⟨can_op b1 hw hd (op_eq P), fun F2 l2 Z => ?_⟩
  have b2 := b1.le l2
  refine ⟨can_op b2 hw hd (op_null P), fun F3 l3 Z => ?_⟩
  have b3 := b2.le l3
  refine ⟨can_op b3 hw hd (op_car P), fun F4 l4 Z => ?_⟩
  have b4 := b3.le l4
  refine ⟨can_op b4 hw hd (op_cons P), fun F5 l5 Z => ?_⟩
  have b5 := b4.le l5
  refine ⟨can_op b5 hw hd (op_set P), fun F6 l6 Z => ?_⟩
  have b6 := b5.le l6
  refine ⟨can_op b6 hw hd (op_ci P), fun F7 l7 Z => ?_⟩
  exact H F7 fun a o e => l7 _ _ (l6 _ _ (l5 _ _ (l4 _ _ (l3 _ _ (l2 _ _ (l1 _ _ e))))))
def WordsL (F : Gh) (wd : Nat) : Prop := ∃ p0 p1 p2 p3 p4 p5 p6 a0 b0 a5 b5 e, F (ψ wd) (lstO [ρ p0, ρ p1, ρ p2, ρ p3, ρ p4, ρ p5, ρ p6] e) ∧ F (ψ p0) (tupO [.int 8 a0, .int 1 b0]) ∧ F (ψ p5) (tupO [.int 13 a5, .int 2 b5])
theorem lw_words {fr st dk : Ent} {sz wd ew p0 p1 p2 p3 p4 p5 p6 a0 a1 a2 a3 a4 a5 a6 b0 b1 b2 b3 b4 b5 b6 : Nat} {h h' : Heap} {F' : Gh}
    (D : Rep h [] F F' [fr, st, dk, ε wd (lstO [ρ p0, ρ p1, ρ p2, ρ p3, ρ p4, ρ p5, ρ p6] ew), ε p0 (tupO [.int 8 a0, .int 1 b0]), ε p1 (tupO [.int 4 a1, .int 2 b1]), ε p2 (tupO [.int 16 a2, .int 1 b2]), ε p3 (tupO [.int 11 a3, .int 1 b3]), ε p4 (tupO [.int 9 a4, .int 2 b4]), ε p5 (tupO [.int 13 a5, .int 2 b5]), ε p6 (tupO [.int 135 a6, .int 1 b6])] sz h') :
    ∃ F₁, F'.le F₁ ∧ Words F₁ wd ∧ WordsL F₁ wd ∧ Rep h [] F F₁ [fr, st, dk] sz h' := by
  obtain ⟨F₁, l, hf, D⟩ := Rep.freeze (M := [fr, st, dk]) (fr := [ε wd (lstO [ρ p0, ρ p1, ρ p2, ρ p3, ρ p4, ρ p5, ρ p6] ew), ε p0 (tupO [.int 8 a0, .int 1 b0]), ε p1 (tupO [.int 4 a1, .int 2 b1]), ε p2 (tupO [.int 16 a2, .int 1 b2]), ε p3 (tupO [.int 11 a3, .int 1 b3]), ε p4 (tupO [.int 9 a4, .int 2 b4]), ε p5 (tupO [.int 13 a5, .int 2 b5]), ε p6 (tupO [.int 135 a6, .int 1 b6])]) D (by intro e _ q; cases q)
  have f0 := hf _ (.head _)
  have f1 := hf _ μ1
  have f2 := hf _ μ2
  have f3 := hf _ μ3
  have f4 := hf _ (.tail _ μ3)
  have f5 := hf _ (.tail _ (.tail _ μ3))
  have f6 := hf _ (.tail _ (.tail _ (.tail _ μ3)))
  have f7 := hf _ (.tail _ (.tail _ (.tail _ (.tail _ μ3))))
  refine ⟨F₁, l, ⟨_, _, f0, by simp, by simp, fun v hv => ?_⟩, ⟨_, _, _, _, _, _, _, _, _, _, _, _, f0, f1, f6⟩, D⟩
  simp only [μμ] at hv
  rcases hv with rfl | rfl | rfl | rfl | rfl | rfl | rfl
  · exact ⟨_, _, _, _, _, rfl, f1, .inl ⟨rfl, .inl rfl⟩⟩
  · exact ⟨_, _, _, _, _, rfl, f2, .inr ⟨rfl, .inl rfl⟩⟩
  · exact ⟨_, _, _, _, _, rfl, f3, .inl ⟨rfl, .inr (.inl rfl)⟩⟩
  · exact ⟨_, _, _, _, _, rfl, f4, .inl ⟨rfl, .inr (.inr (.inl rfl))⟩⟩
  · exact ⟨_, _, _, _, _, rfl, f5, .inr ⟨rfl, .inr (.inl rfl)⟩⟩
  · exact ⟨_, _, _, _, _, rfl, f6, .inr ⟨rfl, .inr (.inr rfl)⟩⟩
  · exact ⟨_, _, _, _, _, rfl, f7, .inl ⟨rfl, .inr (.inr (.inr rfl))⟩⟩
end
section
variable {d u : Nat} {g : Bool}
noncomputable abbrev lk3 (a b c : Nat) (v0 : Value) (st dk : Nat) : KV := [("script", a, v0), ("_law_state", b, ρ st), ("_law_deck", c, ρ dk)]
noncomputable abbrev stO (ta tb wd est : Nat) (a b : Int) : Obj := lstO [.int a ta, .int b tb, ρ wd] est
def St0 (w : World) (s₀ : Shared) (P : Params) (F : Gh) (h : Heap) (fr ks : Nat) (v0 : Value) (Q : Shared → Prop) : Prop :=
  ∀ F₁ wd st dk ta tb est edk vs b c z t h', Words F₁ wd → WordsL F₁ wd → Deck vs 25 → Rep h [] F F₁ [ε fr (frm P (lk3 ks b c v0 st dk)), ε st (stO ta tb wd est 0 0), ε dk (lstO vs edk)] (ψ z) h' → Q (σt h' t)
theorem deck_is {ys zs : List Value} {t n : Nat} (h : Pos0 ys n) (hn : n ≤ 24) (e : zs = ys ++ [.int 1234567890123456789012345 t]) : Deck zs 25 := by
  obtain ⟨ns, a, b, c⟩ := h
  subst e
  exact ⟨ns ++ [1234567890123456789012345], IntsAre.append a (.cons _ _ .nil), fun k hk => (List.mem_append.mp hk).elim (b k) fun h => by simp only [List.mem_singleton] at h; subst h; decide, by simp; omega⟩
theorem intsTake : ∀ {vs : List Value} {ns : List Int} (h : IntsAre vs ns) (k : Nat), IntsAre (vs.take k) (ns.take k)
  | _, _, _, 0 => .nil
  | _, _, .nil, _ + 1 => .nil
  | _, _, .cons c t h, k + 1 => .cons c t (intsTake h k)
theorem can_deck (hb : BaseIn P F) {i j q q' e e' n t : Nat} {ys : List Value} {o1 o2 : Bool} (hy : Pos0 ys n) (hn : n ≤ 24) :
    CanV w s₀ h₀ mt F₀ (.call (.builtin "list.__add__") ⟨[.ref q, .ref q'], []⟩) d u g F [i, j] [some ⟨q, lstO ys e, o1⟩, some ⟨q', lstO [.int 1234567890123456789012345 t] e', o2⟩] ⟨(addS [] []).p, fun Z Z x => Deck x.l 25⟩ := by
  have hl : ys.length = n := hy.choose_spec.2.2
  intro M sz tk hsel h R ht D hR
  exact can_ladd (fun h H => hb.size H) (by simp; omega) M sz tk hsel h R ht D fun x F' h' l p => hR x F' h' l (deck_is hy hn p)
theorem lw_st0 (hb : BaseIn P F) (hw : w.params = P) (hd : d + 10 < 1000) (hu : u + 10 < 9900) {h : Heap} {xs : List Value} {ns : List Int} {sc esc fr ks : Nat} (hv : IntsAre xs ns) (hz : xs.length < 900) (fx : F (sc + 980) (lstO xs esc)) {Q : Flow → Shared → Prop} {E : Value → Shared → Prop}
    (hQ : St0 w s₀ P F h fr ks (.ref (sc + 980)) (Q .next)) {F' : Gh} {z t : Nat} {h' : Heap} (D : Rep h [] F F' [ε fr (frm P [("script", ks, .ref (sc + 980))])] (ψ z) h') :
    wpAny (pwm w) (AA d u true) (execs ((fBody (fAt 67 0)).take 1) (lwE fr)) Q E (σt h' t) := by
  have b₀ := hb.le D.le
  have D := D.addFz (fz := [(sc + 980, lstO xs esc)]) (by intro p hp; cases List.mem_singleton.mp hp; exact D.le _ _ fx)
  have hy : slicePick xs.toArray none (some 24) none = (xs.take 24).toArray := slicePick_upto' _ 24
  have hI := intsTake hv 24
  have hl : (xs.take 24).length ≤ 24 := by simp [Nat.min_le_left]
  have e1 : ∀ x : Nat, x + 981 + 1 = x + 1 + 981 := fun x => by omega
  have e2 : ∀ x : Nat, x + 981 + 2 = x + 2 + 981 := fun x => by omega
  have e3 : ∀ x : Nat, x + 981 + 3 = x + 3 + 981 := fun x => by omega
  have e8 : ∀ x : Nat, x + 981 + 8 = x + 8 + 981 := fun x => by omega
  have e10 : ∀ x : Nat, x + 981 + 10 = x + 10 + 981 := fun x => by omega
  by_cases h0 : 0 < (xs.take 24).length
  · refine lfF hb hw (sp := [newlS (xs.take 24), dkS1 P (xs.take 24).length, ⟨(addS [] []).p, fun Z Z x => Deck x.l 25⟩, kS 8, kS 4, kS 16, kS 11, kS 9, kS 13, kS 135]) rfl δ D (fun ξ => lw_01) fun ξ =>
      ⟨by show d + 0 < 1000; omega, can_slice (fun h H => b₀.size H) ω .none (.int _ _) hy, fun F1 l1 p1 => ?_⟩
    have b1 := b₀.le l1
    have q1 : (ξ 0).l = xs.take 24 := p1
    rw [q1, e1, e2]
    refine ⟨can_d57 b1 hw ω hI ω rfl true (decide_eq_true h0).symm, fun F2 l2 p2 => ?_⟩
    have b2 := b1.le l2
    refine ⟨can_deck b2 p2 hl, fun F3 l3 p3 => ⟨by show d + 0 < 1000; omega, lw_ops (b2.le l3) hw ω fun F4 l4 => qF (N := ν11) fun h' t2 D => ?_⟩⟩
    rw [e3, e10, e8] at D
    have D := D.pk [0, 1, 2, 3, 4, 5, 6, 7, 8, 9, 10] ν11 rfl
    obtain ⟨F5, l5, W, WL, D⟩ := lw_words D
    exact hQ _ _ _ _ _ _ _ _ _ _ _ _ _ _ W WL p3 D
  · refine lfF hb hw (sp := [newlS (xs.take 24), dkS0 P (xs.take 24).length, ⟨(addS [] []).p, fun Z Z x => Deck x.l 25⟩, kS 8, kS 4, kS 16, kS 11, kS 9, kS 13, kS 135]) rfl δ D (fun ξ => lw_00) fun ξ =>
      ⟨by show d + 0 < 1000; omega, can_slice (fun h H => b₀.size H) ω .none (.int _ _) hy, fun F1 l1 p1 => ?_⟩
    have b1 := b₀.le l1
    have q1 : (ξ 0).l = xs.take 24 := p1
    rw [q1, e1, e2]
    refine ⟨can_d57 b1 hw ω hI ω rfl false (decide_eq_false h0).symm, fun F2 l2 p2 => ?_⟩
    have b2 := b1.le l2
    refine ⟨can_deck b2 p2 hl, fun F3 l3 p3 => ⟨by show d + 0 < 1000; omega, lw_ops (b2.le l3) hw ω fun F4 l4 => qF (N := ν11) fun h' t2 D => ?_⟩⟩
    rw [e3, e10, e8] at D
    have D := D.pk [0, 1, 2, 3, 4, 5, 6, 7, 8, 9, 10] ν11 rfl
    obtain ⟨F5, l5, W, WL, D⟩ := lw_words D
    exact hQ _ _ _ _ _ _ _ _ _ _ _ _ _ _ W WL p3 D
end
section
variable {d u : Nat} {g : Bool}
noncomputable abbrev lkA (a b c e : Nat) (v0 : Value) (st dk ac : Nat) : KV := lk4 v0 (ρ st) (ρ dk) (ρ ac) a b c e
def St1 (w : World) (s₀ : Shared) (P : Params) (F : Gh) (h : Heap) (fr wd st dk ta tb est ks b c : Nat) (v0 : Value) (o1 : Obj) (F₁ : Gh) (Q : Shared → Prop) : Prop :=
  ∀ F₂ ac t e z tk h', F₁.le F₂ → NodeAt P F₂ ac t → LawT (.define 2 t) → Rep h [] F F₂ [ε fr (frm P (lkA ks b c e v0 st dk ac)), ε st (stO ta tb wd est 0 0), ε dk o1] (ψ z) h' → Q (σt h' tk)
theorem acts_law : LawT (.define 2 (.prim2 13 (.prim1 8 (.const (.int 0))) (.const (.int 1)))) :=
  ⟨⟨⟨by show (2 : Int).natAbs < 2 ^ 80; decide, by show (13 : Int).natAbs < 2 ^ 80; decide, ⟨by show (8 : Int).natAbs < 2 ^ 80; decide, by show (0 : Int).natAbs < 2 ^ 80; decide⟩, by show (1 : Int).natAbs < 2 ^ 80; decide⟩, ⟨.inr (.inr rfl), ⟨.inl rfl, trivial⟩, trivial⟩⟩, by simp [szT], by simp [hT]⟩
theorem lw_st1 (hb : BaseIn P F) (hw : w.params = P) (hd : d + 600 < 1000) {h : Heap} {fr wd st dk ta tb est ks b c z t : Nat} {v0 : Value} {o1 : Obj} {F₁ : Gh} {Q : Flow → Shared → Prop} {E : Value → Shared → Prop} {h' : Heap} (W : WordsL F₁ wd) (hQ : St1 w s₀ P F h fr wd st dk ta tb est ks b c v0 o1 F₁ (Q .next))
    (D : Rep h [] F F₁ [ε fr (frm P (lk3 ks b c v0 st dk)), ε st (stO ta tb wd est 0 0), ε dk o1] (ψ z) h') :
    wpAny (pwm w) (AA d u true) (execs (((fBody (fAt 67 0)).drop 1).take 1) (lwE fr)) Q E (σt h' t) := by
  obtain ⟨p0, p1, p2, p3, p4, p5, p6, a0, b0, a5, b5, e, f1, f2, f3⟩ := W
  have D := D.pk [1, 2, 0] ν3 rfl
  have D := D.addFz (fz := [(p0 + 981, _), (p5 + 981, _), (wd + 981, _)]) al3
  refine lΛ lfF lw_1 fun ξ => ?_
  have dd : d + 305 < 1000 := by omega
  refine ⟨dd, dd, dd, dd, qF (N := ν13) fun h' t2 D => ?_⟩
  have ek : ∀ k : Nat, z + 981 + k = z + k + 981 := fun k => by omega
  rw [ek 14, ek 12, ek 11, ek 10, ek 8, ek 7, ek 5, ek 4, ek 3, ek 1] at D
  obtain ⟨F₂, l, hf, D⟩ := Rep.freeze (M := [_, _, _]) (fr := [_, _, _, _, _, _, _, _, _, _]) D (by intro e _ q; cases q)
  have g0 := hf _ (.head _)
  have g1 := hf _ μ1
  have g2 := hf _ μ2
  have g3 := hf _ μ3
  have g4 := hf _ (.tail _ μ3)
  have g5 := hf _ (.tail _ (.tail _ μ3))
  have g6 := hf _ (.tail _ (.tail _ (.tail _ μ3)))
  have g7 := hf _ (.tail _ (.tail _ (.tail _ (.tail _ μ3))))
  have g8 := hf _ (.tail _ (.tail _ (.tail _ (.tail _ (.tail _ μ3)))))
  have g9 := hf _ (.tail _ (.tail _ (.tail _ (.tail _ (.tail _ (.tail _ μ3))))))
  refine hQ F₂ (z + 12) (.prim2 13 (.prim1 8 (.const (.int 0))) (.const (.int 1))) _ _ t2 _ l ?_ acts_law D
  exact ⟨_, _, _, _, _, _, _, ⟨_, _, _, _, _, _, ⟨_, _, _, ⟨_, rfl⟩, g9, g8⟩, ⟨_, g7⟩, g5, g3⟩, ⟨_, _, _, ⟨_, rfl⟩, g6, g4⟩, ⟨_, g2⟩, g1, g0⟩
end
section
variable {d u : Nat} {g : Bool}
theorem good_law {t : T} (h : Good t 3) : LawT t := ⟨⟨h.1, h.2.1⟩, by have : szT t ≤ 66 := h.2.2.2; omega, by have := h.2.2.1; omega⟩
def St2 (w : World) (s₀ : Shared) (P : Params) (F : Gh) (h : Heap) (fr : Nat) (kv : KV) (F₁ : Gh) (Q : Value → Shared → Prop) : Prop :=
  ∀ F₂ l as e z tk h', F₁.le F₂ → (∀ x ∈ as, ∃ t, NodeAt P F₂ x t ∧ LawT t) → 0 < as.length → Rep h [] F F₂ [ε fr (frm P kv), ε l (lstO (refs as) e)] (ψ z) h' → Q (ρ l) (σt h' tk)
theorem lw_st2 (hb : BaseIn P F) (hw : w.params = P) (hd : d + 600 < 1000) (hu : u + 700 < 9900) {h : Heap} {fr wd st dk ta tb est edk ac ks b c e z t : Nat} {v0 : Value} {vs : List Value} {tr : T} {F₁ : Gh} {Q : Value → Shared → Prop} {E : Value → Shared → Prop} {h' : Heap} (W : Words F₁ wd) (hv : Deck vs 25) (na : NodeAt P F₁ ac tr) (lt : LawT (.define 2 tr))
    (hQ : St2 w s₀ P F h fr (lkA ks b c e v0 st dk ac) F₁ Q)
    (D : Rep h [] F F₁ [ε fr (frm P (lkA ks b c e v0 st dk ac)), ε st (stO ta tb wd est 0 0), ε dk (lstO vs edk)] (ψ z) h') :
    wpAny (pwm w) (AA d u true) (eval (sTest (fS 67 0 2)) (lwE fr)) Q E (σt h' t) := by
  have b₁ := hb.le D.le
  have D := D.pk [2, 1, 0] ν3 rfl
  refine leaf (d := d) (u := u) (g := true) (fun v => .ret v) (okay hb w hw) ω (vTr_eval _ _) (sp := [nodeS P 4 5 (ψ wd) 25 0 14 0 14 3, nodeS P 5 6 (ψ wd) 25 0 28 0 28 3]) rfl δ D (fun ξ => lw_2) fun ξ =>
    ⟨by show d + 305 < 1000; omega, ?_, fun F2 l2 p2 => ⟨?_, fun F3 l3 p3 => ⟨_, rfl, fun a ea h' T' D' => ?_⟩⟩⟩
  · rw [show z + 981 + 3 = z + 3 + 981 by omega]
    exact can_node (k := 3) (node_all hw 3) ω b₁ ω ω δ δ δ ω W hv ⟨[], .nil, (by simp), by simp⟩ δ δ δ δ rfl δ δ δ δ
  · obtain ⟨q1, _, q2, q3, q4, q5⟩ := p2
    have k3 : (KK 3 : Int) = 14 := rfl
    exact can_node (k := 3) (node_all hw 3) ω (b₁.le l2) ω ω δ δ δ ω (W.le l2) q1 ⟨[], .nil, (by simp), by simp⟩ q2 ω q4 ω rfl q2 ω q4 ω
  · cases ea
    obtain ⟨_, ⟨tr1, n1, g1⟩, _⟩ := p2
    obtain ⟨_, ⟨tr2, n2, g2⟩, _⟩ := p3
    have D := D' [_, _, _, _] rfl
    obtain ⟨t2, et⟩ := sub2050 T'
    rw [et]
    rw [show z + 981 + 1 = z + 1 + 981 by omega, show (ξ 1).n 0 + 981 + 1 = (ξ 1).n 0 + 1 + 981 by omega] at D
    have D := D.pk [3, 0, 1, 2] ν4 rfl
    obtain ⟨F₂, l, hf, D⟩ := Rep.freeze (M := [_, _]) (fr := [_, _]) D (by intro e _ q; cases q)
    have f0 := hf _ (.head _)
    have f1 := hf _ μ1
    refine hQ F₂ ((ξ 1).n 0) [z + 1, (ξ 0).n 2, (ξ 1).n 2] 0 _ t2 _ (fun a o x => l _ _ (l3 _ _ (l2 _ _ x))) (fun x hx => ?_) (by simp) D
    simp only [μμ] at hx
    rcases hx with rfl | rfl | rfl
    · exact ⟨.define 2 tr, ⟨_, _, _, _, _, ((na.mono l2).mono l3).mono l, f1, f0⟩, lt⟩
    · exact ⟨_, (n1.mono l3).mono l, good_law g1⟩
    · exact ⟨_, n2.mono l, good_law g2⟩
theorem law_calls (hb : BaseIn P F) (hw : w.params = P) (d0 u0 : Nat) (hd : d0 + 601 < 1000) (hu : u0 + 703 < 9900) {xs : List Value} {ns : List Int} {sc esc : Nat} (hv : IntsAre xs ns) (hz : xs.length < 900) (fx : F (sc + 980) (lstO xs esc)) :
    CallsR w s₀ F [] (κC 979 [.ref (sc + 980)]) d0 u0 true fun Z r Z => r = .ok (.ret βT) := by
  refine callsR_intro (fz := []) (fun h H => hb.size H) ωp fun h z t R D hR => ?_
  refine code_seg (okayh hb w hw) ω (sp := []) rfl δ D (fun ξ => lw_in) fun ξ => ⟨by show d0 + 0 < 1000; omega, fun h' T' D' => ?_⟩
  have D := D' [_] rfl
  rw [show z + 981 + 1 = (z + 1) + 981 by omega] at D
  obtain ⟨t1, et⟩ := sub2050 T'
  rw [et]
  refine codeAny_func ?_
  rw [lw_body]
  refine w_app (lw_st0 (d := d0 + 1) (u := u0 + 3) hb hw ω ω hv hz fx (fun F₁ wd st dk ta tb est edk vs b c z t h' W WL dv D => ?_) D)
  refine w_app (lw_st1 (d := d0 + 1) (u := u0 + 3) hb hw ω WL (fun F₂ ac tr e z t h' l na lt D => ?_) D)
  refine wpAny_execs_cons ?_
  rw [(show _ = _ from lw_for)]
  refine wpAny_For ?_ (fun x => lw_itf _ x)
  refine lw_st2 (d := d0 + 1) (u := u0 + 3) hb hw ω ω (W.le l) dv na lt (fun F₃ l as e z t h' l3 hN h0 D => ?_) D
  refine wpAny_pyIter_list (s := σt h' t) ⟨_, D.at_ 1 _ rfl, rfl, _, rfl⟩ ?_
  have hsz : h'.objs.size = z + 981 := D.size
  have D := D.alloc (o := (iT (ρ l) (.int 0 0))) rfl
  have D := D.pk [1, 2, 0] ν3 rfl
  rw [show z + 981 + 1 = (z + 1) + 981 by omega] at D
  show codeAny _ _ (.forLoop _ (.ref h'.objs.size) _ _ _) _ _
  rw [hsz]
  refine lw_loop (s₀ := s₀) (d := d0 + 1) (u := u0 + 3) hb hw ω ω hN h0 (fun F' v4 v5 f g z t h' D => ?_) D
  refine lΛ lfF lw_T fun ξ => qF (N := [_]) fun h' t' D => ?_
  exact hR _ _ _ _ _ _ [] (Nat.le_add_left _ _) D rfl ωp rfl
end
theorem law_at (P : Params) : (match (o3 P).data with | .dict es _ => nsFind es "law" | _ => none) = some (.ref 979) := κR
theorem at3 (P : Params) : (bt P).get 3 = some (o3 P) := κR
noncomputable def notList (o : Obj) : Bool := match o.cls with
  | .type n => n != "list"
  | _ => true
theorem no_list (P : Params) : ((hl13 P).all notList) = true := κR
theorem below_caller {Γ : PySem.Ctx} (h : Γ.Below callerA) : Γ.Below (AA 301 4 true) := ⟨h.1, h.2.1, (fun Z e => nomatch e), h.2.2.2.1, h.2.2.2.2⟩
theorem bt_mem {P : Params} {a : Addr} {o : Obj} (h : (bt P).get a = some o) : o ∈ hl13 P := by
  have lt : a < 980 := by
    rcases Nat.lt_or_ge a 980 with q | q
    · exact q
    · rw [get_full _ _ _ (bt_full P) q] at h; cases h
  rw [← bt_list]
  unfold BT.list
  exact List.mem_map.mpr ⟨a, List.mem_range.mpr lt, by rw [h]; rfl⟩
theorem law_call : LawCall := by
  intro w s s₁ args vals as htk Y N hpre hlay L hlow hle
  have hrd := L.reads
  have hwl := L.well
  have hlo := L.low hlow
  have hgens := L.gens
  clear L
  wrow_args hpre hlay hrd hwl hlo
  rename_i ns hs_ hl0 hl1 hr1 hl2 as1 as2 l vs as3 hL ra wl r0 hI hrr hc hc'
  have hget : ∃ vs' : List Value, s₁.heap.get? l = some (lstO vs' 0) := by
    change Well _ _ _ (.list _) at wl
    cases wl with
    | list hg hw => exact ⟨_, hg⟩
  obtain ⟨vs', hg⟩ := hget
  obtain rfl : vs' = vs := by
    obtain ⟨o, ho, _, n, hd⟩ := hL
    rw [hg] at ho
    obtain rfl := Option.some.inj ho
    have e : vs'.toArray = vs.toArray := (Data.seq.inj hd).1
    simpa using congrArg Array.toList e
  have hl980 : 980 ≤ l := by
    rcases Nat.lt_or_ge l 980 with q | q
    · exfalso
      obtain ⟨o, ho⟩ := Option.isSome_iff_exists.mp (full_get _ _ _ (bt_full w.params) q)
      have h1 := Y l o ho
      rw [hg] at h1
      obtain rfl := Option.some.inj h1
      have h2 := List.all_eq_true.mp (no_list w.params) _ (bt_mem ho)
      have h3 : notList (lstO vs' 0) = false := rfl
      rw [h3] at h2
      cases h2
    · exact q
  obtain ⟨sc, rfl⟩ : ∃ sc, l = sc + 980 := ⟨l - 980, (Nat.sub_add_cancel hl980).symm⟩
  have hf : s.heap.nsMap mainGlobals "law" = some (.ref 979) := by
    obtain ⟨o, es, ep, h1, h2, h3, h4⟩ := N
    have h5 := Y 3 _ (at3 w.params)
    have h6 : s₁.heap.get? 3 = some o := h1
    rw [h5] at h6
    obtain rfl := Option.some.inj h6
    have h7 := law_at w.params
    rw [h2] at h7
    rw [← h4]; exact h7
  refine ⟨_, hf, ?_⟩
  let F : Gh := fun a o => (bt w.params).get a = some o ∨ (a = sc + 980 ∧ o = lstO vs' 0)
  have hb : BaseIn w.params F := ⟨fun a o e => .inl e, sc + 980, _, Nat.le_add_left _ _, .inr ⟨rfl, rfl⟩⟩
  have hF : Holds F s₁.heap := by
    intro a o e
    rcases e with e | ⟨rfl, rfl⟩
    · exact Y a o e
    · exact hg
  have hlen : vs'.length < 900 := by rw [hI.length]; omega
  refine wpAny_call ?_
  have key := law_calls (s₀ := s₁) hb rfl 301 4 ω ω hI hlen (.inr ⟨rfl, rfl⟩) s₁.heap s₁.toks (fun r s' => match r with
    | .ok (.ret v) => GoodWG row1.toRowW.claim (classAt s.heap) (ExcName.means s.heap) [ofPy (.list (ns.map .int))] s₁ (.ok (.ret v)) s'
    | .ok _ => False
    | .error e => GoodWG row1.toRowW.claim (classAt s.heap) (ExcName.means s.heap) [ofPy (.list (ns.map .int))] s₁ (.error e) s') ω hF ωp List.nodup_nil ?_
  · exact fun Γ p hc' hΓ => key Γ p hc' (below_caller hΓ)
  · intro r F' h' tk' own' _ _ hK _ _ _ _ hP
    obtain rfl := hP
    exact ⟨.inl ⟨.bool true, .bool true, [], rfl, fun Z => rfl, .bool _, by wrow_post, fun Z => ⟨List.nodup_nil, fun Z h => nomatch h⟩⟩, .of_keep fun b o e => hK b o e (by intro q; cases q), rfl, .of_eq hgens⟩
end Mine
theorem PySem.Challenge.cw_nt0185_01_holds : PySem.Challenge.rw_nt0185_01.Holds :=
  Mine.holds_of Mine.law_call
