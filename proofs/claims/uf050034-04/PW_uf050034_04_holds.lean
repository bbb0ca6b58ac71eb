import PyProof.Rows.All
import Wide.All
import OpenK.AllK
import Wide.FinOn
import PySem.Challenge.RW_uf050034_04
set_option Elab.async false
set_option linter.unusedVariables false
set_option linter.unusedSectionVars false
set_option linter.unusedSimpArgs false

section
open PySem PyProof.Rows
namespace Mine
set_option genSizeOf false

/-- plain data: what a value of the program stands for -/
inductive D where
  | none
  | bool (b : Bool)
  | int (i : Int)
  | str (s : Str)
  | tup (l : List D)
  | list (l : List D)

inductive LV where
  | val (d : D)
  | own (l : List D)

noncomputable abbrev St := String → Option LV
noncomputable def St.put (st : St) (x : String) (v : LV) : St := fun y => if y = x then some v else st y

inductive Op where
  | add | sub | mul | fdiv | mod | pow
inductive Cm where
  | eq | ne | lt | le | gt | ge | isin | is | isnot

inductive LE where
  | c (d : D)
  | v (x : String)
  | g (x : String)
  | tup (es : List LE)
  | lst (es : List LE)
  | sub (e i : LE)
  | slc (e : LE) (lo hi : Option LE)
  | bin (o : Op) (a b : LE)
  | cmp (o : Cm) (a b : LE)
  | and (es : List LE)
  | or (es : List LE)
  | not (e : LE)
  | call (f : String) (es : List LE)
  | len (e : LE)
  | isi (e : LE) (T : String)
  | int (e : LE)
  | pop (x : String)
  | olen (x : String)
  | osub (x : String) (i : LE)
  | comp (elt : LE) (x : String) (src : LE) (cond : Option LE)

inductive Src where
  | it (e : LE)
  | rev (e : LE)
  | range (e : LE)

inductive LS where
  | asg (x : String) (e : LE)
  | asgOwn (x : String) (es : List LE)
  | unpack2 (x y : String) (e : LE)
  | app (x : String) (e : LE)
  | ite (t : LE) (a b : List LS)
  | while (t : LE) (b : List LS)
  | for (x : String) (s : Src) (b : List LS)
  | ret (e : LE)
  | retOwn (x : String)

inductive Fl where
  | next
  | ret (d : D)

end Mine
namespace Mine
mutual
noncomputable def D.eqb : D → D → Bool
  | .none, .none => true
  | .bool a, .bool b => a == b
  | .bool a, .int i => (if a then 1 else 0 : Int) == i
  | .int i, .bool b => i == (if b then 1 else 0 : Int)
  | .int i, .int j => i == j
  | .str s, .str t => s == t
  | .tup l, .tup k => D.eqbL l k
  | .list l, .list k => D.eqbL l k
  | _, _ => false
noncomputable def D.eqbL : List D → List D → Bool
  | [], [] => true
  | a :: l, b :: k => D.eqb a b && D.eqbL l k
  | _, _ => false
end

mutual
noncomputable def D.dep : D → Nat
  | .tup l => D.depL l + 1
  | .list l => D.depL l + 1
  | _ => 0
noncomputable def D.depL : List D → Nat
  | [] => 0
  | d :: l => max (D.dep d) (D.depL l)
end

noncomputable def binD : Op → D → D → Option D
  | .add, .int a, .int b => some (.int (a + b))
  | .add, .str a, .str b => if a.length + b.length ≤ 100000 then some (.str (a ++ b)) else none
  | .add, .tup a, .tup b => if a.length + b.length ≤ 100000 then some (.tup (a ++ b)) else none
  | .add, .list a, .list b => if a.length + b.length ≤ 100000 then some (.list (a ++ b)) else none
  | .sub, .int a, .int b => some (.int (a - b))
  | .fdiv, .int a, .int b => if b = 0 ∨ 1073741824 ≤ b.natAbs then none else some (.int (a.fdiv b))
  | .mod, .int a, .int b => if b = 0 then none else some (.int (a.fmod b))
  | .mul, .int a, .int b => if a.natAbs < 18446744073709551616 then some (.int (a * b)) else none
  | .pow, .int a, .int b => if a.natAbs < 18446744073709551616 ∧ 0 ≤ b ∧ b ≤ 1000000 then some (.int (a ^ b.toNat)) else none
  | _, _, _ => none

noncomputable def cmpD : Cm → D → D → Option Bool
  | .eq, a, b => if a.dep ≤ 2000 then some (D.eqb a b) else none
  | .ne, a, b => if a.dep ≤ 2000 then some (!D.eqb a b) else none
  | .lt, .int a, .int b => some (decide (a < b))
  | .le, .int a, .int b => some (decide (a ≤ b))
  | .gt, .int a, .int b => some (decide (b < a))
  | .ge, .int a, .int b => some (decide (b ≤ a))
  | .isin, a, .tup l => if D.depL l ≤ 2000 then some (l.any fun x => D.eqb x a) else none
  | _, _, _ => none

noncomputable def lenD : D → Option Int
  | .tup l => if l.length ≤ 100000 then some l.length else none
  | .list l => if l.length ≤ 100000 then some l.length else none
  | .str s => if s.length ≤ 100000 then some s.length else none
  | _ => none

/-- an index, from the front -/
noncomputable def idxL {α : Type} (l : List α) (k : Int) : Option α := if 0 ≤ k ∧ k < 1000000 then l[k.toNat]? else none
noncomputable def subD : D → D → Option D
  | .tup l, .int k => idxL l k
  | .list l, .int k => idxL l k
  | .str s, .int k => (idxL s.cps.toList k).map fun c => .str ⟨#[c]⟩
  | _, _ => none

noncomputable def tagD : D → String
  | .none => "NoneType"
  | .bool _ => "bool"
  | .int _ => "int"
  | .str _ => "str"
  | .tup _ => "tuple"
  | .list _ => "list"
noncomputable def isiD (d : D) (T : String) : Option Bool :=
  if T ∈ ["bool", "int", "str", "tuple", "list"] then some (decide (T = tagD d) || (decide (T = "int") && decide (tagD d = "bool"))) else none

noncomputable def intD : D → Option D
  | .bool b => some (.int (if b then 1 else 0))
  | _ => none

/-- a slice with bounds that are not below nought -/
noncomputable def cut {α : Type} (l : List α) (lo hi : Option Nat) : List α := (match hi with | some k => l.take k | none => l).drop (lo.getD 0)
noncomputable def slcD : D → Option Nat → Option Nat → Option D
  | .list l, lo, hi => if l.length ≤ 100000 then some (.list (cut l lo hi)) else none
  | .tup l, some k, none => if 1 ≤ k ∧ k ≤ l.length ∧ l.length ≤ 100000 then some (.tup (l.drop k)) else none
  | _, _, _ => none

/-- the defs that a text may call, and what is known of their calls -/
structure Con where
  fn : String → Bool
  sp : String → List D → (D → Prop) → Prop

noncomputable def forL (B : (Fl → St → Prop) → St → Prop) (x : String) (Q : Fl → St → Prop) : List D → St → Prop
  | [], st => Q .next st
  | d :: r, st => B (fun fl st' => match fl with | .next => forL B x Q r st' | .ret e => Q (.ret e) st') (st.put x (.val d))

/-- a comprehension: T the test, B what is put in -/
noncomputable def compL (T B : (D → St → Prop) → St → Prop) (x : String) : List D → (List D → Prop) → Prop
  | [], Q => Q []
  | d :: r, Q => T (fun b st1 => ∃ c, b = .bool c ∧ if c = true then B (fun v _ => compL T B x r (fun vs => Q (v :: vs))) st1 else compL T B x r Q) (St.put (fun _ => none) x (.val d))

noncomputable def natOf : D → Option Nat
  | .int i => if 0 ≤ i then some i.toNat else none
  | _ => none

section
variable (G : String → Option D) (C : Con)
mutual
noncomputable def wE : LE → (D → St → Prop) → St → Prop
  | .c d, Q, st => Q d st
  | .v x, Q, st => ∃ d, st x = some (.val d) ∧ Q d st
  | .g x, Q, st => ∃ d, G x = some d ∧ Q d st
  | .tup es, Q, st => wEs es (fun ds st' => Q (.tup ds) st') st ∧ es.length ≤ 1000
  | .lst es, Q, st => wEs es (fun ds st' => Q (.list ds) st') st ∧ es.length ≤ 1000
  | .sub e i, Q, st => wE e (fun d st1 => wE i (fun k st2 => ∃ r, subD d k = some r ∧ Q r st2) st1) st
  | .slc e lo hi, Q, st => wE e (fun d st1 => wO lo (fun l st2 => wO hi (fun k st3 => ∃ r, slcD d l k = some r ∧ Q r st3) st2) st1) st
  | .bin o a b, Q, st => wE a (fun x st1 => wE b (fun y st2 => ∃ z, binD o x y = some z ∧ Q z st2) st1) st
  | .cmp o a b, Q, st => wE a (fun x st1 => wE b (fun y st2 => ∃ z, cmpD o x y = some z ∧ Q (.bool z) st2) st1) st
  | .and es, Q, st => wAnd es Q st
  | .or es, Q, st => wOr es Q st
  | .not e, Q, st => wE e (fun d st1 => ∃ b, d = .bool b ∧ Q (.bool (!b)) st1) st
  | .call f es, Q, st => C.fn f = true ∧ wEs es (fun ds st' => C.sp f ds fun d => Q d st') st
  | .len e, Q, st => wE e (fun d st1 => ∃ n, lenD d = some n ∧ Q (.int n) st1) st
  | .isi e T, Q, st => wE e (fun d st1 => ∃ b, isiD d T = some b ∧ Q (.bool b) st1) st
  | .int e, Q, st => wE e (fun d st1 => ∃ r, intD d = some r ∧ Q r st1) st
  | .pop x, Q, st => ∃ l d, st x = some (.own (l ++ [d])) ∧ l.length ≤ 100000 ∧ Q d (st.put x (.own l))
  | .olen x, Q, st => ∃ l, st x = some (.own l) ∧ l.length ≤ 100000 ∧ Q (.int l.length) st
  | .osub x i, Q, st => ∃ l, st x = some (.own l) ∧ wE i (fun k st1 => st1 x = some (.own l) ∧ ∃ n d, k = .int n ∧ idxL l n = some d ∧ Q d st1) st
  | .comp elt x src cond, Q, st => wE src (fun d st1 => ∃ l, d = .list l ∧ l.length ≤ 50000 ∧ compL (fun Q' st' => wC cond Q' st') (fun Q' st' => wE elt Q' st') x l (fun ds => Q (.list ds) st1)) st
noncomputable def wC : Option LE → (D → St → Prop) → St → Prop
  | none, Q, st => Q (.bool true) st
  | some e, Q, st => wE e Q st
noncomputable def wEs : List LE → (List D → St → Prop) → St → Prop
  | [], Q, st => Q [] st
  | e :: r, Q, st => wE e (fun d st1 => wEs r (fun ds st2 => Q (d :: ds) st2) st1) st
noncomputable def wO : Option LE → (Option Nat → St → Prop) → St → Prop
  | none, Q, st => Q none st
  | some e, Q, st => wE e (fun d st1 => ∃ n, natOf d = some n ∧ Q (some n) st1) st
noncomputable def wAnd : List LE → (D → St → Prop) → St → Prop
  | [], _, _ => False
  | [e], Q, st => wE e Q st
  | e :: e' :: r, Q, st => wE e (fun d st1 => ∃ b, d = .bool b ∧ if b = true then wAnd (e' :: r) Q st1 else Q (.bool false) st1) st
noncomputable def wOr : List LE → (D → St → Prop) → St → Prop
  | [], _, _ => False
  | [e], Q, st => wE e Q st
  | e :: e' :: r, Q, st => wE e (fun d st1 => ∃ b, d = .bool b ∧ if b = true then Q (.bool true) st1 else wOr (e' :: r) Q st1) st
end
mutual
noncomputable def wT : LE → (Bool → St → Prop) → St → Prop
  | .and es, Q, st => wAll es Q st
  | .or es, Q, st => wAny es Q st
  | .not e, Q, st => wT e (fun b st1 => Q (!b) st1) st
  | e, Q, st => wE G C e (fun d st1 => ∃ b, d = .bool b ∧ Q b st1) st
noncomputable def wAll : List LE → (Bool → St → Prop) → St → Prop
  | [], Q, st => Q true st
  | e :: r, Q, st => wT e (fun b st1 => if b = true then wAll r Q st1 else Q false st1) st
noncomputable def wAny : List LE → (Bool → St → Prop) → St → Prop
  | [], Q, st => Q false st
  | e :: r, Q, st => wT e (fun b st1 => if b = true then Q true st1 else wAny r Q st1) st
end
noncomputable def wSrc : Src → (List D → St → Prop) → St → Prop
  | .it e, Q, st => wE G C e (fun d st1 => ∃ l, d = .list l ∧ Q l st1) st
  | .rev e, Q, st => wE G C e (fun d st1 => ∃ l, d = .list l ∧ Q l.reverse st1) st
  | .range e, Q, st => wE G C e (fun d st1 => ∃ n, natOf d = some n ∧ n < 1000000 ∧ Q ((List.range n).map fun i : Nat => D.int (i : Int)) st1) st
mutual
noncomputable def wS : LS → (Fl → St → Prop) → St → Prop
  | .asg x e, Q, st => wE G C e (fun d st1 => Q .next (st1.put x (.val d))) st
  | .asgOwn x es, Q, st => wEs G C es (fun ds st1 => Q .next (st1.put x (.own ds))) st ∧ es.length ≤ 1000
  | .unpack2 x y e, Q, st => wE G C e (fun d st1 => ∃ a b, d = .tup [a, b] ∧ Q .next ((st1.put x (.val a)).put y (.val b))) st
  | .app x e, Q, st => (∃ l, st x = some (.own l)) ∧ wE G C e (fun d st1 => ∃ l, st1 x = some (.own l) ∧ l.length < 100000 ∧ Q .next (st1.put x (.own (l ++ [d])))) st
  | .ite t a b, Q, st => wT G C t (fun c st1 => if c = true then wSs a Q st1 else wSs b Q st1) st
  | .while t b, Q, st => ∃ I : Nat → St → Prop, (∃ n, I n st) ∧ ∀ n st', I n st' → wT G C t (fun c st1 => if c = true then wSs b (fun fl st2 => match fl with | .next => ∃ m, m < n ∧ I m st2 | .ret d => Q (.ret d) st2) st1 else Q .next st1) st'
  | .for x s b, Q, st => wSrc G C s (fun l st1 => forL (fun Q' st' => wSs b Q' st') x Q l st1) st
  | .ret e, Q, st => wE G C e (fun d st1 => Q (.ret d) st1) st
  | .retOwn x, Q, st => ∃ l, st x = some (.own l) ∧ Q (.ret (.list l)) st
noncomputable def wSs : List LS → (Fl → St → Prop) → St → Prop
  | [], Q, st => Q .next st
  | s :: r, Q, st => wS s (fun fl st1 => match fl with | .next => wSs r Q st1 | .ret d => Q (.ret d) st1) st
end
end
end Mine
end

section
open PySem PyProof.Rows
namespace Mine

noncomputable def Ext (h h' : Heap) : Prop := ∀ b o, h.get? b = some o → h'.get? b = some o
theorem Ext.refl (h : Heap) : Ext h h := fun _ _ e => e
theorem Ext.trans {a b c : Heap} (x : Ext a b) (y : Ext b c) : Ext a c := fun k o e => y k o (x k o e)
theorem Ext.push (h : Heap) (o : Obj) : Ext h (h.push o) := fun _ _ e => Heap.get?_push_of_some o e

mutual
noncomputable def Rel (P : Addr → Prop) (h : Heap) : D → Value → Prop
  | .none, v => v = .none
  | .bool b, v => v = .bool b
  | .int i, v => ∃ t, v = .int i t
  | .str s, v => ∃ t, v = .str s t
  | .tup l, v => ∃ a vs, v = .ref a ∧ IsTup h a (List.toArray vs) ∧ RelL P h l vs
  | .list l, v => ∃ a vs, v = .ref a ∧ P a ∧ h.IsList a (List.toArray vs) ∧ RelL P h l vs
noncomputable def RelL (P : Addr → Prop) (h : Heap) : List D → List Value → Prop
  | [], vs => vs = []
  | d :: l, vs => ∃ v r, vs = v :: r ∧ Rel P h d v ∧ RelL P h l r
end

/-- what the relation looks at stays -/
structure Mono (P P' : Addr → Prop) (h h' : Heap) : Prop where
  tup : ∀ a items, IsTup h a items → IsTup h' a items
  list : ∀ a items, P a → h.IsList a items → P' a ∧ h'.IsList a items

mutual
theorem Rel.mono {P P' : Addr → Prop} {h h' : Heap} (M : Mono P P' h h') : ∀ (d : D) (v : Value), Rel P h d v → Rel P' h' d v
  | .none, _, r => by simp only [Rel] at r ⊢; exact r
  | .bool _, _, r => by simp only [Rel] at r ⊢; exact r
  | .int _, _, r => by simp only [Rel] at r ⊢; exact r
  | .str _, _, r => by simp only [Rel] at r ⊢; exact r
  | .tup l, _, r => by
    simp only [Rel] at r ⊢
    obtain ⟨a, vs, e, ht, hl⟩ := r
    exact ⟨a, vs, e, M.tup _ _ ht, RelL.mono M l vs hl⟩
  | .list l, _, r => by
    simp only [Rel] at r ⊢
    obtain ⟨a, vs, e, hp, ht, hl⟩ := r
    exact ⟨a, vs, e, (M.list _ _ hp ht).1, (M.list _ _ hp ht).2, RelL.mono M l vs hl⟩
theorem RelL.mono {P P' : Addr → Prop} {h h' : Heap} (M : Mono P P' h h') : ∀ (l : List D) (vs : List Value), RelL P h l vs → RelL P' h' l vs
  | [], _, r => by simp only [RelL] at r ⊢; exact r
  | d :: l, _, r => by
    simp only [RelL] at r ⊢
    obtain ⟨v, rs, e, hd, hl⟩ := r
    exact ⟨v, rs, e, Rel.mono M d v hd, RelL.mono M l rs hl⟩
end

theorem Mono.ext {P : Addr → Prop} {h h' : Heap} (x : Ext h h') : Mono P P h h' :=
  ⟨fun _ _ t => t.keeps x, fun _ _ p ⟨o, e, r⟩ => ⟨p, o, x _ _ e, r⟩⟩
theorem Mono.weak {P P' : Addr → Prop} {h : Heap} (x : ∀ a, P a → P' a) : Mono P P' h h := ⟨fun _ _ t => t, fun a _ p t => ⟨x a p, t⟩⟩
theorem Mono.trans {P P' P'' : Addr → Prop} {h h' h'' : Heap} (x : Mono P P' h h') (y : Mono P' P'' h' h'') : Mono P P'' h h'' :=
  ⟨fun a i t => y.tup a i (x.tup a i t), fun a i p t => let ⟨p', t'⟩ := x.list a i p t; y.list a i p' t'⟩

section
variable {P : Addr → Prop} {h : Heap}
theorem RelL.nil : RelL P h [] [] := by simp only [RelL]
theorem RelL.cons {d : D} {v : Value} {l : List D} {vs : List Value} (x : Rel P h d v) (y : RelL P h l vs) : RelL P h (d :: l) (v :: vs) := by
  simp only [RelL]; exact ⟨v, vs, rfl, x, y⟩
theorem RelL.cons_inv {d : D} {l : List D} {vs : List Value} (x : RelL P h (d :: l) vs) : ∃ v r, vs = v :: r ∧ Rel P h d v ∧ RelL P h l r := by
  simp only [RelL] at x; exact x
theorem RelL.nil_inv {vs : List Value} (x : RelL P h [] vs) : vs = [] := by simp only [RelL] at x; exact x
theorem RelL.length : ∀ {l : List D} {vs : List Value}, RelL P h l vs → vs.length = l.length
  | [], _, r => by rw [r.nil_inv]; rfl
  | _ :: l, _, r => by
    obtain ⟨v, rs, rfl, _, hl⟩ := r.cons_inv
    simp [RelL.length hl]
theorem RelL.append : ∀ {l k : List D} {vs us : List Value}, RelL P h l vs → RelL P h k us → RelL P h (l ++ k) (vs ++ us)
  | [], _, _, _, r, q => by rw [r.nil_inv]; exact q
  | _ :: l, _, _, _, r, q => by
    obtain ⟨v, rs, rfl, hd, hl⟩ := r.cons_inv
    exact .cons hd (RelL.append hl q)
theorem RelL.append_inv : ∀ {l k : List D} {vs : List Value}, RelL P h (l ++ k) vs → ∃ us ws, vs = us ++ ws ∧ RelL P h l us ∧ RelL P h k ws
  | [], _, vs, r => ⟨[], vs, rfl, .nil, r⟩
  | _ :: l, _, _, r => by
    obtain ⟨v, rs, rfl, hd, hl⟩ := r.cons_inv
    obtain ⟨us, ws, rfl, a, b⟩ := RelL.append_inv (l := l) hl
    exact ⟨v :: us, ws, rfl, .cons hd a, b⟩
theorem RelL.get : ∀ {l : List D} {vs : List Value} {k : Nat} {d : D}, RelL P h l vs → l[k]? = some d → ∃ v, vs[k]? = some v ∧ Rel P h d v
  | [], _, _, _, _, e => by simp at e
  | x :: l, _, 0, d, r, e => by
    obtain ⟨v, rs, rfl, hd, hl⟩ := r.cons_inv
    simp at e; subst e; exact ⟨v, rfl, hd⟩
  | x :: l, _, k + 1, d, r, e => by
    obtain ⟨v, rs, rfl, hd, hl⟩ := r.cons_inv
    obtain ⟨v', h1, h2⟩ := RelL.get (k := k) hl (by simpa using e)
    exact ⟨v', by simpa using h1, h2⟩
theorem RelL.take : ∀ (k : Nat) {l : List D} {vs : List Value}, RelL P h l vs → RelL P h (l.take k) (vs.take k)
  | 0, _, _, _ => by simpa using RelL.nil
  | k + 1, [], _, r => by rw [r.nil_inv]; simpa using RelL.nil
  | k + 1, x :: l, _, r => by
    obtain ⟨v, rs, rfl, hd, hl⟩ := r.cons_inv
    exact .cons hd (RelL.take k hl)
theorem RelL.drop : ∀ (k : Nat) {l : List D} {vs : List Value}, RelL P h l vs → RelL P h (l.drop k) (vs.drop k)
  | 0, _, _, r => r
  | k + 1, [], _, r => by rw [r.nil_inv]; simpa using RelL.nil
  | k + 1, x :: l, _, r => by
    obtain ⟨v, rs, rfl, hd, hl⟩ := r.cons_inv
    exact RelL.drop k hl
theorem RelL.reverse : ∀ {l : List D} {vs : List Value}, RelL P h l vs → RelL P h l.reverse vs.reverse
  | [], _, r => by rw [r.nil_inv]; exact .nil
  | x :: l, _, r => by
    obtain ⟨v, rs, rfl, hd, hl⟩ := r.cons_inv
    rw [List.reverse_cons, List.reverse_cons]
    exact .append (.reverse hl) (.cons hd .nil)
theorem RelL.cut {lo hi : Option Nat} {l : List D} {vs : List Value} (r : RelL P h l vs) : RelL P h (cut l lo hi) (cut vs lo hi) := by
  unfold Mine.cut
  cases hi with
  | none => exact r.drop _
  | some k => exact (r.take k).drop _
end

/-- the frame's heap against the heap at a point: all is kept but the locals and the lists that are the frame's own -/
noncomputable def Pres (O : List Addr) (L : Addr) (h h' : Heap) : Prop := ∀ b o, h.get? b = some o → b ≠ L → b ∉ O → h'.get? b = some o
theorem Pres.refl (O : List Addr) (L : Addr) (h : Heap) : Pres O L h h := fun _ _ e _ _ => e
theorem Pres.trans {O : List Addr} {L : Addr} {a b c : Heap} (x : Pres O L a b) (y : Pres O L b c) : Pres O L a c := fun k o e h1 h2 => y k o (x k o e h1 h2) h1 h2
theorem Pres.ext {O : List Addr} {L : Addr} {h h' : Heap} (x : Ext h h') : Pres O L h h' := fun b o e _ _ => x b o e
/-- own lists that came later -/
noncomputable def Grow (O O' : List Addr) (h : Heap) : Prop := (∀ a ∈ O, a ∈ O') ∧ ∀ a ∈ O', a ∈ O ∨ h.get? a = none
theorem Grow.refl (O : List Addr) (h : Heap) : Grow O O h := ⟨fun _ x => x, fun _ x => .inl x⟩
theorem Pres.trans' {O O' : List Addr} {L : Addr} {a b c : Heap} (x : Pres O L a b) (g : Grow O O' a) (y : Pres O' L b c) : Pres O L a c :=
  fun k o e h1 h2 => y k o (x k o e h1 h2) h1 fun hk => (g.2 k hk).elim h2 fun n => by rw [e] at n; cases n

/-- what is left to the relation: not the frame's own lists -/
noncomputable def Off (P : Addr → Prop) (O : List Addr) : Addr → Prop := fun a => P a ∧ a ∉ O

/-- the frame's state: h₀ the heap at its entry, L its locals, O its own lists -/
structure Inv (h₀ : Heap) (L : Addr) (P : Addr → Prop) (O : List Addr) (ad : String → Addr) (st : St) (s₀ s : Shared) : Prop where
  same : s = { s₀ with heap := s.heap, toks := s.toks }
  ownOk : ∀ a ∈ O, (∃ items n, PySem.IsL s.heap a items n) ∧ h₀.get? a = none
  vars : ∃ (m : Str → Option Value), Fr h₀ L s.heap m ∧
    (∀ x d, st x = some (.val d) → ∃ v, m (Str.ofString x) = some v ∧ Rel (Off P O) s.heap d v) ∧
    (∀ x l, st x = some (.own l) → m (Str.ofString x) = some (.ref (ad x)) ∧ ad x ∈ O ∧ ∃ vs n, PySem.IsL s.heap (ad x) (List.toArray vs) n ∧ RelL (Off P O) s.heap l vs) ∧
    (∀ x y l k, st x = some (.own l) → st y = some (.own k) → ad x = ad y → x = y)
end Mine
end

section
open PySem PyProof.Rows
namespace Mine

theorem map_toNat_inj : ∀ (a b : List Char), a.map Char.toNat = b.map Char.toNat → a = b
  | [], [], _ => rfl
  | [], _ :: _, h => by simp at h
  | _ :: _, [], h => by simp at h
  | c :: a, d :: b, h => by
    simp only [List.map_cons, List.cons.injEq] at h
    have e : c = d := Char.ext (UInt32.toNat_inj.mp h.1)
    rw [e, map_toNat_inj a b h.2]
theorem ofString_inj {a b : String} (h : Str.ofString a = Str.ofString b) : a = b := by
  rw [Str.ofString_eq_toList, Str.ofString_eq_toList] at h
  have h1 : a.toList.map Char.toNat = b.toList.map Char.toNat := by
    have := congrArg Str.cps h
    simpa using this
  have h2 : a.toList = b.toList := by
    exact map_toNat_inj _ _ h1
  exact String.toList_inj.mp h2

theorem isL_isList {h : Heap} {a : Addr} {items : Array Value} {n : Nat} (x : PySem.IsL h a items n) : h.IsList a items := ⟨_, x, rfl, n, rfl⟩
theorem ns_not_seq {h : Heap} {a : Addr} {m : Str → Option Value} {o : Obj} {items : Array Value} {n : Nat} (x : h.Ns a m) (e : h.get? a = some o) (d : o.data = .seq items n) : False := by
  obtain ⟨o', es, ep, e', d', _⟩ := x
  rw [e] at e'; cases e'
  rw [d] at d'; cases d'

section
variable {h₀ : Heap} {L : Addr} {P : Addr → Prop} {O : List Addr} {ad : String → Addr} {st : St} {s₀ s : Shared}

theorem mono_of {h h' : Heap} {m : Str → Option Value} (hn : h.Ns L m) (ho : ∀ a ∈ O, ∃ items n, PySem.IsL h a items n) (p : Pres O L h h') : Mono (Off P O) (Off P O) h h' := by
  refine ⟨fun a items t => ?_, fun a items q t => ?_⟩
  · obtain ⟨o, e, c, n, d⟩ := t
    refine ⟨o, p a o e ?_ ?_, c, n, d⟩
    · rintro rfl; exact ns_not_seq hn e d
    · intro ha
      obtain ⟨its, k, e'⟩ := ho a ha
      have e2 := Option.some.inj (e.symm.trans e')
      subst e2; exact absurd c (by simp)
  · obtain ⟨o, e, c, n, d⟩ := t
    refine ⟨q, o, p a o e ?_ q.2, c, n, d⟩
    rintro rfl; exact ns_not_seq hn e d

theorem Inv.fr (I : Inv h₀ L P O ad st s₀ s) : ∃ m, Fr h₀ L s.heap m := let ⟨m, F, _⟩ := I.vars; ⟨m, F⟩
theorem Inv.mono (I : Inv h₀ L P O ad st s₀ s) {h' : Heap} (p : Pres O L s.heap h') : Mono (Off P O) (Off P O) s.heap h' := by
  obtain ⟨m, F⟩ := I.fr
  exact mono_of F.ns (fun a ha => (I.ownOk a ha).1) p
theorem Inv.rel (I : Inv h₀ L P O ad st s₀ s) {h' : Heap} (p : Pres O L s.heap h') {d : D} {v : Value} (r : Rel (Off P O) s.heap d v) : Rel (Off P O) h' d v := Rel.mono (I.mono p) d v r
theorem Inv.relL (I : Inv h₀ L P O ad st s₀ s) {h' : Heap} (p : Pres O L s.heap h') {d : List D} {v : List Value} (r : RelL (Off P O) s.heap d v) : RelL (Off P O) h' d v := RelL.mono (I.mono p) d v r

theorem Fr.ext {h h' : Heap} {m : Str → Option Value} (F : Fr h₀ L h m) (x : Ext h h') : Fr h₀ L h' m := ⟨F.ns.keeps x, fun b o e => x b o (F.keep b o e), F.above⟩

theorem Inv.ext (I : Inv h₀ L P O ad st s₀ s) {h' : Heap} {tk : Nat} (x : Ext s.heap h') : Inv h₀ L P O ad st s₀ { s with heap := h', toks := tk } := by
  obtain ⟨m, F, hv, ho, hi⟩ := I.vars
  have M : Mono (Off P O) (Off P O) s.heap h' := Mono.ext x
  refine ⟨?_, fun a ha => ?_, m, Fr.ext F x, fun y d e => ?_, fun y l e => ?_, hi⟩
  · rw [I.same]
  · obtain ⟨⟨its, n, e⟩, q⟩ := I.ownOk a ha
    exact ⟨⟨its, n, x _ _ e⟩, q⟩
  · obtain ⟨v, h1, h2⟩ := hv y d e
    exact ⟨v, h1, Rel.mono M d v h2⟩
  · obtain ⟨h1, h2, vs, n, h3, h4⟩ := ho y l e
    exact ⟨h1, h2, vs, n, x _ _ h3, RelL.mono M l vs h4⟩
theorem Inv.toks (I : Inv h₀ L P O ad st s₀ s) {tk : Nat} : Inv h₀ L P O ad st s₀ { s with toks := tk } := I.ext (Ext.refl _)

theorem Inv.put (I : Inv h₀ L P O ad st s₀ s) {m : Str → Option Value} (F : Fr h₀ L s.heap m)
    (hv : ∀ x d, st x = some (.val d) → ∃ v, m (Str.ofString x) = some v ∧ Rel (Off P O) s.heap d v)
    (ho : ∀ x l, st x = some (.own l) → m (Str.ofString x) = some (.ref (ad x)) ∧ ad x ∈ O ∧ ∃ vs n, PySem.IsL s.heap (ad x) (List.toArray vs) n ∧ RelL (Off P O) s.heap l vs)
    (hi : ∀ x y l k, st x = some (.own l) → st y = some (.own k) → ad x = ad y → x = y)
    {x : String} {d : D} {v : Value} (r : Rel (Off P O) s.heap d v) {h' : Heap} {tk : Nat} (hn : h'.Ns L (fun y => if y = Str.ofString x then some v else m y)) (hs : Heap.SameBut L s.heap h') :
    Inv h₀ L P O ad (st.put x (.val d)) s₀ { s with heap := h', toks := tk } ∧ Pres O L s.heap h' := by
  have p : Pres O L s.heap h' := fun b o e hb _ => (hs.2 b hb).trans e
  have notL : ∀ {a : Addr} {its : Array Value} {n : Nat}, PySem.IsL s.heap a its n → a ≠ L := by
    rintro a its n e rfl
    exact ns_not_seq F.ns e rfl
  refine ⟨⟨?_, fun a ha => ?_, _, F.set hn hs, fun y e q => ?_, fun y l q => ?_, fun y z l k q1 q2 => ?_⟩, p⟩
  · rw [I.same]
  · obtain ⟨⟨its, n, e⟩, q⟩ := I.ownOk a ha
    exact ⟨⟨its, n, (hs.2 a (notL e)).trans e⟩, q⟩
  · unfold St.put at q
    by_cases hy : y = x
    · subst hy
      rw [if_pos rfl] at q; cases q
      exact ⟨v, by rw [if_pos rfl], I.rel p r⟩
    · rw [if_neg hy] at q
      obtain ⟨u, h1, h2⟩ := hv y e q
      exact ⟨u, by rw [if_neg fun z => hy (ofString_inj z)]; exact h1, I.rel p h2⟩
  · unfold St.put at q
    by_cases hy : y = x
    · subst hy
      rw [if_pos rfl] at q; cases q
    · rw [if_neg hy] at q
      obtain ⟨h1, h2, vs, n, h3, h4⟩ := ho y l q
      exact ⟨by rw [if_neg fun z => hy (ofString_inj z)]; exact h1, h2, vs, n, (hs.2 _ (notL h3)).trans h3, I.relL p h4⟩
  · unfold St.put at q1 q2
    by_cases hy : y = x
    · rw [if_pos hy] at q1; cases q1
    · by_cases hz : z = x
      · rw [if_pos hz] at q2; cases q2
      · rw [if_neg hy] at q1; rw [if_neg hz] at q2
        exact hi y z l k q1 q2

/-- a value stored under a local name -/
theorem wStore {M : Model} {A : Around} {E : Value → Shared → Prop} {env : Env} {x : String} {d : D} {v : Value} {K : Unit → Shared → Prop} (hL : env.locals = L) (I : Inv h₀ L P O ad st s₀ s)
    (hk : env.scope.kind = .function) (hx : env.scope.names.lookup (Str.ofString x) = some .local) (r : Rel (Off P O) s.heap d v)
    (h : ∀ s', Inv h₀ L P O ad (st.put x (.val d)) s₀ s' → Pres O L s.heap s'.heap → K () s') : wpAny M A (storeName env (Str.ofString x) v) K E s := by
  subst hL
  obtain ⟨m, F, hv, ho, hi⟩ := I.vars
  refine wpAny_storeName_local hx F.ns (fun h' hn hs => ?_) ?_
  · obtain ⟨I', p⟩ := I.put F hv ho hi r (tk := s.toks + 1) hn hs
    exact h _ I' p
  · show (env.scope.kind == .class || (env.scope.kind == .module && env.locals != env.globals)) = false
    rw [hk]; rfl

theorem own_push {h : Heap} {vs : List Value} : PySem.IsL (h.push { cls := .type "list", data := .seq vs.toArray }) h.objs.size vs.toArray 0 := Heap.get?_push_size _ rfl

/-- a new list stored under a local name that owns it -/
theorem wStoreOwn {M : Model} {A : Around} {E : Value → Shared → Prop} {env : Env} {x : String} {ds : List D} {vs : List Value} {K : Unit → Shared → Prop} (hL : env.locals = L) (I : Inv h₀ L P O ad st s₀ s)
    (hk : env.scope.kind = .function) (hx : env.scope.names.lookup (Str.ofString x) = some .local) (r : RelL (Off P O) s.heap ds vs)
    (h : ∀ s', Inv h₀ L P (s.heap.objs.size :: O) (fun y => if y = x then s.heap.objs.size else ad y) (st.put x (.own ds)) s₀ s' → Pres O L s.heap s'.heap → Grow O (s.heap.objs.size :: O) s.heap → K () s') :
    wpAny M A (storeName env (Str.ofString x) (.ref s.heap.objs.size)) K E { s with heap := s.heap.push { cls := .type "list", data := .seq vs.toArray } } := by
  subst hL
  obtain ⟨m, F, hv, ho, hi⟩ := I.vars
  have hlt : ∀ {b : Addr} {o : Obj}, s.heap.get? b = some o → b ≠ s.heap.objs.size := fun e => Nat.ne_of_lt (Heap.lt_size e)
  have hnone : s.heap.get? s.heap.objs.size = none := Heap.get?_none_of_le (Nat.le_refl _)
  have hx1 : Ext s.heap (s.heap.push { cls := .type "list", data := .seq vs.toArray }) := Ext.push _ _
  have M1 : Mono (Off P O) (Off P (s.heap.objs.size :: O)) s.heap (s.heap.push { cls := .type "list", data := .seq vs.toArray }) := by
    refine ⟨fun a i t => t.keeps hx1, fun a i q t => ⟨⟨q.1, ?_⟩, ?_⟩⟩
    · intro hm
      rcases List.mem_cons.mp hm with e | e
      · obtain ⟨o, eo, _⟩ := t
        exact hlt eo e
      · exact q.2 e
    · obtain ⟨o, eo, q⟩ := t
      exact ⟨o, hx1 _ _ eo, q⟩
  have O1 : ∀ b ∈ s.heap.objs.size :: O, ∃ items n, PySem.IsL (s.heap.push { cls := .type "list", data := .seq vs.toArray }) b items n := by
    intro b hb
    rcases List.mem_cons.mp hb with e | e
    · subst e; exact ⟨_, _, own_push⟩
    · obtain ⟨⟨its, n, q⟩, _⟩ := I.ownOk b e
      exact ⟨its, n, hx1 _ _ q⟩
  have F1 := F.push { cls := .type "list", data := .seq vs.toArray }
  refine wpAny_storeName_local (env := env) hx F1.ns (fun h' hn hs => ?_) ?_
  · have p1 : Pres (s.heap.objs.size :: O) env.locals (s.heap.push { cls := .type "list", data := .seq vs.toArray }) h' := fun b o e hb _ => (hs.2 b hb).trans e
    have M2 : Mono (Off P (s.heap.objs.size :: O)) (Off P (s.heap.objs.size :: O)) _ h' := mono_of F1.ns O1 p1
    have M3 := M1.trans M2
    have notL : ∀ {a : Addr} {its : Array Value} {n : Nat}, PySem.IsL (s.heap.push { cls := .type "list", data := .seq vs.toArray }) a its n → a ≠ env.locals := by
      rintro a its n e rfl
      exact ns_not_seq F1.ns e rfl
    refine h _ ⟨?_, fun a ha => ?_, _, F1.set hn hs, fun y e q => ?_, fun y l q => ?_, fun y z l k q1 q2 => ?_⟩ ?_ ⟨fun _ ha => .tail _ ha, fun a ha => ?_⟩
    · rw [I.same]
    · obtain ⟨its, n, e⟩ := O1 a ha
      refine ⟨⟨its, n, (hs.2 a (notL e)).trans e⟩, ?_⟩
      rcases List.mem_cons.mp ha with e | e
      · subst e; exact F.fresh
      · exact (I.ownOk a e).2
    · unfold St.put at q
      by_cases hy : y = x
      · rw [if_pos hy] at q; cases q
      · rw [if_neg hy] at q
        obtain ⟨u, h1, h2⟩ := hv y e q
        exact ⟨u, by rw [if_neg fun z => hy (ofString_inj z)]; exact h1, Rel.mono M3 _ _ h2⟩
    · unfold St.put at q
      by_cases hy : y = x
      · subst hy
        rw [if_pos rfl] at q; cases q
        dsimp only
        rw [if_pos rfl, if_pos rfl]
        exact ⟨rfl, .head _, vs, 0, (hs.2 _ (notL own_push)).trans own_push, RelL.mono M3 _ _ r⟩
      · rw [if_neg hy] at q
        obtain ⟨h1, h2, us, n, h3, h4⟩ := ho y l q
        dsimp only
        rw [if_neg fun z => hy (ofString_inj z), if_neg hy]
        exact ⟨h1, .tail _ h2, us, n, (hs.2 _ (notL (hx1 _ _ h3))).trans (hx1 _ _ h3), RelL.mono M3 _ _ h4⟩
    · unfold St.put at q1 q2
      intro e
      try dsimp only at e
      by_cases hy : y = x
      · by_cases hz : z = x
        · rw [hy, hz]
        · rw [if_neg hz] at q2
          rw [if_pos hy, if_neg hz] at e
          obtain ⟨_, _, us, n, h3, _⟩ := ho z k q2
          exact absurd e.symm (hlt h3)
      · by_cases hz : z = x
        · rw [if_neg hy] at q1
          rw [if_neg hy, if_pos hz] at e
          obtain ⟨_, _, us, n, h3, _⟩ := ho y l q1
          exact absurd e (hlt h3)
        · rw [if_neg hy] at q1; rw [if_neg hz] at q2
          rw [if_neg hy, if_neg hz] at e
          exact hi y z l k q1 q2 e
    · exact fun b o e hb _ => (hs.2 b hb).trans (hx1 _ _ e)
    · rcases List.mem_cons.mp ha with e | e
      · subst e; exact .inr hnone
      · exact .inl e
  · show (env.scope.kind == .class || (env.scope.kind == .module && env.locals != env.globals)) = false
    rw [hk]; rfl

/-- an own list is changed -/
theorem Inv.upd (I : Inv h₀ L P O ad st s₀ s) {x : String} {l : List D} (hx : st x = some (.own l)) :
    ∃ (m : Str → Option Value) (vs : List Value) (n : Nat), Fr h₀ L s.heap m ∧ m (Str.ofString x) = some (.ref (ad x)) ∧ ad x ∈ O ∧ PySem.IsL s.heap (ad x) vs.toArray n ∧ RelL (Off P O) s.heap l vs ∧
      ∀ (f : Array Value → Array Value) (vs' : List Value) (l' : List D) (tk : Nat), f vs.toArray = vs'.toArray → RelL (Off P O) s.heap l' vs' →
        Inv h₀ L P O ad (st.put x (.own l')) s₀ { s with heap := s.heap.update (ad x) (Obj.mapSeq f), toks := tk } ∧ Pres O L s.heap (s.heap.update (ad x) (Obj.mapSeq f)) := by
  obtain ⟨m, F, hv, ho, hi⟩ := I.vars
  obtain ⟨h1, h2, vs, n, h3, h4⟩ := ho x l hx
  refine ⟨m, vs, n, F, h1, h2, h3, h4, fun f vs' l' tk hf r => ?_⟩
  have hs : Heap.SameBut (ad x) s.heap (s.heap.update (ad x) (Obj.mapSeq f)) := Heap.SameBut.update ..
  have p : Pres O L s.heap (s.heap.update (ad x) (Obj.mapSeq f)) := fun b o e _ hb => (hs.2 b fun z => hb (z ▸ h2)).trans e
  have hL : ad x ≠ L := by
    intro z
    exact ns_not_seq F.ns (z ▸ h3) rfl
  have new := PySem.IsL.update h3 f
  rw [hf] at new
  refine ⟨⟨?_, fun a ha => ?_, m, F.change hs hL (I.ownOk _ h2).2, fun y e q => ?_, fun y k q => ?_, fun y z k k' q1 q2 => ?_⟩, p⟩
  · rw [I.same]
  · obtain ⟨⟨its, n', e⟩, q⟩ := I.ownOk a ha
    refine ⟨?_, q⟩
    by_cases ha' : a = ad x
    · subst ha'; exact ⟨_, _, new⟩
    · exact ⟨its, n', (hs.2 a ha').trans e⟩
  · unfold St.put at q
    by_cases hy : y = x
    · rw [if_pos hy] at q; cases q
    · rw [if_neg hy] at q
      obtain ⟨u, g1, g2⟩ := hv y e q
      exact ⟨u, g1, I.rel p g2⟩
  · unfold St.put at q
    by_cases hy : y = x
    · subst hy
      rw [if_pos rfl] at q; cases q
      exact ⟨h1, h2, vs', _, new, I.relL p r⟩
    · rw [if_neg hy] at q
      obtain ⟨g1, g2, us, n', g3, g4⟩ := ho y k q
      exact ⟨g1, g2, us, n', (hs.2 _ fun z => hy (hi y x k l q hx z)).trans g3, I.relL p g4⟩
  · unfold St.put at q1 q2
    intro e
    by_cases hy : y = x
    · by_cases hz : z = x
      · rw [hy, hz]
      · rw [if_neg hz] at q2
        rw [hy] at e
        exact hy.trans (hi x z l k' hx q2 e)
    · by_cases hz : z = x
      · rw [if_neg hy] at q1
        rw [hz] at e
        exact (hi y x k l q1 hx e).trans hz.symm
      · rw [if_neg hy] at q1; rw [if_neg hz] at q2
        exact hi y z k k' q1 q2 e
end
end Mine
end

section
open PySem PyProof.Rows
namespace Mine

noncomputable def blist : List (String × Value) := [("len", .builtin "len"), ("isinstance", .builtin "isinstance"), ("reversed", .type "reversed"), ("range", .type "range"), ("int", .type "int"),
  ("bool", .type "bool"), ("tuple", .type "tuple"), ("list", .type "list"), ("str", .type "str")]

/-! the real text against the small one -/
noncomputable def opOf : Op → Operator
  | .add => .Add | .sub => .Sub | .mul => .Mult | .fdiv => .FloorDiv | .mod => .Mod | .pow => .Pow
noncomputable def cmOf : Cm → CmpOp
  | .eq => .Eq | .ne => .NotEq | .lt => .Lt | .le => .LtE | .gt => .Gt | .ge => .GtE | .isin => .In | .is => .Is | .isnot => .IsNot

noncomputable def ckC : D → Const → Bool
  | .none, .none => true
  | .bool a, .bool b => a == b
  | .int i, .int j => decide (i = j)
  | .str s, .str t => decide (s = t)
  | _, _ => false
/-- a local name -/
noncomputable def ckL (sc : Scope) (x : String) (id : Str) : Bool := decide (id = Str.ofString x) && decide (sc.names.lookup id = some .local) && !(id == ("__debug__" : Str))
/-- a name of the module or a built-in one -/
noncomputable def ckG (sc : Scope) (x : String) (id : Str) : Bool := decide (id = Str.ofString x) && decide (sc.names.lookup id = some .globalImplicit) && !(id == ("__debug__" : Str))
noncomputable def noSlice : Expr → Bool
  | .Slice .. => false
  | _ => true
noncomputable def isName : Expr → Bool
  | .Name .. => true
  | _ => false
noncomputable def noComp : Expr → Bool
  | .ListComp .. => false
  | .SetComp .. => false
  | .DictComp .. => false
  | _ => true

/-- the scope of a comprehension that has no name from outside -/
noncomputable def ckComp (csc : Scope) : Bool := decide (csc.kind = .function) && csc.names.all (fun x => decide (x.2 ≠ .cell) && decide (x.2 ≠ .free) && (decide (x.2 ≠ .local) || decide (csc.names.lookup x.1 = some .local)))
noncomputable def plainLe : LE → Bool
  | .call _ _ => true
  | .isi _ _ => true
  | _ => false
/-- the tests of a comprehension that are looked at here -/
noncomputable def condOk : LE → Bool
  | .cmp _ _ _ => true
  | .not a => plainLe a
  | .v _ => true
  | _ => false
mutual
noncomputable def ckE (sc : Scope) : LE → Expr → Bool
  | .c d, e => match e with
    | .Constant k _ _ => ckC d k
    | _ => false
  | .v x, e => match e with
    | .Name id _ => ckL sc x id
    | _ => false
  | .g x, e => match e with
    | .Name id _ => ckG sc x id
    | _ => false
  | .tup es, e => match e with
    | .Tuple xs _ _ => ckEs sc es xs
    | _ => false
  | .lst es, e => match e with
    | .List xs _ => ckEs sc es xs
    | _ => false
  | .sub a i, e => match e with
    | .Subscript x y _ => ckE sc a x && ckE sc i y && noSlice y
    | _ => false
  | .slc a lo hi, e => match e with
    | .Subscript x (.Slice l u none _) _ => ckE sc a x && ckO sc lo l && ckO sc hi u
    | _ => false
  | .bin o a b, e => match e with
    | .BinOp x op y _ => ckE sc a x && ckE sc b y && decide (op = opOf o)
    | _ => false
  | .cmp o a b, e => match e with
    | .Compare x [op] [y] _ => ckE sc a x && ckE sc b y && decide (op = cmOf o) && !behindInMarks op y
    | _ => false
  | .and es, e => match e with
    | .BoolOp .And xs _ => ckEs sc es xs
    | _ => false
  | .or es, e => match e with
    | .BoolOp .Or xs _ => ckEs sc es xs
    | _ => false
  | .not a, e => match e with
    | .UnaryOp .Not x _ => ckE sc a x
    | _ => false
  | .call f es, e => match e with
    | .Call (.Name id _) xs [] _ => ckG sc f id && ckEs sc es xs && !es.isEmpty
    | _ => false
  | .len a, e => match e with
    | .Call (.Name id _) [x] [] _ => ckG sc "len" id && ckE sc a x
    | _ => false
  | .isi a T, e => match e with
    | .Call (.Name id _) [x, .Name t _] [] _ => ckG sc "isinstance" id && ckE sc a x && ckG sc T t && blist.contains (T, .type T)
    | _ => false
  | .int a, e => match e with
    | .Call (.Name id _) [x] [] _ => ckG sc "int" id && ckE sc a x
    | _ => false
  | .pop x, e => match e with
    | .Call (.Attribute (.Name id _) nm ap) [] [] p => ckL sc x id && decide (nm = Str.ofString "pop") && (ap.endLine == p.line)
    | _ => false
  | .olen x, e => match e with
    | .Call (.Name id _) [.Name y _] [] _ => ckG sc "len" id && ckL sc x y
    | _ => false
  | .osub x i, e => match e with
    | .Subscript (.Name y _) b _ => ckL sc x y && ckE sc i b && noSlice b
    | _ => false
  | .comp elt x src cond, e => match e with
    | .ListComp y [⟨.Name id _, iter, ifs, asy⟩] csc _ => ckE sc src iter && (ckL csc x id && ckE csc elt y && ckIf csc cond ifs && decide (asy = 0) && ckComp csc)
    | _ => false
noncomputable def ckIf (sc : Scope) : Option LE → List Expr → Bool
  | none, xs => xs.isEmpty
  | some e, xs => match xs with
    | [y] => ckE sc e y && condOk e
    | _ => false
noncomputable def ckEs (sc : Scope) : List LE → List Expr → Bool
  | [], xs => xs.isEmpty
  | e :: r, xs => match xs with
    | x :: s => ckE sc e x && ckEs sc r s
    | [] => false
noncomputable def ckO (sc : Scope) : Option LE → Option Expr → Bool
  | none, x => x.isNone
  | some e, x => match x with
    | some x => ckE sc e x
    | none => false
end

noncomputable def ckSrc (sc : Scope) : Src → Expr → Bool
  | .it e, x => ckE sc e x
  | .rev e, x => match x with
    | .Call (.Name id _) [x] [] _ => ckG sc "reversed" id && ckE sc e x
    | _ => false
  | .range e, x => match x with
    | .Call (.Name id _) [x] [] _ => ckG sc "range" id && ckE sc e x
    | _ => false

mutual
noncomputable def ckS (sc : Scope) : LS → Stmt → Bool
  | .asg x e, c => match c with
    | .Assign [.Name id _] v _ => ckL sc x id && ckE sc e v && noComp v
    | _ => false
  | .asgOwn x es, c => match c with
    | .Assign [.Name id _] (.List xs _) _ => ckL sc x id && ckEs sc es xs
    | _ => false
  | .unpack2 x y e, c => match c with
    | .Assign [.Tuple [.Name a _, .Name b _] _ _] v _ => ckL sc x a && ckL sc y b && ckE sc e v && isName v
    | _ => false
  | .app x e, c => match c with
    | .Expr (.Call (.Attribute (.Name id _) nm ap) [y] [] p) _ => ckL sc x id && decide (nm = Str.ofString "append") && (ap.endLine == p.line) && ckE sc e y
    | _ => false
  | .ite t a b, c => match c with
    | .If e xs ys _ => ckE sc t e && ckSs sc a xs && ckSs sc b ys
    | _ => false
  | .while t a, c => match c with
    | .While e xs [] _ => ckE sc t e && ckSs sc a xs
    | _ => false
  | .for x s b, c => match c with
    | .For (.Name id _) e xs [] _ => ckL sc x id && ckSrc sc s e && ckSs sc b xs
    | _ => false
  | .ret e, c => match c with
    | .Return (some x) _ => ckE sc e x
    | _ => false
  | .retOwn x, c => match c with
    | .Return (some (.Name id _)) _ => ckL sc x id
    | _ => false
noncomputable def ckSs (sc : Scope) : List LS → List Stmt → Bool
  | [], xs => xs.isEmpty
  | s :: r, xs => match xs with
    | x :: q => ckS sc s x && ckSs sc r q
    | [] => false
end

/-! the world a call stands in -/
structure Wx where
  prog : Program
  w : World
  mg : Str → Option Value
  mb : Str → Option Value
  ok : Heap → Prop
  G : String → Option D

structure Wx.Good (X : Wx) : Prop where
  keep : ∀ h h', X.ok h → Ext h h' → X.ok h'
  g : ∀ h, X.ok h → h.Ns mainGlobals X.mg
  b : ∀ h, X.ok h → h.Ns builtinsNs X.mb
  nl : ∀ h, X.ok h → h.NoLimit
  bi : ∀ p ∈ blist, X.mg (Str.ofString p.1) = none ∧ X.mb (Str.ofString p.1) = some p.2
  gc : ∀ x d, X.G x = some d → ∃ v, X.mg (Str.ofString x) = some v ∧ ∀ h, X.ok h → Rel (fun _ => False) h d v

/-- room for lev more frames, and for the depth of comparisons -/
structure Rm (lev : Nat) (A : Around) : Prop where
  hh : A.handled = none
  d : A.depth + lev < recursionLimit
  u : A.units + 2200 + 10 * lev < cLine

theorem Rm.cmp {lev : Nat} {A : Around} (h : Rm lev A) : A.units + 2100 < cLine := by have := h.u; omega
/-- a def of the text stands under its name -/
noncomputable def FnOk (X : Wx) (f : String) : Prop := ∃ (a : Addr) (o : Obj) (fd : FuncData), X.mg (Str.ofString f) = some (.ref a) ∧ o.data = .func fd ∧ ∀ h, X.ok h → h.get? a = some o
/-- what a call of one of the text's defs gives, at the caller's frame -/
noncomputable def CallOk (X : Wx) (lev : Nat) (f : String) (ds : List D) (post : D → Prop) : Prop :=
  ∀ (a : Addr), X.mg (Str.ofString f) = some (.ref a) → ∀ (A : Around) (s : Shared) (P : Addr → Prop) (vs : List Value) (K : Value → Shared → Prop) (E : Value → Shared → Prop),
    Rm lev A → X.ok s.heap → (∀ a, s.heap.get? a = none → P a) → RelL P s.heap ds vs →
    (∀ d v h' tk, post d → Ext s.heap h' → Rel P h' d v → K v { s with heap := h', toks := tk }) → wpAny (model X.prog X.w) A (call (.ref a) vs) K E s
end Mine
end

section
open PySem PyProof.Rows
namespace Mine

/-- all that the call has made, as a list -/
noncomputable def newsOf (h₀ : Heap) (L : Addr) (h : Heap) : List (Addr × Obj) :=
  (List.range h.objs.size).filterMap fun a => match h.get? a with
    | some o => if a ≠ L ∧ h₀.get? a = none then some (a, o) else none
    | none => none
theorem newsOf_mem {h₀ : Heap} {L : Addr} {h : Heap} {a : Addr} {o : Obj} : (a, o) ∈ newsOf h₀ L h ↔ h.get? a = some o ∧ a ≠ L ∧ h₀.get? a = none := by
  unfold newsOf
  rw [List.mem_filterMap]
  constructor
  · rintro ⟨b, _, hb⟩
    split at hb
    · rename_i o' e
      split at hb
      · rename_i q
        cases hb
        exact ⟨e, q⟩
      · cases hb
    · cases hb
  · rintro ⟨e, q⟩
    refine ⟨a, List.mem_range.mpr (Heap.lt_size e), ?_⟩
    rw [e]
    exact if_pos q

section
variable {h₀ : Heap} {L : Addr} {P : Addr → Prop} {O : List Addr} {ad : String → Addr} {st : St} {s₀ s : Shared}

theorem Inv.pres (I : Inv h₀ L P O ad st s₀ s) {m : Str → Option Value}
    (hv : ∀ x d, st x = some (.val d) → ∃ v, m (Str.ofString x) = some v ∧ Rel (Off P O) s.heap d v)
    (ho : ∀ x l, st x = some (.own l) → m (Str.ofString x) = some (.ref (ad x)) ∧ ad x ∈ O ∧ ∃ vs n, PySem.IsL s.heap (ad x) (List.toArray vs) n ∧ RelL (Off P O) s.heap l vs)
    (hi : ∀ x y l k, st x = some (.own l) → st y = some (.own k) → ad x = ad y → x = y)
    {h' : Heap} {tk : Nat} (F' : Fr h₀ L h' m) (F : Fr h₀ L s.heap m) (p : Pres [] L s.heap h') : Inv h₀ L P O ad st s₀ { s with heap := h', toks := tk } := by
  have p' : Pres O L s.heap h' := fun b o e h1 _ => p b o e h1 (by simp)
  have notL : ∀ {a : Addr} {its : Array Value} {n : Nat}, PySem.IsL s.heap a its n → a ≠ L := by
    rintro a its n e rfl
    exact ns_not_seq F.ns e rfl
  refine ⟨?_, fun a ha => ?_, m, F', fun y d e => ?_, fun y l e => ?_, hi⟩
  · rw [I.same]
  · obtain ⟨⟨its, n, e⟩, q⟩ := I.ownOk a ha
    exact ⟨⟨its, n, p a _ e (notL e) (by simp)⟩, q⟩
  · obtain ⟨v, h1, h2⟩ := hv y d e
    exact ⟨v, h1, I.rel p' h2⟩
  · obtain ⟨h1, h2, vs, n, h3, h4⟩ := ho y l e
    exact ⟨h1, h2, vs, n, p _ _ h3 (notL h3) (by simp), I.relL p' h4⟩

/-- the library's rules with a ledger serve a frame of ours -/
theorem Inv.use (I : Inv h₀ L P O ad st s₀ s) : ∃ (m : Str → Option Value) (news : List (Addr × Obj)), Fr h₀ L s.heap m ∧ News h₀ L s.heap news ∧
    (∀ x d, st x = some (.val d) → ∃ v, m (Str.ofString x) = some v ∧ Rel (Off P O) s.heap d v) ∧
    (∀ x l, st x = some (.own l) → ∃ vs n, m (Str.ofString x) = some (.ref (ad x)) ∧ PySem.IsL s.heap (ad x) (List.toArray vs) n ∧ RelL (Off P O) s.heap l vs) ∧
    ∀ h' tk, Fr h₀ L h' m → News h₀ L h' news → Inv h₀ L P O ad st s₀ { s with heap := h', toks := tk } ∧ Pres O L s.heap h' := by
  obtain ⟨m, F, hv, ho, hi⟩ := I.vars
  refine ⟨m, newsOf h₀ L s.heap, F, fun p hp => newsOf_mem.mp hp, hv, fun x l e => ?_, fun h' tk F' N' => ?_⟩
  · obtain ⟨h1, _, vs, n, h3, h4⟩ := ho x l e
    exact ⟨vs, n, h1, h3, h4⟩
  · have p : Pres [] L s.heap h' := by
      intro b o e hb _
      cases q : h₀.get? b with
      | none => exact (N' (b, o) (newsOf_mem.mpr ⟨e, hb, q⟩)).1
      | some o' =>
        have := F.keep b o' q
        rw [e] at this; cases this
        exact F'.keep b o q
    exact ⟨I.pres hv ho hi F' F p, fun b o e h1 _ => p b o e h1 (by simp)⟩

theorem Inv.newOff (I : Inv h₀ L P O ad st s₀ s) (hP : ∀ a, h₀.get? a = none → P a) : Off P O s.heap.objs.size := by
  obtain ⟨m, F⟩ := I.fr
  refine ⟨hP _ F.fresh, fun hm => ?_⟩
  obtain ⟨⟨its, n, e⟩, _⟩ := I.ownOk _ hm
  exact Nat.lt_irrefl _ (Heap.lt_size e)

theorem relL_nil_iff {l : List D} {vs : List Value} {h : Heap} (r : RelL P h l vs) : vs = [] ↔ l = [] := by
  rw [← List.length_eq_zero_iff, r.length, List.length_eq_zero_iff]

theorem powFits {a b : Int} (h : a.natAbs < 18446744073709551616) (h0 : 0 ≤ b) (h1 : b ≤ 1000000) : (Builtin.Int.intBits a : Int) * b ≤ 2 ^ 27 := by
  have h64 := intBits_le_64 (k := a) (by omega) (by omega)
  have : (Builtin.Int.intBits a : Int) * b ≤ 64 * b := Int.mul_le_mul_of_nonneg_right (by omega) h0
  omega
section
variable {prog : Program} {w : World} {A : Around} {E : Value → Shared → Prop} {K : Value → Shared → Prop}
theorem binR {o : Op} {x y z : D} {v u : Value} (I : Inv h₀ L P O ad st s₀ s) (hP : ∀ a, h₀.get? a = none → P a) (hz : binD o x y = some z)
    (rx : Rel (Off P O) s.heap x v) (ry : Rel (Off P O) s.heap y u) (hK : ∀ r s', Inv h₀ L P O ad st s₀ s' → Pres O L s.heap s'.heap → Rel (Off P O) s'.heap z r → K r s') :
    wpAny (model prog w) A (binaryOp (opOf o) v u) K E s := by
  unfold binD at hz
  split at hz
  · cases hz
    simp only [Rel] at rx ry
    obtain ⟨t, rfl⟩ := rx
    obtain ⟨t', rfl⟩ := ry
    exact PyProof.Rows.add_int (hK _ _ I.toks (Pres.refl _ _ _) (by simp only [Rel]; exact ⟨_, rfl⟩))
  · split at hz
    · cases hz
      simp only [Rel] at rx ry
      obtain ⟨t, rfl⟩ := rx
      obtain ⟨t', rfl⟩ := ry
      exact PyProof.Rows.add_str (fun t' tk => hK _ _ I.toks (Pres.refl _ _ _) (by simp only [Rel]; exact ⟨_, rfl⟩)) (by unfold sizeLine; omega)
    · cases hz
  · split at hz
    · rename_i hsz
      cases hz
      simp only [Rel] at rx ry
      obtain ⟨a, vs, rfl, ha, hr⟩ := rx
      obtain ⟨b, us, rfl, hb, hq⟩ := ry
      obtain ⟨m, news, F, N, _, _, back⟩ := I.use
      refine PyProof.Rows.add_tuples F N ha hb (fun e => hK _ _ I (Pres.refl _ _ _) ?_) (fun _ e => hK _ _ I (Pres.refl _ _ _) ?_) (fun _ _ h' F' N' => ?_) (by rw [hr.length, hq.length]; unfold sizeLine; omega)
      · simp only [Rel]
        rw [(relL_nil_iff hr).mp e]
        exact ⟨b, us, rfl, hb, hq⟩
      · simp only [Rel]
        rw [(relL_nil_iff hq).mp e, List.append_nil]
        exact ⟨a, vs, rfl, ha, hr⟩
      · obtain ⟨I', p⟩ := back h' s.toks F' fun q hq => N' q (.tail _ hq)
        refine hK _ _ I' p ?_
        simp only [Rel]
        exact ⟨_, vs ++ us, rfl, ⟨_, (N' _ (.head _)).1, rfl, _, rfl⟩, .append (I.relL p hr) (I.relL p hq)⟩
    · cases hz
  · split at hz
    · rename_i hsz
      cases hz
      simp only [Rel] at rx ry
      obtain ⟨a, vs, rfl, pa, ha, hr⟩ := rx
      obtain ⟨b, us, rfl, pb, hb, hq⟩ := ry
      obtain ⟨m, news, F, N, _, _, back⟩ := I.use
      refine PyProof.Rows.add_lists F N ha hb (fun h' F' N' => ?_) (by rw [hr.length, hq.length]; unfold sizeLine; omega)
      obtain ⟨I', p⟩ := back h' s.toks F' fun q hq => N' q (.tail _ hq)
      refine hK _ _ I' p ?_
      simp only [Rel]
      exact ⟨_, vs ++ us, rfl, I.newOff hP, ⟨_, (N' _ (.head _)).1, rfl, _, rfl⟩, .append (I.relL p hr) (I.relL p hq)⟩
    · cases hz
  · cases hz
    simp only [Rel] at rx ry
    obtain ⟨t, rfl⟩ := rx
    obtain ⟨t', rfl⟩ := ry
    exact PyProof.Rows.sub_int (hK _ _ I.toks (Pres.refl _ _ _) (by simp only [Rel]; exact ⟨_, rfl⟩))
  · split at hz
    · cases hz
    · rename_i hb
      cases hz
      simp only [Rel] at rx ry
      obtain ⟨t, rfl⟩ := rx
      obtain ⟨t', rfl⟩ := ry
      refine PyProof.Rows.floordiv_int (fun e => hb (.inl e)) (hK _ _ I.toks (Pres.refl _ _ _) (by simp only [Rel]; exact ⟨_, rfl⟩)) (.inl (PyProof.noPylong_small ?_))
      have : ¬ 1073741824 ≤ _ := fun e => hb (.inr e)
      omega
  · split at hz
    · cases hz
    · rename_i hb
      cases hz
      simp only [Rel] at rx ry
      obtain ⟨t, rfl⟩ := rx
      obtain ⟨t', rfl⟩ := ry
      exact PyProof.Rows.mod_int' hb (hK _ _ I.toks (Pres.refl _ _ _) (by simp only [Rel]; exact ⟨_, rfl⟩))
  · split at hz
    · rename_i hb
      cases hz
      simp only [Rel] at rx ry
      obtain ⟨t, rfl⟩ := rx
      obtain ⟨t', rfl⟩ := ry
      exact PyProof.Rows.mul_int (hK _ _ I.toks (Pres.refl _ _ _) (by simp only [Rel]; exact ⟨_, rfl⟩)) (IntMulOk.of_left (intBits_le_64 (by omega) (by omega)))
    · cases hz
  · split at hz
    · rename_i hb
      cases hz
      simp only [Rel] at rx ry
      obtain ⟨t, rfl⟩ := rx
      obtain ⟨t', rfl⟩ := ry
      refine PyProof.Rows.pow_int hb.2.1 (powFits hb.1 hb.2.1 hb.2.2) (hK _ _ I.toks (Pres.refl _ _ _) (by simp only [Rel]; exact ⟨_, rfl⟩))
    · cases hz
  · cases hz
end
end
end Mine
end

section
open PySem PyProof.Rows PySem.SeqAt
namespace Mine

mutual
theorem D.eqb_refl : ∀ d : D, D.eqb d d = true
  | .none => rfl
  | .bool b => by simp [D.eqb]
  | .int i => by simp [D.eqb]
  | .str s => by simp [D.eqb]
  | .tup l => by simp only [D.eqb]; exact D.eqbL_refl l
  | .list l => by simp only [D.eqb]; exact D.eqbL_refl l
theorem D.eqbL_refl : ∀ l : List D, D.eqbL l l = true
  | [] => rfl
  | d :: l => by simp only [D.eqbL, D.eqb_refl d, D.eqbL_refl l, Bool.and_self]
end

section
variable {P P' : Addr → Prop} {h : Heap}
theorem isTup_list {a : Addr} {i j : Array Value} (x : IsTup h a i) (y : h.IsList a j) : False := by
  obtain ⟨o, e, c, _⟩ := x
  obtain ⟨o', e', c', _⟩ := y
  rw [e] at e'; cases e'
  rw [c] at c'; exact absurd c' (by simp)
theorem isTup_inj {a : Addr} {i j : Array Value} (x : IsTup h a i) (y : IsTup h a j) : i = j := by
  obtain ⟨o, e, c, n, d⟩ := x
  obtain ⟨o', e', c', n', d'⟩ := y
  rw [e] at e'; cases e'
  rw [d] at d'; cases d'; rfl
theorem isList_inj {a : Addr} {i j : Array Value} (x : h.IsList a i) (y : h.IsList a j) : i = j := by
  obtain ⟨o, e, c, n, d⟩ := x
  obtain ⟨o', e', c', n', d'⟩ := y
  rw [e] at e'; cases e'
  rw [d] at d'; cases d'; rfl
mutual
theorem Rel.inj : ∀ (d e : D) (v : Value), Rel P h d v → Rel P' h e v → d = e
  | .none, e, v, r, q => by
    simp only [Rel] at r; subst r
    cases e <;> simp [Rel] at q; rfl
  | .bool b, e, v, r, q => by
    simp only [Rel] at r; subst r
    cases e <;> simp [Rel] at q; rw [q]
  | .int i, e, v, r, q => by
    simp only [Rel] at r; obtain ⟨t, rfl⟩ := r
    cases e <;> simp [Rel] at q; rw [q]
  | .str i, e, v, r, q => by
    simp only [Rel] at r; obtain ⟨t, rfl⟩ := r
    cases e <;> simp [Rel] at q; rw [q]
  | .tup l, e, v, r, q => by
    simp only [Rel] at r
    obtain ⟨a, vs, rfl, ht, hr⟩ := r
    cases e <;> simp only [Rel] at q
    · cases q
    · cases q
    · obtain ⟨t, q⟩ := q; cases q
    · obtain ⟨t, q⟩ := q; cases q
    · obtain ⟨a', vs', e', ht', hr'⟩ := q
      cases e'
      have : vs = vs' := by simpa using isTup_inj ht ht'
      subst this
      rw [RelL.inj l _ vs hr hr']
    · obtain ⟨a', vs', e', _, ht', _⟩ := q
      cases e'
      exact absurd (isTup_list ht ht') id
  | .list l, e, v, r, q => by
    simp only [Rel] at r
    obtain ⟨a, vs, rfl, _, ht, hr⟩ := r
    cases e <;> simp only [Rel] at q
    · cases q
    · cases q
    · obtain ⟨t, q⟩ := q; cases q
    · obtain ⟨t, q⟩ := q; cases q
    · obtain ⟨a', vs', e', ht', _⟩ := q
      cases e'
      exact absurd (isTup_list ht' ht) id
    · obtain ⟨a', vs', e', _, ht', hr'⟩ := q
      cases e'
      have : vs = vs' := by simpa using isList_inj ht ht'
      subst this
      rw [RelL.inj l _ vs hr hr']
theorem RelL.inj : ∀ (l k : List D) (vs : List Value), RelL P h l vs → RelL P' h k vs → l = k
  | [], k, vs, r, q => by
    rw [r.nil_inv] at q
    cases k with
    | nil => rfl
    | cons _ _ => obtain ⟨_, _, e, _⟩ := q.cons_inv; cases e
  | d :: l, k, vs, r, q => by
    obtain ⟨v, vs', rfl, hd, hl⟩ := r.cons_inv
    cases k with
    | nil => cases q.nil_inv
    | cons e k =>
      obtain ⟨_, _, e', hd', hl'⟩ := q.cons_inv
      cases e'
      rw [Rel.inj d e v hd hd', RelL.inj l k vs' hl hl']
end
end

noncomputable def eqAtD (l k : List D) (j : Nat) : Bool := match l[j]?, k[j]? with
  | some a, some b => D.eqb a b
  | _, _ => false
theorem eqAtD_all : ∀ (l k : List D), ((List.range (min l.length k.length)).all (eqAtD l k) && l.length == k.length) = D.eqbL l k
  | [], [] => rfl
  | [], _ :: _ => by simp [D.eqbL]
  | _ :: _, [] => by simp [D.eqbL]
  | a :: l, b :: k => by
    have ih := eqAtD_all l k
    have h1 : min (a :: l).length (b :: k).length = min l.length k.length + 1 := by simp only [List.length_cons]; omega
    have h2 : (List.range (min l.length k.length + 1)).all (eqAtD (a :: l) (b :: k)) = (D.eqb a b && (List.range (min l.length k.length)).all (eqAtD l k)) := by
      rw [List.range_succ_eq_map, List.all_cons, List.all_map]
      congr 1
    have h3 : ((a :: l).length == (b :: k).length) = (l.length == k.length) := by simp
    rw [h1, h2, h3, D.eqbL, ← ih, Bool.and_assoc]
theorem eqAtD_all' (l k : List D) (h : l.length = k.length) : (List.range l.length).all (eqAtD l k) = D.eqbL l k := by
  have := eqAtD_all l k
  rw [← h, Nat.min_self] at this
  simpa using this
theorem eqbL_length : ∀ (l k : List D), l.length ≠ k.length → D.eqbL l k = false
  | [], [], h => absurd rfl h
  | [], _ :: _, _ => rfl
  | _ :: _, [], _ => rfl
  | a :: l, b :: k, h => by
    rw [D.eqbL, eqbL_length l k (by simpa using h), Bool.and_false]

theorem eqAt_of {A : Around} {s : Shared} {v u : Value} {b : Bool} (h : RcAt A s v u b) (hb : v = u → b = true) (hf : ∀ x t, v ≠ .float x t) : EqAt A s v u b := fun prog w E Q hq => by
  unfold eqBool
  refine wpAny_holding ?_
  refine wpAny_ite_split (fun hab => ?_) (fun _ => ?_)
  · rw [hb (eq_of_beq hab)] at hq
    exact wpAny_bind (wpAny_rule (wpAny_pure hq))
  · cases v <;> first | exact absurd rfl (hf _ _) | exact wpAny_bind (h prog w E _ (wpAny_truthy_bool hq))
theorem Rel.notFloat {P : Addr → Prop} {h : Heap} {d : D} {v : Value} (r : Rel P h d v) : ∀ x t, v ≠ .float x t := by
  intro x t e
  subst e
  cases d <;> simp [Rel] at r

section
variable {P P' : Addr → Prop} {s : Shared}
mutual
theorem rcA : ∀ (d e : D) (v u : Value), Rel P s.heap d v → Rel P' s.heap e u → ∀ A : Around, A.units + d.dep < cLine → RcAt A s v u (D.eqb d e)
  | .none, e, v, u, r, q, A, hu => by
    have hu' : A.units < cLine := Nat.lt_of_le_of_lt (Nat.le_add_right _ _) hu
    simp only [Rel] at r; subst r
    cases e <;> simp only [Rel] at q <;> simp only [D.eqb]
    · subst q; exact RcAt.none_none
    · subst q; exact RcAt.none_bool _
    · obtain ⟨t, rfl⟩ := q; exact RcAt.none_int _ _
    · obtain ⟨t, rfl⟩ := q; exact RcAt.none_str _ _
    · obtain ⟨a, vs, rfl, ht, _⟩ := q; exact RcAt.none_tuple ht hu'
    · obtain ⟨a, vs, rfl, _, ht, _⟩ := q; exact RcAt.none_list ht hu'
  | .bool b, e, v, u, r, q, A, hu => by
    have hu' : A.units < cLine := Nat.lt_of_le_of_lt (Nat.le_add_right _ _) hu
    simp only [Rel] at r; subst r
    cases e <;> simp only [Rel] at q <;> simp only [D.eqb]
    · subst q; exact RcAt.bool_none _
    · subst q; exact RcAt.bool_bool _ _
    · obtain ⟨t, rfl⟩ := q; exact RcAt.bool_int _ _ _
    · obtain ⟨t, rfl⟩ := q; exact RcAt.bool_str _ _ _
    · obtain ⟨a, vs, rfl, ht, _⟩ := q; exact RcAt.bool_tuple _ ht hu'
    · obtain ⟨a, vs, rfl, _, ht, _⟩ := q; exact RcAt.bool_list _ ht hu'
  | .int i, e, v, u, r, q, A, hu => by
    have hu' : A.units < cLine := Nat.lt_of_le_of_lt (Nat.le_add_right _ _) hu
    simp only [Rel] at r; obtain ⟨t, rfl⟩ := r
    cases e <;> simp only [Rel] at q <;> simp only [D.eqb]
    · subst q; exact RcAt.int_none _ _
    · subst q; exact RcAt.int_bool _ _ _
    · obtain ⟨t, rfl⟩ := q; exact RcAt.int_int _ _ _ _
    · obtain ⟨t, rfl⟩ := q; exact RcAt.int_str _ _ _ _
    · obtain ⟨a, vs, rfl, ht, _⟩ := q; exact RcAt.int_tuple _ _ ht hu'
    · obtain ⟨a, vs, rfl, _, ht, _⟩ := q; exact RcAt.int_list _ _ ht hu'
  | .str x, e, v, u, r, q, A, hu => by
    have hu' : A.units < cLine := Nat.lt_of_le_of_lt (Nat.le_add_right _ _) hu
    simp only [Rel] at r; obtain ⟨t, rfl⟩ := r
    cases e <;> simp only [Rel] at q <;> simp only [D.eqb]
    · subst q; exact RcAt.str_none _ _
    · subst q; exact RcAt.str_bool _ _ _
    · obtain ⟨t, rfl⟩ := q; exact RcAt.str_int _ _ _ _
    · obtain ⟨t, rfl⟩ := q; exact RcAt.str_str _ _ _ _
    · obtain ⟨a, vs, rfl, ht, _⟩ := q; exact RcAt.str_tuple _ _ ht hu'
    · obtain ⟨a, vs, rfl, _, ht, _⟩ := q; exact RcAt.str_list _ _ ht hu'
  | .tup l, e, v, u, r, q, A, hu => by
    simp only [D.dep] at hu
    have hu' : A.units < cLine := by omega
    simp only [Rel] at r; obtain ⟨a, vs, rfl, ha, hr⟩ := r
    cases e <;> simp only [Rel] at q <;> simp only [D.eqb]
    · subst q; exact RcAt.tuple_none ha hu'
    · subst q; exact RcAt.tuple_bool _ ha hu'
    · obtain ⟨t, rfl⟩ := q; exact RcAt.tuple_int _ _ ha hu'
    · obtain ⟨t, rfl⟩ := q; exact RcAt.tuple_str _ _ ha hu'
    · rename_i k
      obtain ⟨b, us, rfl, hb, hq⟩ := q
      rw [← eqAtD_all l k]
      have := RcAt.tuples (A := A) (s := s) (e := eqAtD l k) ha hb hu' (fun j h1 h2 => eqs l k vs us hr hq A.in1 (by show A.units + 1 + D.depL l < cLine; omega) j _ _ (by simp) (by simp))
      simpa [hr.length, hq.length] using this
    · obtain ⟨b, us, rfl, _, hb, _⟩ := q; exact RcAt.tuple_list ha hb hu'
  | .list l, e, v, u, r, q, A, hu => by
    simp only [D.dep] at hu
    have hu' : A.units < cLine := by omega
    simp only [Rel] at r; obtain ⟨a, vs, rfl, _, ha, hr⟩ := r
    cases e <;> simp only [Rel] at q <;> simp only [D.eqb]
    · subst q; exact RcAt.list_none ha hu'
    · subst q; exact RcAt.list_bool _ ha hu'
    · obtain ⟨t, rfl⟩ := q; exact RcAt.list_int _ _ ha hu'
    · obtain ⟨t, rfl⟩ := q; exact RcAt.list_str _ _ ha hu'
    · obtain ⟨b, us, rfl, hb, _⟩ := q; exact RcAt.list_tuple ha hb hu'
    · rename_i k
      obtain ⟨b, us, rfl, _, hb, hq⟩ := q
      by_cases hlen : l.length = k.length
      · rw [← eqAtD_all' l k hlen]
        have := RcAt.lists (A := A) (s := s) (e := eqAtD l k) ha hb (by simp [hr.length, hq.length, hlen]) hu' (fun j h1 h2 => eqs l k vs us hr hq A.in1 (by show A.units + 1 + D.depL l < cLine; omega) j _ _ (by simp) (by simp))
        simpa [hr.length] using this
      · rw [eqbL_length l k hlen]
        exact RcAt.lists_lengths ha hb (by simp [hr.length, hq.length, hlen]) hu'
theorem eqs : ∀ (l k : List D) (vs us : List Value), RelL P s.heap l vs → RelL P' s.heap k us → ∀ A : Around, A.units + D.depL l < cLine → ∀ j v u, vs[j]? = some v → us[j]? = some u → EqAt A s v u (eqAtD l k j)
  | [], k, vs, us, r, q, A, hu, j, v, u, hv, hw => by rw [r.nil_inv] at hv; simp at hv
  | d :: l, k, vs, us, r, q, A, hu, j, v, u, hv, hw => by
    obtain ⟨v', vs', rfl, hd, hl⟩ := r.cons_inv
    cases k with
    | nil => rw [q.nil_inv] at hw; simp at hw
    | cons e k =>
      obtain ⟨u', us', rfl, he, hk⟩ := q.cons_inv
      simp only [D.depL] at hu
      cases j with
      | zero =>
        simp only [List.getElem?_cons_zero, Option.some.injEq] at hv hw
        subst hv hw
        show EqAt A s v' u' (D.eqb d e)
        exact eqAt_of (rcA d e v' u' hd he A (by omega)) (fun h => by subst h; rw [Rel.inj d e v' hd he]; exact D.eqb_refl e) hd.notFloat
      | succ j =>
        have : eqAtD (d :: l) (e :: k) (j + 1) = eqAtD l k j := by simp [eqAtD]
        rw [this]
        exact eqs l k vs' us' hl hk A (by omega) j v u (by simpa using hv) (by simpa using hw)
end
theorem eqA (d e : D) (v u : Value) (r : Rel P s.heap d v) (q : Rel P' s.heap e u) (A : Around) (hu : A.units + d.dep < cLine) : EqAt A s v u (D.eqb d e) :=
  eqAt_of (rcA d e v u r q A hu) (fun h => by subst h; rw [Rel.inj d e v r q]; exact D.eqb_refl e) r.notFloat
end
end Mine
end

section
open PySem PyProof.Rows PySem.SeqAt
namespace Mine
section
variable {P P' : Addr → Prop} {s : Shared}
theorem rcNe (d e : D) (v u : Value) (r : Rel P s.heap d v) (q : Rel P' s.heap e u) (A : Around) (hu : A.units + d.dep < cLine) : RcNeAt A s v u (!D.eqb d e) := by
  have hu' : A.units < cLine := Nat.lt_of_le_of_lt (Nat.le_add_right _ _) hu
  cases d with
  | none =>
    simp only [Rel] at r; subst r
    cases e <;> simp only [Rel] at q <;> simp only [D.eqb]
    · subst q; exact RcNeAt.none_none
    · subst q; exact RcNeAt.none_bool _
    · obtain ⟨t, rfl⟩ := q; exact RcNeAt.none_int _ _
    · obtain ⟨t, rfl⟩ := q; exact RcNeAt.none_str _ _
    · obtain ⟨a, vs, rfl, ht, _⟩ := q; exact RcNeAt.none_tuple ht hu'
    · obtain ⟨a, vs, rfl, _, ht, _⟩ := q; exact RcNeAt.none_list ht hu'
  | bool b =>
    simp only [Rel] at r; subst r
    cases e <;> simp only [Rel] at q <;> simp only [D.eqb]
    · subst q; exact RcNeAt.bool_none _
    · subst q; exact RcNeAt.bool_bool _ _
    · obtain ⟨t, rfl⟩ := q; exact RcNeAt.bool_int _ _ _
    · obtain ⟨t, rfl⟩ := q; exact RcNeAt.bool_str _ _ _
    · obtain ⟨a, vs, rfl, ht, _⟩ := q; exact RcNeAt.bool_tuple _ ht hu'
    · obtain ⟨a, vs, rfl, _, ht, _⟩ := q; exact RcNeAt.bool_list _ ht hu'
  | int i =>
    simp only [Rel] at r; obtain ⟨t, rfl⟩ := r
    cases e <;> simp only [Rel] at q <;> simp only [D.eqb]
    · subst q; exact RcNeAt.int_none _ _
    · subst q; exact RcNeAt.int_bool _ _ _
    · obtain ⟨t, rfl⟩ := q; exact RcNeAt.int_int _ _ _ _
    · obtain ⟨t, rfl⟩ := q; exact RcNeAt.int_str _ _ _ _
    · obtain ⟨a, vs, rfl, ht, _⟩ := q; exact RcNeAt.int_tuple _ _ ht hu'
    · obtain ⟨a, vs, rfl, _, ht, _⟩ := q; exact RcNeAt.int_list _ _ ht hu'
  | str x =>
    simp only [Rel] at r; obtain ⟨t, rfl⟩ := r
    cases e <;> simp only [Rel] at q <;> simp only [D.eqb]
    · subst q; exact RcNeAt.str_none _ _
    · subst q; exact RcNeAt.str_bool _ _ _
    · obtain ⟨t, rfl⟩ := q; exact RcNeAt.str_int _ _ _ _
    · obtain ⟨t, rfl⟩ := q; exact RcNeAt.str_str _ _ _ _
    · obtain ⟨a, vs, rfl, ht, _⟩ := q; exact RcNeAt.str_tuple _ _ ht hu'
    · obtain ⟨a, vs, rfl, _, ht, _⟩ := q; exact RcNeAt.str_list _ _ ht hu'
  | tup l =>
    simp only [D.dep] at hu
    simp only [Rel] at r; obtain ⟨a, vs, rfl, ha, hr⟩ := r
    cases e <;> simp only [Rel] at q <;> simp only [D.eqb]
    · subst q; exact RcNeAt.tuple_none ha hu'
    · subst q; exact RcNeAt.tuple_bool _ ha hu'
    · obtain ⟨t, rfl⟩ := q; exact RcNeAt.tuple_int _ _ ha hu'
    · obtain ⟨t, rfl⟩ := q; exact RcNeAt.tuple_str _ _ ha hu'
    · rename_i k
      obtain ⟨b, us, rfl, hb, hq⟩ := q
      rw [← eqAtD_all l k]
      have := RcNeAt.tuples (A := A) (s := s) (e := eqAtD l k) ha hb hu' (fun j h1 h2 => eqs l k vs us hr hq A.in1 (by show A.units + 1 + D.depL l < cLine; omega) j _ _ (by simp) (by simp))
      rw [List.size_toArray, List.size_toArray, hr.length, hq.length] at this
      exact this
    · obtain ⟨b, us, rfl, _, hb, _⟩ := q; exact RcNeAt.tuple_list ha hb hu'
  | list l =>
    simp only [D.dep] at hu
    simp only [Rel] at r; obtain ⟨a, vs, rfl, _, ha, hr⟩ := r
    cases e <;> simp only [Rel] at q <;> simp only [D.eqb]
    · subst q; exact RcNeAt.list_none ha hu'
    · subst q; exact RcNeAt.list_bool _ ha hu'
    · obtain ⟨t, rfl⟩ := q; exact RcNeAt.list_int _ _ ha hu'
    · obtain ⟨t, rfl⟩ := q; exact RcNeAt.list_str _ _ ha hu'
    · obtain ⟨b, us, rfl, hb, _⟩ := q; exact RcNeAt.list_tuple ha hb hu'
    · rename_i k
      obtain ⟨b, us, rfl, _, hb, hq⟩ := q
      by_cases hlen : l.length = k.length
      · rw [← eqAtD_all' l k hlen]
        have := RcNeAt.lists (A := A) (s := s) (e := eqAtD l k) ha hb (by simp [hr.length, hq.length, hlen]) hu' (fun j h1 h2 => eqs l k vs us hr hq A.in1 (by show A.units + 1 + D.depL l < cLine; omega) j _ _ (by simp) (by simp))
        rw [List.size_toArray, hr.length] at this
        exact this
      · rw [eqbL_length l k hlen]
        exact RcNeAt.lists_lengths ha hb (by simp [hr.length, hq.length, hlen]) hu'

theorem D.dep_mem : ∀ (l : List D) (d : D), d ∈ l → d.dep ≤ D.depL l
  | d :: l, e, h => by
    simp only [D.depL]
    rcases List.mem_cons.mp h with rfl | h
    · exact Nat.le_max_left _ _
    · exact Nat.le_trans (D.dep_mem l e h) (Nat.le_max_right _ _)
theorem RelL.mem {h : Heap} : ∀ {l : List D} {vs : List Value}, RelL P h l vs → ∀ v ∈ vs, ∃ d ∈ l, Rel P h d v
  | [], _, r, v, hv => by rw [r.nil_inv] at hv; cases hv
  | d :: l, _, r, v, hv => by
    obtain ⟨v', vs', rfl, hd, hl⟩ := r.cons_inv
    rcases List.mem_cons.mp hv with rfl | hv
    · exact ⟨d, .head _, hd⟩
    · obtain ⟨e, h1, h2⟩ := RelL.mem hl v hv
      exact ⟨e, .tail _ h1, h2⟩
open Classical in
theorem any_rel {h : Heap} (a : D) : ∀ {l : List D} {vs : List Value}, RelL P h l vs → vs.any (fun y => decide (∃ d, Rel P h d y ∧ D.eqb d a = true)) = l.any fun x => D.eqb x a
  | [], _, r => by rw [r.nil_inv]; rfl
  | d :: l, _, r => by
    obtain ⟨v', vs', rfl, hd, hl⟩ := r.cons_inv
    rw [List.any_cons, List.any_cons, any_rel a hl]
    congr 1
    cases hq : D.eqb d a with
    | true => exact decide_eq_true ⟨d, hd, hq⟩
    | false =>
      refine decide_eq_false ?_
      rintro ⟨e, he, hz⟩
      rw [Rel.inj e d v' he hd, hq] at hz
      cases hz
open Classical in
theorem cmpR {prog : Program} {w : World} {A : Around} {E : Value → Shared → Prop} {K : Value → Shared → Prop} {o : Cm} {x y : D} {b : Bool} {v u : Value} (hu : A.units + 2100 < cLine) (hz : cmpD o x y = some b)
    (rx : Rel P s.heap x v) (ry : Rel P s.heap y u) (hK : K (.bool b) s) : wpAny (model prog w) A (compareOp (cmOf o) v u) K E s := by
  unfold cmpD at hz
  split at hz
  · split at hz
    · cases hz
      exact rcA _ _ _ _ rx ry A (by omega) prog w E K hK
    · cases hz
  · split at hz
    · cases hz
      exact rcNe _ _ _ _ rx ry A (by omega) prog w E K hK
    · cases hz
  · cases hz
    simp only [Rel] at rx ry
    obtain ⟨t, rfl⟩ := rx
    obtain ⟨t', rfl⟩ := ry
    exact PyProof.Rows.lt_int hK
  · cases hz
    simp only [Rel] at rx ry
    obtain ⟨t, rfl⟩ := rx
    obtain ⟨t', rfl⟩ := ry
    exact PyProof.Rows.le_int hK
  · cases hz
    simp only [Rel] at rx ry
    obtain ⟨t, rfl⟩ := rx
    obtain ⟨t', rfl⟩ := ry
    exact PyProof.Rows.gt_int hK
  · cases hz
    simp only [Rel] at rx ry
    obtain ⟨t, rfl⟩ := rx
    obtain ⟨t', rfl⟩ := ry
    exact PyProof.Rows.ge_int hK
  · split at hz
    · cases hz
      simp only [Rel] at ry
      obtain ⟨a, vs, rfl, ha, hr⟩ := ry
      refine in_tupleAt (fun y => decide (∃ d, Rel P s.heap d y ∧ D.eqb d x = true)) ha (fun z hz => ?_) ?_
      · obtain ⟨d, hd, hrd⟩ := hr.mem z (by simpa using hz)
        have e : decide (∃ d, Rel P s.heap d z ∧ D.eqb d x = true) = D.eqb d x := by
          cases hq : D.eqb d x with
          | true => exact decide_eq_true ⟨d, hrd, hq⟩
          | false =>
            refine decide_eq_false ?_
            rintro ⟨e, he, hz⟩
            rw [Rel.inj e d z he hrd, hq] at hz
            cases hz
        rw [e]
        have := D.dep_mem _ d hd
        exact eqA d x z v hrd rx A.in1 (by show A.units + 1 + d.dep < cLine; omega)
      · have e := any_rel (P := P) (h := s.heap) x hr
        rw [List.any_toArray, e]
        exact hK
    · cases hz
  · cases hz
end
end Mine
end

section
open PySem PyProof.Rows
namespace Mine

/-- a frame of a def of the text -/
structure Fx where
  X : Wx
  A : Around
  lev : Nat
  env : Env
  h₀ : Heap
  P : Addr → Prop
  s₀ : Shared
  C : Con
noncomputable abbrev Fx.L (Φ : Fx) : Addr := Φ.env.locals
noncomputable abbrev Fx.scope (Φ : Fx) : Scope := Φ.env.scope
structure Fx.Ok (Φ : Fx) : Prop where
  XG : Φ.X.Good
  R : Rm Φ.lev Φ.A
  hP : ∀ a, Φ.h₀.get? a = none → Φ.P a
  W : Φ.X.ok Φ.h₀
  hF : ∀ f, Φ.C.fn f = true → FnOk Φ.X f
  hC : ∀ f ds post, Φ.C.sp f ds post → CallOk Φ.X Φ.lev f ds post
  hk : Φ.env.scope.kind = .function
  hg : Φ.env.globals = mainGlobals
  hb : Φ.env.builtins = builtinsNs
noncomputable abbrev Fx.Inv (Φ : Fx) (O : List Addr) (ad : String → Addr) (st : St) (s : Shared) : Prop := Mine.Inv Φ.h₀ Φ.L Φ.P O ad st Φ.s₀ s
noncomputable abbrev Fx.M (Φ : Fx) : Model := model Φ.X.prog Φ.X.w

/-- a tree that gives a value as W tells -/
noncomputable def Fx.GE (Φ : Fx) (t : Sem Value) (W : (D → St → Prop) → St → Prop) : Prop := ∀ (O : List Addr) (ad : String → Addr) (st : St) (s : Shared) (Q : D → St → Prop) (K : Value → Shared → Prop) (E : Value → Shared → Prop),
  Φ.Inv O ad st s → W Q st → (∀ d v st' s', Q d st' → Φ.Inv O ad st' s' → Pres O Φ.L s.heap s'.heap → Rel (Off Φ.P O) s'.heap d v → K v s') → wpAny Φ.M Φ.A t K E s
noncomputable def Fx.GEs (Φ : Fx) (t : Sem (List Value)) (n : Nat) (W : (List D → St → Prop) → St → Prop) : Prop := ∀ (O : List Addr) (ad : String → Addr) (st : St) (s : Shared) (Q : List D → St → Prop) (K : List Value → Shared → Prop) (E : Value → Shared → Prop),
  Φ.Inv O ad st s → W Q st → (∀ ds vs st' s', Q ds st' → Φ.Inv O ad st' s' → Pres O Φ.L s.heap s'.heap → RelL (Off Φ.P O) s'.heap ds vs → vs.length = n → K vs s') → wpAny Φ.M Φ.A t K E s
noncomputable def Fx.GT (Φ : Fx) (t : Sem Bool) (W : (Bool → St → Prop) → St → Prop) : Prop := ∀ (O : List Addr) (ad : String → Addr) (st : St) (s : Shared) (Q : Bool → St → Prop) (K : Bool → Shared → Prop) (E : Value → Shared → Prop),
  Φ.Inv O ad st s → W Q st → (∀ b st' s', Q b st' → Φ.Inv O ad st' s' → Pres O Φ.L s.heap s'.heap → K b s') → wpAny Φ.M Φ.A t K E s

noncomputable def oInt : Option Nat → Option Int
  | none => none
  | some n => some (n : Int)
noncomputable def Fx.GO (Φ : Fx) (t : Sem Value) (W : (Option Nat → St → Prop) → St → Prop) : Prop := ∀ (O : List Addr) (ad : String → Addr) (st : St) (s : Shared) (Q : Option Nat → St → Prop) (K : Value → Shared → Prop) (E : Value → Shared → Prop),
  Φ.Inv O ad st s → W Q st → (∀ n v st' s', Q n st' → Φ.Inv O ad st' s' → Pres O Φ.L s.heap s'.heap → IsPart v (oInt n) → K v s') → wpAny Φ.M Φ.A t K E s

theorem ckL_inv {sc : Scope} {x : String} {id : Str} (h : ckL sc x id = true) : id = Str.ofString x ∧ sc.names.lookup (Str.ofString x) = some .local ∧ ((Str.ofString x) == ("__debug__" : Str)) = false := by
  unfold ckL at h
  simp only [Bool.and_eq_true, decide_eq_true_eq, Bool.not_eq_true'] at h
  obtain ⟨⟨rfl, h2⟩, h3⟩ := h
  exact ⟨rfl, h2, h3⟩
theorem ckG_inv {sc : Scope} {x : String} {id : Str} (h : ckG sc x id = true) : id = Str.ofString x ∧ sc.names.lookup (Str.ofString x) = some .globalImplicit ∧ ((Str.ofString x) == ("__debug__" : Str)) = false := by
  unfold ckG at h
  simp only [Bool.and_eq_true, decide_eq_true_eq, Bool.not_eq_true'] at h
  obtain ⟨⟨rfl, h2⟩, h3⟩ := h
  exact ⟨rfl, h2, h3⟩
theorem sub_noSlice {slice : Expr} {o i : Value} (h : noSlice slice = true) : subscripted slice false o i = operate [o, i] (getItem o i) := by
  cases slice <;> first | rfl | cases h

theorem and2 {a b : Bool} (h : (a && b) = true) : a = true ∧ b = true := Bool.and_eq_true_iff.mp h
theorem and3 {a b c : Bool} (h : (a && b && c) = true) : a = true ∧ b = true ∧ c = true := ⟨(and2 (and2 h).1).1, (and2 (and2 h).1).2, (and2 h).2⟩
theorem and4 {a b c d : Bool} (h : (a && b && c && d) = true) : a = true ∧ b = true ∧ c = true ∧ d = true := ⟨(and3 (and2 h).1).1, (and3 (and2 h).1).2.1, (and3 (and2 h).1).2.2, (and2 h).2⟩
theorem notT {a : Bool} (h : (!a) = true) : a = false := by cases a <;> first | rfl | cases h
theorem line1000 : 1000 ≤ sizeLine := by decide
section
variable {P : Addr → Prop} {h : Heap}
theorem rel_none : Rel P h .none .none := by simp only [Rel]
theorem rel_bool {b : Bool} : Rel P h (.bool b) (.bool b) := by simp only [Rel]
theorem rel_int {i : Int} {t : Tok} : Rel P h (.int i) (.int i t) := by simp only [Rel]; exact ⟨_, rfl⟩
theorem rel_str {x : Str} {t : Tok} : Rel P h (.str x) (.str x t) := by simp only [Rel]; exact ⟨_, rfl⟩
theorem rel_tup {l : List D} {a : Addr} {vs : List Value} (x : IsTup h a vs.toArray) (y : RelL P h l vs) : Rel P h (.tup l) (.ref a) := by simp only [Rel]; exact ⟨a, vs, rfl, x, y⟩
theorem rel_list {l : List D} {a : Addr} {vs : List Value} (p : P a) (x : h.IsList a vs.toArray) (y : RelL P h l vs) : Rel P h (.list l) (.ref a) := by simp only [Rel]; exact ⟨a, vs, rfl, p, x, y⟩
theorem rel_bool_inv {b : Bool} {v : Value} (r : Rel P h (.bool b) v) : v = .bool b := by simpa only [Rel] using r
end
theorem bl_len : ("len", Value.builtin "len") ∈ blist := by decide
theorem bl_isi : ("isinstance", Value.builtin "isinstance") ∈ blist := by decide
theorem bl_int : ("int", Value.type "int") ∈ blist := by decide
theorem bl_rev : ("reversed", Value.type "reversed") ∈ blist := by decide
theorem bl_range : ("range", Value.type "range") ∈ blist := by decide

section
variable {Φ : Fx} (ok : Φ.Ok)
include ok

/-- a module's or a built-in name -/
theorem wGlobal {O : List Addr} {ad : String → Addr} {st : St} {s : Shared} {x : String} {id : Str} {pos : Pos} {v : Value} {K : Value → Shared → Prop} {E : Value → Shared → Prop} (I : Φ.Inv O ad st s) (hck : ckG Φ.scope x id = true)
    (hv : Φ.X.mg (Str.ofString x) = some v) (h : K v s) : wpAny Φ.M Φ.A (eval (.Name id pos) Φ.env) K E s := by
  obtain ⟨rfl, h2, h3⟩ := ckG_inv hck
  obtain ⟨m, F⟩ := I.fr
  exact Calls.Name_function_global ok.hk h2 (Calls.loadGlobal_global (by rw [ok.hg]; exact ok.XG.g _ (ok.XG.keep _ _ ok.W F.keep)) hv h) h3
theorem wBuiltin {O : List Addr} {ad : String → Addr} {st : St} {s : Shared} {x : String} {id : Str} {pos : Pos} {v : Value} {K : Value → Shared → Prop} {E : Value → Shared → Prop} (I : Φ.Inv O ad st s) (hck : ckG Φ.scope x id = true)
    (hv : (x, v) ∈ blist) (h : K v s) : wpAny Φ.M Φ.A (eval (.Name id pos) Φ.env) K E s := by
  obtain ⟨rfl, h2, h3⟩ := ckG_inv hck
  obtain ⟨m, F⟩ := I.fr
  obtain ⟨h4, h5⟩ := ok.XG.bi _ hv
  have W := ok.XG.keep _ _ ok.W F.keep
  exact Calls.Name_function_global ok.hk h2 (Calls.loadGlobal_builtin (by rw [ok.hg]; exact ok.XG.g _ W) h4 (by rw [ok.hb]; exact ok.XG.b _ W) h5 h) h3

theorem subR {O : List Addr} {ad : String → Addr} {st : St} {s : Shared} {value slice : Expr} {d k r : D} {v u : Value} {K : Value → Shared → Prop} {E : Value → Shared → Prop} (I : Φ.Inv O ad st s) (hs : noSlice slice = true) (hz : subD d k = some r)
    (rx : Rel (Off Φ.P O) s.heap d v) (ry : Rel (Off Φ.P O) s.heap k u) (hK : ∀ w s', Φ.Inv O ad st s' → Pres O Φ.L s.heap s'.heap → Rel (Off Φ.P O) s'.heap r w → K w s') :
    wpAny Φ.M Φ.A (subscriptTail value slice v u) K E s := by
  unfold subD at hz
  split at hz
  · rename_i l k
    unfold idxL at hz
    split at hz
    · rename_i hk
      simp only [Rel] at rx ry
      obtain ⟨a, vs, rfl, ha, hr⟩ := rx
      obtain ⟨t, rfl⟩ := ry
      obtain ⟨w, hw, hrw⟩ := hr.get hz
      have hlt : k.toNat < vs.length := by
        rcases Nat.lt_or_ge k.toNat vs.length with h | h
        · exact h
        · rw [List.getElem?_eq_none h] at hw; cases hw
      refine item_tupleT ha (by omega) (by omega) (j := k.toNat) ?_ hw (hK _ _ I (Pres.refl _ _ _) hrw) (sub_noSlice hs)
      unfold seqIndex?
      have e1 : (if k < 0 then k + (vs.length : Int) else k) = k := by rw [if_neg (by omega)]
      simp only [e1]
      rw [if_pos (by simp only [Bool.and_eq_true, decide_eq_true_eq]; omega)]
    · cases hz
  · rename_i l k
    unfold idxL at hz
    split at hz
    · rename_i hk
      simp only [Rel] at rx ry
      obtain ⟨a, vs, rfl, pa, ha, hr⟩ := rx
      obtain ⟨t, rfl⟩ := ry
      obtain ⟨w, hw, hrw⟩ := hr.get hz
      exact tail_any ha.typeIs slot_list_getitem.lookup (wpAny_getItem_list ha hk.1 (by omega) (by simpa using hw) (hK _ _ I (Pres.refl _ _ _) hrw)) (sub_noSlice hs)
    · cases hz
  · rename_i x k
    simp only [Rel] at rx ry
    obtain ⟨t, rfl⟩ := rx
    obtain ⟨t', rfl⟩ := ry
    unfold idxL at hz
    split at hz
    · rename_i hk
      obtain ⟨c, hc, hr⟩ := Option.map_eq_some_iff.mp hz
      subst hr
      have hlt : k.toNat < x.cps.size := by
        rcases Nat.lt_or_ge k.toNat x.cps.toList.length with h | h
        · simpa using h
        · rw [List.getElem?_eq_none h] at hc; cases hc
      refine tail_any (typeIs_str s x t) PyProof.Rows.slot_str_getitem.lookup (PyProof.Rows.getItem_str (c := c) ?_ ?_ (hK _ _ I.toks (Pres.refl _ _ _) ?_)) (sub_noSlice hs)
      · simp; omega
      · unfold seqIndex?
        have e1 : (if k < 0 then k + (x.length : Int) else k) = k := by rw [if_neg (by omega)]
        simp only [e1]
        rw [if_pos (by simp only [Bool.and_eq_true, decide_eq_true_eq]; unfold Str.length; omega)]
        simpa using hc
      · simp only [Rel]; exact ⟨_, rfl⟩
    · cases hz
  · cases hz

theorem lenR {O : List Addr} {ad : String → Addr} {st : St} {s : Shared} {d : D} {n : Int} {v : Value} {K : Value → Shared → Prop} {E : Value → Shared → Prop} (I : Φ.Inv O ad st s) (hz : lenD d = some n)
    (rx : Rel (Off Φ.P O) s.heap d v) (hK : ∀ t tk, K (.int n t) { s with toks := tk }) : wpAny Φ.M Φ.A (call (.builtin "len") [v]) K E s := by
  unfold lenD at hz
  split at hz
  · rename_i l
    split at hz
    · rename_i hl
      cases hz
      simp only [Rel] at rx
      obtain ⟨a, vs, rfl, ha, hr⟩ := rx
      have e : (vs.toArray.size : Int) = (l.length : Int) := by rw [List.size_toArray, hr.length]
      refine len_tuple ha (by rw [e]; omega) ?_
      rw [e]; exact hK _ _
    · cases hz
  · rename_i l
    split at hz
    · rename_i hl
      cases hz
      simp only [Rel] at rx
      obtain ⟨a, vs, rfl, pa, ha, hr⟩ := rx
      have e : (vs.toArray.size : Int) = (l.length : Int) := by rw [List.size_toArray, hr.length]
      refine PyProof.Rows.len_list ha (by rw [e]; omega) ?_
      rw [e]; exact hK _ _
    · cases hz
  · split at hz
    · rename_i hl
      cases hz
      simp only [Rel] at rx
      obtain ⟨t, rfl⟩ := rx
      exact PyProof.Rows.len_str (by omega) (hK _ _)
    · cases hz
  · cases hz

theorem isiR {O : List Addr} {ad : String → Addr} {st : St} {s : Shared} {d : D} {T : String} {b : Bool} {v : Value} {K : Value → Shared → Prop} {E : Value → Shared → Prop} (I : Φ.Inv O ad st s) (hz : isiD d T = some b)
    (rx : Rel (Off Φ.P O) s.heap d v) (hK : ∀ tk, K (.bool b) { s with toks := tk }) : wpAny Φ.M Φ.A (call (.builtin "isinstance") [v, .type T]) K E s := by
  unfold isiD at hz
  split at hz
  · rename_i hT
    have hb := Option.some.inj hz
    subst hb
    simp only [List.mem_cons, List.not_mem_nil, or_false] at hT
    cases d with
    | none =>
      have e : v = .none := by simpa only [Rel] using rx
      subst e
      rcases hT with rfl | rfl | rfl | rfl | rfl
      · exact IsiPair.NoneType_bool (hK _)
      · exact IsiPair.NoneType_int (hK _)
      · exact IsiPair.NoneType_str (hK _)
      · exact IsiPair.NoneType_tuple (hK _)
      · exact IsiPair.NoneType_list (hK _)
    | bool b =>
      have e := rel_bool_inv rx
      subst e
      rcases hT with rfl | rfl | rfl | rfl | rfl
      · exact IsiPair.bool_bool (hK _)
      · exact IsiPair.bool_int (hK _)
      · exact IsiPair.bool_str (hK _)
      · exact IsiPair.bool_tuple (hK _)
      · exact IsiPair.bool_list (hK _)
    | int i =>
      obtain ⟨t, rfl⟩ : ∃ t, v = .int i t := by simpa only [Rel] using rx
      rcases hT with rfl | rfl | rfl | rfl | rfl
      · exact IsiPair.int_bool (hK _)
      · exact IsiPair.int_int (hK _)
      · exact IsiPair.int_str (hK _)
      · exact IsiPair.int_tuple (hK _)
      · exact IsiPair.int_list (hK _)
    | str i =>
      obtain ⟨t, rfl⟩ : ∃ t, v = .str i t := by simpa only [Rel] using rx
      rcases hT with rfl | rfl | rfl | rfl | rfl
      · exact IsiPair.str_bool (hK _)
      · exact IsiPair.str_int (hK _)
      · exact IsiPair.str_str (hK _)
      · exact IsiPair.str_tuple (hK _)
      · exact IsiPair.str_list (hK _)
    | tup l =>
      simp only [Rel] at rx
      obtain ⟨a, vs, rfl, ⟨o, e, c, _⟩, _⟩ := rx
      rcases hT with rfl | rfl | rfl | rfl | rfl
      · exact IsiPair.tuple_bool e c (hK _)
      · exact IsiPair.tuple_int e c (hK _)
      · exact IsiPair.tuple_str e c (hK _)
      · exact IsiPair.tuple_tuple e c (hK _)
      · exact IsiPair.tuple_list e c (hK _)
    | list l =>
      simp only [Rel] at rx
      obtain ⟨a, vs, rfl, _, ⟨o, e, c, _⟩, _⟩ := rx
      rcases hT with rfl | rfl | rfl | rfl | rfl
      · exact IsiPair.list_bool e c (hK _)
      · exact IsiPair.list_int e c (hK _)
      · exact IsiPair.list_str e c (hK _)
      · exact IsiPair.list_tuple e c (hK _)
      · exact IsiPair.list_list e c (hK _)
  · cases hz

/-- a local name that holds a value -/
theorem wLocal {O : List Addr} {ad : String → Addr} {st : St} {s : Shared} {x : String} {id : Str} {pos : Pos} {d : D} {K : Value → Shared → Prop} {E : Value → Shared → Prop} (I : Φ.Inv O ad st s) (hck : ckL Φ.scope x id = true) (hx : st x = some (.val d))
    (hK : ∀ v, Rel (Off Φ.P O) s.heap d v → K v s) : wpAny Φ.M Φ.A (eval (.Name id pos) Φ.env) K E s := by
  obtain ⟨rfl, h2, h3⟩ := ckL_inv hck
  obtain ⟨m, F, hv, ho, hi⟩ := I.vars
  obtain ⟨v, h4, h5⟩ := hv x d hx
  exact wpAny_Name (wpAny_loadName_local ok.hk h2 F.ns h4 (hK v h5)) h3
/-- a local name that holds a list of its own -/
theorem wOwn {O : List Addr} {ad : String → Addr} {st : St} {s : Shared} {x : String} {id : Str} {pos : Pos} {l : List D} {K : Value → Shared → Prop} {E : Value → Shared → Prop} (I : Φ.Inv O ad st s) (hck : ckL Φ.scope x id = true) (hx : st x = some (.own l))
    (hK : ∀ vs n, ad x ∈ O → PySem.IsL s.heap (ad x) (List.toArray vs) n → RelL (Off Φ.P O) s.heap l vs →
      (∀ (f : Array Value → Array Value) (vs' : List Value) (l' : List D) (tk : Nat), f vs.toArray = vs'.toArray → RelL (Off Φ.P O) s.heap l' vs' →
        Φ.Inv O ad (st.put x (.own l')) { s with heap := s.heap.update (ad x) (Obj.mapSeq f), toks := tk } ∧ Pres O Φ.L s.heap (s.heap.update (ad x) (Obj.mapSeq f))) → K (.ref (ad x)) s) : wpAny Φ.M Φ.A (eval (.Name id pos) Φ.env) K E s := by
  obtain ⟨rfl, h2, h3⟩ := ckL_inv hck
  obtain ⟨m, vs, n, F, h4, h5, h6, h7, h8⟩ := I.upd hx
  exact wpAny_Name (wpAny_loadName_local ok.hk h2 F.ns h4 (hK vs n h5 h6 h7 h8)) h3

theorem wPop {O : List Addr} {ad : String → Addr} {st : St} {s : Shared} {x : String} {id nm : Str} {p1 ap pos : Pos} {l : List D} {d : D} {K : Value → Shared → Prop} {E : Value → Shared → Prop} (I : Φ.Inv O ad st s) (hck : ckL Φ.scope x id = true) (hnm : nm = Str.ofString "pop")
    (hline : (ap.endLine == pos.line) = true) (hx : st x = some (.own (l ++ [d]))) (hl : l.length ≤ 100000)
    (hK : ∀ v s', Φ.Inv O ad (st.put x (.own l)) s' → Pres O Φ.L s.heap s'.heap → Rel (Off Φ.P O) s'.heap d v → K v s') : wpAny Φ.M Φ.A (eval (.Call (.Attribute (.Name id p1) nm ap) [] [] pos) Φ.env) K E s := by
  subst hnm
  refine wpAny_Call_method (T := "list") (id := "list.pop") rfl rfl hline F.plainAttrs_list F.slot_list_pop F.type_list_pop (wOwn ok I hck hx fun vs n ha hL hr upd => ?_)
  refine ⟨(isL_isList hL).typeIs, fun b e => ?_, ?_⟩
  · cases e; exact ⟨_, hL, rfl⟩
  · obtain ⟨us, ws, rfl, hu, hw⟩ := hr.append_inv
    obtain ⟨v, r, rfl, hv, hr0⟩ := hw.cons_inv
    have e0 := hr0.nil_inv
    subst e0
    have hlen := hu.length
    refine P.pop_list (y := v) hL ?_ ?_ (by simp [hlen]; unfold sizeLine; omega)
    · simp
    · obtain ⟨I', p'⟩ := upd (fun xs => xs.eraseIdxIfInBounds ((us ++ [v]).toArray.size - 1)) us l s.toks (by simp [Array.eraseIdxIfInBounds, List.eraseIdx_append_of_length_le]) hu
      exact hK v _ I' p' (I.rel p' hv)

theorem wAppend {O : List Addr} {ad : String → Addr} {st : St} {s : Shared} {x : String} {id nm : Str} {p1 ap pos : Pos} {y : Expr} {W : (D → St → Prop) → St → Prop} {Q : St → Prop} {l₀ : List D} {K : Value → Shared → Prop} {E : Value → Shared → Prop} (I : Φ.Inv O ad st s) (hck : ckL Φ.scope x id = true) (hnm : nm = Str.ofString "append")
    (hline : (ap.endLine == pos.line) = true) (hs : starEach [y] Φ.env = [(false, eval y Φ.env)]) (g : Φ.GE (eval y Φ.env) W) (hx : st x = some (.own l₀))
    (hw : W (fun d st1 => ∃ l, st1 x = some (.own l) ∧ l.length < 100000 ∧ Q (st1.put x (.own (l ++ [d])))) st)
    (hK : ∀ st' s', Q st' → Φ.Inv O ad st' s' → Pres O Φ.L s.heap s'.heap → K .none s') : wpAny Φ.M Φ.A (eval (.Call (.Attribute (.Name id p1) nm ap) [y] [] pos) Φ.env) K E s := by
  subst hnm
  refine wpAny_Call_method (T := "list") (id := "list.append") rfl (by rw [hs]; rfl) hline F.plainAttrs_list F.slot_list_append F.type_list_append (wOwn ok I hck hx fun vs n ha hL hr upd => ?_)
  refine ⟨(isL_isList hL).typeIs, fun b e => ?_, ?_⟩
  · cases e; exact ⟨_, hL, rfl⟩
  · rw [hs]
    refine P.append_list (g O ad st s _ _ _ I hw fun d v st1 s1 hq I1 p1 r1 => ?_)
    obtain ⟨l, hl, hlen, hq⟩ := hq
    obtain ⟨m, us, n', F, _, _, h6, h7, h8⟩ := I1.upd hl
    obtain ⟨I2, p2⟩ := h8 (fun xs => xs.push v) (us ++ [v]) (l ++ [d]) s1.toks (by simp) (h7.append (.cons r1 .nil))
    exact ⟨us.toArray, n', by simp [h7.length]; unfold sizeLine; omega, h6, hK _ _ hq I2 (p1.trans p2)⟩

/-- a call of one of the text's defs -/
theorem Fx.okAt {O : List Addr} {ad : String → Addr} {st : St} {s : Shared} (I : Φ.Inv O ad st s) : Φ.X.ok s.heap := let ⟨_, F⟩ := I.fr; ok.XG.keep _ _ ok.W F.keep
theorem Fx.freshOff {O : List Addr} {ad : String → Addr} {st : St} {s : Shared} (I : Φ.Inv O ad st s) (a : Addr) (h : s.heap.get? a = none) : Off Φ.P O a := by
  obtain ⟨m, F⟩ := I.fr
  refine ⟨ok.hP _ ?_, fun hm => ?_⟩
  · cases q : Φ.h₀.get? a with
    | none => rfl
    | some o => rw [F.keep _ _ q] at h; cases h
  · obtain ⟨⟨its, n, e⟩, _⟩ := I.ownOk _ hm
    exact nomatch (e.symm.trans h)

theorem wCall {O : List Addr} {ad : String → Addr} {st : St} {s : Shared} {f : String} {id : Str} {np pos : Pos} {xs : List Expr} {n : Nat} {W : (List D → St → Prop) → St → Prop} {Q : D → St → Prop} {K : Value → Shared → Prop} {E : Value → Shared → Prop} (I : Φ.Inv O ad st s)
    (hck : ckG Φ.scope f id = true) (hfn : Φ.C.fn f = true) (hne : ∃ y ys, starEach xs Φ.env = (false, y) :: ys) (g : Φ.GEs (spliced (backTo pos (starEach xs Φ.env))) n W)
    (hw : W (fun ds st' => Φ.C.sp f ds fun d => Q d st') st)
    (hK : ∀ d v st' s', Q d st' → Φ.Inv O ad st' s' → Pres O Φ.L s.heap s'.heap → Rel (Off Φ.P O) s'.heap d v → K v s') : wpAny Φ.M Φ.A (eval (.Call (.Name id np) xs [] pos) Φ.env) K E s := by
  obtain ⟨y, ys, hys⟩ := hne
  obtain ⟨a, o, fd, hmg, hd, hat⟩ := ok.hF f hfn
  refine PyProof.Rows.Call_ (wGlobal ok I hck hmg ?_)
  refine Calls.callWith_function (o := o) (fd := fd) ?_
  rw [hys] at g ⊢
  refine Calls.evalArgs_plain (g O ad st s _ _ _ I hw fun ds vs st' s' hq I' p r _ => ⟨⟨hat _ (Fx.okAt ok I'), hd⟩, ?_⟩)
  refine ok.hC f ds _ hq a hmg Φ.A s' (Off Φ.P O) vs _ _ ok.R (Fx.okAt ok I') (Fx.freshOff ok I') r fun d v h' tk hq' x r' => ?_
  exact hK _ _ _ _ hq' (I'.ext x) (p.trans (Pres.ext x)) r'

omit ok in
theorem cut_pick (vs : List Value) (lo hi : Option Nat) : slicePick vs.toArray (oInt lo) (oInt hi) none = (cut vs lo hi).toArray := by
  rw [slicePick_plain]
  congr 1
  have c : ∀ n : Nat, clipAt vs.toArray.size (n : Int) = min n vs.length := by
    intro n
    unfold clipAt
    rw [if_neg (by omega), List.size_toArray]
    omega
  unfold cut
  cases lo <;> cases hi <;> simp only [oInt, Option.elim_none, Option.elim_some, Option.getD_none, Option.getD_some, c, List.drop_zero]
  · simp
  · rename_i k
    simp only [Nat.sub_zero]
    rcases Nat.le_total k vs.length with h | h
    · rw [Nat.min_eq_left h]
    · rw [Nat.min_eq_right h, List.take_of_length_le h, List.take_length]
  · rename_i k
    rw [List.take_of_length_le (by simp)]
    rcases Nat.le_total k vs.length with h | h
    · rw [Nat.min_eq_left h]
    · rw [Nat.min_eq_right h, List.drop_of_length_le h, List.drop_length]
  · rename_i k j
    rw [List.drop_take]
    rcases Nat.le_total k vs.length with h | h
    · rw [Nat.min_eq_left h]
      rcases Nat.le_total j vs.length with h' | h'
      · rw [Nat.min_eq_left h']
      · rw [Nat.min_eq_right h', List.take_of_length_le (by simp), List.take_of_length_le (by simp; omega)]
    · rw [Nat.min_eq_right h, List.drop_of_length_le h, List.drop_length]; simp
theorem slcR {O : List Addr} {ad : String → Addr} {st : St} {s : Shared} {value : Expr} {l u : Option Expr} {p : Pos} {d r : D} {lo hi : Option Nat} {v vl vu : Value} {sl : Addr} {K : Value → Shared → Prop} {E : Value → Shared → Prop} (I : Φ.Inv O ad st s) (hz : slcD d lo hi = some r)
    (i1 : IsPart vl (oInt lo)) (i2 : IsPart vu (oInt hi)) (hs : s.heap.IsSliceOf sl vl vu .none)
    (rx : Rel (Off Φ.P O) s.heap d v) (hK : ∀ w s', Φ.Inv O ad st s' → Pres O Φ.L s.heap s'.heap → Rel (Off Φ.P O) s'.heap r w → K w s') :
    wpAny Φ.M Φ.A (subscriptTail value (.Slice l u none p) v (.ref sl)) K E s := by
  unfold slcD at hz
  split at hz
  · split at hz
    · rename_i hlen
      cases hz
      simp only [Rel] at rx
      obtain ⟨a, vs, rfl, pa, ha, hr⟩ := rx
      refine tail_any ha.typeIs slot_list_getitem.lookup (wpAny_getItem_list_slice ha hs i1 i2 .none (by simp) ?_ (by rw [List.size_toArray, hr.length]; unfold sizeLine; omega)) rfl
      rw [cut_pick]
      refine hK _ _ (I.ext (Ext.push _ _)) (Pres.ext (Ext.push _ _)) ?_
      simp only [Rel]
      exact ⟨_, cut vs lo hi, rfl, I.newOff ok.hP, isL_isList own_push, RelL.mono (Mono.ext (Ext.push _ _)) _ _ hr.cut⟩
    · cases hz
  · split at hz
    · rename_i l k hlen
      cases hz
      simp only [Rel] at rx
      obtain ⟨a, vs, rfl, ha, hr⟩ := rx
      obtain ⟨u, rfl⟩ : ∃ u, vl = .int (k : Int) u := by
        cases i1; exact ⟨_, rfl⟩
      have e2 : vu = .none := by
        cases i2; rfl
      subst e2
      have hl := hr.length
      refine tail_any ha.typeIs slot_tuple_getitem.lookup (getItem_tuple_from ha hs hlen.1 (by rw [List.size_toArray, hl]; exact hlen.2.1) ?_ (by rw [List.size_toArray, hl]; unfold sizeLine; omega)) rfl
      refine hK _ _ (I.ext (Ext.push _ _)) (Pres.ext (Ext.push _ _)) ?_
      exact rel_tup (IsTup.new _ _) (RelL.mono (Mono.ext (Ext.push _ _)) _ _ (hr.drop k))
    · cases hz
  · cases hz

omit ok in
theorem natOf_part {P : Addr → Prop} {h : Heap} {d : D} {n : Nat} {v : Value} (hn : natOf d = some n) (r : Rel P h d v) : IsPart v (oInt (some n)) := by
  unfold natOf at hn
  split at hn
  · split at hn
    · rename_i h0
      cases hn
      simp only [Rel] at r
      obtain ⟨t, rfl⟩ := r
      show IsPart _ (some ((_ : Nat) : Int))
      rw [Int.toNat_of_nonneg h0]
      exact .int _ _
    · cases hn
  · cases hn
theorem wOlen {O : List Addr} {ad : String → Addr} {st : St} {s : Shared} {x : String} {id y : Str} {p1 p2 pos : Pos} {l : List D} {K : Value → Shared → Prop} {E : Value → Shared → Prop} (I : Φ.Inv O ad st s) (h1 : ckG Φ.scope "len" id = true) (h2 : ckL Φ.scope x y = true)
    (hx : st x = some (.own l)) (hl : l.length ≤ 100000) (hK : ∀ t tk, K (.int l.length t) { s with toks := tk }) : wpAny Φ.M Φ.A (eval (.Call (.Name id p1) [.Name y p2] [] pos) Φ.env) K E s := by
  refine PyProof.Rows.Call_ (wBuiltin ok I h1 (v := .builtin "len") bl_len ?_)
  refine callWith_builtin1 (wOwn ok I h2 hx fun vs n ha hL hr upd => ?_)
  have e : (vs.toArray.size : Int) = (l.length : Int) := by rw [List.size_toArray, hr.length]
  refine PyProof.Rows.len_list (isL_isList hL) (by rw [e]; omega) ?_
  rw [e]
  exact hK _ _
theorem osubR {O : List Addr} {ad : String → Addr} {st : St} {s : Shared} {x : String} {value slice : Expr} {l : List D} {n : Int} {d : D} {u : Value} {K : Value → Shared → Prop} {E : Value → Shared → Prop} (I : Φ.Inv O ad st s) (hs : noSlice slice = true)
    (hx : st x = some (.own l)) (hd : idxL l n = some d) (r : Rel (Off Φ.P O) s.heap (.int n) u) (hK : ∀ w, Rel (Off Φ.P O) s.heap d w → K w s) : wpAny Φ.M Φ.A (subscriptTail value slice (.ref (ad x)) u) K E s := by
  obtain ⟨m, us, n', F, _, _, h6, h7, _⟩ := I.upd hx
  unfold idxL at hd
  split at hd
  · rename_i hk
    simp only [Rel] at r
    obtain ⟨t, rfl⟩ := r
    obtain ⟨w, hw, hrw⟩ := h7.get hd
    exact tail_any (isL_isList h6).typeIs slot_list_getitem.lookup (wpAny_getItem_list (isL_isList h6) hk.1 (by omega) (by simpa using hw) (hK _ hrw)) (sub_noSlice hs)
  · cases hd

omit ok in
theorem ck_star {le : LE} {x : Expr} {env : Env} {r : List Expr} (h : ckE Φ.scope le x = true) : starEach (x :: r) env = (false, eval x env) :: starEach r env := by
  cases x <;> first | rfl | (exfalso; cases le <;> simp [ckE] at h)
end
end Mine
end

section
open PySem PyProof.Rows
namespace Mine

/-- the heap up to a place -/
noncomputable def upTo (h : Heap) (C : Addr) : Heap := { h with objs := h.objs.take C }
theorem upTo_size {h : Heap} {C : Addr} : (upTo h C).objs.size ≤ C := by
  show (h.objs.take C).size ≤ C
  simp; omega
theorem upTo_eq {h : Heap} {C b : Addr} (hb : b < C) : (upTo h C).get? b = h.get? b := by
  have : (upTo h C).objs[b]? = h.objs[b]? := by
    show (h.objs.take C)[b]? = h.objs[b]?
    simp only [Array.take_eq_extract, Array.getElem?_extract]
    split
    · simp
    · rename_i h1
      symm
      rw [Array.getElem?_eq_none_iff]
      have h2 : @LT.lt Nat _ b C := hb
      have h3 : ¬ @LT.lt Nat _ b (min C h.objs.size - 0) := h1
      show @LE.le Nat _ h.objs.size b
      omega
  unfold Heap.get?
  rw [this]
theorem upTo_get {h : Heap} {C b : Addr} {o : Obj} (e : h.get? b = some o) (hb : b < C) : (upTo h C).get? b = some o := (upTo_eq hb).trans e
theorem upTo_ext {h : Heap} {C : Addr} : Ext (upTo h C) h := fun b o e => (upTo_eq (Nat.lt_of_lt_of_le (Heap.lt_size e) upTo_size)).symm.trans e

noncomputable def Fx.sub (Φ : Fx) (csc : Scope) (C : Addr) (h : Heap) (P : Addr → Prop) : Fx := { Φ with env := compEnv csc C Φ.env, h₀ := h, P := P }

/-- the tests of a comprehension -/
noncomputable def testsOf (ifs : List Expr) (env : Env) : Sem Bool := forIn ifs true fun c r => if r = true then do let ok ← isTrue c env (eval c env); pure (ForInStep.yield ok) else pure (ForInStep.yield r)

theorem ckComp_inv {csc : Scope} (h : ckComp csc = true) : csc.kind = .function ∧ (∀ x ∈ csc.names, x.2 ≠ .cell) ∧ (∀ x ∈ csc.names, x.2 ≠ .free) ∧ ∀ x ∈ csc.names, x.2 = .local → csc.names.lookup x.1 = some .local := by
  unfold ckComp at h
  simp only [Bool.and_eq_true, decide_eq_true_eq, List.all_eq_true, Bool.or_eq_true] at h
  refine ⟨h.1, fun x hx => (h.2 x hx).1.1, fun x hx => (h.2 x hx).1.2, fun x hx e => ?_⟩
  rcases (h.2 x hx).2 with q | q
  · exact absurd e q
  · exact q

section
variable {Φ : Fx} (ok : Φ.Ok)
include ok
theorem compR {O : List Addr} {ad : String → Addr} {st : St} {s : Shared} {elt : Expr} {id : Str} {px : Pos} {iter : Expr} {ifs : List Expr} {csc : Scope} {pos : Pos} {x : String} {T B : (D → St → Prop) → St → Prop} {l : List D} {v : Value} {Q : List D → Prop}
    {K : Value → Shared → Prop} {E : Value → Shared → Prop} {Er : Env → Value → Shared → Prop}
    (hck : ckL csc x id = true) (hcs : ckComp csc = true)
    (gT : ∀ C h P, (Φ.sub csc C h P).Ok → (Φ.sub csc C h P).GT (testsOf ifs (compEnv csc C Φ.env)) (fun Q st => T (fun d st1 => ∃ b, d = .bool b ∧ Q b st1) st))
    (gB : ∀ C h P, (Φ.sub csc C h P).Ok → (Φ.sub csc C h P).GE (eval elt (compEnv csc C Φ.env)) B)
    (I : Φ.Inv O ad st s) (r : Rel (Off Φ.P O) s.heap (.list l) v) (hlen : l.length ≤ 50000) (hw : compL T B x l Q)
    (hK : ∀ ds w s', Q ds → Φ.Inv O ad st s' → Pres O Φ.L s.heap s'.heap → Rel (Off Φ.P O) s'.heap (.list ds) w → K w s') :
    wpAny Φ.M Φ.A (pyIter v) (fun it s₂ => wpAny Φ.M Φ.A (newList []) (fun acc s₃ => wpAny Φ.M Φ.A (newFunctionEnv csc Φ.env.globals [] [] Φ.env.qual none .none (some Φ.env)) (fun cenv s₄ =>
      codeAny Φ.M Φ.A (.compStart (.ListComp elt [⟨.Name id px, iter, ifs, 0⟩] csc pos) 0 it acc { cenv with scope := csc }) (fun r s' => ∃ m, s'.heap.Ns cenv.locals m ∧ ∀ h', Heap.SameBut cenv.locals s'.heap h' → match r with
        | .ok _ => K acc { s' with heap := h' }
        | .error x => Er cenv x { s' with heap := h' }) s₄) E s₃) E s₂) E s := by
  obtain ⟨hkind, hcell, hfree, hnames⟩ := ckComp_inv hcs
  obtain ⟨rfl, hloc, _⟩ := ckL_inv hck
  simp only [Rel] at r
  obtain ⟨a, vs, rfl, pa, ha, hr⟩ := r
  have hrl := hr.length
  refine wpAny_pyIter_list ha (wpAny_newList ?_)
  generalize hH1 : s.heap.push { cls := .type "list_iterator", data := .fields #[.ref a, .int 0 0] } = H1
  generalize hH2 : H1.push { cls := .type "list", data := .seq ([] : List Value).toArray } = H2
  have X1 : Ext s.heap H1 := hH1 ▸ Ext.push _ _
  have X2 : Ext H1 H2 := hH2 ▸ Ext.push _ _
  have s1 : H1.objs.size = s.heap.objs.size + 1 := by rw [← hH1, Heap.size_push]
  have s2 : H2.objs.size = s.heap.objs.size + 2 := by rw [← hH2, Heap.size_push, s1]
  have hne : a ≠ s.heap.objs.size := by
    obtain ⟨o, e, _⟩ := ha
    exact Nat.ne_of_lt (Heap.lt_size e)
  have halt : a < s.heap.objs.size := by
    obtain ⟨o, e, _⟩ := ha
    exact Heap.lt_size e
  have W : Walks Φ.X.prog Φ.X.w Φ.A s.heap.objs.size _ _ _ _ _ := Walks.list ok.R.hh s.heap.objs.size a hne vs.toArray
  generalize hIt : s.heap.objs.size = It at *
  generalize hD : H1.objs.size = D at *
  refine wpAny_newFunctionEnv hcell (by intro y hy; simp at hy) (fun h₁ hns₁ hsb₁ => ?_) hkind
  dsimp only at hns₁ hsb₁ ⊢
  generalize hC : H2.objs.size = C at *
  have oldH : Ext H2 h₁ := by
    intro b o e
    have : b < C := hC ▸ Heap.lt_size e
    exact hsb₁.extBut b o (Nat.ne_of_lt this) (Heap.get?_push_of_some _ e)
  have old : Ext s.heap h₁ := X1.trans (X2.trans oldH)
  obtain ⟨m0, F0⟩ := I.fr
  have hLlt : Φ.L < It := by
    obtain ⟨o, _, _, e, _⟩ := F0.ns
    exact hIt ▸ Heap.lt_size e
  have hh0 : Φ.h₀.objs.size ≤ It := Nat.le_of_lt (Nat.lt_of_le_of_lt F0.above hLlt)
  let P' : Addr → Prop := fun b => Off Φ.P O b ∧ b ≠ D
  have eD : @Eq Nat D (It + 1) := s1
  have eC : @Eq Nat C (It + 2) := s2
  have live : ∀ {h : Heap} {b : Addr}, Ext s.heap h → h.get? b = none → Off Φ.P O b := by
    intro h b x e
    refine ⟨ok.hP _ ?_, fun hm => ?_⟩
    · cases q : Φ.h₀.get? b with
      | none => rfl
      | some o => rw [x _ _ (F0.keep _ _ q)] at e; cases e
    · obtain ⟨⟨its, n, q⟩, _⟩ := I.ownOk b hm
      exact nomatch (x _ _ q).symm.trans e
  have hPD : Off Φ.P O D := live (Ext.refl _) (Heap.get?_none_of_le (by rw [hIt]; show It ≤ D; omega))
  have subOk : ∀ h, Ext s.heap h → (∃ o, h.get? D = some o) → (Φ.sub csc C (upTo h C) P').Ok := by
    intro h x hD'
    refine ⟨ok.XG, ok.R, fun b hb => ?_, ok.XG.keep _ _ ok.W fun b o e => ?_, ok.hF, ok.hC, hkind, ok.hg, ok.hb⟩
    · have hb' : (upTo h C).get? b = none := hb
      refine ⟨live (h := upTo h C) (fun c o e => upTo_get (x _ _ e) ?_) hb', ?_⟩
      · have h1 : @LT.lt Nat _ c It := hIt ▸ Heap.lt_size e
        show @LT.lt Nat _ c C
        omega
      · rintro rfl
        obtain ⟨o, e⟩ := hD'
        have : @LT.lt Nat _ b C := by omega
        rw [upTo_get e this] at hb'; cases hb'
    · refine upTo_get (x _ _ (F0.keep _ _ e)) ?_
      have h1 : @LT.lt Nat _ b Φ.h₀.objs.size := Heap.lt_size e
      have h2 : @LE.le Nat _ Φ.h₀.objs.size It := hh0
      show @LT.lt Nat _ b C
      omega
  let J : Nat → Shared → Prop := fun k s' => ∃ i ds dv m, k = vs.length - i ∧ i ≤ vs.length ∧ ds.length ≤ i ∧ s' = { s with heap := s'.heap, toks := s'.toks } ∧ (s'.heap.IsListIter It a i ∧ s'.heap.IsList a vs.toArray) ∧ s'.heap.Ns C m ∧ s'.heap.IsList D (List.toArray dv) ∧ Ext s.heap s'.heap ∧
    RelL P' s'.heap ds dv ∧ compL T B x (l.drop i) (fun us => Q (ds ++ us))
  have neIC : It ≠ C := by show @Ne Nat It C; omega
  have neID : It ≠ D := by show @Ne Nat It D; omega
  have neDC : D ≠ C := by show @Ne Nat D C; omega
  have neaC : a ≠ C := by have : @LT.lt Nat _ a It := halt; show @Ne Nat a C; omega
  have neaD : a ≠ D := by have : @LT.lt Nat _ a It := halt; show @Ne Nat a D; omega
  have oldNe : ∀ {b : Addr} {o : Obj}, s.heap.get? b = some o → b ≠ It ∧ b ≠ D ∧ b ≠ C := by
    intro b o e
    have h1 : @LT.lt Nat _ b It := hIt ▸ Heap.lt_size e
    exact ⟨by show @Ne Nat b It; omega, by show @Ne Nat b D; omega, by show @Ne Nat b C; omega⟩
  have monoC : ∀ {P₁ : Addr → Prop} {h h' : Heap} {m : Str → Option Value}, h.Ns C m → Pres [] C h h' → Mono P₁ P₁ h h' := by
    intro P₁ h h' m hn p
    refine ⟨fun b i t => ?_, fun b i q t => ⟨q, ?_⟩⟩
    · obtain ⟨o, e, c, n, d⟩ := t
      exact ⟨o, p b o e (by rintro rfl; exact ns_not_seq hn e d) (by simp), c, n, d⟩
    · obtain ⟨o, e, c, n, d⟩ := t
      exact ⟨o, p b o e (by rintro rfl; exact ns_not_seq hn e d) (by simp), c, n, d⟩
  have loop : ∀ s', J vs.length s' → codeAny Φ.M Φ.A (.compLoop (.ListComp elt [⟨.Name (Str.ofString x) px, iter, ifs, 0⟩] csc pos) 0 (.ref It) (.ref D) (compEnv csc C Φ.env)) (fun r s' => ∃ m, s'.heap.Ns C m ∧ ∀ h', Heap.SameBut C s'.heap h' → match r with
        | .ok _ => K (.ref D) { s' with heap := h' }
        | .error x => Er (newEnv csc C Φ.env.globals [] Φ.env.qual none Value.none (some Φ.env) builtinsNs) x { s' with heap := h' }) s' := by
    intro s' hJ
    refine codeAny_compLoop_tests J ?_ _ hJ
    rintro k s1 ⟨i, ds, dv, m, rfl, hi, hdi, hs1, S1, hn1, hD1, x1, r1, w1⟩
    rcases Nat.lt_or_ge i vs.length with hlt | hge
    · refine W.item i s1 _ _ (by simpa using hlt) S1 fun v h' tk hpv S2 hx => ?_
      have x2 : Ext s.heap h' := fun b o e => hx b o (by simpa using (oldNe e).1) (x1 b o e)
      have hltl : i < l.length := by omega
      have hd : l[i]? = some l[i] := List.getElem?_eq_getElem hltl
      obtain ⟨v', hv1, hv2⟩ := hr.get hd
      have ev : v' = v := by
        have : vs[i]? = some v := by simpa using hpv
        rw [hv1] at this; exact Option.some.inj this
      subst ev
      have but : ∀ {b : Addr} {o : Obj}, b ≠ It → s1.heap.get? b = some o → h'.get? b = some o := fun hb e => hx _ _ (by simpa using hb) e
      have hn2 : h'.Ns C m := by
        obtain ⟨o, es, ep, e, q⟩ := hn1
        exact ⟨o, es, ep, but neIC.symm e, q⟩
      have hD2 : h'.IsList D dv.toArray := by
        obtain ⟨o, e, q⟩ := hD1
        exact ⟨o, but neID.symm e, q⟩
      have m12 : Mono P' P' s1.heap h' := by
        obtain ⟨oI, eI, cI, dI⟩ := S1.1
        have seqNe : ∀ {b : Addr} {o : Obj} {its : Array Value} {n : Nat}, s1.heap.get? b = some o → o.data = .seq its n → b ≠ It := by
          rintro b o its n e d rfl
          rw [eI] at e; cases e
          rw [dI] at d; cases d
        refine ⟨fun b j t => ?_, fun b j q t => ⟨q, ?_⟩⟩
        · obtain ⟨o, e, c, n, d⟩ := t
          exact ⟨o, but (seqNe e d) e, c, n, d⟩
        · obtain ⟨o, e, c, n, d⟩ := t
          exact ⟨o, but (seqNe e d) e, c, n, d⟩
      have hDo : ∃ o, h'.get? D = some o := let ⟨o, e, _⟩ := hD2; ⟨o, e⟩
      have okS := subOk h' x2 hDo
      have I0 : (Φ.sub csc C (upTo h' C) P').Inv [] (fun _ => 0) (fun _ => none) { s1 with heap := h', toks := tk } := by
        refine ⟨?_, fun b hb => (nomatch hb), m, ⟨hn2, fun b o e => upTo_ext _ _ e, upTo_size⟩, fun y d e => (nomatch e), fun y d e => (nomatch e), fun y z l k e => (nomatch e)⟩
        show ({ s1 with heap := h', toks := tk } : Shared) = { Φ.s₀ with heap := h', toks := tk }
        rw [hs1, I.same]
      have rv : Rel (Off P' []) h' l[i] v' := by
        have hm : Mono (Off Φ.P O) (Off P' []) s.heap h' := by
          refine ⟨fun b j t => t.keeps x2, fun b j q t => ?_⟩
          obtain ⟨o, e, z⟩ := t
          exact ⟨⟨⟨q, (oldNe e).2.1⟩, by simp⟩, o, x2 _ _ e, z⟩
        exact Rel.mono hm _ _ hv2
      refine wpAny_assign_Name (wStore (L := C) (env := compEnv csc C Φ.env) rfl I0 hkind hloc rv fun s3 I3 p3 => ?_)
      have hdrop : l.drop i = l[i] :: l.drop (i + 1) := List.drop_eq_getElem_cons hltl
      rw [hdrop] at w1
      simp only [compL] at w1
      refine gT C (upTo h' C) P' okS [] (fun _ => 0) _ s3 _ _ _ I3 w1 fun b st4 s4 hq4 I4 p4 => ?_
      have p24 : Pres [] C h' s4.heap := p3.trans p4
      have hnC : ∀ {Ψs : Shared} {st' : St}, (Φ.sub csc C (upTo h' C) P').Inv [] (fun _ => 0) st' Ψs → ∃ m, Ψs.heap.Ns C m := fun I => let ⟨m, F⟩ := I.fr; ⟨m, F.ns⟩
      have same4 : ∀ {Ψs : Shared} {st' : St}, (Φ.sub csc C (upTo h' C) P').Inv [] (fun _ => 0) st' Ψs → Ψs = { s with heap := Ψs.heap, toks := Ψs.toks } := by
        intro Ψs st' I'
        have e1 := I'.same
        have e2 := I.same
        rw [e1, e2]
        rfl
      have at4 : ∀ {h4 : Heap}, Pres [] C h' h4 → (h4.IsListIter It a (i + 1) ∧ h4.IsList a vs.toArray) ∧ h4.IsList D dv.toArray ∧ Ext s.heap h4 ∧ RelL P' h4 ds dv := by
        intro h4 p
        refine ⟨W.frame (i + 1) h' h4 S2 fun b hb o e => ?_, ?_, fun b o e => p b o (x2 b o e) (oldNe e).2.2 (by simp), RelL.mono (m12.trans (monoC hn2 p)) _ _ r1⟩
        · rcases List.mem_cons.mp hb with rfl | hb
          · exact p b o e neIC (by simp)
          · rw [List.mem_singleton] at hb
            subst hb
            exact p b o e neaC (by simp)
        · obtain ⟨o, e, q⟩ := hD2
          exact ⟨o, p _ _ e neDC (by simp), q⟩
      cases b with
      | false =>
        obtain ⟨a1, a2, a3, a4⟩ := at4 p24
        obtain ⟨m4, hm4⟩ := hnC I4
        exact ⟨vs.length - (i + 1), by omega, i + 1, ds, dv, m4, rfl, hlt, by omega, same4 I4, a1, hm4, a2, a3, a4, hq4⟩
      | true =>
        refine gB C (upTo h' C) P' okS [] (fun _ => 0) st4 s4 _ _ _ I4 hq4 fun e v5 st5 s5 hq5 I5 p5 r5 => ?_
        have p25 : Pres [] C h' s5.heap := p24.trans p5
        obtain ⟨a1, a2, a3, a4⟩ := at4 p25
        obtain ⟨m5, hm5⟩ := hnC I5
        refine wpAny_list_append a2 (fun h6 hl6 hs6 => ?_) (by rw [List.size_toArray, a4.length]; unfold sizeLine; omega)
        have m56 : Mono P' P' s5.heap h6 := by
          refine ⟨fun b j t => ?_, fun b j q t => ⟨q, ?_⟩⟩
          · obtain ⟨o, e, c, n, d⟩ := t
            refine ⟨o, (hs6.2 b ?_).trans e, c, n, d⟩
            rintro rfl
            obtain ⟨o', e', c', _⟩ := a2
            rw [e] at e'; cases e'
            rw [c] at c'; exact absurd c' (by simp)
          · obtain ⟨o, e, z⟩ := t
            exact ⟨o, (hs6.2 b q.2).trans e, z⟩
        have hpush : dv.toArray.push v5 = (dv ++ [v5]).toArray := by simp
        rw [hpush] at hl6
        refine ⟨vs.length - (i + 1), by omega, i + 1, ds ++ [e], dv ++ [v5], m5, rfl, hlt, by simp; omega, ?_, W.frame (i + 1) s5.heap h6 a1 fun b hb o e => ?_, ?_, hl6, fun b o e => (hs6.2 b (oldNe e).2.1).trans (a3 b o e), RelL.mono m56 _ _ (a4.append (.cons (Rel.mono (Mono.weak fun b q => q.1) _ _ r5) .nil)), ?_⟩
        · rw [same4 I5]
        · rcases List.mem_cons.mp hb with rfl | hb
          · exact (hs6.2 b neID).trans e
          · rw [List.mem_singleton] at hb
            subst hb
            exact (hs6.2 b neaD).trans e
        · obtain ⟨o, es, ep, e, q⟩ := hm5
          exact ⟨o, es, ep, (hs6.2 _ neDC.symm).trans e, q⟩
        · simpa using hq5
    · have ei : i = vs.length := Nat.le_antisymm hi hge
      subst ei
      refine W.done s1 _ _ (by simpa using S1) fun h' tk hx => ?_
      have but : ∀ {b : Addr} {o : Obj}, b ≠ It → s1.heap.get? b = some o → h'.get? b = some o := fun hb e => hx _ _ (by simpa using hb) e
      obtain ⟨oI, eI, cI, dI⟩ := S1.1
      have seqNe : ∀ {b : Addr} {o : Obj} {its : Array Value} {n : Nat}, s1.heap.get? b = some o → o.data = .seq its n → b ≠ It ∧ b ≠ C := by
        intro b o its n e d
        refine ⟨?_, ?_⟩
        · rintro rfl
          rw [eI] at e; cases e
          rw [dI] at d; cases d
        · rintro rfl; exact ns_not_seq hn1 e d
      refine ⟨m, ?_, fun h2 hs2 => ?_⟩
      · obtain ⟨o, es, ep, e, q⟩ := hn1
        exact ⟨o, es, ep, but neIC.symm e, q⟩
      · have xf : Ext s.heap h2 := fun b o e => (hs2.2 b (oldNe e).2.2).trans (but (oldNe e).1 (x1 b o e))
        have mf : Mono P' (Off Φ.P O) s1.heap h2 := by
          refine ⟨fun b j t => ?_, fun b j q t => ⟨q.1, ?_⟩⟩
          · obtain ⟨o, e, c, n, d⟩ := t
            exact ⟨o, (hs2.2 b (seqNe e d).2).trans (but (seqNe e d).1 e), c, n, d⟩
          · obtain ⟨o, e, c, n, d⟩ := t
            exact ⟨o, (hs2.2 b (seqNe e d).2).trans (but (seqNe e d).1 e), c, n, d⟩
        have hDf : h2.IsList D dv.toArray := by
          obtain ⟨o, e, q⟩ := hD1
          exact ⟨o, (hs2.2 D neDC).trans (but neID.symm e), q⟩
        rw [List.drop_of_length_le (by omega)] at w1
        simp only [compL, List.append_nil] at w1
        show K (.ref D) { s1 with heap := h2, toks := tk }
        rw [hs1]
        exact hK _ _ _ w1 (I.ext xf) (Pres.ext xf) (rel_list hPD hDf (RelL.mono mf _ _ r1))
  have J0 : J vs.length { s with heap := h₁, toks := s.toks + ([] : List (Str × Value)).length } := by
    refine ⟨0, [], [], _, rfl, Nat.zero_le _, Nat.le_refl _, rfl, ⟨⟨_, oldH _ _ (X2 _ _ (by rw [← hH1, ← hIt]; exact Heap.get?_push_size _ rfl)), rfl, rfl⟩, ?_⟩, hns₁, ⟨_, oldH _ _ (by rw [← hH2, ← hD]; exact Heap.get?_push_size _ rfl), rfl, _, rfl⟩, old, .nil, by simpa using hw⟩
    obtain ⟨o, e, q⟩ := ha
    exact ⟨o, old _ _ e, q⟩
  exact codeAny_compStart_list (loop _ J0) (wpAny_pyIter_listiter (i := 0) ⟨_, oldH _ _ (X2 _ _ (by rw [← hH1, ← hIt]; exact Heap.get?_push_size _ rfl)), rfl, rfl⟩ (loop _ J0))
end
end Mine
end

section
open PySem PyProof.Rows
namespace Mine

noncomputable def plainTest : Expr → Bool
  | .UnaryOp .Not .. => false
  | .BoolOp .. => false
  | .IfExp .. => false
  | .Compare .. => false
  | _ => true
theorem isTrue_default {e : Expr} {env : Env} {whole : Sem Value} (h : plainTest e = true) :
    isTrue e env whole = (do let v ← whole; standAt e.pos; holding [v] (truthy v)) := by
  cases e <;> first | rfl | cases h | (rename_i op _ _; cases op <;> first | rfl | cases h)

theorem folded_no {e : Expr} {env : Env} {x : Value} {le : LE} {sc : Scope} (h : ckE sc le e = true) : foldedSetIterable e env x = pure x := by
  cases e <;> first | rfl | (exfalso; cases le <;> (unfold ckE at h; cases h))
theorem plainLe_plain {le : LE} {e : Expr} {sc : Scope} (h : ckE sc le e = true) (hp : plainLe le = true) : plainTest e = true := by
  cases le <;> first | cases hp; done | (unfold ckE at h; split at h <;> first | rfl | cases h)

mutual
theorem soundE0 : ∀ (le : LE) (Φ : Fx) (ok : Φ.Ok) (e : Expr), ckE Φ.scope le e = true → Φ.GE (eval e Φ.env) (wE Φ.X.G Φ.C le)
  | .c d, Φ, ok, e, hck => by
    intro O ad st s Q K E I hw hK
    unfold ckE at hck
    split at hck
    · rw [wE] at hw
      unfold ckC at hck
      split at hck
      · exact wpAny_pure (hK _ _ _ _ hw I (Pres.refl _ _ _) rel_none)
      · rename_i a b
        exact wpAny_pure (hK _ _ _ _ hw I (Pres.refl _ _ _) (by rw [beq_iff_eq.mp hck]; exact rel_bool))
      · have e := of_decide_eq_true hck
        subst e
        exact wpAny_Constant_int (hK _ _ _ _ hw I.toks (Pres.refl _ _ _) rel_int)
      · have e := of_decide_eq_true hck
        subst e
        exact wpAny_mkText (hK _ _ _ _ hw I.toks (Pres.refl _ _ _) rel_str)
      · cases hck
    · cases hck
  | .v x, Φ, ok, e, hck => by
    intro O ad st s Q K E I hw hK
    unfold ckE at hck
    split at hck
    · rw [wE] at hw
      obtain ⟨d, hx, hq⟩ := hw
      exact wLocal ok I hck hx fun v r => hK _ _ _ _ hq I (Pres.refl _ _ _) r
    · cases hck
  | .g x, Φ, ok, e, hck => by
    intro O ad st s Q K E I hw hK
    unfold ckE at hck
    split at hck
    · rw [wE] at hw
      obtain ⟨d, hx, hq⟩ := hw
      obtain ⟨v, hv, hr⟩ := ok.XG.gc x d hx
      obtain ⟨m, F⟩ := I.fr
      exact wGlobal ok I hck hv (hK _ _ _ _ hq I (Pres.refl _ _ _) (Rel.mono (Mono.weak (fun _ h => h.elim)) _ _ (hr _ (ok.XG.keep _ _ ok.W F.keep))))
    · cases hck
  | .tup es, Φ, ok, e, hck => by
    intro O ad st s Q K E I hw hK
    unfold ckE at hck
    split at hck
    · rw [wE] at hw
      refine wpAny_Tuple_spliced (soundEs0 es Φ ok _ hck _ O ad st s _ _ _ I hw.1 fun ds vs st' s' hq I' p r hl => ⟨by rw [hl]; exact Nat.le_trans hw.2 line1000, ?_⟩)
      exact hK _ _ _ _ hq (I'.ext (Ext.push _ _)) (p.trans (Pres.ext (Ext.push _ _))) (rel_tup (IsTup.new _ _) (RelL.mono (Mono.ext (Ext.push _ _)) _ _ r))
    · cases hck
  | .lst es, Φ, ok, e, hck => by
    intro O ad st s Q K E I hw hK
    unfold ckE at hck
    split at hck
    · rw [wE] at hw
      refine wpAny_List_spliced (soundEs0 es Φ ok _ hck _ O ad st s _ _ _ I hw.1 fun ds vs st' s' hq I' p r hl => ⟨by rw [hl]; exact Nat.le_trans hw.2 line1000, ?_⟩)
      exact hK _ _ _ _ hq (I'.ext (Ext.push _ _)) (p.trans (Pres.ext (Ext.push _ _))) (rel_list (I'.newOff ok.hP) (isL_isList own_push) (RelL.mono (Mono.ext (Ext.push _ _)) _ _ r))
    · cases hck
  | .sub a i, Φ, ok, e, hck => by
    intro O ad st s Q K E I hw hK
    unfold ckE at hck
    split at hck
    · have h1 := and3 hck
      rw [wE] at hw
      refine Subscript_ (soundE0 a Φ ok _ h1.1 O ad st s _ _ _ I hw fun d v st1 s1 hq I1 p1 r1 => ?_)
      refine soundE0 i Φ ok _ h1.2.1 O ad st1 s1 _ _ _ I1 hq fun k u st2 s2 hq2 I2 p2 r2 => ?_
      obtain ⟨r, hr, hq3⟩ := hq2
      exact subR ok I2 h1.2.2 hr (I1.rel p2 r1) r2 fun w s3 I3 p3 r3 => hK _ _ _ _ hq3 I3 (p1.trans (p2.trans p3)) r3
    · cases hck
  | .slc a lo hi, Φ, ok, e, hck => by
    intro O ad st s Q K E I hw hK
    unfold ckE at hck
    split at hck
    · have h1 := and3 hck
      rw [wE] at hw
      refine Subscript_ (soundE0 a Φ ok _ h1.1 O ad st s _ _ _ I hw fun d v st1 s1 hq I1 p1 r1 => ?_)
      refine wpAny_Slice (soundO0 lo Φ ok _ h1.2.1 O ad st1 s1 _ _ _ I1 hq fun n vl st2 s2 hq2 I2 p2 i2 => ?_)
      refine soundO0 hi Φ ok _ h1.2.2 O ad st2 s2 _ _ _ I2 hq2 fun k vu st3 s3 hq3 I3 p3 i3 => ?_
      refine wpAny_pure ?_
      obtain ⟨r, hr, hq4⟩ := hq3
      have p13 := p2.trans p3
      have r3 := I3.rel (Pres.ext (Ext.push _ { cls := .type "slice", data := .fields #[vl, vu, Value.none] })) (I1.rel p13 r1)
      exact slcR ok (I3.ext (tk := s3.toks) (Ext.push _ { cls := .type "slice", data := .fields #[vl, vu, Value.none] })) hr i2 i3 (Heap.IsSliceOf.new _ _ _ _) r3 fun w s4 I4 p4 r4 => hK _ _ _ _ hq4 I4 (p1.trans (p13.trans ((Pres.ext (Ext.push _ _)).trans p4))) r4
    · cases hck
  | .bin o a b, Φ, ok, e, hck => by
    intro O ad st s Q K E I hw hK
    unfold ckE at hck
    split at hck
    · obtain ⟨h1, h2, h3⟩ := and3 hck
      have e := of_decide_eq_true h3
      subst e
      rw [wE] at hw
      refine wpAny_BinOp (soundE0 a Φ ok _ h1 O ad st s _ _ _ I hw fun x v st1 s1 hq I1 p1 r1 => ?_)
      refine soundE0 b Φ ok _ h2 O ad st1 s1 _ _ _ I1 hq fun y u st2 s2 hq2 I2 p2 r2 => ?_
      obtain ⟨z, hz, hq3⟩ := hq2
      exact binR I2 ok.hP hz (I1.rel p2 r1) r2 fun r s3 I3 p3 r3 => hK _ _ _ _ hq3 I3 (p1.trans (p2.trans p3)) r3
    · cases hck
  | .cmp o a b, Φ, ok, e, hck => by
    intro O ad st s Q K E I hw hK
    unfold ckE at hck
    split at hck
    · obtain ⟨h1, h2, h3, h4⟩ := and4 hck
      have e := of_decide_eq_true h3
      subst e
      rw [wE] at hw
      refine wpAny_Compare1 (soundE0 a Φ ok _ h1 O ad st s _ _ _ I hw fun x v st1 s1 hq I1 p1 r1 => ?_) (notT h4)
      refine soundE0 b Φ ok _ h2 O ad st1 s1 _ _ _ I1 hq fun y u st2 s2 hq2 I2 p2 r2 => ?_
      obtain ⟨z, hz, hq3⟩ := hq2
      exact cmpR ok.R.cmp hz (I1.rel p2 r1) r2 (hK _ _ _ _ hq3 I2 (p1.trans p2) rel_bool)
    · cases hck
  | .and es, Φ, ok, e, hck => by
    unfold ckE at hck
    split at hck
    · rename_i xs pos
      have g := soundAnd0 es Φ ok xs hck pos
      intro O ad st s Q K E I hw hK
      rw [wE] at hw
      exact g O ad st s Q K E I hw hK
    · cases hck
  | .or es, Φ, ok, e, hck => by
    unfold ckE at hck
    split at hck
    · rename_i xs pos
      have g := soundOr0 es Φ ok xs hck pos
      intro O ad st s Q K E I hw hK
      rw [wE] at hw
      exact g O ad st s Q K E I hw hK
    · cases hck
  | .not a, Φ, ok, e, hck => by
    intro O ad st s Q K E I hw hK
    unfold ckE at hck
    split at hck
    · rw [wE] at hw
      refine UnaryOp_ (soundE0 a Φ ok _ hck O ad st s _ _ _ I hw fun d v st1 s1 hq I1 p1 r1 => ?_)
      obtain ⟨b, rfl, hq⟩ := hq
      have e := rel_bool_inv r1
      subst e
      exact not_of (wpAny_truthy_bool (hK _ _ _ _ hq I1 p1 rel_bool))
    · cases hck
  | .call f es, Φ, ok, e, hck => by
    intro O ad st s Q K E I hw hK
    unfold ckE at hck
    split at hck
    · rename_i id p1 xs pos
      obtain ⟨h1, h2, h3⟩ := and3 hck
      rw [wE] at hw
      refine wCall ok I h1 hw.1 ?_ (soundEs0 es Φ ok xs h2 pos) hw.2 hK
      cases es with
      | nil => cases h3
      | cons e es =>
        unfold ckEs at h2
        split at h2
        · exact ⟨_, _, ck_star (and2 h2).1⟩
        · cases h2
    · cases hck
  | .len a, Φ, ok, e, hck => by
    intro O ad st s Q K E I hw hK
    unfold ckE at hck
    split at hck
    · obtain ⟨h1, h2⟩ := and2 hck
      rw [wE] at hw
      refine PyProof.Rows.Call_ (wBuiltin ok I h1 (v := .builtin "len") bl_len ?_)
      rw [ck_star h2]
      refine callWith_builtin1 (soundE0 a Φ ok _ h2 O ad st s _ _ _ I hw fun d v st1 s1 hq I1 p1 r1 => ?_)
      obtain ⟨n, hn, hq⟩ := hq
      exact lenR ok I1 hn r1 fun t tk => hK _ _ _ _ hq I1.toks p1 rel_int
    · cases hck
  | .isi a T, Φ, ok, e, hck => by
    intro O ad st s Q K E I hw hK
    unfold ckE at hck
    split at hck
    · obtain ⟨h1, h2, h3, h4⟩ := and4 hck
      rw [wE] at hw
      refine PyProof.Rows.Call_ (wBuiltin ok I h1 (v := .builtin "isinstance") bl_isi ?_)
      rw [ck_star h2]
      refine Calls.callWith_builtin rfl (Calls.evalArgs_plain (Calls.spliced_cons (soundE0 a Φ ok _ h2 O ad st s _ _ _ I hw fun d v st1 s1 hq I1 p1 r1 => ?_)))
      obtain ⟨b, hb, hq⟩ := hq
      refine Calls.spliced_cons (wBuiltin ok I1 h3 (v := .type T) (List.contains_iff_mem.mp h4) (Calls.spliced_nil ?_))
      exact isiR ok I1 hb r1 fun tk => hK _ _ _ _ hq I1.toks p1 rel_bool
    · cases hck
  | .int a, Φ, ok, e, hck => by
    intro O ad st s Q K E I hw hK
    unfold ckE at hck
    split at hck
    · obtain ⟨h1, h2⟩ := and2 hck
      rw [wE] at hw
      refine PyProof.Rows.Call_ (wBuiltin ok I h1 (v := .type "int") bl_int ?_)
      rw [ck_star h2]
      refine callWith_type1 (soundE0 a Φ ok _ h2 O ad st s _ _ _ I hw fun d v st1 s1 hq I1 p1 r1 => ?_)
      obtain ⟨n, hn, hq⟩ := hq
      unfold intD at hn
      split at hn
      · cases hn
        have e := rel_bool_inv r1
        subst e
        exact call_int_bool (hK _ _ _ _ hq I1.toks p1 rel_int)
      · cases hn
    · cases hck
  | .pop x, Φ, ok, e, hck => by
    intro O ad st s Q K E I hw hK
    unfold ckE at hck
    split at hck
    · obtain ⟨h1, h2, h3⟩ := and3 hck
      rw [wE] at hw
      obtain ⟨l, d, hx, hl, hq⟩ := hw
      exact wPop ok I h1 (of_decide_eq_true h2) h3 hx hl fun v s' I' p r => hK _ _ _ _ hq I' p r
    · cases hck
  | .olen x, Φ, ok, e, hck => by
    intro O ad st s Q K E I hw hK
    unfold ckE at hck
    split at hck
    · obtain ⟨h1, h2⟩ := and2 hck
      rw [wE] at hw
      obtain ⟨l, hx, hl, hq⟩ := hw
      exact wOlen ok I h1 h2 hx hl fun t tk => hK _ _ _ _ hq I.toks (Pres.refl _ _ _) rel_int
    · cases hck
  | .osub x i, Φ, ok, e, hck => by
    intro O ad st s Q K E I hw hK
    unfold ckE at hck
    split at hck
    · obtain ⟨h1, h2, h3⟩ := and3 hck
      rw [wE] at hw
      obtain ⟨l, hx, hq⟩ := hw
      refine Subscript_ (wOwn ok I h1 hx fun vs n ha hL hr upd => ?_)
      refine soundE0 i Φ ok _ h2 O ad st s _ _ _ I hq fun k u st1 s1 hq I1 p1 r1 => ?_
      obtain ⟨hx1, n, d, rfl, hd, hq⟩ := hq
      exact osubR ok I1 h3 hx1 hd r1 fun w r => hK _ _ _ _ hq I1 p1 r
    · cases hck
  | .comp elt x src cond, Φ, ok, e, hck => by
    intro O ad st s Q K E I hw hK
    unfold ckE at hck
    split at hck
    · obtain ⟨h1, h2⟩ := and2 hck
      obtain ⟨h3, h4⟩ := and2 h2
      obtain ⟨h5, h6⟩ := and2 h3
      obtain ⟨h7, h8⟩ := and2 h5
      obtain ⟨h9, h10⟩ := and2 h7
      have e0 := of_decide_eq_true h6
      subst e0
      rw [wE] at hw
      obtain ⟨hkind, hcell, hfree, hnames⟩ := ckComp_inv h4
      refine wpAny_ListComp hfree hkind hnames (soundE0 src Φ ok _ h1 O ad st s _ _ _ I hw fun d v st1 s1 hq I1 p1 r1 => ?_) (fun _ => folded_no h1)
      obtain ⟨l, rfl, hlen, hq⟩ := hq
      exact compR ok (T := wC Φ.X.G Φ.C cond) (B := wE Φ.X.G Φ.C elt) h9 h4 (fun C h P okS => soundC cond (Φ.sub _ C h P) okS _ h8) (fun C h P okS => soundE0 elt (Φ.sub _ C h P) okS _ h10) I1 r1 hlen hq fun ds w s' hq' I' p' r' => hK _ _ _ _ hq' I' (p1.trans p') r'
    · cases hck
theorem soundC : ∀ (cond : Option LE) (Φ : Fx) (ok : Φ.Ok) (ifs : List Expr), ckIf Φ.scope cond ifs = true → Φ.GT (testsOf ifs Φ.env) (fun Q st => wC Φ.X.G Φ.C cond (fun d st1 => ∃ b, d = .bool b ∧ Q b st1) st)
  | none, Φ, ok, ifs, hck => by
    intro O ad st s Q K E I hw hK
    unfold ckIf at hck
    have e := List.isEmpty_iff.mp hck
    subst e
    rw [wC] at hw
    obtain ⟨b, hb, hq⟩ := hw
    cases hb
    exact wpAny_pure (hK _ _ _ hq I (Pres.refl _ _ _))
  | some le, Φ, ok, ifs, hck => by
    intro O ad st s Q K E I hw hK
    unfold ckIf at hck
    split at hck
    · obtain ⟨h1, h2⟩ := and2 hck
      rw [wC] at hw
      exact wpAny_tests_one (soundTc le Φ ok _ h1 h2 O ad st s Q K E I hw hK)
    · cases hck
theorem soundTc : ∀ (le : LE) (Φ : Fx) (ok : Φ.Ok) (e : Expr), ckE Φ.scope le e = true → condOk le = true → Φ.GT (isTrue e Φ.env (eval e Φ.env)) (fun Q st => wE Φ.X.G Φ.C le (fun d st1 => ∃ b, d = .bool b ∧ Q b st1) st)
  | .cmp o a b, Φ, ok, e, hck, _ => by
    intro O ad st s Q K E I hw hK
    unfold ckE at hck
    split at hck
    · obtain ⟨h1, h2, h3, h4⟩ := and4 hck
      have e := of_decide_eq_true h3
      subst e
      rw [wE] at hw
      refine wpAny_isTrue_Compare1 (soundE0 a Φ ok _ h1 O ad st s _ _ _ I hw fun x v st1 s1 hq I1 p1 r1 => ?_) (notT h4)
      refine soundE0 b Φ ok _ h2 O ad st1 s1 _ _ _ I1 hq fun y u st2 s2 hq2 I2 p2 r2 => ?_
      obtain ⟨z, hz, b, hb, hq3⟩ := hq2
      cases hb
      exact cmpR ok.R.cmp hz (I1.rel p2 r1) r2 (wpAny_truthy_bool (hK _ _ _ hq3 I2 (p1.trans p2)))
    · cases hck
  | .not a, Φ, ok, e, hck, hc => by
    intro O ad st s Q K E I hw hK
    unfold ckE at hck
    split at hck
    · rw [wE] at hw
      refine PyProof.Rows.isTrue_not (isTrue_plain (soundE0 a Φ ok _ hck O ad st s _ _ _ I hw fun d v st1 s1 hq I1 p1 r1 => ?_) (isTrue_default (plainLe_plain hck hc)))
      obtain ⟨b, rfl, b', hb', hq⟩ := hq
      have e := rel_bool_inv r1
      subst e
      cases hb'
      exact wpAny_truthy_bool (hK _ _ _ hq I1 p1)
    · cases hck
  | .v x, Φ, ok, e, hck, _ => by
    intro O ad st s Q K E I hw hK
    unfold ckE at hck
    split at hck
    · rw [wE] at hw
      obtain ⟨d, hx, b, rfl, hq⟩ := hw
      refine isTrue_plain (wLocal ok I hck hx fun v r => ?_) (isTrue_default rfl)
      have e := rel_bool_inv r
      subst e
      exact wpAny_truthy_bool (hK _ _ _ hq I (Pres.refl _ _ _))
    · cases hck
  | .c _, Φ, ok, e, hck, hc => nomatch hc
  | .g _, Φ, ok, e, hck, hc => nomatch hc
  | .tup _, Φ, ok, e, hck, hc => nomatch hc
  | .lst _, Φ, ok, e, hck, hc => nomatch hc
  | .sub _ _, Φ, ok, e, hck, hc => nomatch hc
  | .slc _ _ _, Φ, ok, e, hck, hc => nomatch hc
  | .bin _ _ _, Φ, ok, e, hck, hc => nomatch hc
  | .and _, Φ, ok, e, hck, hc => nomatch hc
  | .or _, Φ, ok, e, hck, hc => nomatch hc
  | .call _ _, Φ, ok, e, hck, hc => nomatch hc
  | .len _, Φ, ok, e, hck, hc => nomatch hc
  | .isi _ _, Φ, ok, e, hck, hc => nomatch hc
  | .int _, Φ, ok, e, hck, hc => nomatch hc
  | .pop _, Φ, ok, e, hck, hc => nomatch hc
  | .olen _, Φ, ok, e, hck, hc => nomatch hc
  | .osub _ _, Φ, ok, e, hck, hc => nomatch hc
  | .comp _ _ _ _, Φ, ok, e, hck, hc => nomatch hc
theorem soundEs0 : ∀ (les : List LE) (Φ : Fx) (ok : Φ.Ok) (es : List Expr), ckEs Φ.scope les es = true → ∀ pos : Pos, Φ.GEs (spliced (backTo pos (starEach es Φ.env))) les.length (wEs Φ.X.G Φ.C les)
  | [], Φ, ok, es, hck, pos => by
    intro O ad st s Q K E I hw hK
    unfold ckEs at hck
    have e := List.isEmpty_iff.mp hck
    subst e
    rw [wEs] at hw
    exact spliced_none (hK _ _ _ _ hw I (Pres.refl _ _ _) .nil rfl)
  | le :: les, Φ, ok, es, hck, pos => by
    intro O ad st s Q K E I hw hK
    unfold ckEs at hck
    split at hck
    · obtain ⟨h1, h2⟩ := and2 hck
      rw [wEs] at hw
      refine spliced_more (soundE0 le Φ ok _ h1 O ad st s _ _ _ I hw fun d v st1 s1 hq I1 p1 r1 => ?_) (ck_star h1)
      refine soundEs0 les Φ ok _ h2 pos O ad st1 s1 _ _ _ I1 hq fun ds vs st2 s2 hq2 I2 p2 r2 hl => ?_
      exact hK _ _ _ _ hq2 I2 (p1.trans p2) (.cons (I1.rel p2 r1) r2) (congrArg (· + 1) hl)
    · cases hck
theorem soundO0 : ∀ (lo : Option LE) (Φ : Fx) (ok : Φ.Ok) (x : Option Expr), ckO Φ.scope lo x = true → Φ.GO (evalPart x Φ.env) (wO Φ.X.G Φ.C lo)
  | none, Φ, ok, x, hck => by
    intro O ad st s Q K E I hw hK
    unfold ckO at hck
    have e := Option.isNone_iff_eq_none.mp hck
    subst e
    rw [wO] at hw
    exact wpAny_pure (hK _ _ _ _ hw I (Pres.refl _ _ _) .none)
  | some le, Φ, ok, x, hck => by
    intro O ad st s Q K E I hw hK
    unfold ckO at hck
    split at hck
    · rw [wO] at hw
      refine soundE0 le Φ ok _ hck O ad st s _ _ _ I hw fun d v st1 s1 hq I1 p1 r1 => ?_
      obtain ⟨n, hn, hq⟩ := hq
      exact hK _ _ _ _ hq I1 p1 (natOf_part hn r1)
    · cases hck
theorem soundAnd0 : ∀ (les : List LE) (Φ : Fx) (ok : Φ.Ok) (es : List Expr), ckEs Φ.scope les es = true → ∀ pos : Pos, Φ.GE (eval (.BoolOp .And es pos) Φ.env) (wAnd Φ.X.G Φ.C les)
  | [], Φ, ok, es, hck, pos => by
    intro O ad st s Q K E I hw hK
    rw [wAnd] at hw
    exact hw.elim
  | [le], Φ, ok, es, hck, pos => by
    intro O ad st s Q K E I hw hK
    unfold ckEs at hck
    split at hck
    · obtain ⟨h1, h2⟩ := and2 hck
      unfold ckEs at h2
      have e := List.isEmpty_iff.mp h2
      subst e
      rw [wAnd] at hw
      exact BoolOp_one (soundE0 le Φ ok _ h1 O ad st s _ _ _ I hw hK)
    · cases hck
  | le :: le' :: les, Φ, ok, es, hck, pos => by
    intro O ad st s Q K E I hw hK
    unfold ckEs at hck
    split at hck
    · rename_i x xs
      obtain ⟨h1, h2⟩ := and2 hck
      cases xs with
      | nil => unfold ckEs at h2; cases h2
      | cons y ys =>
        rw [wAnd] at hw
        refine BoolOp_and (soundE0 le Φ ok x h1 O ad st s _ _ _ I hw fun d v st1 s1 hq I1 p1 r1 => ?_)
        obtain ⟨b, rfl, hq⟩ := hq
        have e := rel_bool_inv r1
        subst e
        refine wpAny_truthy_bool ?_
        cases b with
        | true => exact soundAnd0 (le' :: les) Φ ok (y :: ys) h2 pos O ad st1 s1 _ _ _ I1 hq fun d v st2 s2 hq2 I2 p2 r2 => hK _ _ _ _ hq2 I2 (p1.trans p2) r2
        | false => exact hK _ _ _ _ hq I1 p1 rel_bool
    · cases hck
theorem soundOr0 : ∀ (les : List LE) (Φ : Fx) (ok : Φ.Ok) (es : List Expr), ckEs Φ.scope les es = true → ∀ pos : Pos, Φ.GE (eval (.BoolOp .Or es pos) Φ.env) (wOr Φ.X.G Φ.C les)
  | [], Φ, ok, es, hck, pos => by
    intro O ad st s Q K E I hw hK
    rw [wOr] at hw
    exact hw.elim
  | [le], Φ, ok, es, hck, pos => by
    intro O ad st s Q K E I hw hK
    unfold ckEs at hck
    split at hck
    · obtain ⟨h1, h2⟩ := and2 hck
      unfold ckEs at h2
      have e := List.isEmpty_iff.mp h2
      subst e
      rw [wOr] at hw
      exact BoolOp_one (soundE0 le Φ ok _ h1 O ad st s _ _ _ I hw hK)
    · cases hck
  | le :: le' :: les, Φ, ok, es, hck, pos => by
    intro O ad st s Q K E I hw hK
    unfold ckEs at hck
    split at hck
    · rename_i x xs
      obtain ⟨h1, h2⟩ := and2 hck
      cases xs with
      | nil => unfold ckEs at h2; cases h2
      | cons y ys =>
        rw [wOr] at hw
        refine BoolOp_or (soundE0 le Φ ok x h1 O ad st s _ _ _ I hw fun d v st1 s1 hq I1 p1 r1 => ?_)
        obtain ⟨b, rfl, hq⟩ := hq
        have e := rel_bool_inv r1
        subst e
        refine wpAny_truthy_bool ?_
        cases b with
        | false => exact soundOr0 (le' :: les) Φ ok (y :: ys) h2 pos O ad st1 s1 _ _ _ I1 hq fun d v st2 s2 hq2 I2 p2 r2 => hK _ _ _ _ hq2 I2 (p1.trans p2) r2
        | true => exact hK _ _ _ _ hq I1 p1 rel_bool
    · cases hck
end

section
variable {Φ : Fx} (ok : Φ.Ok)
include ok
theorem soundE (le : LE) (e : Expr) (h : ckE Φ.scope le e = true) : Φ.GE (eval e Φ.env) (wE Φ.X.G Φ.C le) := soundE0 le Φ ok e h
theorem soundEs (les : List LE) (es : List Expr) (h : ckEs Φ.scope les es = true) (pos : Pos) : Φ.GEs (spliced (backTo pos (starEach es Φ.env))) les.length (wEs Φ.X.G Φ.C les) := soundEs0 les Φ ok es h pos
end
end Mine
end

section
open PySem PyProof.Rows
namespace Mine

section
variable {Φ : Fx} (ok : Φ.Ok)
include ok

/-- a test whose value is a bool -/
theorem testOf {le : LE} {e : Expr} (hck : ckE Φ.scope le e = true) (h : plainTest e = true) :
    Φ.GT (isTrue e Φ.env (eval e Φ.env)) (fun Q st => wE Φ.X.G Φ.C le (fun d st1 => ∃ b, d = .bool b ∧ Q b st1) st) := by
  intro O ad st s Q K E I hw hK
  refine isTrue_plain (soundE ok le e hck O ad st s _ _ _ I hw fun d v st1 s1 hq I1 p1 r1 => ?_) (isTrue_default h)
  obtain ⟨b, rfl, hq⟩ := hq
  simp only [Rel] at r1
  subst r1
  exact wpAny_truthy_bool (hK _ _ _ hq I1 p1)

mutual
theorem soundT : ∀ (le : LE) (e : Expr), ckE Φ.scope le e = true → Φ.GT (isTrue e Φ.env (eval e Φ.env)) (wT Φ.X.G Φ.C le)
  | .and es, e, hck => by
    unfold ckE at hck
    split at hck
    · intro O ad st s Q K E I hw hK
      rw [wT] at hw
      exact wpAny_isTrue_BoolOp (soundAll es _ hck O ad st s Q K E I hw hK)
    · cases hck
  | .or es, e, hck => by
    unfold ckE at hck
    split at hck
    · intro O ad st s Q K E I hw hK
      rw [wT] at hw
      exact wpAny_isTrue_BoolOp (soundAny es _ hck O ad st s Q K E I hw hK)
    · cases hck
  | .not a, e, hck => by
    unfold ckE at hck
    split at hck
    · intro O ad st s Q K E I hw hK
      rw [wT] at hw
      exact PyProof.Rows.isTrue_not (soundT a _ hck O ad st s _ _ _ I hw fun b st1 s1 hq I1 p1 => hK _ _ _ hq I1 p1)
    · cases hck
  | .cmp o a b, e, hck => by
    intro O ad st s Q K E I hw hK
    unfold ckE at hck
    split at hck
    · obtain ⟨h1, h2, h3, h4⟩ := and4 hck
      have e := of_decide_eq_true h3
      subst e
      unfold wT wE at hw
      refine wpAny_isTrue_Compare1 (soundE ok a _ h1 O ad st s _ _ _ I hw fun x v st1 s1 hq I1 p1 r1 => ?_) (notT h4)
      refine soundE ok b _ h2 O ad st1 s1 _ _ _ I1 hq fun y u st2 s2 hq2 I2 p2 r2 => ?_
      obtain ⟨z, hz, b, hb, hq3⟩ := hq2
      cases hb
      exact cmpR ok.R.cmp hz (I1.rel p2 r1) r2 (wpAny_truthy_bool (hK _ _ _ hq3 I2 (p1.trans p2)))
    · cases hck
  | .c _, e, hck => testOf ok hck (by unfold ckE at hck; split at hck <;> first | rfl | cases hck)
  | .v _, e, hck => testOf ok hck (by unfold ckE at hck; split at hck <;> first | rfl | cases hck)
  | .g _, e, hck => testOf ok hck (by unfold ckE at hck; split at hck <;> first | rfl | cases hck)
  | .tup _, e, hck => testOf ok hck (by unfold ckE at hck; split at hck <;> first | rfl | cases hck)
  | .lst _, e, hck => testOf ok hck (by unfold ckE at hck; split at hck <;> first | rfl | cases hck)
  | .sub _ _, e, hck => testOf ok hck (by unfold ckE at hck; split at hck <;> first | rfl | cases hck)
  | .slc _ _ _, e, hck => testOf ok hck (by unfold ckE at hck; split at hck <;> first | rfl | cases hck)
  | .bin _ _ _, e, hck => testOf ok hck (by unfold ckE at hck; split at hck <;> first | rfl | cases hck)
  | .call _ _, e, hck => testOf ok hck (by unfold ckE at hck; split at hck <;> first | rfl | cases hck)
  | .len _, e, hck => testOf ok hck (by unfold ckE at hck; split at hck <;> first | rfl | cases hck)
  | .isi _ _, e, hck => testOf ok hck (by unfold ckE at hck; split at hck <;> first | rfl | cases hck)
  | .int _, e, hck => testOf ok hck (by unfold ckE at hck; split at hck <;> first | rfl | cases hck)
  | .pop _, e, hck => testOf ok hck (by unfold ckE at hck; split at hck <;> first | rfl | cases hck)
  | .olen _, e, hck => testOf ok hck (by unfold ckE at hck; split at hck <;> first | rfl | cases hck)
  | .osub _ _, e, hck => testOf ok hck (by unfold ckE at hck; split at hck <;> first | rfl | cases hck)
  | .comp _ _ _ _, e, hck => testOf ok hck (by unfold ckE at hck; split at hck <;> first | rfl | cases hck)
theorem soundAll : ∀ (les : List LE) (es : List Expr), ckEs Φ.scope les es = true → Φ.GT (allTrue .And es Φ.env) (wAll Φ.X.G Φ.C les)
  | [], es, hck => by
    intro O ad st s Q K E I hw hK
    unfold ckEs at hck
    have e := List.isEmpty_iff.mp hck
    subst e
    rw [wAll] at hw
    exact wpAny_allTrue_And_nil (hK _ _ _ hw I (Pres.refl _ _ _))
  | le :: les, es, hck => by
    intro O ad st s Q K E I hw hK
    unfold ckEs at hck
    split at hck
    · obtain ⟨h1, h2⟩ := and2 hck
      rw [wAll] at hw
      refine wpAny_allTrue_And_cons (soundT le _ h1 O ad st s _ _ _ I hw fun b st1 s1 hq I1 p1 => ?_)
      cases b with
      | true => exact soundAll les _ h2 O ad st1 s1 _ _ _ I1 hq fun b st2 s2 hq2 I2 p2 => hK _ _ _ hq2 I2 (p1.trans p2)
      | false => exact hK _ _ _ hq I1 p1
    · cases hck
theorem soundAny : ∀ (les : List LE) (es : List Expr), ckEs Φ.scope les es = true → Φ.GT (allTrue .Or es Φ.env) (wAny Φ.X.G Φ.C les)
  | [], es, hck => by
    intro O ad st s Q K E I hw hK
    unfold ckEs at hck
    have e := List.isEmpty_iff.mp hck
    subst e
    rw [wAny] at hw
    exact wpAny_allTrue_Or_nil (hK _ _ _ hw I (Pres.refl _ _ _))
  | le :: les, es, hck => by
    intro O ad st s Q K E I hw hK
    unfold ckEs at hck
    split at hck
    · obtain ⟨h1, h2⟩ := and2 hck
      rw [wAny] at hw
      refine wpAny_allTrue_Or_cons (soundT le _ h1 O ad st s _ _ _ I hw fun b st1 s1 hq I1 p1 => ?_)
      cases b with
      | false => exact soundAny les _ h2 O ad st1 s1 _ _ _ I1 hq fun b st2 s2 hq2 I2 p2 => hK _ _ _ hq2 I2 (p1.trans p2)
      | true => exact hK _ _ _ hq I1 p1
    · cases hck
end
end
end Mine
end

section
open PySem PyProof.Rows
namespace Mine

section
variable {h₀ : Heap} {L : Addr} {P : Addr → Prop} {O : List Addr} {ad : String → Addr} {st : St} {s₀ s : Shared}
/-- an object that is no list and no tuple is changed -/
theorem Inv.but (I : Inv h₀ L P O ad st s₀ s) {it : Addr} {o : Obj} {vs : Array Value} (ho : s.heap.get? it = some o) (hd : o.data = .fields vs) (hf : h₀.get? it = none) {h' : Heap} {tk : Nat}
    (x : ∀ b o, b ∉ [it] → s.heap.get? b = some o → h'.get? b = some o) : Inv h₀ L P O ad st s₀ { s with heap := h', toks := tk } := by
  obtain ⟨m, F, hv, hw, hi⟩ := I.vars
  have notSeq : ∀ {a : Addr} {o' : Obj} {items : Array Value} {n : Nat}, s.heap.get? a = some o' → o'.data = .seq items n → a ∉ [it] := by
    intro a o' items n e d hm
    rw [List.mem_singleton] at hm
    subst hm
    rw [ho] at e; cases e
    rw [hd] at d; cases d
  have M : Mono (Off P O) (Off P O) s.heap h' := by
    refine ⟨fun a i t => ?_, fun a i q t => ⟨q, ?_⟩⟩
    · obtain ⟨o', e, c, n, d⟩ := t
      exact ⟨o', x a o' (notSeq e d) e, c, n, d⟩
    · obtain ⟨o', e, c, n, d⟩ := t
      exact ⟨o', x a o' (notSeq e d) e, c, n, d⟩
  have hL : it ≠ L := by
    rintro rfl
    obtain ⟨o', es, ep, e, d, _⟩ := F.ns
    rw [ho] at e; cases e
    rw [hd] at d; cases d
  have F' : Fr h₀ L h' m := by
    obtain ⟨oL, es, ep, e, r⟩ := F.ns
    refine ⟨⟨oL, es, ep, x L oL (by simpa using hL.symm) e, r⟩, fun b o' e' => x b o' ?_ (F.keep b o' e'), F.above⟩
    intro hm
    rw [List.mem_singleton] at hm
    subst hm
    rw [hf] at e'; cases e'
  refine ⟨?_, fun a ha => ?_, m, F', fun y d e => ?_, fun y l e => ?_, hi⟩
  · rw [I.same]
  · obtain ⟨⟨its, n, e⟩, q⟩ := I.ownOk a ha
    exact ⟨⟨its, n, x a _ (notSeq e rfl) e⟩, q⟩
  · obtain ⟨v, h1, h2⟩ := hv y d e
    exact ⟨v, h1, Rel.mono M _ _ h2⟩
  · obtain ⟨h1, h2, us, n, h3, h4⟩ := hw y l e
    exact ⟨h1, h2, us, n, x _ _ (notSeq h3 rfl) h3, RelL.mono M _ _ h4⟩

theorem Grow.trans {O O' O'' : List Addr} {h h' : Heap} {m : Str → Option Value} (x : Grow O O' h) (y : Grow O' O'' h') (hn : h'.Ns L m) (p : ∀ b o, h.get? b = some o → b ≠ L → b ∉ O → ∃ o', h'.get? b = some o') : Grow O O'' h := by
  refine ⟨fun a ha => y.1 a (x.1 a ha), fun a ha => ?_⟩
  rcases y.2 a ha with h1 | h1
  · exact x.2 a h1
  · by_cases hO : a ∈ O
    · exact .inl hO
    · refine .inr ?_
      cases q : h.get? a with
      | none => rfl
      | some o =>
        by_cases hL : a = L
        · subst hL
          obtain ⟨o', _, _, e, _⟩ := hn
          rw [h1] at e; cases e
        · obtain ⟨o', e⟩ := p a o q hL hO
          rw [h1] at e; cases e
end

/-- how a block ends -/
noncomputable def FlRel (P : Addr → Prop) (h : Heap) : Fl → Flow → Prop
  | .next, f => f = .next
  | .ret d, f => ∃ v, f = .ret v ∧ Rel P h d v

noncomputable def Fx.GS (Φ : Fx) (t : Sem Flow) (W : (Fl → St → Prop) → St → Prop) : Prop := ∀ (O : List Addr) (ad : String → Addr) (st : St) (s : Shared) (Q : Fl → St → Prop) (K : Flow → Shared → Prop) (E : Value → Shared → Prop),
  Φ.Inv O ad st s → W Q st → (∀ fl f O' ad' st' s', Q fl st' → Φ.Inv O' ad' st' s' → Grow O O' s.heap → Pres O Φ.L s.heap s'.heap → FlRel Φ.P s'.heap fl f → K f s') → wpAny Φ.M Φ.A t K E s

section
variable {Φ : Fx} (ok : Φ.Ok)
include ok

theorem wForLoop {O : List Addr} {ad : String → Addr} {st : St} {s : Shared} {I : Addr} {fp : List Addr} {n : Nat} {Pv : Nat → Value → Prop} {S : Nat → Heap → Prop} {items : List D} {x : String} {id : Str} {px : Pos} {body : List Stmt}
    {B : (Fl → St → Prop) → St → Prop} {Q : Fl → St → Prop} {R : Result → Shared → Prop}
    (W : Walks Φ.X.prog Φ.X.w Φ.A I fp [I] n Pv S) (hobj : ∀ i h, S i h → ∃ o vs, h.get? I = some o ∧ o.data = .fields vs) (hn : items.length = n) (hI : Φ.Inv O ad st s) (hS : S 0 s.heap) (hIn : Φ.h₀.get? I = none)
    (hfp : ∀ b ∈ fp, b = I ∨ (b ≠ Φ.L ∧ b ∉ O ∧ ∃ o, s.heap.get? b = some o))
    (hrel : ∀ i d v, items[i]? = some d → Pv i v → Rel (Off Φ.P O) s.heap d v) (hck : ckL Φ.scope x id = true) (g : Φ.GS (execs body Φ.env) B)
    (hw : forL B x Q items st)
    (hR : ∀ fl f O' ad' st' s', Q fl st' → Φ.Inv O' ad' st' s' → Grow O O' s.heap → (∀ b o, s.heap.get? b = some o → b ≠ Φ.L → b ∉ O → b ≠ I → s'.heap.get? b = some o) → FlRel Φ.P s'.heap fl f → R (.ok f) s') :
    codeAny Φ.M Φ.A (.forLoop (.Name id px) (.ref I) body [] Φ.env) R s := by
  obtain ⟨oI, vI, hoI, hdI⟩ := hobj 0 _ hS
  obtain ⟨rfl, hloc, _⟩ := ckL_inv hck
  have hIO : I ∉ O := by
    intro hm
    obtain ⟨⟨its, k, e⟩, _⟩ := hI.ownOk I hm
    have := Option.some.inj (hoI.symm.trans e)
    subst this; cases hdI
  -- what the loop keeps of the heap it begins with
  have mono : ∀ {O' : List Addr} {h' : Heap}, Grow O O' s.heap → (∀ b o, s.heap.get? b = some o → b ≠ Φ.L → b ∉ O → b ≠ I → h'.get? b = some o) → Mono (Off Φ.P O) (Off Φ.P O') s.heap h' := by
    intro O' h' gr p
    obtain ⟨m, F⟩ := hI.fr
    have seqNe : ∀ {a : Addr} {o' : Obj} {items : Array Value} {n : Nat}, s.heap.get? a = some o' → o'.data = .seq items n → a ≠ Φ.L ∧ a ≠ I := by
      intro a o' items n e d
      refine ⟨?_, ?_⟩
      · rintro rfl; exact ns_not_seq F.ns e d
      · rintro rfl
        rw [hoI] at e; cases e
        rw [hdI] at d; cases d
    refine ⟨fun a i t => ?_, fun a i q t => ?_⟩
    · obtain ⟨o', e, c, n, d⟩ := t
      refine ⟨o', p a o' e (seqNe e d).1 ?_ (seqNe e d).2, c, n, d⟩
      intro hm
      obtain ⟨⟨its, k, e'⟩, _⟩ := hI.ownOk a hm
      have := Option.some.inj (e.symm.trans e')
      subst this; exact absurd c (by simp)
    · obtain ⟨o', e, c, n, d⟩ := t
      refine ⟨⟨q.1, fun hm => ?_⟩, o', p a o' e (seqNe e d).1 q.2 (seqNe e d).2, c, n, d⟩
      rcases gr.2 a hm with h1 | h1
      · exact q.2 h1
      · rw [e] at h1; cases h1
  refine codeAny_forLoop (fun k s' => ∃ i O' ad' st', k = n - i ∧ i ≤ n ∧ Φ.Inv O' ad' st' s' ∧ S i s'.heap ∧ Grow O O' s.heap ∧ (∀ b o, s.heap.get? b = some o → b ≠ Φ.L → b ∉ O → b ≠ I → s'.heap.get? b = some o) ∧ forL B x Q (items.drop i) st')
    ?_ n ⟨0, O, ad, st, rfl, Nat.zero_le _, hI, hS, Grow.refl _ _, fun _ _ e _ _ _ => e, hw⟩ (fun _ => rfl)
  rintro k s1 ⟨i, O1, ad1, st1, rfl, hi, I1, S1, gr1, p1, hw1⟩
  obtain ⟨o1, v1, ho1, hd1⟩ := hobj i _ S1
  rcases Nat.lt_or_ge i n with hlt | hge
  · -- one more item
    refine W.item i s1 _ _ hlt S1 fun v h' tk hpv S2 hx => ?_
    have I2 : Φ.Inv O1 ad1 st1 { s1 with heap := h', toks := tk } := I1.but ho1 hd1 hIn hx
    have hlt' : i < items.length := by omega
    have hd : items[i]? = some items[i] := List.getElem?_eq_getElem hlt'
    have p2 : ∀ b o, s.heap.get? b = some o → b ≠ Φ.L → b ∉ O → b ≠ I → h'.get? b = some o := fun b o e a1 a2 a3 => hx b o (by simpa using a3) (p1 b o e a1 a2 a3)
    have r : Rel (Off Φ.P O1) h' items[i] v := Rel.mono (mono gr1 p2) _ _ (hrel i _ v hd hpv)
    refine wpAny_assign_Name (wStore rfl I2 ok.hk hloc r fun s3 I3 p3 => ?_)
    have hdrop : items.drop i = items[i] :: items.drop (i + 1) := List.drop_eq_getElem_cons hlt'
    rw [hdrop] at hw1
    simp only [forL] at hw1
    refine g O1 ad1 _ s3 _ _ _ I3 hw1 fun fl f O4 ad4 st4 s4 hq I4 gr4 p4 hfl => ?_
    have hI1 : I ∉ O1 := fun hm => (gr1.2 I hm).elim hIO fun e => by rw [hoI] at e; cases e
    have hIL : I ≠ Φ.L := by
      rintro rfl
      obtain ⟨m, F⟩ := hI.fr
      obtain ⟨o', es, ep, e, d, _⟩ := F.ns
      rw [hoI] at e; cases e
      rw [hdI] at d; cases d
    have p34 : ∀ b o, h'.get? b = some o → b ≠ Φ.L → b ∉ O1 → s4.heap.get? b = some o := fun b o e a1 a2 => p4 b o (p3 b o e a1 a2) a1 a2
    have offO1 : ∀ {b : Addr} {o : Obj}, s.heap.get? b = some o → b ∉ O → b ∉ O1 := fun e hb hm => (gr1.2 _ hm).elim hb fun z => by rw [e] at z; cases z
    have p14 : ∀ b o, s.heap.get? b = some o → b ≠ Φ.L → b ∉ O → b ≠ I → s4.heap.get? b = some o := fun b o e a1 a2 a3 => p34 b o (p2 b o e a1 a2 a3) a1 (offO1 e a2)
    have gr14 : Grow O O4 s.heap := by
      obtain ⟨m3, F3⟩ := I3.fr
      refine Grow.trans gr1 gr4 F3.ns fun b o e a1 a2 => ?_
      by_cases hb : b = I
      · subst hb
        obtain ⟨o2, _, ho2, _⟩ := hobj _ _ S2
        exact ⟨o2, p3 _ _ ho2 a1 hI1⟩
      · exact ⟨o, p3 b o (p2 b o e a1 a2 hb) a1 (offO1 e a2)⟩
    cases fl with
    | next =>
      simp only [FlRel] at hfl
      subst hfl
      refine ⟨n - (i + 1), by omega, i + 1, O4, ad4, st4, rfl, hlt, I4, ?_, gr14, p14, hq⟩
      refine W.frame (i + 1) h' s4.heap S2 fun b hb o e => ?_
      rcases hfp b hb with rfl | ⟨a1, a2, o', e'⟩
      · exact p34 b o e hIL hI1
      · exact p34 b o e a1 (offO1 e' a2)
    | ret d =>
      simp only [FlRel] at hfl
      obtain ⟨v', rfl, hr⟩ := hfl
      exact hR (.ret d) _ O4 ad4 st4 s4 hq I4 gr14 p14 ⟨v', rfl, hr⟩
  · -- the end
    have e : i = n := Nat.le_antisymm hi hge
    subst e
    refine W.done s1 _ _ S1 fun h' tk hx => ?_
    have I2 : Φ.Inv O1 ad1 st1 { s1 with heap := h', toks := tk } := I1.but ho1 hd1 hIn hx
    refine wpAny_execs_nil ?_
    rw [List.drop_of_length_le (Nat.le_of_eq hn)] at hw1
    simp only [forL] at hw1
    exact hR .next _ O1 ad1 st1 _ hw1 I2 gr1 (fun b o e a1 a2 a3 => hx b o (by simpa using a3) (p1 b o e a1 a2 a3)) rfl
end
end Mine
end

section
open PySem PyProof.Rows
namespace Mine

theorem swaps_no {v : Expr} {tg : Option Expr} {n : Nat} {env : Env} (h : noComp v = true) : swapsWith v tg n env = pure false := by
  cases v <;> first | rfl | cases h
theorem noComp_List (xs : List Expr) (p : Pos) : noComp (.List xs p) = true := rfl
section
variable {Φ : Fx} (ok : Φ.Ok)
include ok

omit ok in
theorem loopEnd {O O' : List Addr} {ad : String → Addr} {st1 : St} {s s1 s' : Shared} {h2 : Heap} {I : Addr} (I1 : Φ.Inv O ad st1 s1) (p1 : Pres O Φ.L s.heap s1.heap) (X : Ext s1.heap h2) (hnone : s1.heap.get? I = none) (gr : Grow O O' h2)
    (p : ∀ b o, h2.get? b = some o → b ≠ Φ.L → b ∉ O → b ≠ I → s'.heap.get? b = some o) : Grow O O' s.heap ∧ Pres O Φ.L s.heap s'.heap := by
  obtain ⟨m, F⟩ := I1.fr
  refine ⟨⟨gr.1, fun b hb => ?_⟩, p1.trans fun b o e a1 a2 => p b o (X _ _ e) a1 a2 (fun z => by rw [z, hnone] at e; cases e)⟩
  rcases gr.2 b hb with h1 | h1
  · exact .inl h1
  · by_cases hO : b ∈ O
    · exact .inl hO
    · refine .inr ?_
      cases q : s.heap.get? b with
      | none => rfl
      | some o =>
        by_cases hL : b = Φ.L
        · subst hL
          obtain ⟨oL, _, _, e, _⟩ := F.ns
          rw [X _ _ e] at h1; cases h1
        · rw [X _ _ (p1 b o q hL hO)] at h1; cases h1

/-- a for over one of the sources -/
theorem wForStmt {src : Src} {iter : Expr} {x : String} {id : Str} {px pos : Pos} {body : List Stmt} {B : (Fl → St → Prop) → St → Prop} (hsrc : ckSrc Φ.scope src iter = true) (hck : ckL Φ.scope x id = true) (g : Φ.GS (execs body Φ.env) B) :
    Φ.GS (exec (.For (.Name id px) iter body [] pos) Φ.env) (fun Q st => wSrc Φ.X.G Φ.C src (fun l st1 => forL B x Q l st1) st) := by
  intro O ad st s Q K E I hw hK
  have hh := ok.R.hh
  cases src with
  | it e =>
    unfold ckSrc at hsrc
    dsimp only at hsrc
    unfold wSrc at hw
    dsimp only at hw
    refine wpAny_For (soundE ok e iter hsrc O ad st s _ _ _ I hw fun d v st1 s1 hq I1 p1 r1 => ?_) (fun _ => folded_no hsrc)
    obtain ⟨l, rfl, hq⟩ := hq
    simp only [Rel] at r1
    obtain ⟨a, vs, rfl, pa, ha, hr⟩ := r1
    refine wpAny_pyIter_list ha ?_
    have X : Ext s1.heap (s1.heap.push { cls := .type "list_iterator", data := .fields #[.ref a, .int 0 0] }) := Ext.push _ _
    have hne : a ≠ s1.heap.objs.size := by
      obtain ⟨o, e, _⟩ := ha
      exact Nat.ne_of_lt (Heap.lt_size e)
    have hnone : s1.heap.get? s1.heap.objs.size = none := Heap.get?_none_of_le (Nat.le_refl _)
    obtain ⟨m, F⟩ := I1.fr
    refine wForLoop ok (Walks.list hh s1.heap.objs.size a hne vs.toArray) (items := l) ?_ (by rw [List.size_toArray, hr.length]) (I1.ext X) ?_ F.fresh ?_ ?_ hck g hq ?_
    · rintro i h ⟨⟨o, e, _, d⟩, _⟩
      exact ⟨o, _, e, d⟩
    · refine ⟨⟨_, Heap.get?_push_size _ rfl, rfl, rfl⟩, ?_⟩
      obtain ⟨o, e, r⟩ := ha
      exact ⟨o, X _ _ e, r⟩
    · intro b hb
      rcases List.mem_cons.mp hb with rfl | hb
      · exact .inl rfl
      · rw [List.mem_singleton] at hb
        subst hb
        obtain ⟨o, e, _, n, d⟩ := ha
        refine .inr ⟨?_, pa.2, o, X _ _ e⟩
        rintro rfl; exact ns_not_seq F.ns e d
    · intro i d v hd hv
      obtain ⟨v', h1, h2⟩ := hr.get hd
      have e : v' = v := by
        have : vs[i]? = some v := by simpa using hv
        rw [h1] at this; exact Option.some.inj this
      subst e
      exact Rel.mono (Mono.ext X) _ _ h2
    · intro fl f O' ad' st' s' hq' I' gr p hfl
      obtain ⟨g1, g2⟩ := loopEnd I1 p1 X hnone gr p
      exact hK _ _ _ _ _ _ hq' I' g1 g2 hfl
  | rev e =>
    unfold ckSrc at hsrc
    dsimp only at hsrc
    split at hsrc
    · obtain ⟨hs1, hs2⟩ := and2 hsrc
      unfold wSrc at hw
      dsimp only at hw
      refine wpAny_For (PyProof.Rows.Call_ (wBuiltin ok I hs1 (v := .type "reversed") bl_rev ?_)) (fun _ => rfl)
      rw [ck_star hs2]
      refine callWith_type1 (soundE ok e _ hs2 O ad st s _ _ _ I hw fun d v st1 s1 hq I1 p1 r1 => ?_)
      obtain ⟨l, rfl, hq⟩ := hq
      simp only [Rel] at r1
      obtain ⟨a, vs, rfl, pa, ha, hr⟩ := r1
      refine call_reversed_list ha ?_
      have X : Ext s1.heap (s1.heap.push (revObj a ((vs.toArray.size : Int) - 1))) := Ext.push _ _
      have hit : (s1.heap.push (revObj a ((vs.toArray.size : Int) - 1))).IsRevIter s1.heap.objs.size a ((vs.toArray.size : Int) - 1) := ⟨_, Heap.get?_push_size _ rfl, rfl, rfl⟩
      refine wpAny_pyIter_revIter hit ?_
      have hne : a ≠ s1.heap.objs.size := by
        obtain ⟨o, e, _⟩ := ha
        exact Nat.ne_of_lt (Heap.lt_size e)
      have hnone : s1.heap.get? s1.heap.objs.size = none := Heap.get?_none_of_le (Nat.le_refl _)
      obtain ⟨m, F⟩ := I1.fr
      refine wForLoop ok (Walks.listRev hh s1.heap.objs.size a hne vs.toArray) (items := l.reverse) ?_ (by rw [List.size_toArray, hr.length, List.length_reverse]) (I1.ext X) ?_ F.fresh ?_ ?_ hck g hq ?_
      · rintro i h ⟨_, ⟨o, e, _, d⟩, _⟩
        exact ⟨o, _, e, d⟩
      · refine ⟨Nat.zero_le _, by simpa using hit, ?_⟩
        obtain ⟨o, e, r⟩ := ha
        exact ⟨o, X _ _ e, r⟩
      · intro b hb
        rcases List.mem_cons.mp hb with rfl | hb
        · exact .inl rfl
        · rw [List.mem_singleton] at hb
          subst hb
          obtain ⟨o, e, _, n, d⟩ := ha
          refine .inr ⟨?_, pa.2, o, X _ _ e⟩
          rintro rfl; exact ns_not_seq F.ns e d
      · intro i d v hd hv
        have hlen := hr.length
        have hi : i < l.length := by
          rcases Nat.lt_or_ge i l.reverse.length with h | h
          · simpa using h
          · rw [List.getElem?_eq_none h] at hd; cases hd
        have hd' : l[l.length - 1 - i]? = some d := by rw [← List.getElem?_reverse hi]; exact hd
        obtain ⟨v', h1, h2⟩ := hr.get hd'
        have e : v' = v := by
          have : vs[vs.length - 1 - i]? = some v := by simpa using hv
          rw [hlen, h1] at this; exact Option.some.inj this
        subst e
        exact Rel.mono (Mono.ext X) _ _ h2
      · intro fl f O' ad' st' s' hq' I' gr p hfl
        obtain ⟨g1, g2⟩ := loopEnd I1 p1 X hnone gr p
        exact hK _ _ _ _ _ _ hq' I' g1 g2 hfl
    · cases hsrc
  | range e =>
    unfold ckSrc at hsrc
    dsimp only at hsrc
    split at hsrc
    · obtain ⟨hs1, hs2⟩ := and2 hsrc
      unfold wSrc at hw
      dsimp only at hw
      refine wpAny_For (PyProof.Rows.Call_ (wBuiltin ok I hs1 (v := .type "range") bl_range ?_)) (fun _ => rfl)
      rw [ck_star hs2]
      refine callWith_type1 (soundE ok e _ hs2 O ad st s _ _ _ I hw fun d v st1 s1 hq I1 p1 r1 => ?_)
      obtain ⟨n, hn, hlt, hq⟩ := hq
      unfold natOf at hn
      split at hn
      · split at hn
        · rename_i i h0
          cases hn
          simp only [Rel] at r1
          obtain ⟨t, rfl⟩ := r1
          refine call_range_1 ?_
          have X1 : Ext s1.heap (s1.heap.push { cls := .type "range", data := .fields #[.int 0 s1.toks, .int i t, .int 1 (s1.toks + 1)] }) := Ext.push _ _
          have hsz : Builtin.Range.rangeSize 0 i 1 = i := by
            unfold Builtin.Range.rangeSize
            rw [if_pos (by omega)]
            split <;> omega
          refine wpAny_pyIter_range (r := s1.heap.objs.size) (a := 0) (b := i) (c := 1) (Heap.get?_push_size _ rfl) ?_ ?_
          · have hi : i < 1000000 := by omega
            have f1 : Builtin.Range.rangeFitsLong i = true := by
              simp only [Builtin.Range.rangeFitsLong, Bool.and_eq_true, decide_eq_true_eq]; omega
            have f2 : Builtin.Range.rangeFitsLong (i + (1 - 1)) = true := by
              simp only [Builtin.Range.rangeFitsLong, Bool.and_eq_true, decide_eq_true_eq]; omega
            unfold Builtin.Range.small
            rw [hsz, f1, if_pos (by omega), f2, Bool.or_true]
            rfl
          · rw [hsz]
            have X2 : Ext (s1.heap.push { cls := .type "range", data := .fields #[.int 0 s1.toks, .int i t, .int 1 (s1.toks + 1)] }) ((s1.heap.push { cls := .type "range", data := .fields #[.int 0 s1.toks, .int i t, .int 1 (s1.toks + 1)] }).push { cls := .type "range_iterator", data := .fields #[rawInt 0, rawInt i, rawInt 1] }) := Ext.push _ _
            have X := X1.trans X2
            have hnone : s1.heap.get? (s1.heap.push { cls := .type "range", data := .fields #[.int 0 s1.toks, .int i t, .int 1 (s1.toks + 1)] }).objs.size = none := Heap.get?_none_of_le (by simp)
            obtain ⟨m, F⟩ := I1.fr
            obtain ⟨m', F'⟩ := (I1.ext (tk := s1.toks + 1 + 1) X1).fr
            refine wForLoop ok (Walks.range hh (s1.heap.push { cls := .type "range", data := .fields #[.int 0 s1.toks, .int i t, .int 1 (s1.toks + 1)] }).objs.size 0 1 i.toNat) (items := (List.range i.toNat).map fun k : Nat => D.int (k : Int)) ?_ (by simp) ((I1.ext (tk := s1.toks + 1 + 1) X1).ext X2) ?_ F'.fresh ?_ ?_ hck g hq ?_
            · intro k h e
              exact ⟨_, _, e, rfl⟩
            · show IsRangeIter _ _ _ _ _
              have e1 : (0 : Int) + ((0 : Nat) : Int) * 1 = 0 := by omega
              have e2 : ((i.toNat : Int) - ((0 : Nat) : Int)) = i := by omega
              rw [e1, e2]
              exact Heap.get?_push_size _ rfl
            · intro b hb
              rw [List.mem_singleton] at hb
              exact .inl hb
            · rintro k d v hd ⟨t', rfl⟩
              rw [List.getElem?_map] at hd
              obtain ⟨j, hj, rfl⟩ := Option.map_eq_some_iff.mp hd
              have : j = k := by
                rw [List.getElem?_range] at hj
                · exact (Option.some.inj hj).symm
                · rcases Nat.lt_or_ge k (List.range i.toNat).length with h | h
                  · simpa using h
                  · rw [List.getElem?_eq_none h] at hj; cases hj
              subst this
              simp only [Rel]
              exact ⟨t', by congr 1; omega⟩
            · intro fl f O' ad' st' s' hq' I' gr p hfl
              obtain ⟨g1, g2⟩ := loopEnd I1 p1 X hnone gr p
              exact hK _ _ _ _ _ _ hq' I' g1 g2 hfl
        · cases hn
      · cases hn
    · cases hsrc
end
end Mine
end

section
open PySem PyProof.Rows
namespace Mine
section
variable {Φ : Fx} (ok : Φ.Ok)
include ok
theorem notInter : interactive Φ.env = false := by
  show (Φ.scope.kind == .module && _) = false
  rw [ok.hk]; rfl

theorem wUnpack {x y : String} {a b : Str} {pa pb tp pos : Pos} {k : Nat} {v : Expr} {W : (D → St → Prop) → St → Prop} (h1 : ckL Φ.scope x a = true) (h2 : ckL Φ.scope y b = true) (g : Φ.GE (eval v Φ.env) W) (hv : isName v = true) :
    Φ.GS (exec (.Assign [.Tuple [.Name a pa, .Name b pb] k tp] v pos) Φ.env) (fun Q st => W (fun d st1 => ∃ a b, d = .tup [a, b] ∧ Q .next ((st1.put x (.val a)).put y (.val b))) st) := by
  intro O ad st s Q K E I hw hK
  obtain ⟨rfl, hl1, _⟩ := ckL_inv h1
  obtain ⟨rfl, hl2, _⟩ := ckL_inv h2
  cases v <;> first | cases hv | skip
  refine Assign_Tuple (g O ad st s _ _ _ I hw fun d u st1 s1 hq I1 p1 r1 => ?_)
  obtain ⟨a, b, rfl, hq⟩ := hq
  simp only [Rel] at r1
  obtain ⟨t, vs, rfl, ht, hr⟩ := r1
  obtain ⟨v1, r1, rfl, hv1, hr1⟩ := hr.cons_inv
  obtain ⟨v2, r2, rfl, hv2, hr2⟩ := hr1.cons_inv
  have e := hr2.nil_inv
  subst e
  obtain ⟨m, news, F, N, _, _, back⟩ := I1.use
  refine unpackN_ F N ht ok.R.hh rfl rfl fun h' F' N' => ?_
  obtain ⟨I2, p2⟩ := back h' s1.toks F' N'
  refine wpAny_bind (wpAny_holding (wpAny_assign_Name (wStore rfl I2 ok.hk hl1 (I1.rel p2 hv1) fun s3 I3 p3 => ?_)))
  refine wpAny_bind (wpAny_holding (wpAny_assign_Name (wStore rfl I3 ok.hk hl2 (I2.rel p3 (I1.rel p2 hv2)) fun s4 I4 p4 => ?_)))
  exact wpAny_pure (hK .next _ O ad _ s4 hq I4 (Grow.refl _ _) (p1.trans (p2.trans (p3.trans p4))) rfl)

mutual
theorem soundS : ∀ (ls : LS) (c : Stmt), ckS Φ.scope ls c = true → Φ.GS (exec c Φ.env) (wS Φ.X.G Φ.C ls)
  | .asg x e, c, hck => by
    intro O ad st s Q K E I hw hK
    unfold ckS at hck
    split at hck
    · obtain ⟨h1, h2, h3⟩ := and3 hck
      rw [wS] at hw
      obtain ⟨rfl, hl, _⟩ := ckL_inv h1
      refine wpAny_Assign_Name (soundE ok e _ h2 O ad st s _ _ _ I hw fun d u st1 s1 hq I1 p1 r1 => ?_) (swaps_no h3)
      exact wStore rfl I1 ok.hk hl r1 fun s2 I2 p2 => hK .next _ O ad _ s2 hq I2 (Grow.refl _ _) (p1.trans p2) rfl
    · cases hck
  | .asgOwn x es, c, hck => by
    intro O ad st s Q K E I hw hK
    unfold ckS at hck
    split at hck
    · obtain ⟨h1, h2⟩ := and2 hck
      rw [wS] at hw
      obtain ⟨rfl, hl, _⟩ := ckL_inv h1
      refine wpAny_Assign_Name (wpAny_List_spliced (soundEs ok es _ h2 _ O ad st s _ _ _ I hw.1 fun ds vs st1 s1 hq I1 p1 r1 hn => ⟨by rw [hn]; exact Nat.le_trans hw.2 line1000, ?_⟩)) (swaps_no rfl)
      refine wStoreOwn rfl I1 ok.hk hl r1 fun s2 I2 p2 gr => ?_
      refine hK .next _ _ _ _ s2 hq I2 ?_ (p1.trans p2) rfl
      obtain ⟨m, F⟩ := I1.fr
      exact Grow.trans (Grow.refl _ _) gr F.ns fun b o e a1 a2 => ⟨o, p1 b o e a1 a2⟩
    · cases hck
  | .unpack2 x y e, c, hck => by
    intro O ad st s Q K E I hw hK
    unfold ckS at hck
    split at hck
    · obtain ⟨h1, h2, h3, h4⟩ := and4 hck
      rw [wS] at hw
      exact wUnpack ok h1 h2 (soundE ok e _ h3) h4 O ad st s Q K E I hw hK
    · cases hck
  | .app x e, c, hck => by
    intro O ad st s Q K E I hw hK
    unfold ckS at hck
    split at hck
    · obtain ⟨h1, h2, h3, h4⟩ := and4 hck
      rw [wS] at hw
      obtain ⟨⟨l₀, hx⟩, hw⟩ := hw
      refine wpAny_Expr (wAppend ok (Q := fun st' => Q .next st') I h1 (of_decide_eq_true h2) h3 (ck_star h4) (soundE ok e _ h4) hx hw fun st' s' hq I' p => ?_) (notInter ok) (swaps_no rfl)
      exact hK .next _ O ad st' s' hq I' (Grow.refl _ _) p rfl
    · cases hck
  | .ite t a b, c, hck => by
    intro O ad st s Q K E I hw hK
    unfold ckS at hck
    split at hck
    · obtain ⟨h1, h2, h3⟩ := and3 hck
      rw [wS] at hw
      refine wpAny_If (soundT ok t _ h1 O ad st s _ _ _ I hw fun b st1 s1 hq I1 p1 => ?_)
      have back : ∀ fl f O' ad' st' s', Q fl st' → Φ.Inv O' ad' st' s' → Grow O O' s1.heap → Pres O Φ.L s1.heap s'.heap → FlRel Φ.P s'.heap fl f → K f s' := by
        intro fl f O' ad' st' s' hq' I' gr p hfl
        obtain ⟨m, F⟩ := I1.fr
        exact hK _ _ _ _ _ _ hq' I' (Grow.trans (Grow.refl _ _) gr F.ns fun b o e a1 a2 => ⟨o, p1 b o e a1 a2⟩) (p1.trans p) hfl
      cases b with
      | true => exact soundSs a _ h2 O ad st1 s1 _ _ _ I1 hq back
      | false => exact soundSs b _ h3 O ad st1 s1 _ _ _ I1 hq back
    · cases hck
  | .while t a, c, hck => by
    intro O ad st s Q K E I hw hK
    unfold ckS at hck
    split at hck
    · obtain ⟨h1, h2⟩ := and2 hck
      rw [wS] at hw
      obtain ⟨J, ⟨n, hJ⟩, turn⟩ := hw
      refine wpAny_While (codeAny_whileLoop (fun k s' => ∃ O' ad' st', J k st' ∧ Φ.Inv O' ad' st' s' ∧ Grow O O' s.heap ∧ Pres O Φ.L s.heap s'.heap) ?_ n ⟨O, ad, st, hJ, I, Grow.refl _ _, Pres.refl _ _ _⟩)
      rintro k s1 ⟨O1, ad1, st1, hJ1, I1, gr1, p1⟩
      refine soundT ok t _ h1 O1 ad1 st1 s1 _ _ _ I1 (turn k st1 hJ1) fun b st2 s2 hq I2 p2 => ?_
      have p12 : Pres O Φ.L s.heap s2.heap := Pres.trans' p1 gr1 p2
      cases b with
      | true =>
        refine soundSs a _ h2 O1 ad1 st2 s2 _ _ _ I2 hq fun fl f O3 ad3 st3 s3 hq3 I3 gr3 p3 hfl => ?_
        have gr : Grow O O3 s.heap := by
          obtain ⟨m, F⟩ := I2.fr
          exact Grow.trans gr1 gr3 F.ns fun b o e a1 a2 => ⟨o, p12 b o e a1 a2⟩
        have p := Pres.trans' p12 gr1 p3
        cases fl with
        | next =>
          cases (show f = Flow.next from hfl)
          obtain ⟨m, hm, hJ3⟩ := hq3
          exact ⟨m, hm, O3, ad3, st3, hJ3, I3, gr, p⟩
        | ret d =>
          obtain ⟨v, rfl, hr⟩ := hfl
          exact hK (.ret d) _ O3 ad3 st3 s3 hq3 I3 gr p ⟨v, rfl, hr⟩
      | false => exact wpAny_execs_nil (hK .next _ O1 ad1 st2 s2 hq I2 gr1 p12 rfl)
    · cases hck
  | .for x src b, c, hck => by
    unfold ckS at hck
    split at hck
    · obtain ⟨h1, h2, h3⟩ := and3 hck
      exact wForStmt ok h2 h1 (soundSs b _ h3)
    · cases hck
  | .ret e, c, hck => by
    intro O ad st s Q K E I hw hK
    unfold ckS at hck
    split at hck
    · rw [wS] at hw
      refine wpAny_Return_some (soundE ok e _ hck O ad st s _ _ _ I hw fun d u st1 s1 hq I1 p1 r1 => ?_)
      exact hK (.ret d) _ O ad st1 s1 hq I1 (Grow.refl _ _) p1 ⟨u, rfl, Rel.mono (Mono.weak fun a h => h.1) _ _ r1⟩
    · cases hck
  | .retOwn x, c, hck => by
    intro O ad st s Q K E I hw hK
    unfold ckS at hck
    split at hck
    · rw [wS] at hw
      obtain ⟨l, hx, hq⟩ := hw
      refine wpAny_Return_some (wOwn ok I hck hx fun vs n ha hL hr _ => ?_)
      exact hK (.ret (.list l)) _ O ad st s hq I (Grow.refl _ _) (Pres.refl _ _ _) ⟨_, rfl, rel_list (ok.hP _ (I.ownOk _ ha).2) (isL_isList hL) (RelL.mono (Mono.weak fun a h => h.1) _ _ hr)⟩
    · cases hck
theorem soundSs : ∀ (lss : List LS) (cs : List Stmt), ckSs Φ.scope lss cs = true → Φ.GS (execs cs Φ.env) (wSs Φ.X.G Φ.C lss)
  | [], cs, hck => by
    intro O ad st s Q K E I hw hK
    unfold ckSs at hck
    have e := List.isEmpty_iff.mp hck
    subst e
    rw [wSs] at hw
    exact wpAny_execs_nil (hK .next _ O ad st s hw I (Grow.refl _ _) (Pres.refl _ _ _) rfl)
  | ls :: lss, cs, hck => by
    intro O ad st s Q K E I hw hK
    unfold ckSs at hck
    split at hck
    · obtain ⟨h1, h2⟩ := and2 hck
      rw [wSs] at hw
      refine wpAny_execs_cons (soundS ls _ h1 O ad st s _ _ _ I hw fun fl f O1 ad1 st1 s1 hq I1 gr1 p1 hfl => ?_)
      cases fl with
      | next =>
        cases (show f = Flow.next from hfl)
        refine soundSs lss _ h2 O1 ad1 st1 s1 _ _ _ I1 hq fun fl f O2 ad2 st2 s2 hq2 I2 gr2 p2 hfl2 => ?_
        obtain ⟨m, F⟩ := I1.fr
        exact hK _ _ _ _ _ _ hq2 I2 (Grow.trans gr1 gr2 F.ns fun b o e a1 a2 => ⟨o, p1 b o e a1 a2⟩) (Pres.trans' p1 gr1 p2) hfl2
      | ret d =>
        obtain ⟨v, rfl, hr⟩ := hfl
        exact hK (.ret d) _ O1 ad1 st1 s1 hq I1 gr1 p1 ⟨v, rfl, hr⟩
    · cases hck
end
end
end Mine
end

section
open PySem PyProof.Rows
namespace Mine

theorem lookup_zip : ∀ (ns : List Str) (vs : List Value), ns.Nodup → vs.length = ns.length → ∀ n ∈ ns, ((ns.zip vs).lookup n).isSome = true
  | [], _, _, _, _, h => nomatch h
  | m :: ns, [], _, hl, _, _ => by simp at hl
  | m :: ns, v :: vs, hd, hl, n, h => by
    rw [List.zip_cons_cons, List.lookup_cons]
    by_cases e : n = m
    · subst e; simp
    · have : (n == m) = false := by simpa using e
      rw [this]
      exact lookup_zip ns vs (List.nodup_cons.mp hd).2 (by simpa using hl) n ((List.mem_cons.mp h).resolve_left e)
theorem filterMap_eq {α β : Type} {f g : α → Option β} : ∀ {l : List α}, (∀ a ∈ l, f a = g a) → l.filterMap f = l.filterMap g
  | [], _ => rfl
  | a :: l, h => by
    rw [List.filterMap_cons, List.filterMap_cons, h a (.head _), filterMap_eq fun b hb => h b (.tail _ hb)]
theorem binds_zip : ∀ (ns : List Str) (vs : List Value), ns.Nodup → vs.length = ns.length → (ns.filterMap fun n => ((ns.zip vs).lookup n).map (n, ·)) = ns.zip vs
  | [], _, _, _ => rfl
  | m :: ns, [], _, hl => by simp at hl
  | m :: ns, v :: vs, hd, hl => by
    have ih := binds_zip ns vs (List.nodup_cons.mp hd).2 (by simpa using hl)
    have hm := (List.nodup_cons.mp hd).1
    rw [List.zip_cons_cons, List.filterMap_cons]
    have e1 : (((m, v) :: ns.zip vs).lookup m).map (m, ·) = some (m, v) := by simp
    rw [e1]
    simp only
    congr 1
    rw [← ih]
    refine filterMap_eq fun n hn => ?_
    rw [List.lookup_cons]
    have : (n == m) = false := by
      simp only [beq_eq_false_iff_ne]
      rintro rfl
      exact hm hn
    rw [this, ih]

theorem sem_pure_bind {α β : Type} (a : α) (f : α → Sem β) : (pure a >>= f) = f a := rfl

structure PlainParams (p : Arguments) : Prop where
  po : p.posonlyargs = []
  va : p.vararg = none
  ko : p.kwonlyargs = []
  kw : p.kwarg = none

theorem bind_plain {name : Str} {p : Arguments} {body : List Stmt} {scope : Scope} {pm cd doc : Value} {vs : List Value} (hp : PlainParams p) (hnd : (p.args.map (·.arg)).Nodup) (hl : vs.length = (p.args.map (·.arg)).length) :
    bindArgs (Calls.docDef name p body scope pm cd doc) ⟨vs, []⟩ = pure ((p.args.map (·.arg)).zip vs) := by
  unfold bindArgs Calls.docDef
  obtain ⟨po, as, va, ko, kd, kwa, ds⟩ := p
  obtain ⟨h1, h2, h3, h4⟩ := hp
  dsimp only at h1 h2 h3 h4
  subst h1 h2 h3 h4
  have hmiss : ((as.map (·.arg)).filter fun n => (((as.map (·.arg)).zip vs).lookup n).isNone) = [] := by
    rw [List.filter_eq_nil_iff]
    intro n hn
    have := lookup_zip _ _ hnd hl n hn
    simp [Option.isNone_iff_eq_none, Option.isSome_iff_ne_none] at this ⊢
    exact this
  have hb := binds_zip _ _ hnd hl
  dsimp only at hl
  have e0 : seqItems? Value.none = pure none := rfl
  have e1 : ((List.map (fun x : Arg => x.arg) as).take ((List.map (fun x : Arg => x.arg) as).length - 0)) = List.map (fun x => x.arg) as := by rw [Nat.sub_zero, List.take_length]
  have e2 : ¬ (vs.length > (List.map (fun x : Arg => x.arg) as).length) := by omega
  simp only [e0, List.map_nil, List.nil_append, List.append_nil, List.forIn_nil, sem_pure_bind, Option.getD_none, List.length_nil, List.drop_nil, Nat.sub_zero, List.take_length, List.drop_length, List.zip_nil_left, hmiss, hb, List.isEmpty_nil, Bool.not_true, Bool.false_eq_true, if_false, decide_eq_false e2, Bool.false_and]


/-- a def in the small text -/
structure LDef where
  params : List String
  body : List LS
noncomputable def ckDef (ld : LDef) (p : Arguments) (body : List Stmt) (sc : Scope) : Bool :=
  p.posonlyargs.isEmpty && p.vararg.isNone && p.kwonlyargs.isEmpty && p.kwarg.isNone && decide (p.args.map (·.arg) = ld.params.map Str.ofString) && decide ld.params.Nodup &&
  ld.params.all (fun x => decide (sc.names.lookup (Str.ofString x) = some .local)) && ckSs sc ld.body body && decide (sc.kind = .function) && !sc.isCoroutine && !sc.isGenerator && sc.names.all (fun x => decide (x.2 ≠ .cell))

noncomputable def bindSt : List String → List D → St
  | x :: xs, d :: ds => (bindSt xs ds).put x (.val d)
  | _, _ => fun _ => none
noncomputable def flD : Fl → D
  | .next => .none
  | .ret d => d

/-- the def f stands in every heap of the world -/
noncomputable def DefAt (X : Wx) (f : String) (p : Arguments) (body : List Stmt) (sc : Scope) : Prop :=
  ∃ (a : Addr) (o : Obj) (pm cd doc : Value), X.mg (Str.ofString f) = some (.ref a) ∧ o.data = .func (Calls.docDef (Str.ofString f) p body sc pm cd doc) ∧ ∀ h, X.ok h → h.get? a = some o ∧ h.CodeRec cd (Str.ofString f)
theorem DefAt.fn {X : Wx} {f : String} {p : Arguments} {body : List Stmt} {sc : Scope} (h : DefAt X f p body sc) : FnOk X f :=
  let ⟨a, o, _, _, _, h1, h2, h3⟩ := h; ⟨a, o, _, h1, h2, fun h x => (h3 h x).1⟩

theorem bindSt_get : ∀ (ps : List String) (ds : List D) (x : String) (lv : LV), bindSt ps ds x = some lv → ∃ (i : Nat) (d : D), ps[i]? = some x ∧ ds[i]? = some d ∧ lv = .val d
  | [], _, _, _, h => by simp [bindSt] at h
  | _ :: _, [], _, _, h => by simp [bindSt] at h
  | p :: ps, d :: ds, x, lv, h => by
    simp only [bindSt, St.put] at h
    by_cases e : x = p
    · subst e
      rw [if_pos rfl] at h
      exact ⟨0, d, rfl, rfl, (Option.some.inj h).symm⟩
    · rw [if_neg e] at h
      obtain ⟨i, d', h1, h2, h3⟩ := bindSt_get ps ds x lv h
      exact ⟨i + 1, d', by simpa using h1, by simpa using h2, h3⟩
theorem lookup_rev {α β : Type} [BEq α] [LawfulBEq α] : ∀ {l : List (α × β)} {a : α} {b : β}, (l.map (·.1)).Nodup → (a, b) ∈ l → l.lookup a = some b
  | (x, y) :: l, a, b, hn, h => by
    rw [List.map_cons, List.nodup_cons] at hn
    rw [List.lookup_cons]
    rcases List.mem_cons.mp h with e | h'
    · cases e; simp
    · have : (a == x) = false := by
        simp only [beq_eq_false_iff_ne]
        rintro rfl
        exact hn.1 (List.mem_map.mpr ⟨_, h', rfl⟩)
      rw [this]
      exact lookup_rev hn.2 h'

theorem nodup_ofString : ∀ {l : List String}, l.Nodup → (l.map Str.ofString).Nodup
  | [], _ => List.nodup_nil
  | a :: l, h => by
    rw [List.map_cons, List.nodup_cons]
    rw [List.nodup_cons] at h
    refine ⟨fun hm => ?_, nodup_ofString h.2⟩
    obtain ⟨b, hb, e⟩ := List.mem_map.mp hm
    rw [ofString_inj e] at hb
    exact h.1 hb

theorem callOk_of {X : Wx} (XG : X.Good) {f : String} {p : Arguments} {body : List Stmt} {sc : Scope} {ld : LDef} {C : Con} {lev : Nat} {ds : List D} {post : D → Prop} (hd : DefAt X f p body sc) (hck : ckDef ld p body sc = true)
    (hF : ∀ f, C.fn f = true → FnOk X f) (hC : ∀ f ds post, C.sp f ds post → CallOk X lev f ds post) (hlen : ds.length = ld.params.length)
    (h : wSs X.G C ld.body (fun fl _ => post (flD fl)) (bindSt ld.params ds)) : CallOk X (lev + 1) f ds post := by
  intro a ha A s P vs K E R W hP r hK
  obtain ⟨a', o, pm, cd, doc, hmg, hdata, hat⟩ := hd
  rw [ha] at hmg
  cases hmg
  unfold ckDef at hck
  simp only [Bool.and_eq_true, decide_eq_true_eq, Bool.not_eq_true', List.isEmpty_iff, Option.isNone_iff_eq_none, List.all_eq_true] at hck
  obtain ⟨⟨⟨⟨⟨⟨⟨⟨⟨⟨⟨h1, h2⟩, h3⟩, h4⟩, h5⟩, h6⟩, h7⟩, h8⟩, h9⟩, h10⟩, h11⟩, h12⟩ := hck
  have hnd : (p.args.map (·.arg)).Nodup := by
    rw [h5]; exact nodup_ofString h6
  have hvl : vs.length = (p.args.map (·.arg)).length := by rw [h5, List.length_map, r.length, hlen]
  have hbind := bind_plain (name := Str.ofString f) (body := body) (scope := sc) (pm := pm) (cd := cd) (doc := doc) ⟨h1, h2, h3, h4⟩ hnd hvl
  have hloc : ∀ x ∈ (p.args.map (·.arg)).zip vs, sc.names.lookup x.1 = some .local := by
    intro x hx
    have := (List.of_mem_zip hx).1
    rw [h5] at this
    obtain ⟨y, hy, e⟩ := List.mem_map.mp this
    rw [← e]
    exact h7 y hy
  have R1 := R.d
  have R2 := R.u
  refine wpAny_call (call_pos (by omega) (hat _ W).1 hdata (XG.nl _ W) (hat _ W).2 hbind hloc (fun h₁ F => ?_) h10 h11 h9 (fun x hx => h12 x hx))
  let Φ : Fx := { X := X, A := A.deeper (envOf (Str.ofString f) sc s.heap.objs.size a cd), lev := lev, env := envOf (Str.ofString f) sc s.heap.objs.size a cd, h₀ := s.heap, P := P, s₀ := s, C := C }
  have ok : Φ.Ok := ⟨XG, ⟨R.hh, by show A.depth + 1 + lev < recursionLimit; omega, by show A.units + 3 + 2200 + 10 * lev < cLine; omega⟩, hP, W, hF, hC, h9, rfl, rfl⟩
  have I : Φ.Inv [] (fun _ => 0) (bindSt ld.params ds) { s with heap := h₁, toks := s.toks + ((p.args.map (·.arg)).zip vs).length } := by
    refine ⟨rfl, fun a ha => (nomatch ha), _, F, fun x d e => ?_, fun x l e => ?_, fun x y l k e _ => ?_⟩
    · obtain ⟨i, d', e1, e2, e3⟩ := bindSt_get _ _ _ _ e
      cases e3
      obtain ⟨v, hv, hr⟩ := r.get e2
      refine ⟨v, ?_, Rel.mono ((Mono.ext F.keep).trans (Mono.weak fun a h => ⟨h, by simp⟩)) _ _ hr⟩
      refine lookup_rev ?_ ?_
      · rw [List.map_reverse]
        rw [List.map_fst_zip (by omega)]
        exact List.pairwise_reverse.mpr (hnd.imp fun h => h.symm)
      · rw [List.mem_reverse]
        have : ((p.args.map (·.arg)).zip vs)[i]? = some (Str.ofString x, v) := by
          rw [List.getElem?_zip_eq_some]
          refine ⟨?_, hv⟩
          rw [h5, List.getElem?_map, e1]; rfl
        exact List.mem_of_getElem? this
    · obtain ⟨i, d', _, _, e3⟩ := bindSt_get _ _ _ _ e
      cases e3
    · obtain ⟨i, d', _, _, e3⟩ := bindSt_get _ _ _ _ e
      cases e3
  refine soundSs ok ld.body body h8 [] (fun _ => 0) _ _ _ _ _ I h fun fl fw O' ad' st' s' hq I' gr pr hfl => ?_
  obtain ⟨m, F'⟩ := I'.fr
  have hs := I'.same
  have key : ∀ v, Rel P s'.heap (flD fl) v → K v s' := by
    intro v hr
    rw [hs]
    exact hK _ v s'.heap s'.toks hq F'.keep hr
  cases fl with
  | next =>
    simp only [FlRel] at hfl
    subst hfl
    exact key _ (by simp only [flD, Rel])
  | ret d =>
    simp only [FlRel] at hfl
    obtain ⟨v, rfl, hr⟩ := hfl
    exact key v hr
end Mine
end

section
open PySem PyProof.Rows
namespace Mine

theorem Rm.le {lev : Nat} {A : Around} (h : Rm (lev + 1) A) : Rm lev A := ⟨h.hh, by have := h.d; omega, by have := h.u; omega⟩
theorem CallOk.le {X : Wx} {lev : Nat} {f : String} {ds : List D} {post : D → Prop} (h : CallOk X lev f ds post) : CallOk X (lev + 1) f ds post :=
  fun a ha A s P vs K E R W hP r hK => h a ha A s P vs K E R.le W hP r hK

structure Lib (X : Wx) (C : Con) (lev : Nat) : Prop where
  F : ∀ f, C.fn f = true → FnOk X f
  S : ∀ f ds post, C.sp f ds post → CallOk X lev f ds post

noncomputable def Con.none : Con := ⟨fun _ => false, fun _ _ _ => False⟩
noncomputable def Con.add (C : Con) (f : String) (sp : List D → (D → Prop) → Prop) : Con := ⟨fun g => decide (g = f) || C.fn g, fun g ds post => (g = f ∧ sp ds post) ∨ C.sp g ds post⟩
theorem Con.fnew {C : Con} {f : String} {sp : List D → (D → Prop) → Prop} : (C.add f sp).fn f = true := by simp [Con.add]
theorem Con.fold {C : Con} {f g : String} {sp : List D → (D → Prop) → Prop} (h : C.fn g = true) : (C.add f sp).fn g = true := by simp [Con.add, h]
theorem Con.snew {C : Con} {f : String} {sp : List D → (D → Prop) → Prop} {ds : List D} {post : D → Prop} (h : sp ds post) : (C.add f sp).sp f ds post := .inl ⟨rfl, h⟩
theorem Con.sold {C : Con} {f g : String} {sp : List D → (D → Prop) → Prop} {ds : List D} {post : D → Prop} (h : C.sp g ds post) : (C.add f sp).sp g ds post := .inr h
theorem Lib.none (X : Wx) : Lib X Con.none 0 := ⟨fun _ h => by simp [Con.none] at h, fun _ _ _ h => h.elim⟩

noncomputable def findDef (p : Program) (f : String) : Option DefRec := (recsOf p).find? fun d => d.name == Str.ofString f
noncomputable def ckTab (p : Program) (f : String) (ld : LDef) : Bool := match findDef p f with
  | some d => ckDef ld d.params d.body d.scope
  | none => false

/-- the world behind a text's top: all heaps that keep it -/
structure IsTop (X : Wx) (p : Program) : Prop where
  top : ∃ (loose : List Str) (mean : ExcName → Option Value) (h₁ : Heap), Top p loose mean X.mg X.mb h₁ ∧ X.ok = Ext h₁

theorem IsTop.defAt {X : Wx} {p : Program} (T : IsTop X p) {f : String} {ld : LDef} (h : ckTab p f ld = true) : ∃ pa body sc, DefAt X f pa body sc ∧ ckDef ld pa body sc = true := by
  unfold ckTab at h
  split at h
  · rename_i d e
    refine ⟨d.params, d.body, d.scope, ?_, h⟩
    have hm := List.mem_of_find?_eq_some e
    have hn : d.name = Str.ofString f := beq_iff_eq.mp (List.find?_some (p := fun d : DefRec => d.name == Str.ofString f) e)
    obtain ⟨loose, mean, h₁, T, eok⟩ := T.top
    obtain ⟨a, o, pm, code, doc, g1, g2, g3, g4⟩ := T.fn d hm
    rw [hn] at g1 g3 g4
    refine ⟨a, o, pm, code, doc, g1, g3, fun h x => ?_⟩
    rw [eok] at x
    exact ⟨x _ _ g2, g4.keeps x⟩
  · cases h

theorem Lib.add {X : Wx} (XG : X.Good) {p : Program} (T : IsTop X p) {C : Con} {lev : Nat} (L : Lib X C lev) {f : String} {ld : LDef} {sp : List D → (D → Prop) → Prop} (hck : ckTab p f ld = true)
    (h : ∀ ds post, sp ds post → ds.length = ld.params.length ∧ wSs X.G C ld.body (fun fl _ => post (flD fl)) (bindSt ld.params ds)) : Lib X (C.add f sp) (lev + 1) := by
  obtain ⟨pa, body, sc, hd, hc⟩ := T.defAt hck
  refine ⟨fun g hg => ?_, fun g ds post hs => ?_⟩
  · simp only [Con.add, Bool.or_eq_true, decide_eq_true_eq] at hg
    rcases hg with rfl | hg
    · exact hd.fn
    · exact L.F g hg
  · rcases hs with ⟨rfl, hs⟩ | hs
    · obtain ⟨hl, hw⟩ := h ds post hs
      exact callOk_of XG hd hc L.F L.S hl hw
    · exact (L.S g ds post hs).le
end Mine
end

section
open PySem PyProof.Rows
namespace Mine

theorem ofString_beq (a b : String) : (Str.ofString a == Str.ofString b) = decide (a = b) := by
  by_cases h : a = b
  · subst h; simp
  · simp [h, show Str.ofString a ≠ Str.ofString b from fun e => h (ofString_inj e)]

section
variable (a b : Str) (i j k : Int) (x y : Bool) (l m : List D) (d e : D)
theorem eqb_ss : D.eqb (.str a) (.str b) = (a == b) := rfl
theorem eqb_ii : D.eqb (.int i) (.int j) = (i == j) := rfl
theorem eqb_bb : D.eqb (.bool x) (.bool y) = (x == y) := rfl
theorem dep_s : D.dep (.str a) = 0 := rfl
theorem dep_i : D.dep (.int i) = 0 := rfl
theorem dep_b : D.dep (.bool x) = 0 := rfl
theorem dep_t : D.dep (.tup l) = D.depL l + 1 := rfl
theorem dep_l : D.dep (.list l) = D.depL l + 1 := rfl
theorem depL_n : D.depL [] = 0 := rfl
theorem depL_c : D.depL (d :: l) = max d.dep (D.depL l) := rfl
theorem subD_t : subD (.tup l) (.int k) = idxL l k := rfl
theorem subD_l : subD (.list l) (.int k) = idxL l k := rfl
theorem subD_s : subD (.str a) (.int k) = (idxL a.cps.toList k).map fun c => .str ⟨#[c]⟩ := rfl
theorem cmpD_eq : cmpD .eq d e = if d.dep ≤ 2000 then some (D.eqb d e) else none := rfl
theorem cmpD_ne : cmpD .ne d e = if d.dep ≤ 2000 then some (!D.eqb d e) else none := rfl
theorem cmpD_lt : cmpD .lt (.int i) (.int j) = some (decide (i < j)) := rfl
theorem cmpD_le : cmpD .le (.int i) (.int j) = some (decide (i ≤ j)) := rfl
theorem cmpD_gt : cmpD .gt (.int i) (.int j) = some (decide (j < i)) := rfl
theorem cmpD_ge : cmpD .ge (.int i) (.int j) = some (decide (j ≤ i)) := rfl
theorem cmpD_in : cmpD .isin d (.tup l) = if D.depL l ≤ 2000 then some (l.any fun x => D.eqb x d) else none := rfl
theorem binD_add : binD .add (.int i) (.int j) = some (.int (i + j)) := rfl
theorem binD_adds : binD .add (.str a) (.str b) = if a.length + b.length ≤ 100000 then some (.str (a ++ b)) else none := rfl
theorem binD_sub : binD .sub (.int i) (.int j) = some (.int (i - j)) := rfl
theorem binD_fdiv : binD .fdiv (.int i) (.int j) = if j = 0 ∨ 1073741824 ≤ j.natAbs then none else some (.int (i.fdiv j)) := rfl
theorem binD_mod : binD .mod (.int i) (.int j) = if j = 0 then none else some (.int (i.fmod j)) := rfl
theorem lenD_l : lenD (.list l) = if l.length ≤ 100000 then some (l.length : Int) else none := rfl
theorem lenD_t : lenD (.tup l) = if l.length ≤ 100000 then some (l.length : Int) else none := rfl
theorem lenD_s : lenD (.str a) = if a.length ≤ 100000 then some (a.length : Int) else none := rfl
theorem slcD_l (lo hi : Option Nat) : slcD (.list l) lo hi = if l.length ≤ 100000 then some (.list (cut l lo hi)) else none := rfl
theorem natOf_i : natOf (.int i) = if 0 ≤ i then some i.toNat else none := rfl
theorem flD_r : flD (.ret d) = d := rfl
theorem flD_n : flD .next = .none := rfl
theorem isi_bb : isiD (.bool x) "bool" = some true := rfl
end

inductive Pat where
  | sign (s : Str)
  | any
  | none
  | row (p q : Pat)
  | or (p q : Pat)
  | more (p : Pat)
  | less (p : Pat)
  | group (n : Int) (p : Pat)

noncomputable abbrev S (x : String) : D := .str (Str.ofString x)
noncomputable def enc : Pat → D
  | .sign s => .tup [S "sign", .str s]
  | .any => .tup [S "any"]
  | .none => .tup [S "none"]
  | .row p q => .tup [S "row", enc p, enc q]
  | .or p q => .tup [S "or", enc p, enc q]
  | .more p => .tup [S "more", enc p]
  | .less p => .tup [S "less", enc p]
  | .group n p => .tup [S "group", .int n, enc p]
noncomputable def Pat.kids : Pat → List Pat
  | .row p q => [p, q]
  | .or p q => [p, q]
  | .more p => [p]
  | .less p => [p]
  | .group _ p => [p]
  | _ => []
noncomputable def Pat.parts : Pat → List Pat
  | .row p q => .row p q :: (p.parts ++ q.parts)
  | .or p q => .or p q :: (p.parts ++ q.parts)
  | .more p => .more p :: p.parts
  | .less p => .less p :: p.parts
  | .group n p => .group n p :: p.parts
  | p => [p]
noncomputable def Pat.nul : Pat → Bool
  | .none => true
  | .more _ => true
  | .less _ => true
  | .row p q => p.nul && q.nul
  | .or p q => p.nul || q.nul
  | .group _ p => p.nul
  | _ => false

noncomputable def G1 (x : String) : Option D := if x = "ROUNDS" then some (.tup [S "more", S "less"]) else if x = "PAIRS" then some (.tup [S "row", S "or"]) else Option.none

noncomputable def Linner : LDef := ⟨["part"],
  [.ite (.cmp .isin (.sub (.v "part") (.c (.int 0))) (.g "ROUNDS"))
     [.ret (.lst [.sub (.v "part") (.c (.int 1))])]
     [],
   .ite (.cmp .isin (.sub (.v "part") (.c (.int 0))) (.g "PAIRS"))
     [.ret (.lst [.sub (.v "part") (.c (.int 1)), .sub (.v "part") (.c (.int 2))])]
     [],
   .ite (.cmp .eq (.sub (.v "part") (.c (.int 0))) (.c (.str (Str.ofString "group"))))
     [.ret (.lst [.sub (.v "part") (.c (.int 2))])]
     [],
   .ret (.lst [])]⟩

end Mine
end

section
open PySem PyProof.Rows
namespace Mine

noncomputable def Lparts : LDef := ⟨["pattern"],
  [.asgOwn "found" [],
   .asgOwn "waiting" [.v "pattern"],
   .while (.cmp .gt (.olen "waiting") (.c (.int 0)))
     [.asg "part" (.pop "waiting"),
     .app "found" (.v "part"),
     .for "one" (.rev (.call "inner" [.v "part"]))
       [.app "waiting" (.v "one")]],
   .retOwn "found"]⟩

noncomputable def tabA : Str := Str.ofString " !\"#$&'()*+,-./0123456789:;<=>?@ABCDEFGHIJKLMNOPQRSTUVWXYZ[\\]^_`"
noncomputable def tabB : Str := Str.ofString "abcdefghijklmnopqrstuvwxyz{|}~\n"
noncomputable def L_law_sign : LDef := ⟨["_law_cell"],
  [.asg "_law_some" (.c (.str tabA)),
   .asg "_law_some" (.bin .add (.v "_law_some") (.c (.str tabB))),
   .ret (.sub (.v "_law_some") (.bin .mod (.v "_law_cell") (.c (.int 95))))]⟩
theorem tab_len : tabA.length + tabB.length ≤ 100000 := by decide +kernel
theorem tab_size : (tabA ++ tabB).cps.toList.length = 95 := by decide +kernel
noncomputable def signAt (c : Int) : Str := ⟨#[((tabA ++ tabB).cps.toList[(c.fmod 95).toNat]?).getD 0]⟩
theorem fmod_lt (c : Int) {k : Int} (hk : 0 < k) : 0 ≤ c.fmod k ∧ c.fmod k < k := ⟨Int.fmod_nonneg_of_pos c hk, Int.fmod_lt_of_pos c hk⟩
theorem sign_idx (c : Int) : idxL (tabA ++ tabB).cps.toList (c.fmod 95) = some (((tabA ++ tabB).cps.toList[(c.fmod 95).toNat]?).getD 0) := by
  have h := fmod_lt c (k := 95) (by decide)
  have hl := tab_size
  unfold idxL
  rw [if_pos ⟨h.1, by omega⟩]
  have : (c.fmod 95).toNat < (tabA ++ tabB).cps.toList.length := by rw [hl]; omega
  rw [List.getElem?_eq_getElem this]
  rfl
theorem sign_w (G : String → Option D) (C : Con) (c : Int) (post : D → Prop) (h : post (.str (signAt c))) : wSs G C L_law_sign.body (fun fl _ => post (flD fl)) (bindSt L_law_sign.params [.int c]) := by
  simp only [L_law_sign, bindSt, wSs, wS, wEs, wE]
  refine ⟨.str tabA, by simp [St.put], .str (tabA ++ tabB), by rw [binD_adds, if_pos tab_len], .str (tabA ++ tabB), by simp [St.put], .int c, by simp [St.put], .int (c.fmod 95), by simp [binD_mod], .str (signAt c), ?_, h⟩
  rw [subD_s, sign_idx]
  rfl
noncomputable def L_law_cell_at : LDef := ⟨["_law_script", "_law_k"],
  [.ite (.cmp .lt (.v "_law_k") (.len (.v "_law_script")))
     [.ret (.sub (.v "_law_script") (.v "_law_k"))]
     [],
   .ret (.c (.int 0))]⟩
theorem cell_at_w (G : String → Option D) (C : Con) (ns : List Int) (hn : ns.length ≤ 100000) (k : Nat) (hk : k < 1000000) (post : D → Prop) (h : post (.int (ns[k]?.getD 0))) :
    wSs G C L_law_cell_at.body (fun fl _ => post (flD fl)) (bindSt L_law_cell_at.params [.list (ns.map D.int), .int k]) := by
  simp only [L_law_cell_at, bindSt, wSs, wS, wT, wEs, wE]
  refine ⟨.int k, by simp [St.put], .list (ns.map D.int), by simp [St.put], (ns.length : Int), by simp [lenD_l, hn], _, rfl, _, rfl, ?_⟩
  by_cases hlt : k < ns.length
  · rw [if_pos (by simpa using hlt)]
    refine ⟨.list (ns.map D.int), by simp [St.put], .int k, by simp [St.put], .int ns[k], ?_, ?_⟩
    · rw [subD_l]
      unfold idxL
      rw [if_pos ⟨by omega, by omega⟩]
      simp [hlt]
    · simpa [flD_r, hlt] using h
  · rw [if_neg (by simpa using hlt)]
    rw [List.getElem?_eq_none (by omega)] at h
    exact h

structure HasSign (C : Con) : Prop where
  fn : C.fn "_law_sign" = true
  sp : ∀ c (post : D → Prop), post (.str (signAt c)) → C.sp "_law_sign" [.int c] post

theorem two_last {α : Type} {pile : List α} (h : 2 ≤ pile.length) : ∃ ps p q, pile = ps ++ [p, q] := by
  rcases List.eq_nil_or_concat pile with rfl | ⟨l, q, rfl⟩
  · simp at h
  · rcases List.eq_nil_or_concat l with rfl | ⟨l', p, rfl⟩
    · simp at h
    · exact ⟨l', p, q, by simp⟩
theorem one_last {α : Type} {pile : List α} (h : pile.length ≠ 0) : ∃ ps p, pile = ps ++ [p] := by
  rcases List.eq_nil_or_concat pile with rfl | ⟨l, q, rfl⟩
  · simp at h
  · exact ⟨l, q, by simp⟩

end Mine
end

section
open PySem PyProof.Rows
namespace Mine

mutual
theorem eqb_refl : ∀ d : D, D.eqb d d = true
  | .none => rfl
  | .bool b => by simp [eqb_bb]
  | .int i => by simp [eqb_ii]
  | .str s => by simp [eqb_ss]
  | .tup l => by show D.eqbL l l = true; exact eqbL_refl l
  | .list l => by show D.eqbL l l = true; exact eqbL_refl l
theorem eqbL_refl : ∀ l : List D, D.eqbL l l = true
  | [] => rfl
  | d :: l => by show (D.eqb d d && D.eqbL l l) = true; rw [eqb_refl d, eqbL_refl l]; rfl
end
theorem depL_le {l : List D} {n : Nat} (h : ∀ d ∈ l, d.dep ≤ n) : D.depL l ≤ n := by
  induction l with
  | nil => exact Nat.zero_le _
  | cons d l ih =>
    rw [depL_c]
    exact Nat.max_le.mpr ⟨h d (.head _), ih fun e he => h e (.tail _ he)⟩
theorem dep_enc : ∀ p : Pat, (enc p).dep ≤ p.parts.length
  | .sign _ => by simp [enc, dep_t, depL_c, depL_n, dep_s, Pat.parts]
  | .any => by simp [enc, dep_t, depL_c, depL_n, dep_s, Pat.parts]
  | .none => by simp [enc, dep_t, depL_c, depL_n, dep_s, Pat.parts]
  | .row p q => by
    have h1 := dep_enc p
    have h2 := dep_enc q
    simp [enc, dep_t, depL_c, depL_n, dep_s, Pat.parts]; omega
  | .or p q => by
    have h1 := dep_enc p
    have h2 := dep_enc q
    simp [enc, dep_t, depL_c, depL_n, dep_s, Pat.parts]; omega
  | .more p => by
    have h1 := dep_enc p
    simp [enc, dep_t, depL_c, depL_n, dep_s, Pat.parts]; omega
  | .less p => by
    have h1 := dep_enc p
    simp [enc, dep_t, depL_c, depL_n, dep_s, Pat.parts]; omega
  | .group n p => by
    have h1 := dep_enc p
    simp [enc, dep_t, depL_c, depL_n, dep_s, dep_i, Pat.parts]; omega
theorem binD_addl (l m : List D) : binD .add (.list l) (.list m) = if l.length + m.length ≤ 100000 then some (.list (l ++ m)) else none := rfl
theorem binD_addt (l m : List D) : binD .add (.tup l) (.tup m) = if l.length + m.length ≤ 100000 then some (.tup (l ++ m)) else none := rfl
theorem binD_mul (i j : Int) : binD .mul (.int i) (.int j) = if i.natAbs < 18446744073709551616 then some (.int (i * j)) else none := rfl
theorem binD_pow (i j : Int) : binD .pow (.int i) (.int j) = if i.natAbs < 18446744073709551616 ∧ 0 ≤ j ∧ j ≤ 1000000 then some (.int (i ^ j.toNat)) else none := rfl
theorem intD_b (b : Bool) : intD (.bool b) = some (.int (if b then 1 else 0)) := rfl
theorem isi_ll (l : List D) : isiD (.list l) "list" = some true := rfl
theorem isi_tt (l : List D) : isiD (.tup l) "tuple" = some true := rfl
theorem isi_ii (i : Int) : isiD (.int i) "int" = some true := rfl
theorem isi_ib (i : Int) : isiD (.int i) "bool" = some false := rfl

/-- the numbers of the groups -/
noncomputable def nums : List Pat → List D
  | [] => []
  | .group n _ :: l => .int n :: nums l
  | _ :: l => nums l
noncomputable def numT (x : String) : LE := .cmp .eq (.sub (.v x) (.c (.int 0))) (.c (.str (Str.ofString "group")))
noncomputable def numB (x : String) : LE := .sub (.v x) (.c (.int 1))
noncomputable def Pat.isGroup : Pat → Bool
  | .group _ _ => true
  | _ => false
noncomputable def Lnumbers : LDef := ⟨["pattern"],
  [.ret (.comp (numB "part") "part" (.call "parts" [.v "pattern"]) (some (numT "part")))]⟩
theorem forL_all {B : (Fl → St → Prop) → St → Prop} {Q : Fl → St → Prop} {x : String} : ∀ (l : List D) (st : St), (∀ d ∈ l, ∀ (Q' : Fl → St → Prop) (st' : St), st' x = some (.val d) → Q' .next st' → B Q' st') → (∀ st' : St, (∀ z, z ≠ x → st' z = st z) → Q .next st') → forL B x Q l st
  | [], st, hB, h => by
    simp only [forL]
    exact h st fun _ _ => rfl
  | d :: l, st, hB, h => by
    simp only [forL]
    refine hB d (.head _) _ _ (by simp [St.put]) ?_
    refine forL_all l _ (fun e he => hB e (.tail _ he)) fun st' hz => h st' fun z hn => ?_
    rw [hz z hn]
    simp [St.put, hn]

theorem enc_tup (p : Pat) : ∃ l, enc p = .tup l := by cases p <;> exact ⟨_, rfl⟩
theorem eqb_tc (d : D) (l : List D) : D.eqb (.tup (d :: l)) (.tup []) = false := rfl
theorem eqb_tn : D.eqb (.tup []) (.tup []) = true := rfl
theorem slcD_t (l : List D) (k : Nat) : slcD (.tup l) (some k) none = if 1 ≤ k ∧ k ≤ l.length ∧ l.length ≤ 100000 then some (.tup (l.drop k)) else none := rfl
theorem isi_sb (b : Bool) : isiD (.bool b) "bool" = some true := rfl
theorem isi_ti (l : List D) : isiD (.tup l) "int" = some false := rfl
end Mine
end

section
open PySem PyProof.Rows
namespace Mine

/-- what lies ahead: a part, or the close of a group -/
inductive Item where
  | pat (p : Pat)
  | close (n : Int)
noncomputable def Item.d : Item → D
  | .pat p => enc p
  | .close n => .tup [S "close", .int n]
noncomputable def Item.size : Item → Nat
  | .pat p => p.parts.length
  | .close _ => 1
theorem Item.dep (i : Item) : i.d.dep ≤ i.size := by
  cases i with
  | pat p => exact dep_enc p
  | close n => simp [Item.d, Item.size, dep_t, depL_c, depL_n, dep_s, dep_i]
noncomputable def restD (l : List Item) : D := .tup (l.map Item.d)
noncomputable def stD (x : List Item × Nat) : D := .tup [restD x.1, .int (x.2 : Int)]
noncomputable def chAt (text : Str) (k : Nat) : Option Str := (text.cps.toList[k]?).map fun c => ⟨#[c]⟩

noncomputable def nextS (text : Str) : List Item → Nat → List (List Item × Nat)
  | [], _ => []
  | .pat (.sign s) :: b, k => if chAt text k = some s then [(b, k + 1)] else []
  | .pat .any :: b, k => if k < text.length then [(b, k + 1)] else []
  | .pat (.row p q) :: b, k => [(.pat p :: .pat q :: b, k)]
  | .pat (.or p q) :: b, k => [(.pat p :: b, k), (.pat q :: b, k)]
  | .pat (.more p) :: b, k => [(.pat p :: .pat (.more p) :: b, k), (b, k)]
  | .pat (.less p) :: b, k => [(b, k), (.pat p :: .pat (.less p) :: b, k)]
  | .pat (.group n p) :: b, k => [(.pat p :: .close n :: b, k)]
  | .pat .none :: b, k => [(b, k)]
  | .close _ :: b, k => [(b, k)]

/-- all is small -/
structure Small (text : Str) (x : List Item × Nat) (n : Nat) : Prop where
  each : ∀ i ∈ x.1, i.size ≤ 100
  len : x.1.length ≤ n
  place : x.2 ≤ text.length
theorem Small.dep {text : Str} {x : List Item × Nat} {n : Nat} (h : Small text x n) : (restD x.1).dep ≤ 101 := by
  unfold restD
  rw [dep_t]
  refine Nat.succ_le_succ (depL_le fun d hd => ?_)
  obtain ⟨i, hi, rfl⟩ := List.mem_map.mp hd
  exact Nat.le_trans i.dep (h.each i hi)
theorem chAt_lt {text : Str} {k : Nat} {s : Str} (h : chAt text k = some s) : k < text.length := by
  unfold chAt at h
  rcases Nat.lt_or_ge k text.cps.toList.length with q | q
  · simpa [Str.length] using q
  · rw [List.getElem?_eq_none q] at h; cases h
theorem chAt_some {text : Str} {k : Nat} (h : k < text.length) : ∃ s, chAt text k = some s := by
  unfold chAt
  have : k < text.cps.toList.length := by simpa [Str.length] using h
  rw [List.getElem?_eq_getElem this]
  exact ⟨_, rfl⟩
theorem subD_ch {text : Str} {k : Nat} {s : Str} (h : chAt text k = some s) (hk : k < 1000000) : subD (.str text) (.int (k : Int)) = some (.str s) := by
  rw [subD_s]
  unfold idxL
  rw [if_pos ⟨by omega, by omega⟩]
  unfold chAt at h
  rw [Int.toNat_natCast]
  obtain ⟨c, hc, rfl⟩ := Option.map_eq_some_iff.mp h
  rw [hc]; rfl
theorem next_small {text : Str} : ∀ {l : List Item} {k n : Nat}, Small text (l, k) n → ∀ x ∈ nextS text l k, Small text x (n + 1)
  | [], k, n, h, x, hx => by simp [nextS] at hx
  | .close m :: b, k, n, h, x, hx => by
    simp [nextS] at hx; subst hx
    obtain ⟨h1, h2, h3⟩ := h
    exact ⟨fun i hi => h1 i (.tail _ hi), by simp at h2 ⊢; omega, h3⟩
  | .pat p :: b, k, n, h, x, hx => by
    obtain ⟨h1, h2, h3⟩ := h
    have hp : p.parts.length ≤ 100 := h1 (.pat p) (.head _)
    have hb : ∀ i ∈ b, i.size ≤ 100 := fun i hi => h1 i (.tail _ hi)
    simp only [List.length_cons] at h2
    cases p with
    | sign s =>
      simp only [nextS] at hx
      split at hx
      · rename_i q
        have := chAt_lt q
        simp at hx; subst hx
        exact ⟨hb, by simp; omega, by simp; omega⟩
      · simp at hx
    | any =>
      simp only [nextS] at hx
      split at hx
      · simp at hx; subst hx
        exact ⟨hb, by simp; omega, by simp; omega⟩
      · simp at hx
    | none => simp [nextS] at hx; subst hx; exact ⟨hb, by simp; omega, h3⟩
    | row p q =>
      simp [nextS] at hx; subst hx
      simp [Pat.parts] at hp
      refine ⟨?_, by simp; omega, h3⟩
      intro i hi
      simp at hi
      rcases hi with rfl | rfl | hi
      · simp [Item.size]; omega
      · simp [Item.size]; omega
      · exact hb i hi
    | or p q =>
      simp [nextS] at hx
      simp [Pat.parts] at hp
      rcases hx with rfl | rfl
      · refine ⟨?_, by simp; omega, h3⟩
        intro i hi
        simp at hi
        rcases hi with rfl | hi
        · simp [Item.size]; omega
        · exact hb i hi
      · refine ⟨?_, by simp; omega, h3⟩
        intro i hi
        simp at hi
        rcases hi with rfl | hi
        · simp [Item.size]; omega
        · exact hb i hi
    | more p =>
      simp [nextS] at hx
      have hp' : (Pat.more p).parts.length ≤ 100 := hp
      simp [Pat.parts] at hp
      rcases hx with rfl | rfl
      · refine ⟨?_, by simp; omega, h3⟩
        intro i hi
        simp at hi
        rcases hi with rfl | rfl | hi
        · simp [Item.size]; omega
        · exact hp'
        · exact hb i hi
      · exact ⟨hb, by simp; omega, h3⟩
    | less p =>
      simp [nextS] at hx
      have hp' : (Pat.less p).parts.length ≤ 100 := hp
      simp [Pat.parts] at hp
      rcases hx with rfl | rfl
      · exact ⟨hb, by simp; omega, h3⟩
      · refine ⟨?_, by simp; omega, h3⟩
        intro i hi
        simp at hi
        rcases hi with rfl | rfl | hi
        · simp [Item.size]; omega
        · exact hp'
        · exact hb i hi
    | group m p =>
      simp [nextS] at hx; subst hx
      simp [Pat.parts] at hp
      refine ⟨?_, by simp; omega, h3⟩
      intro i hi
      simp at hi
      rcases hi with rfl | rfl | hi
      · simp [Item.size]; omega
      · simp [Item.size]
      · exact hb i hi
theorem next_two {text : Str} : ∀ (l : List Item) (k : Nat), (nextS text l k).length ≤ 2
  | [], _ => by simp [nextS]
  | .close _ :: _, _ => by simp [nextS]
  | .pat p :: b, k => by cases p <;> simp only [nextS] <;> (try split) <;> simp

noncomputable def Lfirst_state : LDef := ⟨["pattern"],
  [.ret (.tup [.tup [.v "pattern"], .c (.int 0)])]⟩
theorem first_w (G : String → Option D) (C : Con) (p : Pat) (post : D → Prop) (h : post (stD ([.pat p], 0))) : wSs G C Lfirst_state.body (fun fl _ => post (flD fl)) (bindSt Lfirst_state.params [enc p]) := by
  simp [Lfirst_state, bindSt, wSs, wS, wE, wEs, St.put, flD_r]
  exact h

noncomputable def Lis_end : LDef := ⟨["state", "text"],
  [.ret (.and [.cmp .eq (.sub (.v "state") (.c (.int 0))) (.tup []), .cmp .eq (.sub (.v "state") (.c (.int 1))) (.len (.v "text"))])]⟩
noncomputable def atEnd (text : Str) (x : List Item × Nat) : Bool := x.1.isEmpty && decide (x.2 = text.length)
theorem is_end_w (G : String → Option D) (C : Con) (text : Str) (ht : text.length ≤ 1000) (x : List Item × Nat) (n : Nat) (hs : Small text x n) (post : D → Prop) (h : post (.bool (atEnd text x))) :
    wSs G C Lis_end.body (fun fl _ => post (flD fl)) (bindSt Lis_end.params [stD x, .str text]) := by
  have hd := hs.dep
  obtain ⟨l, k⟩ := x
  have hlt : text.length ≤ 100000 := by omega
  cases l with
  | nil =>
    simp [Lis_end, bindSt, wSs, wS, wE, wEs, wAnd, St.put, flD_r, stD, restD, subD_t, idxL, cmpD_eq, dep_t, depL_n, eqb_tn, lenD_s, hlt, dep_i, eqb_ii]
    by_cases e : k = text.length
    · exact .inr ⟨by simp [e], by simpa [atEnd, e] using h⟩
    · exact .inl ⟨by omega, by simpa [atEnd, e] using h⟩
  | cons i l =>
    have hd' : (D.tup (List.map Item.d (i :: l))).dep ≤ 2000 := Nat.le_trans hd (by omega)
    simp only [List.map_cons] at hd'
    simp [Lis_end, bindSt, wSs, wS, wE, wEs, wAnd, St.put, flD_r, stD, restD, subD_t, idxL, cmpD_eq, hd', eqb_tc, lenD_s, hlt, dep_i, eqb_ii]
    simpa [atEnd] using h

noncomputable def onT : List LS :=
  [.ite (.cmp .eq (.v "word") (.c (.str (Str.ofString "sign"))))
     [.ite (.and [.cmp .lt (.v "place") (.len (.v "text")), .cmp .eq (.sub (.v "text") (.v "place")) (.sub (.v "thing") (.c (.int 1)))])
       [.ret (.lst [.tup [.v "behind", .bin .add (.v "place") (.c (.int 1))]])]
       [],
     .ret (.lst [])]
     [],
   .ite (.cmp .eq (.v "word") (.c (.str (Str.ofString "any"))))
     [.ite (.cmp .lt (.v "place") (.len (.v "text")))
       [.ret (.lst [.tup [.v "behind", .bin .add (.v "place") (.c (.int 1))]])]
       [],
     .ret (.lst [])]
     [],
   .ite (.cmp .eq (.v "word") (.c (.str (Str.ofString "row"))))
     [.ret (.lst [.tup [.bin .add (.tup [.sub (.v "thing") (.c (.int 1)), .sub (.v "thing") (.c (.int 2))]) (.v "behind"), .v "place"]])]
     [],
   .ite (.cmp .eq (.v "word") (.c (.str (Str.ofString "or"))))
     [.ret (.lst [.tup [.bin .add (.tup [.sub (.v "thing") (.c (.int 1))]) (.v "behind"), .v "place"], .tup [.bin .add (.tup [.sub (.v "thing") (.c (.int 2))]) (.v "behind"), .v "place"]])]
     [],
   .ite (.cmp .eq (.v "word") (.c (.str (Str.ofString "more"))))
     [.ret (.lst [.tup [.bin .add (.tup [.sub (.v "thing") (.c (.int 1)), .v "thing"]) (.v "behind"), .v "place"], .tup [.v "behind", .v "place"]])]
     [],
   .ite (.cmp .eq (.v "word") (.c (.str (Str.ofString "less"))))
     [.ret (.lst [.tup [.v "behind", .v "place"], .tup [.bin .add (.tup [.sub (.v "thing") (.c (.int 1)), .v "thing"]) (.v "behind"), .v "place"]])]
     [],
   .ite (.cmp .eq (.v "word") (.c (.str (Str.ofString "group"))))
     [.ret (.lst [.tup [.bin .add (.tup [.sub (.v "thing") (.c (.int 2)), .tup [.c (.str (Str.ofString "close")), .sub (.v "thing") (.c (.int 1))]]) (.v "behind"), .v "place"]])]
     [],
   .ret (.lst [.tup [.v "behind", .v "place"]])]
noncomputable def Lonward : LDef := ⟨["state", "text"],
  .unpack2 "rest" "place" (.v "state") ::
   .ite (.cmp .eq (.v "rest") (.tup []))
     [.ret (.lst [])]
     [] ::
   .asg "thing" (.sub (.v "rest") (.c (.int 0))) ::
   .asg "behind" (.slc (.v "rest") (some (.c (.int 1))) none) ::
   .asg "word" (.sub (.v "thing") (.c (.int 0))) :: onT⟩
noncomputable def dueT : List LS :=
  [.ite (.cmp .eq (.sub (.v "_law_thing") (.c (.int 0))) (.c (.str (Str.ofString "row"))))
     [.ret (.lst [.tup [.bin .add (.tup [.sub (.v "_law_thing") (.c (.int 1)), .sub (.v "_law_thing") (.c (.int 2))]) (.v "_law_behind"), .v "_law_place"]])]
     [],
   .ite (.cmp .eq (.sub (.v "_law_thing") (.c (.int 0))) (.c (.str (Str.ofString "or"))))
     [.ret (.lst [.tup [.bin .add (.tup [.sub (.v "_law_thing") (.c (.int 1))]) (.v "_law_behind"), .v "_law_place"], .tup [.bin .add (.tup [.sub (.v "_law_thing") (.c (.int 2))]) (.v "_law_behind"), .v "_law_place"]])]
     [],
   .ite (.cmp .eq (.sub (.v "_law_thing") (.c (.int 0))) (.c (.str (Str.ofString "more"))))
     [.ret (.lst [.tup [.bin .add (.tup [.sub (.v "_law_thing") (.c (.int 1)), .v "_law_thing"]) (.v "_law_behind"), .v "_law_place"], .tup [.v "_law_behind", .v "_law_place"]])]
     [],
   .ite (.cmp .eq (.sub (.v "_law_thing") (.c (.int 0))) (.c (.str (Str.ofString "less"))))
     [.ret (.lst [.tup [.v "_law_behind", .v "_law_place"], .tup [.bin .add (.tup [.sub (.v "_law_thing") (.c (.int 1)), .v "_law_thing"]) (.v "_law_behind"), .v "_law_place"]])]
     [],
   .ite (.cmp .eq (.sub (.v "_law_thing") (.c (.int 0))) (.c (.str (Str.ofString "group"))))
     [.ret (.lst [.tup [.bin .add (.tup [.sub (.v "_law_thing") (.c (.int 2)), .tup [.c (.str (Str.ofString "close")), .sub (.v "_law_thing") (.c (.int 1))]]) (.v "_law_behind"), .v "_law_place"]])]
     [],
   .ret (.lst [.tup [.v "_law_behind", .v "_law_place"]])]
noncomputable def dueM : LS :=
  .ite (.or [.cmp .eq (.sub (.v "_law_thing") (.c (.int 0))) (.c (.str (Str.ofString "sign"))), .cmp .eq (.sub (.v "_law_thing") (.c (.int 0))) (.c (.str (Str.ofString "any")))])
     [.ite (.or [.cmp .eq (.v "_law_place") (.len (.v "_law_text")), .and [.cmp .eq (.sub (.v "_law_thing") (.c (.int 0))) (.c (.str (Str.ofString "sign"))), .cmp .ne (.sub (.v "_law_thing") (.c (.int 1))) (.sub (.v "_law_text") (.v "_law_place"))]])
       [.ret (.lst [])]
       [],
     .ret (.lst [.tup [.v "_law_behind", .bin .add (.v "_law_place") (.c (.int 1))]])]
     []
noncomputable def L_law_due : LDef := ⟨["_law_rest", "_law_place", "_law_text"],
  .ite (.cmp .eq (.len (.v "_law_rest")) (.c (.int 0)))
     [.ret (.lst [])]
     [] ::
   .asg "_law_thing" (.sub (.v "_law_rest") (.c (.int 0))) ::
   .asg "_law_behind" (.slc (.v "_law_rest") (some (.c (.int 1))) none) :: dueM :: dueT⟩

section
variable {G : String → Option D} {C : Con}
theorem ite_skip {e : LE} {W w : Str} {A T : List LS} {Q : Fl → St → Prop} {st : St} (he : ∀ Q' : D → St → Prop, Q' (.str w) st → wE G C e Q' st) (hne : (w == W) = false) (h : wSs G C T Q st) : wSs G C (.ite (.cmp .eq e (.c (.str W))) A [] :: T) Q st := by
  simp only [wSs, wS, wT, wE]
  exact he _ ⟨false, by rw [cmpD_eq, dep_s, if_pos (by omega), eqb_ss, hne], false, rfl, h⟩
theorem ite_take {e : LE} {W w : Str} {A T : List LS} {Q : Fl → St → Prop} {st : St} (he : ∀ Q' : D → St → Prop, Q' (.str w) st → wE G C e Q' st) (hne : (w == W) = true)
    (h : wSs G C A (fun fl st1 => match fl with | .next => wSs G C T Q st1 | .ret d => Q (.ret d) st1) st) : wSs G C (.ite (.cmp .eq e (.c (.str W))) A [] :: T) Q st := by
  simp only [wSs, wS, wT, wE]
  exact he _ ⟨true, by rw [cmpD_eq, dep_s, if_pos (by omega), eqb_ss, hne], true, rfl, h⟩
end
noncomputable def Item.word : Item → String
  | .close _ => "close"
  | .pat (.sign _) => "sign"
  | .pat .any => "any"
  | .pat .none => "none"
  | .pat (.row _ _) => "row"
  | .pat (.or _ _) => "or"
  | .pat (.more _) => "more"
  | .pat (.less _) => "less"
  | .pat (.group _ _) => "group"
theorem Item.word_d (i : Item) : subD i.d (.int 0) = some (S i.word) := by
  cases i with
  | close n => rfl
  | pat p => cases p <;> rfl

structure OnSt (text : Str) (i : Item) (b : List Item) (k : Nat) (st : St) : Prop where
  text : st "text" = some (.val (.str text))
  thing : st "thing" = some (.val i.d)
  behind : st "behind" = some (.val (restD b))
  place : st "place" = some (.val (.int (k : Int)))
  word : st "word" = some (.val (S i.word))
theorem onT_w (G : String → Option D) (C : Con) (text : Str) (ht : text.length ≤ 1000) (i : Item) (b : List Item) (k : Nat) (hb : b.length ≤ 1000) (hk : k ≤ text.length) (st : St) (I : OnSt text i b k st) (post : D → Prop) (h : post (.list ((nextS text (i :: b) k).map stD))) :
    wSs G C onT (fun fl _ => post (flD fl)) st := by
  obtain ⟨h1, h2, h3, h4, h5⟩ := I
  have he : ∀ Q' : D → St → Prop, Q' (S i.word) st → wE G C (.v "word") Q' st := fun Q' hq => by
    simp only [wE]; exact ⟨_, h5, hq⟩
  have b2 : 1 + b.length ≤ 100000 := by omega
  have b3 : 2 + b.length ≤ 100000 := by omega
  have hlt : text.length ≤ 100000 := by omega
  unfold onT
  cases i with
  | close m =>
    repeat (refine ite_skip he ?hh ?_; (case hh => (simp [ofString_beq, Item.word]; done)))
    simp [wSs, wS, wE, wEs, h3, h4, flD_r]
    simpa [nextS, stD] using h
  | pat p =>
    cases p with
    | sign s =>
      refine ite_take he (by simp [ofString_beq, Item.word]) ?_
      simp only [Item.d, enc] at h2
      by_cases hlt' : k < text.length
      · obtain ⟨c, hc⟩ := chAt_some hlt'
        have hsub := subD_ch hc (by omega)
        simp [wSs, wS, wT, wAll, wE, wEs, h1, h2, h3, h4, flD_r, lenD_s, hlt, cmpD_lt, cmpD_eq, hsub, subD_t, idxL, dep_s, eqb_ss, binD_add, hlt']
        simp only [nextS, hc, Option.some.injEq] at h
        by_cases hcs : c = s
        · rw [if_pos hcs] at h
          exact .inr ⟨hcs, by simpa [stD] using h⟩
        · rw [if_neg hcs] at h
          exact .inl ⟨hcs, by simpa using h⟩
      · have hn : chAt text k ≠ some s := fun e => hlt' (chAt_lt e)
        simp [wSs, wS, wT, wAll, wE, wEs, h1, h2, h3, h4, flD_r, lenD_s, hlt, cmpD_lt, show text.length ≤ k by omega]
        exact .inl (by simpa [nextS, hn] using h)
    | any =>
      refine ite_skip he (by simp [ofString_beq, Item.word]) ?_
      refine ite_take he (by simp [ofString_beq, Item.word]) ?_
      by_cases hlt' : k < text.length
      · simp [wSs, wS, wT, wAll, wE, wEs, h1, h3, h4, flD_r, lenD_s, hlt, cmpD_lt, binD_add, hlt']
        simpa [nextS, hlt', stD] using h
      · simp [wSs, wS, wT, wAll, wE, wEs, h1, h3, h4, flD_r, lenD_s, hlt, cmpD_lt, show text.length ≤ k by omega]
        simpa [nextS, hlt'] using h
    | none =>
      repeat (refine ite_skip he ?hh ?_; (case hh => (simp [ofString_beq, Item.word]; done)))
      simp [wSs, wS, wE, wEs, h3, h4, flD_r]
      simpa [nextS, stD] using h
    | _ =>
      repeat (refine ite_skip he ?hh ?_; (case hh => (simp [ofString_beq, Item.word]; done)))
      refine ite_take he (by simp [ofString_beq, Item.word]) ?_
      simp only [Item.d, enc] at h2
      simp only [restD] at h3
      simp [wSs, wS, wE, wEs, h2, h3, h4, flD_r, subD_t, idxL, binD_addt, b2, b3]
      simpa [nextS, stD, restD, Item.d, enc, S] using h
theorem onward_w (G : String → Option D) (C : Con) (text : Str) (ht : text.length ≤ 1000) (x : List Item × Nat) (n : Nat) (hn : n ≤ 1000) (hs : Small text x n) (post : D → Prop) (h : post (.list ((nextS text x.1 x.2).map stD))) :
    wSs G C Lonward.body (fun fl _ => post (flD fl)) (bindSt Lonward.params [stD x, .str text]) := by
  have hd := hs.dep
  have hl := hs.len
  have hk := hs.place
  obtain ⟨l, k⟩ := x
  cases l with
  | nil =>
    simp only [Lonward, bindSt, wSs, wS, wT, wE, wEs, wO]
    exact ⟨stD ([], k), by simp [St.put], restD [], .int (k : Int), rfl, restD [], by simp [St.put], ⟨true, rfl, true, rfl, by simpa [nextS, flD_r] using h⟩, by simp⟩
  | cons i b =>
    have hd' : (restD (i :: b)).dep ≤ 2000 := Nat.le_trans hd (by omega)
    simp only [List.length_cons] at hl hk h
    simp only [Lonward, bindSt, wSs, wS, wT, wE, wEs, wO]
    refine ⟨stD (i :: b, k), by simp [St.put], restD (i :: b), .int (k : Int), rfl, restD (i :: b), by simp [St.put], ⟨false, by rw [cmpD_eq, if_pos hd']; rfl, false, rfl, ?_⟩, by simp⟩
    refine ⟨restD (i :: b), by simp [St.put], i.d, by simp [restD, subD_t, idxL], restD (i :: b), by simp [St.put], 1, by simp [natOf_i], restD b, by simp [restD, slcD_t]; omega, i.d, by simp [St.put], S i.word, i.word_d, ?_⟩
    exact onT_w G C text ht i b k (by omega) hk _ ⟨by simp [St.put], by simp [St.put], by simp [St.put], by simp [St.put], by simp [St.put]⟩ post h

structure DueSt (text : Str) (i : Item) (b : List Item) (k : Nat) (st : St) : Prop where
  text : st "_law_text" = some (.val (.str text))
  thing : st "_law_thing" = some (.val i.d)
  behind : st "_law_behind" = some (.val (restD b))
  place : st "_law_place" = some (.val (.int (k : Int)))
theorem dueT_w (G : String → Option D) (C : Con) (text : Str) (ht : text.length ≤ 1000) (i : Item) (b : List Item) (k : Nat) (hb : b.length ≤ 1000) (hk : k ≤ text.length) (st : St) (I : DueSt text i b k st) (post : D → Prop) (h : post (.list ((nextS text (i :: b) k).map stD))) :
    wSs G C (dueM :: dueT) (fun fl _ => post (flD fl)) st := by
  obtain ⟨h1, h2, h3, h4⟩ := I
  have hw := i.word_d
  have he : ∀ Q' : D → St → Prop, Q' (S i.word) st → wE G C (.sub (.v "_law_thing") (.c (.int 0))) Q' st := fun Q' hq => by
    simp only [wE]; exact ⟨_, h2, _, hw, hq⟩
  have b2 : 1 + b.length ≤ 100000 := by omega
  have b3 : 2 + b.length ≤ 100000 := by omega
  have hlt : text.length ≤ 100000 := by omega
  have other : i.word ≠ "sign" → i.word ≠ "any" → wSs G C dueT (fun fl _ => post (flD fl)) st → wSs G C (dueM :: dueT) (fun fl _ => post (flD fl)) st := by
    intro n1 n2 hT
    simp [wSs, wS, wT, wAny, wE, dueM, h2, hw, cmpD_eq, dep_s, eqb_ss, ofString_beq, n1, n2]
    exact hT
  cases i with
  | close m =>
    refine other (by simp [Item.word]) (by simp [Item.word]) ?_
    unfold dueT
    repeat (refine ite_skip he ?hh ?_; (case hh => (simp [ofString_beq, Item.word]; done)))
    simp [wSs, wS, wE, wEs, h3, h4, flD_r]
    simpa [nextS, stD] using h
  | pat p =>
    cases p with
    | sign s =>
      simp only [Item.word] at hw
      simp only [Item.d, enc] at h2
      by_cases hlt' : k < text.length
      · obtain ⟨c, hc⟩ := chAt_some hlt'
        have hsub := subD_ch hc (by omega)
        have hne : ¬ ((k : Int) = (text.length : Int)) := by omega
        simp [wSs, wS, wT, wAny, wAll, wE, wEs, dueM, h1, h2, h3, h4, flD_r, lenD_s, hlt, cmpD_eq, cmpD_ne, hsub, subD_t, idxL, dep_s, dep_i, eqb_ii, eqb_ss, binD_add, ofString_beq, hne]
        simp only [nextS, hc, Option.some.injEq] at h
        by_cases hcs : c = s
        · rw [if_pos hcs] at h
          exact .inl ⟨hcs.symm, by simpa [stD] using h⟩
        · rw [if_neg hcs] at h
          exact .inr ⟨fun e => hcs e.symm, by simpa using h⟩
      · have hn : chAt text k ≠ some s := fun e => hlt' (chAt_lt e)
        have hne : ((k : Int) = (text.length : Int)) := by omega
        simp [wSs, wS, wT, wAny, wAll, wE, wEs, dueM, h1, h2, h3, h4, flD_r, lenD_s, hlt, cmpD_eq, cmpD_ne, subD_t, idxL, dep_s, dep_i, eqb_ii, eqb_ss, binD_add, ofString_beq, hne]
        simpa [nextS, hn] using h
    | any =>
      simp only [Item.d, enc] at h2
      by_cases hlt' : k < text.length
      · have hne : ¬ ((k : Int) = (text.length : Int)) := by omega
        simp [wSs, wS, wT, wAny, wAll, wE, wEs, dueM, h1, h2, h3, h4, flD_r, lenD_s, hlt, cmpD_eq, cmpD_ne, subD_t, idxL, dep_s, dep_i, eqb_ii, eqb_ss, binD_add, ofString_beq, hne]
        simpa [nextS, hlt', stD] using h
      · have hne : ((k : Int) = (text.length : Int)) := by omega
        simp [wSs, wS, wT, wAny, wAll, wE, wEs, dueM, h1, h2, h3, h4, flD_r, lenD_s, hlt, cmpD_eq, cmpD_ne, subD_t, idxL, dep_s, dep_i, eqb_ii, eqb_ss, binD_add, ofString_beq, hne]
        simpa [nextS, hlt', stD] using h
    | none =>
      refine other (by simp [Item.word]) (by simp [Item.word]) ?_
      unfold dueT
      repeat (refine ite_skip he ?hh ?_; (case hh => (simp [ofString_beq, Item.word]; done)))
      simp [wSs, wS, wE, wEs, h3, h4, flD_r]
      simpa [nextS, stD] using h
    | _ =>
      refine other (by simp [Item.word]) (by simp [Item.word]) ?_
      unfold dueT
      repeat (refine ite_skip he ?hh ?_; (case hh => (simp [ofString_beq, Item.word]; done)))
      refine ite_take he (by simp [ofString_beq, Item.word]) ?_
      simp only [Item.d, enc] at h2
      simp only [restD] at h3
      simp [wSs, wS, wE, wEs, h2, h3, h4, flD_r, subD_t, idxL, binD_addt, b2, b3]
      simpa [nextS, stD, restD, Item.d, enc, S] using h
theorem due_w (G : String → Option D) (C : Con) (text : Str) (ht : text.length ≤ 1000) (x : List Item × Nat) (n : Nat) (hn : n ≤ 1000) (hs : Small text x n) (post : D → Prop) (h : post (.list ((nextS text x.1 x.2).map stD))) :
    wSs G C L_law_due.body (fun fl _ => post (flD fl)) (bindSt L_law_due.params [restD x.1, .int (x.2 : Int), .str text]) := by
  have hl := hs.len
  have hk := hs.place
  obtain ⟨l, k⟩ := x
  cases l with
  | nil =>
    simp only [L_law_due, bindSt, wSs, wS, wT, wE, wEs, wO]
    exact ⟨restD [], by simp [St.put], 0, rfl, true, rfl, true, rfl, by simpa [nextS, flD_r] using h⟩
  | cons i b =>
    simp only [List.length_cons] at hl hk h
    simp only [L_law_due, bindSt, wSs, wS, wT, wE, wEs, wO]
    refine ⟨restD (i :: b), by simp [St.put], ((b.length + 1 : Nat) : Int), by simp [restD, lenD_t]; omega, false, ?_, false, rfl, ?_⟩
    · rw [cmpD_eq, dep_i, if_pos (by omega), eqb_ii]
      congr 1
    · refine ⟨restD (i :: b), by simp [St.put], i.d, by simp [restD, subD_t, idxL], restD (i :: b), by simp [St.put], 1, by simp [natOf_i], restD b, by simp [restD, slcD_t]; omega, ?_⟩
      exact dueT_w G C text ht i b k (by omega) hk _ ⟨by simp [St.put], by simp [St.put], by simp [St.put], by simp [St.put]⟩ post h

noncomputable def L_law_is_state : LDef := ⟨["_law_found"],
  [.ite (.or [.not (.isi (.v "_law_found") "tuple"), .cmp .ne (.len (.v "_law_found")) (.c (.int 2)), .not (.isi (.sub (.v "_law_found") (.c (.int 0))) "tuple")])
     [.ret (.c (.bool false))]
     [],
   .ret (.and [.isi (.sub (.v "_law_found") (.c (.int 1))) "int", .not (.isi (.sub (.v "_law_found") (.c (.int 1))) "bool")])]⟩

theorem is_state_w (G : String → Option D) (C : Con) (x : List Item × Nat) (post : D → Prop) (h : post (.bool true)) : wSs G C L_law_is_state.body (fun fl _ => post (flD fl)) (bindSt L_law_is_state.params [stD x]) := by
  simp [L_law_is_state, bindSt, wSs, wS, wT, wAny, wE, wEs, wAnd, St.put, flD_r, stD, isi_tt, lenD_t, cmpD_ne, dep_i, eqb_ii, subD_t, idxL, restD, isi_ii, isi_ib, h]
noncomputable def L_law_leaf : LDef := ⟨["_law_cell", "_law_head"],
  [.ite (.and [.cmp .eq (.bin .mod (.v "_law_cell") (.c (.int 6))) (.c (.int 5)), .cmp .eq (.bin .mod (.bin .fdiv (.v "_law_cell") (.c (.int 6))) (.c (.int 3))) (.c (.int 0))])
     [.ret (.tup [.tup [.c (.str (Str.ofString "none"))], .c (.bool true)])]
     [],
   .ite (.cmp .eq (.bin .mod (.v "_law_cell") (.c (.int 6))) (.c (.int 5)))
     [.ret (.tup [.tup [.c (.str (Str.ofString "any"))], .c (.bool false)])]
     [],
   .ite (.cmp .eq (.bin .mod (.v "_law_cell") (.c (.int 6))) (.c (.int 4)))
     [.ret (.tup [.tup [.c (.str (Str.ofString "sign")), .call "_law_sign" [.bin .fdiv (.v "_law_cell") (.c (.int 6))]], .c (.bool false)])]
     [],
   .ret (.tup [.tup [.c (.str (Str.ofString "sign")), .call "_law_sign" [.sub (.lst [.v "_law_head", .bin .fdiv (.v "_law_head") (.c (.int 95))]) (.int (.cmp .eq (.bin .mod (.v "_law_cell") (.c (.int 6))) (.c (.int 3))))]], .c (.bool false)])]⟩

noncomputable abbrev PB := Pat × Bool
noncomputable def PB.d (x : PB) : D := .tup [enc x.1, .bool x.2]
theorem leaf_w (G : String → Option D) (C : Con) (hs : HasSign C) (c hd : Int) (post : D → Prop) (h : ∀ x : PB, x.1.parts.length = 1 → post x.d) :
    wSs G C L_law_leaf.body (fun fl _ => post (flD fl)) (bindSt L_law_leaf.params [.int c, .int hd]) := by
  have s1 : ∀ c, C.sp "_law_sign" [D.int c] fun d => post (.tup [.tup [.str (Str.ofString "sign"), d], .bool false]) := fun c => hs.sp c _ (h (.sign (signAt c), false) rfl)
  have s2 : post (.tup [.tup [.str (Str.ofString "any")], .bool false]) := h (.any, false) rfl
  have s3 : post (.tup [.tup [.str (Str.ofString "none")], .bool true]) := h (.none, true) rfl
  by_cases c3 : c.fmod 6 = 3 <;>
    simp [L_law_leaf, wSs, wS, wT, wAll, wE, wEs, bindSt, St.put, binD_mod, binD_fdiv, cmpD_eq, dep_i, eqb_ii, flD_r, hs.fn, s1, s2, s3, subD_l, idxL, intD_b, c3]
noncomputable def L_law_two : LDef := ⟨["_law_cell", "_law_left", "_law_right"],
  [.ite (.cmp .eq (.bin .mod (.v "_law_cell") (.c (.int 2))) (.c (.int 0)))
     [.ret (.tup [.tup [.c (.str (Str.ofString "row")), .sub (.v "_law_left") (.c (.int 0)), .sub (.v "_law_right") (.c (.int 0))], .and [.sub (.v "_law_left") (.c (.int 1)), .sub (.v "_law_right") (.c (.int 1))]])]
     [],
   .ret (.tup [.tup [.c (.str (Str.ofString "or")), .sub (.v "_law_left") (.c (.int 0)), .sub (.v "_law_right") (.c (.int 0))], .or [.sub (.v "_law_left") (.c (.int 1)), .sub (.v "_law_right") (.c (.int 1))]])]⟩

theorem two_w (G : String → Option D) (C : Con) (c : Int) (x y : PB) (post : D → Prop) (h : ∀ r : PB, r.1.parts.length = 1 + x.1.parts.length + y.1.parts.length → post r.d) :
    wSs G C L_law_two.body (fun fl _ => post (flD fl)) (bindSt L_law_two.params [.int c, x.d, y.d]) := by
  have s1 := fun b => h (.row x.1 y.1, b) (by simp [Pat.parts]; omega)
  have s2 := fun b => h (.or x.1 y.1, b) (by simp [Pat.parts]; omega)
  obtain ⟨p, a⟩ := x
  obtain ⟨q, b⟩ := y
  simp only [PB.d, enc, S] at s1 s2
  simp [L_law_two, wSs, wS, wT, wAll, wE, wEs, wAnd, wOr, bindSt, St.put, binD_mod, binD_fdiv, cmpD_eq, dep_i, eqb_ii, flD_r, PB.d, subD_t, idxL]
  cases a <;> by_cases hc : c.fmod 2 = 0 <;> simp [hc] <;> first | exact s1 _ | exact s2 _
noncomputable def L_law_round : LDef := ⟨["_law_cell", "_law_part", "_law_head"],
  [.asg "_law_inside" (.sub (.v "_law_part") (.c (.int 0))),
   .ite (.sub (.v "_law_part") (.c (.int 1)))
     [.asg "_law_inside" (.tup [.c (.str (Str.ofString "row")), .tup [.c (.str (Str.ofString "sign")), .call "_law_sign" [.v "_law_head"]], .v "_law_inside"])]
     [],
   .ret (.tup [.sub (.lst [.tup [.c (.str (Str.ofString "more")), .v "_law_inside"], .tup [.c (.str (Str.ofString "less")), .v "_law_inside"]]) (.bin .mod (.v "_law_cell") (.c (.int 2))), .c (.bool true)])]⟩

theorem round_w (G : String → Option D) (C : Con) (hs : HasSign C) (c hd : Int) (x : PB) (post : D → Prop) (h : ∀ r : PB, r.1.parts.length ≤ 3 + x.1.parts.length → post r.d) :
    wSs G C L_law_round.body (fun fl _ => post (flD fl)) (bindSt L_law_round.params [.int c, x.d, .int hd]) := by
  have hm := fmod_lt c (k := 2) (by decide)
  have hc : c.fmod 2 = 0 ∨ c.fmod 2 = 1 := by omega
  obtain ⟨p, a⟩ := x
  have s1 := h (.more p, true) (by simp [Pat.parts]; omega)
  have s2 := h (.less p, true) (by simp [Pat.parts]; omega)
  have s3 := fun c => h (.more (.row (.sign (signAt c)) p), true) (by simp [Pat.parts]; omega)
  have s4 := fun c => h (.less (.row (.sign (signAt c)) p), true) (by simp [Pat.parts]; omega)
  simp only [PB.d, enc, S] at s1 s2 s3 s4
  have key : ∀ x y : D, post (.tup [x, .bool true]) → post (.tup [y, .bool true]) → ∃ r, idxL [x, y] (c.fmod 2) = some r ∧ post (.tup [r, .bool true]) := by
    intro x y hx hy
    rcases hc with e | e <;> rw [e]
    · exact ⟨x, rfl, hx⟩
    · exact ⟨y, rfl, hy⟩
  simp [L_law_round, wSs, wS, wT, wAll, wE, wEs, wAnd, wOr, bindSt, St.put, binD_mod, binD_fdiv, cmpD_eq, cmpD_gt, dep_i, eqb_ii, flD_r, PB.d, subD_t, subD_l, hs.fn]
  refine ⟨enc p, rfl, .bool a, rfl, ?_⟩
  cases a with
  | false => exact .inl ⟨rfl, key _ _ s1 s2⟩
  | true => exact .inr ⟨rfl, hs.sp hd _ (key _ _ (s3 hd) (s4 hd))⟩
noncomputable def madeB : List LS :=
  [.asg "_law_kind" (.bin .mod (.v "_law_cell") (.c (.int 10))),
     .ite (.or [.cmp .lt (.v "_law_kind") (.c (.int 3)), .cmp .eq (.olen "_law_pile") (.c (.int 0)), .and [.cmp .lt (.v "_law_kind") (.c (.int 6)), .cmp .lt (.olen "_law_pile") (.c (.int 2))]])
       [.app "_law_pile" (.call "_law_leaf" [.bin .fdiv (.v "_law_cell") (.c (.int 10)), .v "_law_head"])]
       [.ite (.cmp .lt (.v "_law_kind") (.c (.int 6)))
         [.asg "_law_right" (.pop "_law_pile"),
         .app "_law_pile" (.call "_law_two" [.bin .fdiv (.v "_law_cell") (.c (.int 10)), .pop "_law_pile", .v "_law_right"])]
         [.ite (.cmp .lt (.v "_law_kind") (.c (.int 8)))
           [.app "_law_pile" (.call "_law_round" [.bin .fdiv (.v "_law_cell") (.c (.int 10)), .pop "_law_pile", .v "_law_head"])]
           [.asg "_law_number" (.bin .add (.v "_law_number") (.v "_law_step")),
           .asg "_law_part" (.pop "_law_pile"),
           .app "_law_pile" (.tup [.tup [.c (.str (Str.ofString "group")), .v "_law_number", .sub (.v "_law_part") (.c (.int 0))], .sub (.v "_law_part") (.c (.int 1))])]]]]
noncomputable def madeW : List LS :=
  [.asg "_law_right" (.pop "_law_pile"),
     .app "_law_pile" (.call "_law_two" [.c (.int 0), .pop "_law_pile", .v "_law_right"])]
noncomputable def L_law_made : LDef := ⟨["_law_cells", "_law_head"],
  [.asgOwn "_law_pile" [],
   .asg "_law_step" (.bin .add (.c (.int 1)) (.bin .mod (.bin .fdiv (.v "_law_head") (.c (.int 7))) (.c (.int 900)))),
   .asg "_law_number" (.bin .mod (.v "_law_head") (.v "_law_step")),
   .for "_law_cell" (.it (.v "_law_cells")) madeB,
   .while (.cmp .gt (.olen "_law_pile") (.c (.int 1))) madeW,
   .ite (.cmp .eq (.olen "_law_pile") (.c (.int 0)))
     [.ret (.tup [.c (.str (Str.ofString "none"))])]
     [],
   .ret (.sub (.osub "_law_pile" (.c (.int 0))) (.c (.int 0)))]⟩

structure HasMade (C : Con) : Prop where
  fleaf : C.fn "_law_leaf" = true
  ftwo : C.fn "_law_two" = true
  fround : C.fn "_law_round" = true
  leaf : ∀ c hd (post : D → Prop), (∀ x : PB, x.1.parts.length = 1 → post x.d) → C.sp "_law_leaf" [.int c, .int hd] post
  two : ∀ c (x y : PB) (post : D → Prop), (∀ r : PB, r.1.parts.length = 1 + x.1.parts.length + y.1.parts.length → post r.d) → C.sp "_law_two" [.int c, x.d, y.d] post
  round : ∀ c hd (x : PB) (post : D → Prop), (∀ r : PB, r.1.parts.length ≤ 3 + x.1.parts.length → post r.d) → C.sp "_law_round" [.int c, x.d, .int hd] post

noncomputable def sz (l : List PB) : Nat := (l.map fun x => x.1.parts.length).sum
structure Made (hd : Int) (pile : List PB) (st : St) : Prop where
  pile : st "_law_pile" = some (.own (pile.map PB.d))
  number : ∃ n, st "_law_number" = some (.val (.int n))
  step : ∃ n, st "_law_step" = some (.val (.int n))
  head : st "_law_head" = some (.val (.int hd))

theorem made_step (G : String → Option D) (C : Con) (hm : HasMade C) (c hd : Int) (pile : List PB) (st : St) (Q : Fl → St → Prop) (I : Made hd pile st) (hc : st "_law_cell" = some (.val (.int c))) (hl : pile.length < 90000)
    (h : ∀ pile' st', Made hd pile' st' → sz pile' ≤ sz pile + 3 → pile'.length ≤ pile.length + 1 → Q .next st') : wSs G C madeB Q st := by
  obtain ⟨h1, ⟨n, h2⟩, ⟨k, h3⟩, h4⟩ := I
  simp [madeB, wSs, wS, wT, wAny, wAll, wE, wEs, St.put, h1, h2, h3, h4, hc, binD_mod, binD_fdiv, binD_add, cmpD_lt, cmpD_eq, dep_i, eqb_ii, hm.fleaf, hm.ftwo, hm.fround]
  have base : ∀ (l : List PB) (st' : St), st' "_law_pile" = some (.own (l.map PB.d)) → (∃ n, st' "_law_number" = some (.val (.int n))) → st' "_law_step" = st "_law_step" → st' "_law_head" = st "_law_head" → sz l ≤ sz pile + 3 → l.length ≤ pile.length + 1 → Q .next st' :=
    fun l st' a1 a2 a3 a4 a5 a6 => h l st' ⟨a1, a2, ⟨k, a3.trans h3⟩, a4.trans h4⟩ a5 a6
  have hleaf : C.sp "_law_leaf" [D.int (c.fdiv 10), D.int hd] fun d => pile.length < 100000 ∧ Q Fl.next ((st.put "_law_kind" (LV.val (D.int (c.fmod 10)))).put "_law_pile" (LV.own (List.map PB.d pile ++ [d]))) :=
    hm.leaf _ _ _ fun p hp => ⟨by omega, base (pile ++ [p]) _ (by simp [St.put]) ⟨n, by simpa [St.put] using h2⟩ (by simp [St.put]) (by simp [St.put]) (by simp [sz, hp]) (by simp)⟩
  by_cases a4 : c.fmod 10 < 3
  · simp [a4, show ¬ 3 ≤ c.fmod 10 by omega, hleaf]
  · by_cases a0 : pile = []
    · subst a0
      simp [a4, show 3 ≤ c.fmod 10 by omega]
      simpa using hleaf
    · obtain ⟨ps, p, rfl⟩ := one_last (pile := pile) (by simpa using a0)
      simp only [List.length_append, List.length_singleton] at hl
      by_cases a7 : c.fmod 10 < 6
      · by_cases a2 : (ps ++ [p]).length < 2
        · simp [a4, a7, show 3 ≤ c.fmod 10 by omega, show ¬ 6 ≤ c.fmod 10 by omega]
          have e0 : ps.length = 0 := by simp at a2; omega
          have : ps = [] := List.length_eq_zero_iff.mp e0
          subst this
          refine ⟨by simp, ?_⟩
          rw [if_pos (by simp)]
          simpa using hleaf
        · obtain ⟨qs, q', q, hq⟩ := two_last (pile := ps ++ [p]) (by omega)
          rw [hq] at hleaf base ⊢
          have hql : qs.length + 2 = ps.length + 1 := by
            have := congrArg List.length hq
            simpa using this.symm
          simp [a4, a7, show 3 ≤ c.fmod 10 by omega, show ¬ 6 ≤ c.fmod 10 by omega]
          refine ⟨by omega, ?_⟩
          rw [if_neg (by omega)]
          refine ⟨qs.map PB.d ++ [q'.d], q.d, by simp, by simp; omega, qs.map PB.d, q'.d, rfl, by simp; omega, hm.two _ _ _ _ fun r hr => ⟨by simp; omega, ?_⟩⟩
          exact base (qs ++ [r]) _ (by simp [St.put]) ⟨n, by simpa [St.put] using h2⟩ (by simp [St.put]) (by simp [St.put]) (by simp [sz, hr]; omega) (by simp)
      · simp [a4, a7, show 3 ≤ c.fmod 10 by omega, show 6 ≤ c.fmod 10 by omega]
        refine ⟨by omega, ?_⟩
        by_cases a9 : c.fmod 10 < 8
        · refine .inr ⟨a9, ps.map PB.d, p.d, ⟨rfl, rfl⟩, by simp; omega, hm.round _ _ _ _ fun r hr => ⟨by simp; omega, ?_⟩⟩
          exact base (ps ++ [r]) _ (by simp [St.put]) ⟨n, by simpa [St.put] using h2⟩ (by simp [St.put]) (by simp [St.put]) (by simp [sz]; omega) (by simp)
        · refine .inl ⟨by omega, ps.map PB.d, p.d, ⟨rfl, rfl⟩, by simp; omega, enc p.1, rfl, .bool p.2, rfl, by simp; omega, ?_⟩
          exact base (ps ++ [(.group (n + k) p.1, p.2)]) _ (by simp [St.put, PB.d, enc, S]) ⟨n + k, by simp [St.put]⟩ (by simp [St.put]) (by simp [St.put]) (by simp [sz, Pat.parts]; omega) (by simp)

theorem made_loop (G : String → Option D) (C : Con) (hm : HasMade C) (hd : Int) (Q : Fl → St → Prop) : ∀ (ns : List Int) (pile : List PB) (st : St), Made hd pile st → pile.length + ns.length < 90000 →
    (∀ pile' st', Made hd pile' st' → sz pile' ≤ sz pile + 3 * ns.length → pile'.length ≤ pile.length + ns.length → Q .next st') → forL (fun Q' st' => wSs G C madeB Q' st') "_law_cell" Q (ns.map D.int) st
  | [], pile, st, I, hl, h => by
    simp only [List.map_nil, forL]
    exact h pile st I (by simp) (by simp)
  | c :: ns, pile, st, I, hl, h => by
    simp only [List.map_cons, forL]
    simp only [List.length_cons] at hl h
    have I' : Made hd pile (st.put "_law_cell" (.val (.int c))) := ⟨by simpa [St.put] using I.pile, by simpa [St.put] using I.number, by simpa [St.put] using I.step, by simpa [St.put] using I.head⟩
    refine made_step G C hm c hd pile _ _ I' (by simp [St.put]) (by omega) fun pile1 st1 I1 s1 l1 => ?_
    exact made_loop G C hm hd Q ns pile1 st1 I1 (by omega) fun pile2 st2 I2 s2 l2 => h pile2 st2 I2 (by omega) (by omega)

theorem made_w (G : String → Option D) (C : Con) (hm : HasMade C) (ns : List Int) (hn : ns.length ≤ 1000) (hd : Int) (post : D → Prop) (h : ∀ p : Pat, p.parts.length ≤ 4 * ns.length + 1 → post (enc p)) :
    wSs G C L_law_made.body (fun fl _ => post (flD fl)) (bindSt L_law_made.params [.list (ns.map D.int), .int hd]) := by
  have hmod := fmod_lt (hd.fdiv 7) (k := 900) (by decide)
  simp only [L_law_made, bindSt, wSs, wS, wEs, wE, wSrc, List.length_nil]
  refine ⟨⟨.int hd, by simp [St.put], .int (hd.fdiv 7), by simp [binD_fdiv], .int ((hd.fdiv 7).fmod 900), by simp [binD_mod], .int (1 + (hd.fdiv 7).fmod 900), rfl, .int hd, by simp [St.put], .int (1 + (hd.fdiv 7).fmod 900), by simp [St.put], .int (hd.fmod (1 + (hd.fdiv 7).fmod 900)), by rw [binD_mod, if_neg (by omega)], .list (ns.map D.int), by simp [St.put], _, rfl, ?_⟩, by omega⟩
  refine made_loop G C hm hd _ ns [] _ ⟨by simp [St.put], ⟨hd.fmod (1 + (hd.fdiv 7).fmod 900), by simp [St.put]⟩, ⟨1 + (hd.fdiv 7).fmod 900, by simp [St.put]⟩, by simp [St.put]⟩ (by simp; omega) fun pile st1 I1 s1 l1 => ?_
  simp only [sz, List.map_nil, List.sum_nil, List.length_nil, Nat.zero_add] at s1 l1
  refine ⟨fun n st => ∃ pile : List PB, st "_law_pile" = some (.own (pile.map PB.d)) ∧ n = pile.length ∧ (pile.map fun x => x.1.parts.length).sum + pile.length ≤ 4 * ns.length, ⟨_, pile, I1.pile, rfl, by omega⟩, ?_⟩
  rintro n st ⟨pile, hp, rfl, hs⟩
  simp only [wT, wE]
  refine ⟨pile.map PB.d, hp, by simp; omega, _, rfl, _, rfl, ?_⟩
  by_cases h2 : 1 < pile.length
  · rw [if_pos (by simp; omega)]
    obtain ⟨ps, p, q, rfl⟩ := two_last h2
    simp only [madeW, wSs, wS, wE, wEs]
    simp only [List.length_append, List.length_cons, List.length_nil, List.map_append, List.map_cons, List.map_nil, List.sum_append, List.sum_cons, List.sum_nil] at hs
    refine ⟨ps.map PB.d ++ [p.d], q.d, by simpa using hp, by simp; omega, ⟨ps.map PB.d ++ [p.d], by simp [St.put]⟩, hm.ftwo, ps.map PB.d, p.d, by simp [St.put], by simp; omega, q.d, by simp [St.put], hm.two _ _ _ _ fun r hr => ?_⟩
    refine ⟨ps.map PB.d, by simp [St.put], by simp; omega, (ps ++ [r]).length, by simp, ps ++ [r], by simp [St.put], rfl, ?_⟩
    simp [hr]
    omega
  · rw [if_neg (by simp; omega)]
    refine ⟨pile.map PB.d, hp, by simp; omega, decide (pile.length = 0), ?_, _, rfl, ?_⟩
    · rw [cmpD_eq, dep_i, eqb_ii, if_pos (by omega)]
      congr 1
      rw [List.length_map, Bool.eq_iff_iff, beq_iff_eq, decide_eq_true_eq]
      omega
    · match pile, hp, hs, h2 with
      | [], hp, hs, _ =>
        simp only [List.length_nil, decide_true, if_true, List.length_cons]
        exact ⟨h .none (by simp [Pat.parts]), by omega⟩
      | [p], hp, hs, _ =>
        simp only [List.length_cons, List.length_nil, decide_eq_true_eq, Nat.zero_add, Nat.one_ne_zero, if_false]
        refine ⟨_, hp, hp, 0, p.d, rfl, by simp [idxL], enc p.1, rfl, ?_⟩
        simp at hs
        exact h p.1 (by omega)
      | _ :: _ :: _, _, _, h2 => simp at h2
end Mine
end

section
open PySem PyProof.Rows
namespace Mine

noncomputable def bitsI : List LS := [.app "_law_bits_here" (.bin .mod (.v "_law_cell") (.c (.int 2))),
       .asg "_law_cell" (.bin .fdiv (.v "_law_cell") (.c (.int 2)))]
noncomputable def bitsO : List LS := [.asg "_law_cell" (.call "_law_cell_at" [.v "_law_script", .bin .add (.c (.int 18)) (.v "_law_k")]),
     .for "_law_turn" (.range (.c (.int 8))) bitsI]
noncomputable def L_law_bits : LDef := ⟨["_law_script"],
  [.asgOwn "_law_bits_here" [],
   .for "_law_k" (.range (.c (.int 5))) bitsO,
   .retOwn "_law_bits_here"]⟩
structure Bits (sc : D) (bs : List Int) (st : St) : Prop where
  own : st "_law_bits_here" = some (.own (bs.map D.int))
  script : st "_law_script" = some (.val sc)
theorem bitsI_loop (G : String → Option D) (C : Con) (sc : D) (Q : Fl → St → Prop) : ∀ (ks : List D) (bs : List Int) (c : Int) (st : St), Bits sc bs st → st "_law_cell" = some (.val (.int c)) → bs.length + ks.length < 1000 →
    (∀ bs' st', Bits sc bs' st' → bs'.length = bs.length + ks.length → Q .next st') → forL (fun Q' st' => wSs G C bitsI Q' st') "_law_turn" Q ks st
  | [], bs, c, st, I, hc, hl, h => by
    simp only [forL]
    exact h bs st I (by simp)
  | k :: ks, bs, c, st, I, hc, hl, h => by
    simp only [forL]
    simp only [List.length_cons] at hl h
    simp [bitsI, wSs, wS, wE, St.put, I.own, hc, binD_mod, binD_fdiv]
    refine ⟨by omega, ?_⟩
    exact bitsI_loop G C sc Q ks (bs ++ [c.fmod 2]) (c.fdiv 2) _ ⟨by simp [St.put], by simp [St.put, I.script]⟩ (by simp [St.put]) (by simp; omega) fun bs' st' I' l' => h bs' st' I' (by simp at l'; omega)
theorem bitsO_loop (G : String → Option D) (C : Con) (f : C.fn "_law_cell_at" = true) (ns : List Int) (hn : ns.length ≤ 1000)
    (s : ∀ (k : Nat) (post : D → Prop), k < 1000000 → post (.int (ns[k]?.getD 0)) → C.sp "_law_cell_at" [.list (ns.map D.int), .int k] post) (Q : Fl → St → Prop) : ∀ (ks : List Nat) (bs : List Int) (st : St), Bits (.list (ns.map D.int)) bs st → (∀ k ∈ ks, k < 100) → bs.length + 8 * ks.length < 900 →
    (∀ bs' st', Bits (.list (ns.map D.int)) bs' st' → bs'.length = bs.length + 8 * ks.length → Q .next st') → forL (fun Q' st' => wSs G C bitsO Q' st') "_law_k" Q (ks.map fun i : Nat => D.int (i : Int)) st
  | [], bs, st, I, hk, hl, h => by
    simp only [List.map_nil, forL]
    exact h bs st I (by simp)
  | k :: ks, bs, st, I, hk, hl, h => by
    simp only [List.map_cons, forL]
    simp only [List.length_cons] at hl h
    have hk0 := hk k (.head _)
    simp only [bitsO, wSs, wS, wE, wEs, wSrc]
    refine ⟨f, .list (ns.map D.int), by simp [St.put, I.script], .int (k : Int), by simp [St.put], .int ((18 + k : Nat) : Int), by rw [binD_add]; congr 2, s (18 + k) _ (by omega) ⟨8, by simp [natOf_i], by omega, ?_⟩⟩
    refine bitsI_loop G C (.list (ns.map D.int)) _ _ bs (ns[18 + k]?.getD 0) _ ⟨by simp [St.put, I.own], by simp [St.put, I.script]⟩ (by simp [St.put]) (by simp; omega) fun bs1 st1 I1 l1 => ?_
    simp only [List.length_map, List.length_range] at l1
    exact bitsO_loop G C f ns hn s Q ks bs1 st1 I1 (fun k hk' => hk k (.tail _ hk')) (by omega) fun bs2 st2 I2 l2 => h bs2 st2 I2 (by omega)
theorem bits_w (G : String → Option D) (C : Con) (f : C.fn "_law_cell_at" = true) (ns : List Int) (hn : ns.length ≤ 1000)
    (s : ∀ (k : Nat) (post : D → Prop), k < 1000000 → post (.int (ns[k]?.getD 0)) → C.sp "_law_cell_at" [.list (ns.map D.int), .int k] post) (post : D → Prop) (h : ∀ bs : List Int, bs.length = 40 → post (.list (bs.map D.int))) :
    wSs G C L_law_bits.body (fun fl _ => post (flD fl)) (bindSt L_law_bits.params [.list (ns.map D.int)]) := by
  simp only [L_law_bits, bindSt, wSs, wS, wE, wEs, wSrc]
  refine ⟨⟨5, by simp [natOf_i], by omega, ?_⟩, by simp⟩
  refine bitsO_loop G C f ns hn s _ (List.range 5) [] _ ⟨by simp [St.put], by simp [St.put]⟩ (fun k hk => by simp at hk; omega) (by simp) fun bs st I l => ?_
  exact ⟨_, I.own, h bs (by simpa using l)⟩

theorem comp_none {T B : (D → St → Prop) → St → Prop} {x : String} : ∀ (l : List D) (Q : List D → Prop), (∀ d ∈ l, ∀ (Q' : D → St → Prop) (st : St), st x = some (.val d) → Q' (.bool false) st → T Q' st) → Q [] → compL T B x l Q
  | [], Q, _, h => by simpa only [compL] using h
  | d :: l, Q, hT, h => by
    simp only [compL]
    refine hT d (.head _) _ _ (by simp [St.put]) ⟨false, rfl, ?_⟩
    simp only [Bool.false_eq_true, if_false]
    exact comp_none l Q (fun e he => hT e (.tail _ he)) h

noncomputable def lawX : List LS := [.asg "_law_text" (.bin .add (.v "_law_text") (.call "_law_sign" [.sub (.lst [.v "_law_head", .bin .fdiv (.v "_law_head") (.c (.int 95)), .v "_law_head", .bin .fdiv (.v "_law_cell") (.c (.int 4))]) (.bin .mod (.v "_law_cell") (.c (.int 4)))])),
     .asg "_law_cell" (.bin .fdiv (.v "_law_cell") (.c (.int 4)))]
noncomputable def lawB1 : LS := .ite (.or [.not (.isi (.v "_law_found") "list"), .cmp .ne (.comp (.v "_law_one") "_law_one" (.v "_law_found") (some (.not (.call "_law_is_state" [.v "_law_one"])))) (.lst []), .cmp .ne (.v "_law_found") (.v "_law_due_here")])
       [.ret (.c (.bool false))]
       []
noncomputable def lawB2 : LS := .ite (.or [.not (.isi (.v "_law_last") "bool"), .cmp .ne (.v "_law_last") (.and [.cmp .eq (.len (.sub (.v "_law_state") (.c (.int 0)))) (.c (.int 0)), .cmp .eq (.sub (.v "_law_state") (.c (.int 1))) (.len (.v "_law_text"))])])
       [.ret (.c (.bool false))]
       []
noncomputable def lawBT : List LS :=
     [.ite (.cmp .eq (.len (.v "_law_due_here")) (.c (.int 0)))
       [.ret (.c (.bool true))]
       [],
     .asg "_law_state" (.sub (.v "_law_due_here") (.bin .mod (.v "_law_bit") (.len (.v "_law_due_here"))))]
noncomputable def lawC : List LS := lawB1 :: lawB2 :: lawBT
noncomputable def lawB : List LS := .asg "_law_due_here" (.call "_law_due" [.sub (.v "_law_state") (.c (.int 0)), .sub (.v "_law_state") (.c (.int 1)), .v "_law_text"]) ::
     .asg "_law_found" (.call "onward" [.v "_law_state", .v "_law_text"]) ::
     .asg "_law_last" (.call "is_end" [.v "_law_state", .v "_law_text"]) :: lawC
noncomputable def Llaw : LDef := ⟨["_law_script"],
  [.asg "_law_head" (.call "_law_cell_at" [.v "_law_script", .c (.int 0)]),
   .asg "_law_pattern" (.call "_law_made" [.slc (.v "_law_script") (some (.c (.int 2))) (some (.c (.int 18))), .v "_law_head"]),
   .asg "_law_turns" (.call "_law_cell_at" [.v "_law_script", .c (.int 1)]),
   .asg "_law_text" (.c (.str (Str.ofString ""))),
   .asg "_law_cell" (.bin .fdiv (.v "_law_turns") (.c (.int 10))),
   .for "_law_k" (.range (.bin .mod (.v "_law_turns") (.c (.int 10)))) lawX,
   .asg "_law_bits_here" (.call "_law_bits" [.v "_law_script"]),
   .asg "_law_state" (.call "first_state" [.v "_law_pattern"]),
   .ite (.or [.not (.call "_law_is_state" [.v "_law_state"]), .cmp .ne (.v "_law_state") (.tup [.tup [.v "_law_pattern"], .c (.int 0)])])
     [.ret (.c (.bool false))]
     [],
   .for "_law_bit" (.it (.v "_law_bits_here")) lawB,
   .ret (.c (.bool true))]⟩

theorem stD_dep {text : Str} {x : List Item × Nat} {n : Nat} (h : Small text x n) : (stD x).dep ≤ 102 := by
  have := h.dep
  simp only [stD, dep_t, depL_c, depL_n, dep_i]
  omega
theorem states_dep {text : Str} {l : List (List Item × Nat)} {n : Nat} (h : ∀ x ∈ l, Small text x n) : (D.list (l.map stD)).dep ≤ 103 := by
  rw [dep_l]
  refine Nat.succ_le_succ (depL_le fun d hd => ?_)
  obtain ⟨x, hx, rfl⟩ := List.mem_map.mp hd
  exact stD_dep (h x hx)

structure HasLaw (C : Con) : Prop where
  fdue : C.fn "_law_due" = true
  fon : C.fn "onward" = true
  fend : C.fn "is_end" = true
  fst : C.fn "_law_is_state" = true
  due : ∀ (text : Str) (x : List Item × Nat) (n : Nat) (post : D → Prop), text.length ≤ 1000 → n ≤ 1000 → Small text x n → post (.list ((nextS text x.1 x.2).map stD)) → C.sp "_law_due" [restD x.1, .int (x.2 : Int), .str text] post
  on : ∀ (text : Str) (x : List Item × Nat) (n : Nat) (post : D → Prop), text.length ≤ 1000 → n ≤ 1000 → Small text x n → post (.list ((nextS text x.1 x.2).map stD)) → C.sp "onward" [stD x, .str text] post
  isend : ∀ (text : Str) (x : List Item × Nat) (n : Nat) (post : D → Prop), text.length ≤ 1000 → Small text x n → post (.bool (atEnd text x)) → C.sp "is_end" [stD x, .str text] post
  st : ∀ (x : List Item × Nat) (post : D → Prop), post (.bool true) → C.sp "_law_is_state" [stD x] post

theorem lawB1_w (G : String → Option D) (C : Con) (hc : HasLaw C) (text : Str) (l : List (List Item × Nat)) (n : Nat) (hl : ∀ x ∈ l, Small text x n) (hl2 : l.length ≤ 2) (T : List LS) (Q : Fl → St → Prop) (st : St)
    (h1 : st "_law_found" = some (.val (.list (l.map stD)))) (h2 : st "_law_due_here" = some (.val (.list (l.map stD)))) (h : wSs G C T Q st) : wSs G C (lawB1 :: T) Q st := by
  have hd := states_dep hl
  simp only [lawB1, wSs, wS, wT, wAny, wE]
  refine ⟨_, h1, true, rfl, true, rfl, ?_⟩
  simp only [Bool.not_true, Bool.false_eq_true, if_false]
  refine ⟨_, h1, _, rfl, by simp; omega, comp_none _ _ ?_ ?_⟩
  · intro d hd Q' st' e hq
    obtain ⟨x, _, rfl⟩ := List.mem_map.mp hd
    simp only [wC, wE, wEs]
    exact ⟨hc.fst, _, e, hc.st x _ ⟨true, rfl, hq⟩⟩
  · refine ⟨⟨false, rfl, false, rfl, ?_⟩, by simp⟩
    simp only [Bool.false_eq_true, if_false]
    refine ⟨_, h1, _, h2, false, by rw [cmpD_ne, if_pos (by omega), eqb_refl]; rfl, false, rfl, ?_⟩
    simpa only [Bool.false_eq_true, if_false] using h

theorem lawB2_w (G : String → Option D) (C : Con) (text : Str) (ht : text.length ≤ 1000) (x : List Item × Nat) (hx : x.1.length ≤ 1000) (T : List LS) (Q : Fl → St → Prop) (st : St)
    (h1 : st "_law_last" = some (.val (.bool (atEnd text x)))) (h2 : st "_law_state" = some (.val (stD x))) (h3 : st "_law_text" = some (.val (.str text))) (h : wSs G C T Q st) : wSs G C (lawB2 :: T) Q st := by
  simp only [lawB2, wSs, wS, wT, wAny, wE, wAnd]
  refine ⟨_, h1, true, rfl, true, rfl, ?_⟩
  simp only [Bool.not_true, Bool.false_eq_true, if_false]
  refine ⟨_, h1, _, h2, restD x.1, rfl, (x.1.length : Int), by simp [restD, lenD_t]; omega, x.1.isEmpty, ?_, x.1.isEmpty, rfl, ?_⟩
  · rw [cmpD_eq, dep_i, eqb_ii, if_pos (by omega)]
    congr 1
    cases x.1 <;> simp
    omega
  · cases he : x.1.isEmpty with
    | true =>
      rw [if_pos rfl]
      refine ⟨_, h2, .int (x.2 : Int), rfl, _, h3, (text.length : Int), by rw [lenD_s, if_pos (by omega)], decide (x.2 = text.length), ?_, false, ?_, false, rfl, ?_⟩
      · rw [cmpD_eq, dep_i, eqb_ii, if_pos (by omega)]
        congr 1
        rw [Bool.eq_iff_iff, beq_iff_eq, decide_eq_true_eq]
        omega
      · rw [cmpD_ne, dep_b, eqb_bb, if_pos (by omega)]
        simp [atEnd, he]
      · simpa only [Bool.false_eq_true, if_false] using h
    | false =>
      simp only [Bool.false_eq_true, if_false]
      refine ⟨false, ?_, false, rfl, ?_⟩
      · rw [cmpD_ne, dep_b, eqb_bb, if_pos (by omega)]
        simp [atEnd, he]
      · simpa only [Bool.false_eq_true, if_false] using h

theorem law_step (G : String → Option D) (C : Con) (hc : HasLaw C) (text : Str) (ht : text.length ≤ 1000) (bit : Int) (x : List Item × Nat) (n : Nat) (hn : n ≤ 900) (hs : Small text x n) (Q : Fl → St → Prop) (st : St)
    (h1 : st "_law_state" = some (.val (stD x))) (h2 : st "_law_text" = some (.val (.str text))) (h3 : st "_law_bit" = some (.val (.int bit)))
    (hr : ∀ st', Q (.ret (.bool true)) st') (h : ∀ y st', Small text y (n + 1) → st' "_law_state" = some (.val (stD y)) → st' "_law_text" = some (.val (.str text)) → Q .next st') : wSs G C lawB Q st := by
  have hsm := next_small (l := x.1) (k := x.2) (n := n) hs
  have h22 := next_two (text := text) x.1 x.2
  have hlen := hs.len
  unfold lawB
  simp only [wSs, wS, wE, wEs]
  refine ⟨hc.fdue, _, h1, restD x.1, rfl, _, h1, .int (x.2 : Int), rfl, _, h2, hc.due text x n _ ht (by omega) hs ?_⟩
  refine ⟨hc.fon, stD x, by simp [St.put, h1], .str text, by simp [St.put, h2], hc.on text x n _ ht (by omega) hs ?_⟩
  refine ⟨hc.fend, stD x, by simp [St.put, h1], .str text, by simp [St.put, h2], hc.isend text x n _ ht hs ?_⟩
  unfold lawC
  refine lawB1_w G C hc text (nextS text x.1 x.2) (n + 1) hsm h22 (lawB2 :: lawBT) _ _ (by simp [St.put]) (by simp [St.put]) ?_
  refine lawB2_w G C text ht x (by omega) lawBT _ _ (by simp [St.put]) (by simp [St.put, h1]) (by simp [St.put, h2]) ?_
  simp only [lawBT, wSs, wS, wT, wE]
  refine ⟨.list ((nextS text x.1 x.2).map stD), by simp [St.put], ((nextS text x.1 x.2).length : Int), by rw [lenD_l, if_pos (by simp; omega)]; simp, decide ((nextS text x.1 x.2).length = 0), ?_, _, rfl, ?_⟩
  · rw [cmpD_eq, dep_i, eqb_ii, if_pos (by omega)]
    congr 1
    rw [Bool.eq_iff_iff, beq_iff_eq, decide_eq_true_eq]
    omega
  · by_cases h0 : (nextS text x.1 x.2).length = 0
    · simp only [h0, decide_true, if_true]
      exact hr _
    · simp only [h0, decide_false, Bool.false_eq_true, if_false]
      have hm := fmod_lt bit (k := ((nextS text x.1 x.2).length : Int)) (by omega)
      have hlt : (bit.fmod ((nextS text x.1 x.2).length : Int)).toNat < (nextS text x.1 x.2).length := by omega
      refine ⟨.list ((nextS text x.1 x.2).map stD), by simp [St.put], .int bit, by simp [St.put, h3], .list ((nextS text x.1 x.2).map stD), by simp [St.put], ((nextS text x.1 x.2).length : Int), by rw [lenD_l, if_pos (by simp; omega)]; simp, .int (bit.fmod ((nextS text x.1 x.2).length : Int)), by rw [binD_mod, if_neg (by omega)], stD ((nextS text x.1 x.2)[(bit.fmod ((nextS text x.1 x.2).length : Int)).toNat]), ?_, ?_⟩
      · rw [subD_l]
        unfold idxL
        rw [if_pos ⟨hm.1, by omega⟩, List.getElem?_map, List.getElem?_eq_getElem hlt]
        rfl
      · exact h _ _ (hsm _ (List.getElem_mem hlt)) (by simp [St.put]) (by simp [St.put, h2])

theorem law_loop (G : String → Option D) (C : Con) (hc : HasLaw C) (text : Str) (ht : text.length ≤ 1000) (Q : Fl → St → Prop) (hr : ∀ st', Q (.ret (.bool true)) st') (hq : ∀ st', Q .next st') : ∀ (bs : List Int) (x : List Item × Nat) (n : Nat) (st : St), n + bs.length ≤ 900 → Small text x n →
    st "_law_state" = some (.val (stD x)) → st "_law_text" = some (.val (.str text)) → forL (fun Q' st' => wSs G C lawB Q' st') "_law_bit" Q (bs.map D.int) st
  | [], x, n, st, hn, hs, h1, h2 => by
    simp only [List.map_nil, forL]
    exact hq st
  | b :: bs, x, n, st, hn, hs, h1, h2 => by
    simp only [List.map_cons, forL]
    simp only [List.length_cons] at hn
    refine law_step G C hc text ht b x n (by omega) hs _ _ (by simp [St.put, h1]) (by simp [St.put, h2]) (by simp [St.put]) (fun st' => hr st') fun y st' hy e1 e2 => ?_
    exact law_loop G C hc text ht Q hr hq bs y (n + 1) st' (by omega) hy e1 e2

theorem sign_len (c : Int) : (signAt c).length = 1 := rfl
theorem str_app_len (a b : Str) : (a ++ b).length = a.length + b.length := by
  show (a.cps ++ b.cps).size = a.cps.size + b.cps.size
  exact Array.size_append
structure TextSt (sc pat : D) (hd : Int) (text : Str) (st : St) : Prop where
  text : st "_law_text" = some (.val (.str text))
  head : st "_law_head" = some (.val (.int hd))
  cell : ∃ c, st "_law_cell" = some (.val (.int c))
  script : st "_law_script" = some (.val sc)
  pat : st "_law_pattern" = some (.val pat)
theorem text_loop (G : String → Option D) (C : Con) (hs : HasSign C) (sc pat : D) (hd : Int) (Q : Fl → St → Prop) : ∀ (ks : List D) (text : Str) (st : St), TextSt sc pat hd text st → text.length + ks.length ≤ 1000 →
    (∀ text' st', TextSt sc pat hd text' st' → text'.length ≤ text.length + ks.length → Q .next st') → forL (fun Q' st' => wSs G C lawX Q' st') "_law_k" Q ks st
  | [], text, st, I, hl, h => by
    simp only [forL]
    exact h text st I (by simp)
  | k :: ks, text, st, I, hl, h => by
    simp only [forL]
    simp only [List.length_cons] at hl h
    obtain ⟨h1, h2, ⟨c, h3⟩, h4, h5⟩ := I
    have hm := fmod_lt c (k := 4) (by decide)
    have key : ∀ j : Int, C.sp "_law_sign" [.int j] fun d => ∃ z, binD .add (.str text) d = some z ∧ ∃ d', (if "_law_cell" = "_law_text" then some (LV.val z) else if "_law_cell" = "_law_k" then some (LV.val k) else st "_law_cell") = some (LV.val d') ∧ ∃ z', binD .fdiv d' (.int 4) = some z' ∧
        forL (fun Q' st' => wSs G C lawX Q' st') "_law_k" Q ks (((st.put "_law_k" (.val k)).put "_law_text" (.val z)).put "_law_cell" (.val z')) := by
      intro j
      refine hs.sp j _ ⟨.str (text ++ signAt j), by rw [binD_adds, if_pos (by rw [sign_len]; omega)], .int c, by simp [h3], .int (c.fdiv 4), by simp [binD_fdiv], ?_⟩
      refine text_loop G C hs sc pat hd Q ks (text ++ signAt j) _ ⟨by simp [St.put], by simp [St.put, h2], ⟨c.fdiv 4, by simp [St.put]⟩, by simp [St.put, h4], by simp [St.put, h5]⟩ (by rw [str_app_len, sign_len]; omega) fun text' st' I' l' => h text' st' I' (by rw [str_app_len, sign_len] at l'; omega)
    have e : c.fmod 4 = 0 ∨ c.fmod 4 = 1 ∨ c.fmod 4 = 2 ∨ c.fmod 4 = 3 := by omega
    simp only [lawX, wSs, wS, wE, wEs]
    refine ⟨.str text, by simp [St.put, h1], hs.fn, ⟨⟨.int hd, by simp [St.put, h2], .int hd, by simp [St.put, h2], .int (hd.fdiv 95), by simp [binD_fdiv], .int hd, by simp [St.put, h2], .int c, by simp [St.put, h3], .int (c.fdiv 4), by simp [binD_fdiv], ?_⟩, by simp⟩⟩
    refine ⟨.int c, by simp [St.put, h3], .int (c.fmod 4), by simp [binD_mod], ?_⟩
    rcases e with e | e | e | e <;> rw [e, subD_l]
    · exact ⟨.int hd, rfl, key hd⟩
    · exact ⟨.int (hd.fdiv 95), rfl, key (hd.fdiv 95)⟩
    · exact ⟨.int hd, rfl, key hd⟩
    · exact ⟨.int (c.fdiv 4), rfl, key (c.fdiv 4)⟩

theorem law_w (G : String → Option D) (C : Con) (hc : HasLaw C) (hs : HasSign C) (f1 : C.fn "_law_cell_at" = true) (f2 : C.fn "_law_made" = true) (f3 : C.fn "_law_bits" = true) (f4 : C.fn "first_state" = true)
    (s1 : ∀ (ns : List Int) (k : Nat) (post : D → Prop), ns.length ≤ 100000 → k < 1000000 → post (.int (ns[k]?.getD 0)) → C.sp "_law_cell_at" [.list (ns.map D.int), .int k] post)
    (s2 : ∀ (ns : List Int) (hd : Int) (post : D → Prop), ns.length ≤ 1000 → (∀ p : Pat, p.parts.length ≤ 4 * ns.length + 1 → post (enc p)) → C.sp "_law_made" [.list (ns.map D.int), .int hd] post)
    (s3 : ∀ (ns : List Int) (post : D → Prop), ns.length ≤ 1000 → (∀ bs : List Int, bs.length = 40 → post (.list (bs.map D.int))) → C.sp "_law_bits" [.list (ns.map D.int)] post)
    (s4 : ∀ (p : Pat) (post : D → Prop), post (stD ([.pat p], 0)) → C.sp "first_state" [enc p] post)
    (ns : List Int) (hn : ns.length ≤ 63) (post : D → Prop) (h : post (.bool true)) : wSs G C Llaw.body (fun fl _ => post (flD fl)) (bindSt Llaw.params [.list (ns.map D.int)]) := by
  have z0 : ∀ (post : D → Prop), post (.int (ns[0]?.getD 0)) → C.sp "_law_cell_at" [.list (ns.map D.int), .int 0] post := fun post h => s1 ns 0 post (by omega) (by omega) h
  have z1 : ∀ (post : D → Prop), post (.int (ns[1]?.getD 0)) → C.sp "_law_cell_at" [.list (ns.map D.int), .int 1] post := fun post h => s1 ns 1 post (by omega) (by omega) h
  have c16 : (cut ns (some 2) (some 18)).length ≤ 16 := by simp [cut]; omega
  simp only [Llaw, bindSt, wSs, wS, wEs, wE, wO, wSrc, wT, wAny]
  refine ⟨f1, .list (ns.map D.int), by simp [St.put], z0 _ ?_⟩
  generalize ns[0]?.getD 0 = hd
  refine ⟨f2, .list (ns.map D.int), by simp [St.put], 2, rfl, 18, rfl, .list ((cut ns (some 2) (some 18)).map D.int), ?_, .int hd, by simp [St.put], s2 _ _ _ (by omega) fun p hp => ?_⟩
  · rw [slcD_l, if_pos (by simp; omega)]
    simp [cut, List.map_drop, List.map_take]
  refine ⟨f1, .list (ns.map D.int), by simp [St.put], z1 _ ?_⟩
  generalize ns[1]?.getD 0 = tn
  have hm := fmod_lt tn (k := 10) (by decide)
  refine ⟨.int tn, by simp [St.put], .int (tn.fdiv 10), by simp [binD_fdiv], .int tn, by simp [St.put], .int (tn.fmod 10), by simp [binD_mod], (tn.fmod 10).toNat, by rw [natOf_i, if_pos hm.1], by omega, ?_⟩
  refine text_loop G C hs (.list (ns.map D.int)) (enc p) hd _ _ (Str.ofString "") _ ⟨by simp [St.put], by simp [St.put], ⟨tn.fdiv 10, by simp [St.put]⟩, by simp [St.put], by simp [St.put]⟩ ?_ fun text st1 I1 l1 => ?_
  · have : (Str.ofString "").length = 0 := by decide
    simp [this]; omega
  have e0 : (Str.ofString "").length = 0 := by decide
  simp only [e0, List.length_map, List.length_range] at l1
  have sm : Small text ([.pat p], 0) 1 := ⟨fun i hi => by simp at hi; subst hi; simp [Item.size]; omega, by simp, by simp⟩
  have hdep := stD_dep sm
  refine ⟨f3, _, I1.script, s3 ns _ (by omega) fun bs hb => ?_⟩
  refine ⟨f4, enc p, by simp [St.put, I1.pat], s4 p _ ?_⟩
  refine ⟨hc.fst, stD ([.pat p], 0), by simp [St.put], hc.st _ _ ⟨true, rfl, ?_⟩⟩
  simp only [Bool.not_true, Bool.false_eq_true, if_false]
  refine ⟨stD ([.pat p], 0), by simp [St.put], ⟨⟨enc p, by simp [St.put, I1.pat], false, ?_, false, rfl, ?_⟩, by simp⟩, by simp⟩
  · rw [cmpD_ne, if_pos (by omega)]
    show some (!D.eqb (stD ([.pat p], 0)) (stD ([.pat p], 0))) = some false
    rw [eqb_refl]; rfl
  simp only [Bool.false_eq_true, if_false]
  refine ⟨.list (bs.map D.int), by simp [St.put], _, rfl, ?_⟩
  refine law_loop G C hc text (by omega) _ (fun st' => h) (fun st' => h) bs ([.pat p], 0) 1 _ (by omega) sm (by simp [St.put]) (by simp [St.put, I1.text])
end Mine
end

section
open PySem PyProof.Rows
namespace Mine

noncomputable def spFirst (ds : List D) (post : D → Prop) : Prop := ∃ p : Pat, ds = [enc p] ∧ post (stD ([.pat p], 0))
noncomputable def spEnd (ds : List D) (post : D → Prop) : Prop := ∃ (text : Str) (x : List Item × Nat) (n : Nat), ds = [stD x, .str text] ∧ text.length ≤ 1000 ∧ Small text x n ∧ post (.bool (atEnd text x))
noncomputable def spOn (ds : List D) (post : D → Prop) : Prop := ∃ (text : Str) (x : List Item × Nat) (n : Nat), ds = [stD x, .str text] ∧ text.length ≤ 1000 ∧ n ≤ 1000 ∧ Small text x n ∧ post (.list ((nextS text x.1 x.2).map stD))
noncomputable def spDue (ds : List D) (post : D → Prop) : Prop := ∃ (text : Str) (x : List Item × Nat) (n : Nat), ds = [restD x.1, .int (x.2 : Int), .str text] ∧ text.length ≤ 1000 ∧ n ≤ 1000 ∧ Small text x n ∧ post (.list ((nextS text x.1 x.2).map stD))
noncomputable def spSt (ds : List D) (post : D → Prop) : Prop := ∃ (x : List Item × Nat), ds = [stD x] ∧ post (.bool true)
noncomputable def spSign (ds : List D) (post : D → Prop) : Prop := ∃ c, ds = [.int c] ∧ post (.str (signAt c))
noncomputable def spCell (ds : List D) (post : D → Prop) : Prop := ∃ (ns : List Int) (k : Nat), ds = [.list (ns.map D.int), .int k] ∧ ns.length ≤ 100000 ∧ k < 1000000 ∧ post (.int (ns[k]?.getD 0))
noncomputable def spBits (ds : List D) (post : D → Prop) : Prop := ∃ (ns : List Int), ds = [.list (ns.map D.int)] ∧ ns.length ≤ 1000 ∧ ∀ bs : List Int, bs.length = 40 → post (.list (bs.map D.int))
noncomputable def spLeaf (ds : List D) (post : D → Prop) : Prop := ∃ c hd, ds = [.int c, .int hd] ∧ ∀ x : PB, x.1.parts.length = 1 → post x.d
noncomputable def spTwo (ds : List D) (post : D → Prop) : Prop := ∃ (c : Int) (x y : PB), ds = [.int c, x.d, y.d] ∧ ∀ r : PB, r.1.parts.length = 1 + x.1.parts.length + y.1.parts.length → post r.d
noncomputable def spRound (ds : List D) (post : D → Prop) : Prop := ∃ (c hd : Int) (x : PB), ds = [.int c, x.d, .int hd] ∧ ∀ r : PB, r.1.parts.length ≤ 3 + x.1.parts.length → post r.d
noncomputable def spMade (ds : List D) (post : D → Prop) : Prop := ∃ (ns : List Int) (hd : Int), ds = [.list (ns.map D.int), .int hd] ∧ ns.length ≤ 1000 ∧ ∀ p : Pat, p.parts.length ≤ 4 * ns.length + 1 → post (enc p)
noncomputable def spLaw (ds : List D) (post : D → Prop) : Prop := ∃ ns : List Int, ds = [.list (ns.map D.int)] ∧ ns.length ≤ 63 ∧ post (.bool true)

theorem law_lib {X : Wx} (XG : X.Good) {p : Program} (T : IsTop X p)
    (h1 : ckTab p "first_state" Lfirst_state = true) (h2 : ckTab p "is_end" Lis_end = true) (h3 : ckTab p "onward" Lonward = true) (h4 : ckTab p "_law_due" L_law_due = true) (h5 : ckTab p "_law_is_state" L_law_is_state = true) (h6 : ckTab p "_law_sign" L_law_sign = true) (h7 : ckTab p "_law_cell_at" L_law_cell_at = true)
    (h8 : ckTab p "_law_bits" L_law_bits = true) (h9 : ckTab p "_law_leaf" L_law_leaf = true) (h10 : ckTab p "_law_two" L_law_two = true) (h11 : ckTab p "_law_round" L_law_round = true) (h12 : ckTab p "_law_made" L_law_made = true) (h13 : ckTab p "law" Llaw = true) (ns : List Int) (hn : ns.length ≤ 63) :
    CallOk X 13 "law" [.list (ns.map D.int)] (fun d => d = .bool true) := by
  have L1 := (Lib.none X).add XG T (sp := spFirst) h1 (by
    rintro ds post ⟨p, rfl, h⟩
    exact ⟨rfl, first_w _ _ p post h⟩)
  have L2 := L1.add XG T (sp := spEnd) h2 (by
    rintro ds post ⟨text, x, n, rfl, ht, hs, h⟩
    exact ⟨rfl, is_end_w _ _ text ht x n hs post h⟩)
  have L3 := L2.add XG T (sp := spOn) h3 (by
    rintro ds post ⟨text, x, n, rfl, ht, hn, hs, h⟩
    exact ⟨rfl, onward_w _ _ text ht x n hn hs post h⟩)
  have L4 := L3.add XG T (sp := spDue) h4 (by
    rintro ds post ⟨text, x, n, rfl, ht, hn, hs, h⟩
    exact ⟨rfl, due_w _ _ text ht x n hn hs post h⟩)
  have L5 := L4.add XG T (sp := spSt) h5 (by
    rintro ds post ⟨x, rfl, h⟩
    exact ⟨rfl, is_state_w _ _ x post h⟩)
  have L6 := L5.add XG T (sp := spSign) h6 (by
    rintro ds post ⟨c, rfl, h⟩
    exact ⟨rfl, sign_w _ _ c post h⟩)
  have L7 := L6.add XG T (sp := spCell) h7 (by
    rintro ds post ⟨ns, k, rfl, hn, hk, h⟩
    exact ⟨rfl, cell_at_w _ _ ns hn k hk post h⟩)
  have L8 := L7.add XG T (sp := spBits) h8 (by
    rintro ds post ⟨ns, rfl, hn, h⟩
    exact ⟨rfl, bits_w _ _ Con.fnew ns hn (fun k post hk h => Con.snew ⟨ns, k, rfl, by omega, hk, h⟩) post h⟩)
  have L9 := L8.add XG T (sp := spLeaf) h9 (by
    rintro ds post ⟨c, hd, rfl, h⟩
    exact ⟨rfl, leaf_w _ _ ⟨by simp [Con.add], fun c post h => Con.sold (Con.sold (Con.snew ⟨c, rfl, h⟩))⟩ c hd post h⟩)
  have L10 := L9.add XG T (sp := spTwo) h10 (by
    rintro ds post ⟨c, x, y, rfl, h⟩
    exact ⟨rfl, two_w _ _ c x y post h⟩)
  have L11 := L10.add XG T (sp := spRound) h11 (by
    rintro ds post ⟨c, hd, x, rfl, h⟩
    exact ⟨rfl, round_w _ _ ⟨by simp [Con.add], fun c post h => Con.sold (Con.sold (Con.sold (Con.sold (Con.snew ⟨c, rfl, h⟩))))⟩ c hd x post h⟩)
  have L12 := L11.add XG T (sp := spMade) h12 (by
    rintro ds post ⟨ns, hd, rfl, hn, h⟩
    exact ⟨rfl, made_w _ _ ⟨by simp [Con.add], by simp [Con.add], by simp [Con.add], fun c hd post h => Con.sold (Con.sold (Con.snew ⟨c, hd, rfl, h⟩)), fun c p q post h => Con.sold (Con.snew ⟨c, p, q, rfl, h⟩), fun c hd p post h => Con.snew ⟨c, hd, p, rfl, h⟩⟩ ns hn hd post h⟩)
  have L13 := L12.add XG T (sp := spLaw) h13 (by
    rintro ds post ⟨ns, rfl, hn, h⟩
    refine ⟨rfl, law_w X.G _ ⟨by simp [Con.add], by simp [Con.add], by simp [Con.add], by simp [Con.add], ?_, ?_, ?_, ?_⟩ ⟨by simp [Con.add], ?_⟩ (by simp [Con.add]) (by simp [Con.add]) (by simp [Con.add]) (by simp [Con.add]) ?_ ?_ ?_ ?_ ns hn post h⟩
    · exact fun text x n post a b c d => Con.sold (Con.sold (Con.sold (Con.sold (Con.sold (Con.sold (Con.sold (Con.sold (Con.snew ⟨text, x, n, rfl, a, b, c, d⟩))))))))
    · exact fun text x n post a b c d => Con.sold (Con.sold (Con.sold (Con.sold (Con.sold (Con.sold (Con.sold (Con.sold (Con.sold (Con.snew ⟨text, x, n, rfl, a, b, c, d⟩)))))))))
    · exact fun text x n post a b c => Con.sold (Con.sold (Con.sold (Con.sold (Con.sold (Con.sold (Con.sold (Con.sold (Con.sold (Con.sold (Con.snew ⟨text, x, n, rfl, a, b, c⟩))))))))))
    · exact fun x post a => Con.sold (Con.sold (Con.sold (Con.sold (Con.sold (Con.sold (Con.sold (Con.snew ⟨x, rfl, a⟩)))))))
    · exact fun c post a => Con.sold (Con.sold (Con.sold (Con.sold (Con.sold (Con.sold (Con.snew ⟨c, rfl, a⟩))))))
    · exact fun ns k post a b c => Con.sold (Con.sold (Con.sold (Con.sold (Con.sold (Con.snew ⟨ns, k, rfl, a, b, c⟩)))))
    · exact fun ns hd post a b => Con.snew ⟨ns, hd, rfl, a, b⟩
    · exact fun ns post a b => Con.sold (Con.sold (Con.sold (Con.sold (Con.snew ⟨ns, rfl, a, b⟩))))
    · exact fun p post a => Con.sold (Con.sold (Con.sold (Con.sold (Con.sold (Con.sold (Con.sold (Con.sold (Con.sold (Con.sold (Con.sold (Con.snew ⟨p, rfl, a⟩))))))))))))
  exact L13.S _ _ _ (Con.snew ⟨ns, rfl, hn, rfl⟩)
end Mine
end

section
open PySem PySem.W PyProof.Rows
namespace Mine
set_option maxRecDepth 100000
set_option maxHeartbeats 8000000
open_top hd for PySem.Challenge.rw_uf050034_04
end Mine
end

section
open PySem PySem.W PyProof.Rows
namespace Mine
theorem relL_ints {P : Addr → Prop} {h : Heap} : ∀ {vs : List Value} {ns : List Int}, IntsAre vs ns → RelL P h (ns.map D.int) vs
  | _, _, .nil => .nil
  | _, _, .cons n t r => .cons (by simp only [Rel]; exact ⟨_, rfl⟩) (relL_ints r)
theorem boot_ok : ∀ q ∈ blist, bootBuiltins (Str.ofString q.1) = some q.2 ∧ Str.ofString q.1 ≠ "__name__" := by
  decide +kernel
end Mine
set_option maxRecDepth 100000 in
set_option maxHeartbeats 8000000 in
theorem PySem.Challenge.cw_uf050034_04_holds : PySem.Challenge.rw_uf050034_04.Holds := by
  refine Mine.hd ?_
  k_fill
  intro w s₀ s₁ mg mb G Y fa o pm cd doc dV kV ho hd hcd hD hmg hg args vals as hpre hlay hrd hwl hlo
  have KX := kIn_of Y
  refine Ground.open G ?_
  intro T B D TE TW
  wrow_args hpre hlay hrd hwl hlo
  rename Heap.IsList _ _ _ => hL
  rename IntsAre _ _ => hI
  rename (¬ ((_ : Int) < _)) => hc
  rename List Int => ns
  have hn : ns.length ≤ 63 := by omega
  let X : Mine.Wx := { prog := PySem.Challenge.rw_uf050034_04.row.prog, w := w, mg := mg, mb := mb, ok := Mine.Ext s₁.heap, G := fun _ => none }
  have IT : Mine.IsTop X _ := ⟨_, _, _, T, rfl⟩
  have XG : X.Good := by
    refine ⟨fun h h' a b => a.trans b, fun h a => T.g.keeps a, fun h a => T.b.keeps a, fun h a => T.nolimit.keeps a, fun q hq => ⟨T.free _ ?_ ?_ ?_ ?_ ?_, (T.builtins _ (Mine.boot_ok q hq).2).trans (Mine.boot_ok q hq).1⟩, fun x d hx => ?_⟩
    · revert q; decide +kernel
    · revert q; decide +kernel
    · revert q; decide +kernel
    · revert q; decide +kernel
    · revert q; decide +kernel
    · cases hx
  refine Mine.law_lib XG IT (by decide +kernel) (by decide +kernel) (by decide +kernel) (by decide +kernel) (by decide +kernel) (by decide +kernel) (by decide +kernel) (by decide +kernel) (by decide +kernel) (by decide +kernel) (by decide +kernel) (by decide +kernel) (by decide +kernel) ns hn fa hmg callerA s₁ (fun _ => True) [_] _ _
    ⟨rfl, by decide, by decide⟩ (Mine.Ext.refl _) (fun _ _ => True.intro) (.cons (by simp only [Mine.Rel]; exact ⟨_, _, rfl, True.intro, hL, Mine.relL_ints hI⟩) .nil) ?_
  rintro d v h' tk rfl x r
  simp only [Mine.Rel] at r
  subst r
  exact GoodW.toG ⟨.inl ⟨_, _, _, rfl, fun _ => rfl, .bool true, postW_of rfl (w_eq_bool (w_res rfl) w_lit) rfl, fun _ => ⟨.nil, fun _ h => (nomatch h)⟩⟩, x, rfl, hg⟩
end
