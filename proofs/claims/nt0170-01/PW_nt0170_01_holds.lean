import PyProof.Rows.All
import Wide.All
import OpenK.AllK
import Wide.FinOn
import Lean
import PySem.Challenge.RW_nt0170_01
section
open PySem
set_option Elab.async false
set_option maxRecDepth 100000
set_option tactic.hygienic false
set_option genSizeOf false
set_option genInjectivity false
namespace Mine

@[reducible] noncomputable def Names := List (Str × NameKind)
/- a name's number -/
noncomputable def cd (s : Str) : Nat := match s.cps.toList.all (fun c => Nat.blt c 256) with
  | true => s.cps.toList.foldl (fun a c => 256 * a + c) 1
  | false => 0
theorem foldl_ge : ∀ (l : List Nat) (a : Nat), 1 ≤ a → 1 ≤ l.foldl (fun a c => 256 * a + c) a
  | [], _, h => h
  | c :: l, a, h => foldl_ge l (256 * a + c) (by lia)
theorem foldl_inj : ∀ (l l' : List Nat), (∀ c ∈ l, c < 256) → (∀ c ∈ l', c < 256) → l.foldr (fun c a => 256 * a + c) 1 = l'.foldr (fun c a => 256 * a + c) 1 → l = l'
  | [], [], _, _, _ => rfl
  | [], c :: l', _, h', e => by
    have : 1 ≤ l'.foldr (fun c a => 256 * a + c) 1 := by
      have := foldl_ge l'.reverse 1 (by lia); rwa [List.foldl_reverse] at this
    simp only [List.foldr] at e; lia
  | c :: l, [], h, _, e => by
    have : 1 ≤ l.foldr (fun c a => 256 * a + c) 1 := by
      have := foldl_ge l.reverse 1 (by lia); rwa [List.foldl_reverse] at this
    simp only [List.foldr] at e; lia
  | c :: l, c' :: l', h, h', e => by
    have h1 := h c (List.mem_cons_self ..)
    have h2 := h' c' (List.mem_cons_self ..)
    simp only [List.foldr] at e
    have e1 : c = c' := by lia
    have e2 := foldl_inj l l' (fun x hx => h x (List.mem_cons_of_mem _ hx)) (fun x hx => h' x (List.mem_cons_of_mem _ hx)) (by lia)
    rw [e1, e2]
theorem cd_inj {x y : Str} (h : cd x = cd y) (h0 : cd x ≠ 0) : x = y := by
  unfold cd at h h0
  cases hx : x.cps.toList.all (fun c => Nat.blt c 256) with
  | false => rw [hx] at h0; exact absurd rfl h0
  | true =>
    cases hy : y.cps.toList.all (fun c => Nat.blt c 256) with
    | false =>
      rw [hx, hy] at h
      have := foldl_ge x.cps.toList 1 (by lia)
      simp only at h; lia
    | true =>
      rw [hx, hy] at h
      simp only at h
      have g : ∀ l : List Nat, l.all (fun c => Nat.blt c 256) = true → ∀ c ∈ l.reverse, c < 256 := fun l hl c hc => by
        have := List.all_eq_true.mp hl c (List.mem_reverse.mp hc)
        simpa [Nat.blt_eq] using this
      have e := foldl_inj x.cps.toList.reverse y.cps.toList.reverse (g _ hx) (g _ hy) (by rw [List.foldr_reverse, List.foldr_reverse]; exact h)
      have e' := List.reverse_inj.mp e
      obtain ⟨xa⟩ := x
      obtain ⟨ya⟩ := y
      have : xa = ya := Array.toList_inj.mp e'
      rw [this]
/- 0:after 1:ahead 2:at 3:body 4:bound 5:bounds 6:constants 7:count 8:counts 9:due 10:early 11:entered_here 12:found 13:free 14:has_rest 15:have 16:instruction 17:instructions 18:is_bare 19:is_start 20:known 21:label 22:last 23:later 24:many 25:met 26:names 27:needed 28:number 29:one 30:operand 31:other 32:own 33:place 34:places 35:pot 36:primitives 37:procedure 38:procedures 39:read 40:register 41:registers 42:row 43:rows 44:script 45:sort 46:start 47:step 48:told 49:turn 50:unit 51:value 52:waiting 53:wanted 54:word 55:written -/
noncomputable def varCodes : List Nat := [1517842359666, 1517874930020, 90484, 5946434681, 1522288389732, 389705827771507, 6556623628296227026035, 1526583357044, 390805339403379, 23360869, 1534938213497, 110619680012254068121381728869, 1539468258916, 6013740389, 25968163780173329268, 6046185061, 436943810960463395400806254, 111857615605878629222606401139, 101739320102187621, 26045266019492131444, 1560925927278, 1565001934188, 6113293172, 1565003113842, 6130069113, 23946612, 1573592589683, 402856748541284, 402925602104690, 24079973, 103424897465806436, 1578205996402, 24082286, 1582366286693, 405085769393523, 24145780, 1739941391364527477908851, 6796647737854981927525, 1739941820890875373446515, 6214213988, 26689852469287347570, 6832602232137560978035, 24276855, 6214874995, 408345935179892, 6231650932, 1595385410164, 6231975280, 6248426596, 6248821358, 6265137524, 1607952266597, 105660221819022951, 412735325365604, 6298759780, 105678913517413742]
/- 0:const 1:move 2:global 3:setglobal 4:define 5:free 6:closure 7:fix 8:prim 9:jump 10:branchfalse 11:call 12:give 13:target 14:constant 15:source 16:procedure 17:sources 18:rows 19:primitive 20:label 21:instruction 22:operands 23:number 24:count 25:registers 26:empty 27:end 28:unwritten 29:start 30:p -/
noncomputable def strCodes : List Nat := [1526582899572, 6130988645, 395190399557996, 6851052633156795654508, 391861649370725, 6013740389, 100042842666529381, 23488888, 6181513581, 6081047920, 428499887211117173023732581, 5962296428, 6029932133, 409436856739188, 25611811048032136820, 408397525705573, 6796647737854981927525, 104549766580626803, 6214874995, 6796646060017685460581, 1565001934188, 436943810960463395400806254, 26476773751246447731, 402925602104690, 1526583357044, 6832602232137560978035, 1535139411065, 23424612, 6888595496157314311534, 1595385410164, 368]
/- 0:entry_registers 1:operand_pairs 2:registers_read 3:registers_written 4:label_of 5:places_behind 6:is_count 7:is_below 8:are_registers 9:is_closure_row 10:are_closure_rows 11:operand_fits 12:instruction_word 13:mask_of 14:written_ahead 15:unread_place 16:head_word 17:procedure_error 18:start_word 19:unit_error 20:_law_pot 21:_law_dip 22:_law_near 23:_law_row 24:_law_leaving 25:_law_step 26:_law_unit 27:_law_sorts 28:_law_makes 29:_law_fits 30:_law_early 31:_law_first -/
noncomputable def fnCodes : List Nat := [1855890269448208680653512087246828147, 29111520605489851432141949858419, 7512525602203500690910131373039972, 126039264733698207047548512055571357394286, 26256375490296115046, 29189505921500200548040769629796, 26045265950690078324, 26045265946226749303, 28002945210897777207786495898227, 7331090626879054079921802217418615, 469811460434763787431870905791785432947, 113716877365194732156637246579, 480424800835787937856404396688366596708, 102845514849939302, 29745969721121462681023340175716, 115571430723437357483589460837, 6648133096967198700132, 1913086263723263824323708040403644274, 1754144809259911080800868, 1763479438761846312693618, 25322721970127662964, 25322721970126874992, 6482616824352647504242, 25322721970127794039, 108760262707397864400649547367, 6482616824352732374384, 6482616824352765536628, 1659549907034299404809331, 1659549907034273399661939, 6482616824352513553523, 1659549907034239040384121, 1659549907034243469570932]
/- 0:number 1:title 2:needed 3:has_rest 4:is_continuation 5:registers 6:free 7:instructions 8:procedures 9:constants 10:globals 11:start -/
noncomputable def attrCodes : List Nat := [402925602104690, 1599497071717, 402856748541284, 25968163780173329268, 1876759200484659917133287031694782318, 6832602232137560978035, 6013740389, 111857615605878629222606401139, 1739941820890875373446515, 6556623628296227026035, 101168742286847091, 1595385410164]
@[reducible] noncomputable def c_ENDS : Nat := 5457724499
@[reducible] noncomputable def c_OPERANDS : Nat := 24161888220427994195
@[reducible] noncomputable def c_pop : Nat := 24145776
@[reducible] noncomputable def c_append : Nat := 388610526637668
@[reducible] noncomputable def c_extend : Nat := 393042999996004
@[reducible] noncomputable def c_isinstance : Nat := 1706903273020983629210469
@[reducible] noncomputable def c_len : Nat := 23881070
@[reducible] noncomputable def c_set : Nat := 24339828
@[reducible] noncomputable def c_tuple : Nat := 1599698136165
@[reducible] noncomputable def c_sorted : Nat := 408397475505508
@[reducible] noncomputable def c_list : Nat := 6113817460
@[reducible] noncomputable def c_zip : Nat := 24799600
@[reducible] noncomputable def c_bool : Nat := 5946437484
@[reducible] noncomputable def c_int : Nat := 23686772
@[reducible] noncomputable def c_enumerate : Nat := 6593447022513235260517
@[reducible] noncomputable def c_all : Nat := 23161964
@[reducible] noncomputable def c_sum : Nat := 24343917
@[reducible] noncomputable def c_max : Nat := 23945592
@[reducible] noncomputable def c_range : Nat := 1590772524901
@[reducible] noncomputable def c_Procedure : Nat := 6206351927496276275813
@[reducible] noncomputable def c_Unit : Nat := 5728266612

/- plain values -/
inductive V where
  | none | bool (b : Bool) | int (i : Int) | str (c : Nat)
  | tup (vs : List V) | lst (vs : List V) | dic (ks : List Nat) (vs : List V)
  | obj (c : Bool) (fs : List V) | rng (n : Int) | pot
  deriving Inhabited

/- what a variable holds: a plain value, a list of its own, a dict of its own (its keys; all values True) -/
inductive LV where
  | imm (v : V) | own (vs : List V) | odic (ks : List V) | gone

@[reducible] noncomputable def Pot := List Int × Int × Int

structure St where
  loc : List (Nat × LV)
  pot : Option Pot

noncomputable def getL (k : Nat) : List (Nat × LV) → Option LV
  | [] => none
  | (k', v) :: r => match Nat.beq k k' with
    | true => some v
    | false => getL k r
noncomputable def setL (k : Nat) (v : LV) : List (Nat × LV) → List (Nat × LV)
  | [] => [(k, v)]
  | (k', v') :: r => match Nat.beq k k' with
    | true => (k, v) :: r
    | false => (k', v') :: setL k v r
noncomputable def St.get (σ : St) (k : Nat) : Option LV := getL k σ.loc
noncomputable def St.set (σ : St) (k : Nat) (v : LV) : St := { σ with loc := setL k v σ.loc }
noncomputable def St.setAll (σ : St) : List Nat → List LV → St
  | k :: ks, v :: vs => (σ.set k v).setAll ks vs
  | _, _ => σ
noncomputable def LV.plain : LV → LV
  | .imm v => .imm v
  | _ => .gone
noncomputable def immOnly : List (Nat × LV) → List (Nat × LV)
  | [] => []
  | (k, v) :: r => (k, v.plain) :: immOnly r

inductive Fn where
  | len | all | list | tuple | int | sum | max | range | proc | unit
  | user (c : Nat)

/- expressions, names by number, places struck -/
inductive X where
  | none | bool (b : Bool) | int (i : Int) | str (c : Nat)
  | var (k : Nat) | ends | opnds
  | tup (xs : List X) | lst (xs : List X) | dct (ks : List Nat) (xs : List X)
  | bin (op : Operator) (a b : X) | neg (a : X) | not (a : X)
  | and (xs : List X) | or (xs : List X)
  | cmp (op : CmpOp) (a b : X)
  | ite (t a b : X)
  | attr (a : X) (c : Bool) (i : Nat) | idx (a i : X) | slF (a : X) (lo : Nat) | slT (a hi : X)
  | call (f : Fn) (xs : List X) | pop (k : Nat)
  | isi (a : X) (T : Nat)
  | lenset (a : X) | tss (a : X) | lzip (a b : X) | srt (k : Nat)
  | comp (elt : X) (x : Nat) (it : X) (fs : List X)

inductive S where
  | asg (x : Nat) (e : X)
  | asgs (xs : List Nat) (es : List X)
  | unp (xs : List Nat) (e : X)
  | seti (x : Nat) (i e : X)
  | app (x : Nat) (e : X) | ext (x : Nat) (e : X)
  | fr (tgt : List Nat) (one : Bool) (en : Bool) (it : X) (body : List S)
  | whl (t : X) (body : List S)
  | iff (t : X) (b o : List S)
  | ret (e : X) | retN

inductive Fl where
  | next | ret (v : V)

noncomputable def truthP (v : V) (k : Bool → Prop) : Prop := match v with | .bool b => k b | _ => False
noncomputable def brP (b : Bool) (t e : Prop) : Prop := (b = true → t) ∧ (b = false → e)

set_option backward.match.sparseCases false in
noncomputable def eqV : V → V → Option Bool
  | .int a, .int b => some (decide (a = b))
  | .str a, .str b => some (Nat.beq a b)
  | .bool a, .bool b => some (a == b)
  | .tup vs, .tup [] => some vs.isEmpty
  | .lst vs, .lst [] => some vs.isEmpty
  | .tup [.int a, .int b], .tup [.int c, .int d] => some (decide (a = c) && decide (b = d))
  | _, _ => none

noncomputable def intsP (vs : List V) (k : List Int → Prop) : Prop := ∃ is : List Int, vs = is.map V.int ∧ k is
noncomputable def strsOf : List V → Option (List Nat)
  | [] => some []
  | .str c :: r => (strsOf r).map (c :: ·)
  | _ => none
noncomputable def hasN (k : Nat) : List Nat → Bool
  | [] => false
  | k' :: r => match Nat.beq k k' with
    | true => true
    | false => hasN k r
noncomputable def findD (k : Nat) : List Nat → List V → Option V
  | k' :: ks, v :: vs => match Nat.beq k k' with
    | true => some v
    | false => findD k ks vs
  | _, _ => none

noncomputable def endsV : V := .tup [.str 9, .str 11, .str 12]
noncomputable def opndsV : V := .dic [0, 1, 2, 3, 4, 5, 6, 7, 8, 9, 10, 11, 12]
  [.tup [.str 13, .str 14], .tup [.str 13, .str 15], .tup [.str 13, .str 2], .tup [.str 2, .str 15], .tup [.str 2, .str 15], .tup [.str 13, .str 5],
   .tup [.str 13, .str 16, .str 17], .tup [.str 18], .tup [.str 13, .str 19, .str 17], .tup [.str 20], .tup [.str 15, .str 20], .tup [.str 15, .str 15, .str 17], .tup [.str 15, .str 17]]

/- «x in c» -/
noncomputable def inP (v c : V) (k : Bool → Prop) : Prop := match v, c with
  | .str s, .tup vs => match strsOf vs with | some l => k (hasN s l) | _ => False
  | .str s, .dic ks _ => k (hasN s ks)
  | .int i, .tup vs => intsP vs fun is => k (decide (i ∈ is))
  | .int i, .lst vs => intsP vs fun is => k (decide (i ∈ is))
  | _, _ => False

noncomputable def cmpP (op : CmpOp) (a b : V) (k : Bool → Prop) : Prop := match op with
  | .Eq => match eqV a b with | some r => k r | _ => False
  | .NotEq => match eqV a b with | some r => k (!r) | _ => False
  | .Lt => match a, b with | .int x, .int y => k (decide (x < y)) | _, _ => False
  | .Gt => match a, b with | .int x, .int y => k (decide (y < x)) | _, _ => False
  | .GtE => match a, b with | .int x, .int y => k (decide (y ≤ x)) | _, _ => False
  | .In => inP a b k
  | .NotIn => inP a b fun r => k (!r)
  | .Is => match b with | .none => (match a with | .none => k true | .pot => False | _ => k false) | _ => False
  | .IsNot => match b with | .none => (match a with | .none => k false | .pot => False | _ => k true) | _ => False
  | _ => False

noncomputable def small (a : Int) : Prop := -2 ^ 60 < a ∧ a < 2 ^ 60

noncomputable def binP (op : Operator) (a b : V) (k : V → Prop) : Prop := match op, a, b with
  | .Add, .int x, .int y => k (.int (x + y))
  | .Add, .lst x, .lst y => x.length + y.length < 2 ^ 20 ∧ k (.lst (x ++ y))
  | .Sub, .int x, .int y => k (.int (x - y))
  | .Mult, .int x, .int y => (small x ∧ small y) ∧ k (.int (x * y))
  | .Mult, .lst [v], .int n => (small n ∧ n < 2 ^ 10) ∧ k (.lst (List.replicate n.toNat v))
  | .Mod, .int x, .int y => (0 < y ∧ small y) ∧ k (.int (x % y))
  | .LShift, .int x, .int y => (small x ∧ 0 ≤ y ∧ y ≤ 60) ∧ k (.int (x * 2 ^ y.toNat))
  | .BitOr, .int x, .int y => (0 ≤ x ∧ 0 ≤ y) ∧ k (.int (x.toNat ||| y.toNat : Nat))
  | .BitAnd, .int x, .int y => (0 ≤ x ∧ 0 ≤ y) ∧ k (.int (x.toNat &&& y.toNat : Nat))
  | _, _, _ => False

/- an item by a place, from behind too -/
noncomputable def itemAt (vs : List V) (i : Int) : Option V :=
  if 0 ≤ i then vs[i.toNat]? else if -(vs.length : Int) ≤ i then vs[(vs.length + i).toNat]? else none

noncomputable def idxP (a i : V) (p : Option Pot) (k : V → Prop) : Prop := match a, i with
  | .tup vs, .int n => small n ∧ ∃ v, itemAt vs n = some v ∧ k v
  | .lst vs, .int n => small n ∧ ∃ v, itemAt vs n = some v ∧ k v
  | .dic ks vs, .str c => match findD c ks vs with | some v => k v | _ => False
  | .pot, .int n => match p with
    | some (ns, at_, sd) => match n with
      | 0 => k (.lst (ns.map V.int))
      | 1 => k (.int at_)
      | 2 => k (.int sd)
      | _ => False
    | _ => False
  | _, _ => False

noncomputable def itemsP (v : V) (k : List V → Prop) : Prop := match v with
  | .tup vs => k vs
  | .lst vs => k vs
  | .rng n => (-2 ^ 60 < n ∧ n < 2 ^ 20) ∧ k ((List.range n.toNat).map fun (i : Nat) => V.int (i : Int))
  | _ => False

noncomputable def distinct (is : List Int) : Int := ((PyProof.Rows.firstMet (fun i => is.getD i 0) is.length).length : Nat)
noncomputable def fourOf (is : List Int) : List Int := [0, 1, 2, 3].filter (decide <| · ∈ is)

@[reducible] noncomputable def Calls := Nat → List V → Option Pot → (V → Option Pot → Prop) → Prop

noncomputable def callP (C : Calls) (f : Fn) (vs : List V) (p : Option Pot) (k : V → Option Pot → Prop) : Prop := match f, vs with
  | .len, [.tup xs] => xs.length < 2 ^ 20 ∧ k (.int xs.length) p
  | .len, [.lst xs] => xs.length < 2 ^ 20 ∧ k (.int xs.length) p
  | .all, [.lst xs] => ∃ bs : List Bool, xs = bs.map V.bool ∧ k (.bool (bs.all id)) p
  | .list, [.tup xs] => xs.length < 2 ^ 20 ∧ k (.lst xs) p
  | .list, [.lst xs] => xs.length < 2 ^ 20 ∧ k (.lst xs) p
  | .tuple, [.lst xs] => xs.length < 2 ^ 20 ∧ k (.tup xs) p
  | .tuple, [.rng n] => (0 ≤ n ∧ n < 2 ^ 10) ∧ k (.tup ((List.range n.toNat).map fun (i : Nat) => V.int (i : Int))) p
  | .int, [.bool b] => k (.int (if b then 1 else 0)) p
  | .int, [.int i] => k (.int i) p
  | .sum, [.lst xs] => intsP xs fun is => k (.int is.sum) p
  | .max, [.int a, .int b] => k (.int (if a < b then b else a)) p
  | .range, [.int n] => small n ∧ k (.rng n) p
  | .proc, [a, b, c, d, e, f, g, h] => k (.obj true [a, b, c, d, e, f, g, h]) p
  | .unit, [a, b, c, d] => k (.obj false [a, b, c, d]) p
  | .user c, vs => C c vs p k
  | _, _ => False

noncomputable def isiP (v : V) (T : Nat) (k : Bool → Prop) : Prop := match T, v with
  | 0, .int _ => k true
  | 1, .int _ => k false
  | 2, .tup _ => k true
  | _, _ => False

noncomputable def ownOf (a : X) (σ : St) : Option (List V) := match a with
  | .var k => match σ.get k with | some (.own vs) => some vs | _ => none
  | _ => none
noncomputable def dicOf (a : X) (σ : St) : Option (List V) := match a with
  | .var k => match σ.get k with | some (.odic ks) => some ks | _ => none
  | _ => none
/- a place that reads nothing but a name -/
noncomputable def plainIx (i : X) (σ : St) : Option Int := match i with
  | .int n => some n
  | .var k => match σ.get k with | some (.imm (.int n)) => some n | _ => none
  | _ => none

/- keys of own dicts -/
inductive Key where
  | i (n : Int) | t (n : Int) (ns : List Int)
  deriving DecidableEq
noncomputable def Key.v : Key → V
  | .i n => .int n
  | .t n ns => .tup [.int n, .tup (ns.map V.int)]
noncomputable def Key.isT : Key → Bool
  | .i _ => false
  | .t _ _ => true
noncomputable def addKey (ks : List Key) (k : Key) : List Key := if k ∈ ks then ks else ks ++ [k]

noncomputable def compL (elt : (V → St → Prop) → St → Prop) (test : (Bool → St → Prop) → St → Prop) (x : Nat) (loc : List (Nat × LV)) :
    List V → List V → Option Pot → (List V → Option Pot → Prop) → Prop
  | [], acc, p, k => k acc p
  | i :: is, acc, p, k => test (fun b σ₁ => brP b (elt (fun v σ₂ => compL elt test x loc is (acc ++ [v]) σ₂.pot k) σ₁) (compL elt test x loc is acc σ₁.pot k)) ⟨(x, .imm i) :: loc, p⟩

mutual
noncomputable def wpE (C : Calls) : X → (V → St → Prop) → St → Prop
  | .none, Q, σ => Q .none σ
  | .bool b, Q, σ => Q (.bool b) σ
  | .int i, Q, σ => Q (.int i) σ
  | .str c, Q, σ => Q (.str c) σ
  | .var k, Q, σ => match σ.get k with
    | some (.imm v) => Q v σ
    | some (.own vs) => Q (.lst vs) (σ.set k (.imm (.lst vs)))
    | _ => False
  | .ends, Q, σ => Q endsV σ
  | .opnds, Q, σ => Q opndsV σ
  | .tup xs, Q, σ => wpEs C xs (fun vs σ' => Q (.tup vs) σ') σ
  | .lst xs, Q, σ => wpEs C xs (fun vs σ' => Q (.lst vs) σ') σ
  | .dct ks xs, Q, σ => wpEs C xs (fun vs σ' => Q (.dic ks vs) σ') σ
  | .bin op a b, Q, σ => wpE C a (fun va σ₁ => wpE C b (fun vb σ₂ => binP op va vb (fun v => Q v σ₂)) σ₁) σ
  | .neg a, Q, σ => wpE C a (fun v σ' => match v with | .int i => Q (.int (-i)) σ' | _ => False) σ
  | .not a, Q, σ => wpE C a (fun v σ' => truthP v fun b => Q (.bool (!b)) σ') σ
  | .and xs, Q, σ => wpAnd C xs Q σ
  | .or xs, Q, σ => wpOr C xs Q σ
  | .cmp op a b, Q, σ => match ownOf a σ with
    | some vs => (match op, b with
      | .NotEq, .lst [] => Q (.bool (!vs.isEmpty)) σ
      | _, _ => False)
    | none => wpE C a (fun va σ₁ => match ownOf b σ₁, dicOf b σ₁ with
      | some vs, _ => (match op, va with
        | .In, .int i => intsP vs fun is => Q (.bool (decide (i ∈ is))) σ₁
        | .NotIn, .int i => intsP vs fun is => Q (.bool (!decide (i ∈ is))) σ₁
        | _, _ => False)
      | _, some ks => ∃ (K : Key) (l : List Key), va = K.v ∧ ks = l.map Key.v ∧ (∀ k ∈ l, k.isT = K.isT) ∧ (match op with
        | .In => Q (.bool (decide (K ∈ l))) σ₁
        | .NotIn => Q (.bool (!decide (K ∈ l))) σ₁
        | _ => False)
      | _, _ => wpE C b (fun vb σ₂ => cmpP op va vb fun r => Q (.bool r) σ₂) σ₁) σ
  | .ite t a b, Q, σ => wpE C t (fun v σ' => truthP v fun c => brP c (wpE C a Q σ') (wpE C b Q σ')) σ
  | .attr a c i, Q, σ => wpE C a (fun v σ' => match v with
    | .obj c' fs => c' = c ∧ (match fs[i]? with | some r => Q r σ' | _ => False)
    | _ => False) σ
  | .idx a i, Q, σ => match ownOf a σ with
    | some vs => (match plainIx i σ with
      | some n => small n ∧ ∃ v, itemAt vs n = some v ∧ Q v σ
      | none => False)
    | none => wpE C a (fun va σ₁ => wpE C i (fun vi σ₂ => idxP va vi σ₂.pot fun v => Q v σ₂) σ₁) σ
  | .slF a lo, Q, σ => wpE C a (fun v σ' => match v with
    | .tup vs => (1 ≤ lo ∧ lo ≤ vs.length ∧ vs.length < 2 ^ 20) ∧ Q (.tup (vs.drop lo)) σ'
    | _ => False) σ
  | .slT a hi, Q, σ => wpE C a (fun v σ₁ => wpE C hi (fun vh σ₂ => match v, vh with
    | .lst vs, .int n => (0 ≤ n ∧ small n ∧ vs.length < 2 ^ 20) ∧ Q (.lst (vs.take n.toNat)) σ₂
    | _, _ => False) σ₁) σ
  | .call f xs, Q, σ => wpEs C xs (fun vs σ' => callP C f vs σ'.pot fun v p => Q v { σ' with pot := p }) σ
  | .pop k, Q, σ => match σ.get k with
    | some (.own vs) => vs.length < 2 ^ 20 ∧ ∃ ini v, vs = ini ++ [v] ∧ Q v (σ.set k (.own ini))
    | _ => False
  | .isi a T, Q, σ => wpE C a (fun v σ' => isiP v T fun b => Q (.bool b) σ') σ
  | .lenset a, Q, σ => wpE C a (fun v σ' => match v with
    | .lst vs => intsP vs fun is => is.length < 2 ^ 10 ∧ Q (.int (distinct is)) σ'
    | _ => False) σ
  | .tss a, Q, σ => wpE C a (fun v σ' => match v with
    | .lst vs => intsP vs fun is => (is.length < 60 ∧ ∀ i ∈ is, 0 ≤ i ∧ i < 4) ∧ Q (.tup ((fourOf is).map V.int)) σ'
    | _ => False) σ
  | .lzip a b, Q, σ => wpE C a (fun va σ₁ => wpE C b (fun vb σ₂ => match va, vb with
    | .tup vs, .tup us => (vs.length = us.length ∧ 0 < vs.length ∧ vs.length < 2 ^ 10) ∧ Q (.lst ((vs.zip us).map fun p => .tup [p.1, p.2])) σ₂
    | _, _ => False) σ₁) σ
  | .srt k, Q, σ => match σ.get k with
    | some (.odic ks) => intsP ks fun is => (is.length < 60 ∧ is.Nodup) ∧ ∀ l : List Int, l.Perm is → l.Pairwise (· ≤ ·) → Q (.lst (l.map V.int)) σ
    | _ => False
  | .comp elt x it fs, Q, σ => wpE C it (fun v σ' => itemsP v fun items =>
      items.length < 2 ^ 20 ∧ compL (fun Q σ => wpE C elt Q σ) (fun Q σ => wpTs C fs Q σ) x (immOnly σ'.loc) items [] σ'.pot fun vs p => Q (.lst vs) { σ' with pot := p }) σ
noncomputable def wpEs (C : Calls) : List X → (List V → St → Prop) → St → Prop
  | [], Q, σ => Q [] σ
  | x :: xs, Q, σ => wpE C x (fun v σ' => wpEs C xs (fun vs σ'' => Q (v :: vs) σ'') σ') σ
noncomputable def wpAnd (C : Calls) : List X → (V → St → Prop) → St → Prop
  | [], _, _ => False
  | x :: xs, Q, σ => match xs with
    | [] => wpE C x Q σ
    | _ :: _ => wpE C x (fun v σ' => truthP v fun b => brP b (wpAnd C xs Q σ') (Q v σ')) σ
noncomputable def wpOr (C : Calls) : List X → (V → St → Prop) → St → Prop
  | [], _, _ => False
  | x :: xs, Q, σ => match xs with
    | [] => wpE C x Q σ
    | _ :: _ => wpE C x (fun v σ' => truthP v fun b => brP b (Q v σ') (wpOr C xs Q σ')) σ
noncomputable def wpTs (C : Calls) : List X → (Bool → St → Prop) → St → Prop
  | [], Q, σ => Q true σ
  | x :: xs, Q, σ => match xs with
    | [] => wpE C x (fun v σ' => truthP v fun b => Q b σ') σ
    | _ :: _ => False
end

/- an expression whose value may be a list of the target's own -/
noncomputable def wpR (C : Calls) : X → (LV → St → Prop) → St → Prop
  | .lst xs, Q, σ => wpEs C xs (fun vs σ' => Q (.own vs) σ') σ
  | .dct [] [], Q, σ => Q (.odic []) σ
  | .bin .Mult (.lst [x]) b, Q, σ => wpE C x (fun v σ₁ => wpE C b (fun vb σ₂ => match vb with
    | .int n => (small n ∧ n < 2 ^ 10) ∧ Q (.own (List.replicate n.toNat v)) σ₂
    | _ => False) σ₁) σ
  | .ite t a b, Q, σ => wpE C t (fun v σ' => truthP v fun c => brP c (wpR C a Q σ') (wpR C b Q σ')) σ
  | e, Q, σ => wpE C e (fun v σ' => Q (.imm v) σ') σ
noncomputable def wpRs (C : Calls) : List X → (List LV → St → Prop) → St → Prop
  | [], Q, σ => Q [] σ
  | x :: xs, Q, σ => wpR C x (fun v σ' => wpRs C xs (fun vs σ'' => Q (v :: vs) σ'') σ') σ

noncomputable def unpP (v : V) (n : Nat) (k : List V → Prop) : Prop := match v with
  | .tup vs => vs.length = n ∧ k vs
  | _ => False
noncomputable def enumV (n : Nat) : List V → List V
  | [] => []
  | v :: vs => .tup [.int n, v] :: enumV (n + 1) vs

noncomputable def bindP (tgt : List Nat) (one : Bool) (v : V) (σ : St) (k : St → Prop) : Prop := match one with
  | true => match tgt with
    | [x] => k (σ.set x (.imm v))
    | _ => False
  | false => unpP v tgt.length fun vs => k (σ.setAll tgt (vs.map .imm))

noncomputable def forL (body : (Fl → St → Prop) → St → Prop) (tgt : List Nat) (one : Bool) : List V → (Fl → St → Prop) → St → Prop
  | [], Q, σ => Q .next σ
  | i :: is, Q, σ => bindP tgt one i σ (body fun fl σ' => match fl with
    | .next => forL body tgt one is Q σ'
    | .ret v => Q (.ret v) σ')

noncomputable def whileN (test : (V → St → Prop) → St → Prop) (body : (Fl → St → Prop) → St → Prop) : Nat → (Fl → St → Prop) → St → Prop
  | 0, _, _ => False
  | n + 1, Q, σ => test (fun v σ₁ => truthP v fun b => brP b (body (fun fl σ₂ => match fl with
    | .next => whileN test body n Q σ₂
    | .ret v => Q (.ret v) σ₂) σ₁) (Q .next σ₁)) σ

mutual
noncomputable def wpS (C : Calls) : S → (Fl → St → Prop) → St → Prop
  | .asg x e, Q, σ => wpR C e (fun lv σ' => Q .next (σ'.set x lv)) σ
  | .asgs xs es, Q, σ => wpRs C es (fun lvs σ' => Q .next (σ'.setAll xs lvs)) σ
  | .unp xs e, Q, σ => wpE C e (fun v σ' => unpP v xs.length fun vs => Q .next (σ'.setAll xs (vs.map .imm))) σ
  | .seti x i e, Q, σ => wpE C e (fun v σ₁ => match σ₁.get x with
    | some (.own vs) => (match plainIx i σ₁ with
      | some n => (0 ≤ n ∧ n < vs.length ∧ small n) ∧ Q .next (σ₁.set x (.own (vs.set n.toNat v)))
      | none => False)
    | some (.imm .pot) => (match σ₁.pot, plainIx i σ₁, v with
      | some (ns, at_, sd), some n, .int a => (match n with
        | 1 => Q .next { σ₁ with pot := some (ns, a, sd) }
        | 2 => Q .next { σ₁ with pot := some (ns, at_, a) }
        | _ => False)
      | _, _, _ => False)
    | some (.odic _) => wpE C i (fun vi σ₂ => match σ₂.get x, v with
      | some (.odic ks), .bool true => ∃ (K : Key) (l : List Key), vi = K.v ∧ ks = l.map Key.v ∧ (∀ k ∈ l, k.isT = K.isT) ∧ l.length < 2 ^ 10 ∧ Q .next (σ₂.set x (.odic ((addKey l K).map Key.v)))
      | _, _ => False) σ₁
    | _ => False) σ
  | .app x e, Q, σ => match σ.get x with
    | some (.own _) => wpE C e (fun v σ' => match σ'.get x with
      | some (.own vs) => vs.length < 2 ^ 20 ∧ Q .next (σ'.set x (.own (vs ++ [v])))
      | _ => False) σ
    | _ => False
  | .ext x e, Q, σ => match σ.get x with
    | some (.own _) => wpE C e (fun v σ' => match σ'.get x, v with
      | some (.own vs), .lst us => vs.length + us.length < 2 ^ 20 ∧ Q .next (σ'.set x (.own (vs ++ us)))
      | some (.own vs), .tup us => vs.length + us.length < 2 ^ 20 ∧ Q .next (σ'.set x (.own (vs ++ us)))
      | _, _ => False) σ
    | _ => False
  | .fr tgt one en it body, Q, σ => wpE C it (fun v σ' => match en with
    | true => (match v with | .lst vs => vs.length < 2 ^ 20 ∧ forL (fun Q σ => wpSs C body Q σ) tgt one (enumV 0 vs) Q σ' | _ => False)
    | false => itemsP v fun items => forL (fun Q σ => wpSs C body Q σ) tgt one items Q σ') σ
  | .whl t body, Q, σ => ∃ n, whileN (fun Q σ => wpE C t Q σ) (fun Q σ => wpSs C body Q σ) n Q σ
  | .iff t b o, Q, σ => wpE C t (fun v σ' => truthP v fun c => brP c (wpSs C b Q σ') (wpSs C o Q σ')) σ
  | .ret e, Q, σ => wpE C e (fun v σ' => Q (.ret v) σ') σ
  | .retN, Q, σ => Q (.ret .none) σ
noncomputable def wpSs (C : Calls) : List S → (Fl → St → Prop) → St → Prop
  | [], Q, σ => Q .next σ
  | s :: ss, Q, σ => wpS C s (fun fl σ' => match fl with
    | .next => wpSs C ss Q σ'
    | .ret v => Q (.ret v) σ') σ
end

/- a body's answer -/
noncomputable def wpF (C : Calls) (body : List S) (k : V → Option Pot → Prop) (σ : St) : Prop :=
  wpSs C body (fun fl σ' => match fl with | .ret v => k v σ'.pot | .next => k .none σ'.pot) σ

/- the translation -/
noncomputable def ixIn (c : Nat) : List Nat → Nat → Option Nat
  | [], _ => none
  | c' :: r, i => match Nat.beq c c' with
    | true => some i
    | false => ixIn c r (i + 1)
noncomputable def varIx (x : Str) : Option Nat := ixIn (cd x) varCodes 0
noncomputable def strIx (x : Str) : Option Nat := ixIn (cd x) strCodes 0
noncomputable def attrIx (x : Str) : Option (Bool × Nat) := match ixIn (cd x) attrCodes 0 with
  | some i => some (if i < 8 then (true, i) else (false, i - 8))
  | none => none
/- names of one scope have numbers of their own -/
noncomputable def namesOk (nm : Names) : Bool := (nm.map fun p => cd p.1).Nodup && (nm.map (·.1)).Nodup
noncomputable def relab (nm : Names) (sc : Names) : Names := sc.map fun (n, k) => if (k == .free && nm.lookup n == some .cell) then (n, .cell) else (n, k)
noncomputable def compOk (nm : Names) (sc : Scope) (x : Str) : Bool := sc.kind == .function && namesOk sc.names &&
  sc.names.all fun (n, k) => (k == .local && (n == x || varIx n == none)) || k == .globalImplicit || (k == .free && nm.lookup n == some .cell && (varIx n).isSome)

set_option backward.match.sparseCases false in
noncomputable def okBase : Expr → Bool
  | .Name .. | .Subscript .. | .Attribute .. => true
  | _ => false

/- a def of the program: its parameters' numbers and its body -/
structure FX where
  params : List Nat
  body : List S
end Mine
end

section
open PySem PySem.W PyProof.Rows
set_option Elab.async false
set_option genCtorIdx false
set_option maxRecDepth 100000
set_option tactic.hygienic false
set_option genSizeOf false
set_option genInjectivity false
namespace Mine

/- the addresses that the proof goes by: the pot's list, the two classes -/
structure GP where
  P : Addr
  CP : Addr
  CU : Addr
  w : World

@[reducible] noncomputable def FM := Addr → Option Obj
noncomputable def FM.le (F F' : FM) : Prop := ∀ a o, F a = some o → F' a = some o
noncomputable def FM.ins (F : FM) (h : Heap) : Prop := ∀ a o, F a = some o → h.get? a = some o
noncomputable def FM.put (F : FM) (a : Addr) (o : Obj) : FM := fun b => if b = a then some o else F b
theorem FM.le.refl (F : FM) : F.le F := fun zz zz e => e
theorem FM.le.trans {F G H : FM} (a : F.le G) (b : G.le H) : F.le H := fun x o e => b x o (a x o e)
theorem FM.le_put {F : FM} {a : Addr} {o : Obj} (h : F a = none) : F.le (F.put a o) := fun b x e => by
  unfold FM.put
  by_cases hb : b = a
  · subst hb; rw [h] at e; cases e
  · rw [if_neg hb]; exact e
theorem FM.put_self (F : FM) (a : Addr) (o : Obj) : F.put a o a = some o := if_pos rfl
theorem FM.put_ne (F : FM) {a b : Addr} (o : Obj) (h : b ≠ a) : F.put a o b = F b := if_neg h

noncomputable def procNames : List Str := ["number", "title", "needed", "has_rest", "is_continuation", "registers", "free", "instructions"]
noncomputable def unitNames : List Str := ["procedures", "constants", "globals", "start"]
noncomputable def nmsOf (c : Bool) : List Str := if c then procNames else unitNames
noncomputable def GP.cls (g : GP) (c : Bool) : Addr := if c then g.CP else g.CU

@[reducible] noncomputable def tupO (vs : List Value) (n : Nat) : Obj := { cls := .type "tuple", data := .seq vs.toArray n }
@[reducible] noncomputable def lstO (vs : List Value) (n : Nat) : Obj := { cls := .type "list", data := .seq vs.toArray n }
@[reducible] noncomputable def dicO (es : List DictEntry) (n : Nat) : Obj := { cls := .type "dict", data := .dict es.toArray n }

mutual
inductive Rep (g : GP) (F : FM) : Value → V → Prop
  | none : Rep g F .none .none
  | bool (b : Bool) : Rep g F (.bool b) (.bool b)
  | int (i : Int) (t : Tok) : Rep g F (.int i t) (.int i)
  | str {x : Str} {t : Tok} {c : Nat} (h : strIx x = some c) : Rep g F (.str x t) (.str c)
  | tup {a : Addr} {vs : List Value} {n : Nat} {ds : List V} (h : F a = some (tupO vs n)) (r : RepAll g F vs ds) : Rep g F (.ref a) (.tup ds)
  | lst {a : Addr} {vs : List Value} {n : Nat} {ds : List V} (h : F a = some (lstO vs n)) (r : RepAll g F vs ds) : Rep g F (.ref a) (.lst ds)
  | dic {a : Addr} {es : List DictEntry} {n : Nat} {ks : List Nat} {ds : List V} (h : F a = some (dicO es n)) (hs : (a == sysModules) = false) (r : RepEnt g F es ks ds) : Rep g F (.ref a) (.dic ks ds)
  | obj {x d : Addr} {c : Bool} {o od : Obj} {es : Array DictEntry} {ep : Nat} {vs : List Value} {fs : List V} (h : F x = some o) (hc : o.cls = .ref (g.cls c)) (hn : ∀ k, o.data ≠ .cls k) (hd : o.dict = some d) (hne : d ≠ x)
      (h2 : F d = some od) (h3 : od.data = .dict es ep) (h4 : StrKeys es) (h5 : UniqKeys es) (hl : vs.length = (nmsOf c).length) (h6 : ∀ (i : Nat) (nm : Str), (nmsOf c)[i]? = some nm → nsFind es nm = vs[i]?)
      (r : RepAll g F vs fs) : Rep g F (.ref x) (.obj c fs)
  | rng {a : Addr} {n : Int} {t u v : Tok} (h : F a = some { cls := .type "range", dict := none, data := .fields #[.int 0 t, .int n u, .int 1 v], slots := #[] }) : Rep g F (.ref a) (.rng n)
  | pot : Rep g F (.ref g.P) .pot
inductive RepAll (g : GP) (F : FM) : List Value → List V → Prop
  | nil : RepAll g F [] []
  | cons {v : Value} {d : V} {vs : List Value} {ds : List V} (h : Rep g F v d) (r : RepAll g F vs ds) : RepAll g F (v :: vs) (d :: ds)
inductive RepEnt (g : GP) (F : FM) : List DictEntry → List Nat → List V → Prop
  | nil : RepEnt g F [] [] []
  | cons {h : Int} {x : Str} {t : Tok} {v : Value} {es : List DictEntry} {k : Nat} {ks : List Nat} {d : V} {ds : List V} (hh : h = hashStr g.w x) (hk : strIx x = some k) (hv : Rep g F v d) (r : RepEnt g F es ks ds) :
      RepEnt g F (⟨h, .str x t, v⟩ :: es) (k :: ks) (d :: ds)
end
theorem Rep.mono {g : GP} {F F' : FM} (l : F.le F') {v : Value} {d : V} (h : Rep g F v d) : Rep g F' v d :=
  Rep.rec (motive_1 := fun v d zz => Rep g F' v d) (motive_2 := fun vs ds zz => RepAll g F' vs ds) (motive_3 := fun es ks ds zz => RepEnt g F' es ks ds) .none (fun b => .bool b) (fun i t => .int i t) (fun h => .str h)
    (fun h zz r => .tup (l _ _ h) r) (fun h zz r => .lst (l _ _ h) r) (fun h hs zz r => .dic (l _ _ h) hs r) (fun h hc hn hd hne h2 h3 h4 h5 hl h6 zz r => .obj (l _ _ h) hc hn hd hne (l _ _ h2) h3 h4 h5 hl h6 r) (fun h => .rng (l _ _ h)) .pot .nil (fun zz zz h r => .cons h r) .nil (fun hh hk zz zz h r => .cons hh hk h r) h
theorem RepAll.mono {g : GP} {F F' : FM} (l : F.le F') {vs : List Value} {ds : List V} (h : RepAll g F vs ds) : RepAll g F' vs ds := by
  induction vs generalizing ds with
  | nil => cases h; exact .nil
  | cons v vs ih => cases h with | cons h r => exact .cons (h.mono l) (ih r)
theorem RepEnt.mono {g : GP} {F F' : FM} (l : F.le F') {es : List DictEntry} {ks : List Nat} {ds : List V} (h : RepEnt g F es ks ds) : RepEnt g F' es ks ds := by
  induction es generalizing ks ds with
  | nil => cases h; exact .nil
  | cons e es ih => cases h with | cons hh hk h r => exact .cons hh hk (h.mono l) (ih r)

section
variable {g : GP} {F : FM} {v : Value} {vs us : List Value} {d : V} {ds es : List V}
theorem RepAll.length (h : RepAll g F vs ds) : vs.length = ds.length := by
  induction vs generalizing ds with
  | nil => cases h; rfl
  | cons v vs ih => cases h with | cons h r => rw [List.length_cons, List.length_cons, ih r]
theorem RepAll.append (h : RepAll g F vs ds) (k : RepAll g F us es) : RepAll g F (vs ++ us) (ds ++ es) := by
  induction vs generalizing ds with
  | nil => cases h; exact k
  | cons v vs ih => cases h with | cons h r => exact .cons h (ih r)
theorem RepAll.get (h : RepAll g F vs ds) {i : Nat} {d : V} (e : ds[i]? = some d) : ∃ v, vs[i]? = some v ∧ Rep g F v d := by
  induction vs generalizing ds i with
  | nil => cases h; simp at e
  | cons v vs ih =>
    cases h with
    | cons h r =>
      cases i with
      | zero => simp at e; subst e; exact ⟨v, rfl, h⟩
      | succ i => exact ih r (by simpa using e)
theorem RepAll.get' (h : RepAll g F vs ds) {i : Nat} {v : Value} (e : vs[i]? = some v) : ∃ d, ds[i]? = some d ∧ Rep g F v d := by
  induction vs generalizing ds i with
  | nil => simp at e
  | cons u us ih =>
    cases h with
    | cons h r =>
      cases i with
      | zero => simp at e; subst e; exact ⟨_, rfl, h⟩
      | succ i => exact ih r (by simpa using e)
theorem RepAll.drop (h : RepAll g F vs ds) (n : Nat) : RepAll g F (vs.drop n) (ds.drop n) := by
  induction n generalizing vs ds with
  | zero => exact h
  | succ n ih => cases h with
    | nil => exact .nil
    | cons h r => exact ih r
theorem RepAll.take (h : RepAll g F vs ds) (n : Nat) : RepAll g F (vs.take n) (ds.take n) := by
  induction n generalizing vs ds with
  | zero => exact .nil
  | succ n ih => cases h with
    | nil => exact .nil
    | cons h r => exact .cons h (ih r)
theorem RepAll.set (h : RepAll g F vs ds) (i : Nat) {v : Value} {d : V} (hv : Rep g F v d) : RepAll g F (vs.set i v) (ds.set i d) := by
  induction i generalizing vs ds with
  | zero => cases h with
    | nil => exact .nil
    | cons h r => exact .cons hv r
  | succ i ih => cases h with
    | nil => exact .nil
    | cons h r => exact .cons h (ih r)
theorem RepAll.replicate (n : Nat) (hv : Rep g F v d) : RepAll g F (List.replicate n v) (List.replicate n d) := by
  induction n with
  | zero => exact .nil
  | succ n ih => exact .cons hv ih
theorem RepAll.one (h : Rep g F v d) : RepAll g F [v] [d] := .cons h .nil
theorem RepAll.split {ini : List V} {d : V} (h : RepAll g F vs (ini ++ [d])) : ∃ us v, vs = us ++ [v] ∧ RepAll g F us ini ∧ Rep g F v d := by
  induction ini generalizing vs with
  | nil => cases h with | cons h r => cases r; exact ⟨[], _, rfl, .nil, h⟩
  | cons e ini ih =>
    cases h with
    | cons h r =>
      obtain ⟨us, v, rfl, hr, hv⟩ := ih r
      exact ⟨_ :: us, v, rfl, .cons h hr, hv⟩
theorem RepAll.ints {is : List Int} (h : RepAll g F vs (is.map V.int)) : IntsAre vs is := by
  induction is generalizing vs with
  | nil => cases h; exact .nil
  | cons i is ih => cases h with | cons h r => cases h; exact .cons _ _ (ih r)
theorem RepAll.of_ints {is : List Int} (h : IntsAre vs is) : RepAll g F vs (is.map V.int) := by
  induction h with
  | nil => exact .nil
  | cons _ _ _ ih => exact .cons (.int _ _) ih
theorem RepAll.ofEq {is : List Int} (h : RepAll g F vs (is.map V.int)) : vs.length = is.length := by rw [h.length, List.length_map]
end

/- what a value that stands for d looks like -/
section
variable {g : GP} {F : FM} {v : Value} {us : List Value} {ds : List V}
/- a value that stands for d, read off d -/
noncomputable def RepOut (g : GP) (F : FM) (v : Value) : V → Prop
  | .none => v = .none
  | .bool b => v = .bool b
  | .int i => ∃ t, v = .int i t
  | .str c => ∃ x t, v = .str x t ∧ strIx x = some c
  | .tup ds => ∃ a vs n, v = .ref a ∧ F a = some (tupO vs n) ∧ RepAll g F vs ds
  | .lst ds => ∃ a vs n, v = .ref a ∧ F a = some (lstO vs n) ∧ RepAll g F vs ds
  | .dic ks ds => ∃ a es n, v = .ref a ∧ F a = some (dicO es n) ∧ (a == sysModules) = false ∧ RepEnt g F es ks ds
  | .obj c fs => ∃ x d o od es ep vs, v = .ref x ∧ F x = some o ∧ o.cls = .ref (g.cls c) ∧ (∀ k, o.data ≠ .cls k) ∧ o.dict = some d ∧ d ≠ x ∧ F d = some od ∧ od.data = .dict es ep ∧ StrKeys es ∧ UniqKeys es ∧ vs.length = (nmsOf c).length ∧ (∀ (i : Nat) (nm : Str), (nmsOf c)[i]? = some nm → nsFind es nm = vs[i]?) ∧ RepAll g F vs fs
  | .rng n => ∃ a t u w, v = .ref a ∧ F a = some { cls := .type "range", dict := Option.none, data := .fields #[.int 0 t, .int n u, .int 1 w], slots := #[] }
  | .pot => v = .ref g.P
theorem Rep.out {d : V} (h : Rep g F v d) : RepOut g F v d := by
  cases h with
  | none => rfl
  | bool => rfl
  | int _ t => exact ⟨t, rfl⟩
  | @str x t _ h => exact ⟨x, t, rfl, h⟩
  | @tup a vs n _ h r => exact ⟨a, vs, n, rfl, h, r⟩
  | @lst a vs n _ h r => exact ⟨a, vs, n, rfl, h, r⟩
  | @dic a es n _ _ h hs r => exact ⟨a, es, n, rfl, h, hs, r⟩
  | @obj x d _ o od es ep vs _ h hc hn hd hne h2 h3 h4 h5 hl h6 r => exact ⟨x, d, o, od, es, ep, vs, rfl, h, hc, hn, hd, hne, h2, h3, h4, h5, hl, h6, r⟩
  | @rng a _ t u w h => exact ⟨a, t, u, w, rfl, h⟩
  | pot => rfl
theorem Rep.shape {d : V} (h : Rep g F v d) : (d = .none ∧ v = .none) ∨ (∃ b, v = .bool b) ∨ (∃ i t, v = .int i t) ∨ (∃ x t, v = .str x t) ∨ ∃ a, v = .ref a := by
  cases h with
  | none => exact .inl ⟨rfl, rfl⟩
  | bool b => exact .inr (.inl ⟨b, rfl⟩)
  | int i t => exact .inr (.inr (.inl ⟨i, t, rfl⟩))
  | @str x t => exact .inr (.inr (.inr (.inl ⟨x, t, rfl⟩)))
  | @tup a => exact .inr (.inr (.inr (.inr ⟨a, rfl⟩)))
  | @lst a => exact .inr (.inr (.inr (.inr ⟨a, rfl⟩)))
  | @dic a => exact .inr (.inr (.inr (.inr ⟨a, rfl⟩)))
  | @obj a => exact .inr (.inr (.inr (.inr ⟨a, rfl⟩)))
  | @rng a => exact .inr (.inr (.inr (.inr ⟨a, rfl⟩)))
  | pot => exact .inr (.inr (.inr (.inr ⟨_, rfl⟩)))
theorem Rep.invInt {i : Int} (h : Rep g F v (.int i)) : ∃ t, v = .int i t := h.out
theorem Rep.invBool {b : Bool} (h : Rep g F v (.bool b)) : v = .bool b := h.out
theorem Rep.invNone (h : Rep g F v .none) : v = .none := h.out
theorem Rep.invPot (h : Rep g F v .pot) : v = .ref g.P := h.out
theorem Rep.invStr {c : Nat} (h : Rep g F v (.str c)) : ∃ x t, v = .str x t ∧ strIx x = some c := h.out
theorem Rep.invTup (h : Rep g F v (.tup ds)) : ∃ a vs n, v = .ref a ∧ F a = some (tupO vs n) ∧ RepAll g F vs ds := h.out
theorem Rep.invLst (h : Rep g F v (.lst ds)) : ∃ a vs n, v = .ref a ∧ F a = some (lstO vs n) ∧ RepAll g F vs ds := h.out
theorem Rep.invDic {ks : List Nat} (h : Rep g F v (.dic ks ds)) : ∃ a es n, v = .ref a ∧ F a = some (dicO es n) ∧ (a == sysModules) = false ∧ RepEnt g F es ks ds := h.out
theorem Rep.invRng {n : Int} (h : Rep g F v (.rng n)) : ∃ a t u w, v = .ref a ∧ F a = some { cls := .type "range", dict := Option.none, data := .fields #[.int 0 t, .int n u, .int 1 w], slots := #[] } := h.out
theorem Rep.invTupR {a : Addr} (h : Rep g F (.ref a) (.tup ds)) : ∃ vs n, F a = some (tupO vs n) ∧ RepAll g F vs ds := (by obtain ⟨_, vs, n, e, q⟩ := h.out; exact ⟨vs, n, Value.ref.inj e ▸ q⟩)
noncomputable def RepAllOut (g : GP) (F : FM) (us : List Value) : List V → Prop
  | [] => us = []
  | d :: ds => ∃ v vs, us = v :: vs ∧ Rep g F v d ∧ RepAll g F vs ds
theorem RepAll.out (h : RepAll g F us ds) : RepAllOut g F us ds := by
  cases h with
  | nil => rfl
  | @cons v _ vs _ h r => exact ⟨v, vs, rfl, h, r⟩
theorem RepAll.invNil (h : RepAll g F us []) : us = [] := h.out
theorem RepAll.invCons {d : V} (h : RepAll g F us (d :: ds)) : ∃ v vs, us = v :: vs ∧ Rep g F v d ∧ RepAll g F vs ds := h.out
theorem RepAll.inv1 {d : V} (h : RepAll g F us [d]) : ∃ v, us = [v] ∧ Rep g F v d := (by obtain ⟨v, _, e, r, q⟩ := h.invCons; exact ⟨v, by rw [e, q.invNil], r⟩)
theorem RepAll.inv2 {d e : V} (h : RepAll g F us [d, e]) : ∃ v w, us = [v, w] ∧ Rep g F v d ∧ Rep g F w e := (by obtain ⟨v, _, e, r, q⟩ := h.invCons; exact (by obtain ⟨w, e', r'⟩ := q.inv1; exact ⟨v, w, by rw [e, e'], r, r'⟩))
end

/- own dicts -/
noncomputable def pairHash (n : Int) (ns : List Int) : Int := reduceHash (Builtin.Tuple.tupleHashOf [hashInt n, reduceHash (Builtin.Tuple.tupleHashOf (ns.map hashInt))])
noncomputable def PairAt (F : FM) (n : Int) (ns : List Int) (a : Addr) : Prop :=
  ∃ (b : Addr) (us : List Value) (t : Tok) (m m' : Nat), F a = some (tupO [.int n t, .ref b] m) ∧ F b = some (tupO us m') ∧ IntsAre us ns
noncomputable def EntAt (F : FM) (e : DictEntry) : Key → Prop
  | .i n => ∃ t, e = ⟨hashInt n, .int n t, .bool true⟩
  | .t n ns => ∃ a, e = ⟨pairHash n ns, .ref a, .bool true⟩ ∧ PairAt F n ns a
inductive EntsAt (F : FM) : List DictEntry → List Key → Prop
  | nil : EntsAt F [] []
  | cons {e : DictEntry} {k : Key} {es : List DictEntry} {ks : List Key} (h : EntAt F e k) (r : EntsAt F es ks) : EntsAt F (e :: es) (k :: ks)
noncomputable def OdicAt (F : FM) (h : Heap) (a : Addr) (vs : List V) : Prop :=
  ∃ (l : List Key) (es : List DictEntry) (n : Nat), vs = l.map Key.v ∧ h.get? a = some (dicO es n) ∧ l.Nodup ∧ EntsAt F es l
theorem EntAt.mono {F F' : FM} (l : F.le F') {e : DictEntry} {k : Key} (h : EntAt F e k) : EntAt F' e k := by
  cases k with
  | i n => exact h
  | t n ns =>
    obtain ⟨a, rfl, b, us, t, m, m', h1, h2, h3⟩ := h
    exact ⟨a, rfl, b, us, t, m, m', l _ _ h1, l _ _ h2, h3⟩
theorem EntsAt.mono {F F' : FM} (l : F.le F') {es : List DictEntry} {ks : List Key} (h : EntsAt F es ks) : EntsAt F' es ks := by
  induction h with
  | nil => exact .nil
  | cons h _ ih => exact .cons (h.mono l) ih
theorem OdicAt.mono {F F' : FM} {h h' : Heap} {a : Addr} {vs : List V} (x : OdicAt F h a vs) (l : F.le F') (k : ∀ o, h.get? a = some o → h'.get? a = some o) : OdicAt F' h' a vs :=
  let ⟨ks, es, n, e, hg, nd, r⟩ := x
  ⟨ks, es, n, e, k _ hg, nd, r.mono l⟩

noncomputable def PotRel (g : GP) (F : FM) (p : Pot) (h : Heap) : Prop :=
  ∃ (l : Addr) (vs : List Value) (n m : Nat) (t u : Tok), h.get? g.P = some (lstO [.ref l, .int p.2.1 t, .int p.2.2 u] n) ∧ F l = some (lstO vs m) ∧ IntsAre vs p.1
theorem PotRel.mono {g : GP} {F F' : FM} {p : Pot} {h h' : Heap} (x : PotRel g F p h) (l : F.le F') (k : ∀ o, h.get? g.P = some o → h'.get? g.P = some o) : PotRel g F' p h' :=
by
  obtain ⟨a, vs, n, m, t, u, h1, h2, h3⟩ := x
  exact ⟨a, vs, n, m, t, u, k _ h1, l _ _ h2, h3⟩

/- a frame and its state -/
structure Cx where
  g : GP
  env : Env
  h0 : FM
  F0 : FM
  s0 : Shared
  wr : Bool
  hp : Bool

noncomputable def LV.isOwn : LV → Bool
  | .imm _ => false
  | .gone => false
  | _ => true
noncomputable def Owned (σ : St) (k : Nat) : Prop := ∃ lv, σ.get k = some lv ∧ lv.isOwn = true

noncomputable def LocRel (g : GP) (F : FM) (o : Nat → Addr) (k : Nat) (ov : Option Value) : Option LV → Prop
  | none => True
  | some (.imm v) => ∃ x, ov = some x ∧ Rep g F x v
  | some .gone => True
  | some _ => ov = some (.ref (o k))

structure Off (c : Cx) (F : FM) (T : List (Addr × Obj)) (a : Addr) : Prop where
  f : F a = none
  t : ∀ p ∈ T, p.1 ≠ a
  l : a ≠ c.env.locals
  ce : ∀ x b, c.env.cells.lookup x = some b → b ≠ a
  p : a ≠ c.g.P
  h : c.h0 a = none

structure Rel (c : Cx) (F : FM) (T : List (Addr × Obj)) (o : Nat → Addr) (σ : St) (s : Shared) : Prop where
  same : ∃ h t, s = { c.s0 with heap := h, toks := t }
  fro : F.ins s.heap
  f0 : c.F0.le F
  fnew : ∀ a ob, F a = some ob → c.F0 a = some ob ∨ c.h0 a = none
  tmp : ∀ p ∈ T, s.heap.get? p.1 = some p.2
  kept : ∀ a ob, c.h0 a = some ob → (σ.pot ≠ none → a ≠ c.g.P) → s.heap.get? a = some ob
  ns : ∃ m, s.heap.Ns c.env.locals m ∧ ∀ x k, c.env.kindOf x = some .local → varIx x = some k → LocRel c.g F o k (m x) (σ.get k)
  cel : ∀ x k, c.env.kindOf x = some .cell → varIx x = some k → ∃ a ov, c.env.cells.lookup x = some a ∧ s.heap.IsCell a ov ∧ LocRel c.g F o k ov (σ.get k)
  own : ∀ k vs, σ.get k = some (.own vs) → ∃ us n, s.heap.get? (o k) = some (lstO us n) ∧ RepAll c.g F us vs
  dct : ∀ k ks, σ.get k = some (.odic ks) → OdicAt F s.heap (o k) ks
  off : ∀ k, Owned σ k → Off c F T (o k)
  inj : ∀ k k', Owned σ k → Owned σ k' → o k = o k' → k = k'
  pot : ∀ p, σ.pot = some p → PotRel c.g F p s.heap
  hP : ∃ ob, c.h0 c.g.P = some ob
  offP : σ.pot ≠ none → F c.g.P = none ∧ (∀ q ∈ T, q.1 ≠ c.g.P)
  offL : F c.env.locals = none ∧ (∀ q ∈ T, q.1 ≠ c.env.locals) ∧ c.h0 c.env.locals = none
  offC : ∀ x a, c.env.cells.lookup x = some a → (∃ ov, s.heap.IsCell a ov) ∧ F a = none ∧ (∀ q ∈ T, q.1 ≠ a) ∧ a ≠ c.env.locals ∧ (c.wr = true → c.h0 a = none)
  injC : ∀ x y a, c.env.cells.lookup x = some a → c.env.cells.lookup y = some a → x = y
  offT : ∀ p ∈ T, F p.1 = none ∧ c.h0 p.1 = none
  potB : σ.pot.isSome = c.hp

theorem fresh_none {h : Heap} {a : Addr} (e : h.objs.size ≤ a) : h.get? a = none := Heap.get?_none_of_le e

section
variable {c : Cx} {F F' : FM} {T : List (Addr × Obj)} {o : Nat → Addr} {σ : St} {s : Shared}
theorem Rel.pAt (R : Rel c F T o σ s) : ∃ ob, s.heap.get? c.g.P = some ob := by
  obtain ⟨ob, h⟩ := R.hP
  cases hp : σ.pot with
  | none => exact ⟨ob, R.kept _ _ h (fun e => absurd hp e)⟩
  | some p => obtain ⟨l, vs, n, m, t, u, h1, _⟩ := R.pot p hp; exact ⟨_, h1⟩
/- whatever is not in the heap is off -/
theorem Rel.offNew (R : Rel c F T o σ s) {a : Addr} (e : s.heap.get? a = none) : Off c F T a where
  f := by
    cases h : F a with
    | none => rfl
    | some ob => rw [R.fro _ _ h] at e; cases e
  t := fun p hp q => by rw [← q, R.tmp p hp] at e; cases e
  l := fun q => by obtain ⟨m, ⟨ob, _, _, h, _⟩, _⟩ := R.ns; rw [q, h] at e; cases e
  ce := fun x b hb q => by obtain ⟨⟨ov, ob, h, _⟩, _⟩ := R.offC x b hb; rw [← q, h] at e; cases e
  p := fun q => by obtain ⟨ob, h⟩ := R.pAt; rw [q, h] at e; cases e
  h := by
    cases h : c.h0 a with
    | none => rfl
    | some ob =>
      by_cases q : a = c.g.P
      · obtain ⟨ob', h'⟩ := R.pAt; rw [q, h'] at e; cases e
      · rw [R.kept _ _ h (fun zz => q)] at e; cases e
theorem Rel.ownNe (R : Rel c F T o σ s) {a : Addr} (e : s.heap.get? a = none) {k : Nat} (hk : Owned σ k) : o k ≠ a := fun q => by
  obtain ⟨lv, h1, h2⟩ := hk
  cases lv with
  | imm v => cases h2
  | gone => cases h2
  | own vs => obtain ⟨us, n, h, _⟩ := R.own k vs h1; rw [q] at h; rw [h] at e; cases e
  | odic ks => obtain ⟨l, es, n, _, h, _⟩ := R.dct k ks h1; rw [q] at h; rw [h] at e; cases e
theorem LocRel.mono {g : GP} {o : Nat → Addr} {k : Nat} {ov : Option Value} {lv : Option LV} (l : F.le F') (h : LocRel g F o k ov lv) : LocRel g F' o k ov lv := by
  cases lv with
  | none => trivial
  | some lv => cases lv with
    | imm v => obtain ⟨x, e, r⟩ := h; exact ⟨x, e, r.mono l⟩
    | own vs => exact h
    | odic ks => exact h
    | gone => trivial

/- behind anything that keeps what stood (but the pot) -/
theorem Rel.resumeL (R : Rel c F T o σ s) {h' : Heap} {t : Nat} {p' : Option Pot} (hF : F.le F') (hins : F'.ins h') (hnew : ∀ a ob, F' a = some ob → F a = some ob ∨ s.heap.get? a = none)
    (hk : ∀ a ob, a ≠ c.env.locals → s.heap.get? a = some ob → (σ.pot ≠ none → a ≠ c.g.P) → h'.get? a = some ob) (hns : ∀ m, s.heap.Ns c.env.locals m → h'.Ns c.env.locals m) (h0 : σ.pot = none → p' = none) (hp : ∀ p, p' = some p → PotRel c.g F' p h') (h1 : σ.pot ≠ none → p' ≠ none) :
    Rel c F' T o { σ with pot := p' } { s with heap := h', toks := t } := by
  have hget : ∀ k, St.get { σ with pot := p' } k = σ.get k := fun zz => rfl
  have keepL : ∀ a ob, a ≠ c.env.locals → s.heap.get? a = some ob → a ≠ c.g.P → h'.get? a = some ob := fun a ob l e q => hk a ob l e (fun zz => q)
  have celN : ∀ x a, c.env.cells.lookup x = some a → a ≠ c.env.locals := fun x a hx => (R.offC x a hx).2.2.2.1
  have locP : c.env.locals ≠ c.g.P := fun q => by
    obtain ⟨ob, h⟩ := R.hP
    have := R.offL.2.2; rw [q, h] at this; cases this
  have newNone : ∀ {a ob}, s.heap.get? a = some ob → F a = none → F' a = none := fun {a ob} e hf => by
    cases h : F' a with
    | none => rfl
    | some ob' =>
      rcases hnew _ _ h with q | q
      · rw [q] at hf; cases hf
      · rw [q] at e; cases e
  have ownAt : ∀ k, Owned σ k → ∃ ob, s.heap.get? (o k) = some ob := fun k ⟨lv, e1, e2⟩ => by
    cases lv with
    | imm v => cases e2
    | gone => cases e2
    | own vs => obtain ⟨us, n, h, _⟩ := R.own k vs e1; exact ⟨_, h⟩
    | odic ks => obtain ⟨l, es, n, _, h, _⟩ := R.dct k ks e1; exact ⟨_, h⟩
  have cellP : ∀ x a, c.env.cells.lookup x = some a → σ.pot ≠ none → a ≠ c.g.P := fun x a hx hpn q => by
    obtain ⟨⟨ov, ob, e, hd⟩, _⟩ := R.offC x a hx
    cases hs : σ.pot with
    | none => exact hpn hs
    | some p =>
      obtain ⟨l, vs, n, m, t, u, e1, _⟩ := R.pot p hs
      rw [q, e1] at e; cases e; cases hd
  exact {
    same := (by obtain ⟨h, t', e⟩ := R.same; exact ⟨h', t, by rw [e]⟩)
    fro := hins
    f0 := R.f0.trans hF
    fnew := fun a ob e => by
      rcases hnew a ob e with q | q
      · exact R.fnew a ob q
      · exact .inr (R.offNew q).h
    tmp := fun q hq => hk _ _ (R.offL.2.1 q hq) (R.tmp q hq) (fun e => (R.offP e).2 q hq)
    kept := fun a ob e q => by
      refine hk _ _ (fun e' => by rw [e', R.offL.2.2] at e; cases e) (R.kept a ob e fun e' => ?_) fun e' => ?_
      · exact q (h1 e')
      · exact q (h1 e')
    ns := by
      obtain ⟨m, hm, r⟩ := R.ns
      exact ⟨m, hns m hm, fun x k hx hk' => (r x k hx hk').mono hF⟩
    cel := fun x k hx hk' => by
      obtain ⟨a, ov, ha, ⟨ob, e, hd⟩, r⟩ := R.cel x k hx hk'
      exact ⟨a, ov, ha, ⟨ob, hk _ _ (celN x a ha) e (cellP x a ha), hd⟩, r.mono hF⟩
    own := fun k vs e => by
      obtain ⟨us, n, h, r⟩ := R.own k vs e
      exact ⟨us, n, keepL _ _ (R.off k ⟨_, e, rfl⟩).l h (R.off k ⟨_, e, rfl⟩).p, RepAll.mono hF r⟩
    dct := fun k ks e => (R.dct k ks e).mono hF fun ob h => keepL _ _ (R.off k ⟨_, e, rfl⟩).l h (R.off k ⟨_, e, rfl⟩).p
    off := fun k hk' => by
      have O := R.off k hk'
      obtain ⟨ob, e⟩ := ownAt k hk'
      exact ⟨newNone e O.f, O.t, O.l, O.ce, O.p, O.h⟩
    inj := R.inj
    pot := hp
    hP := R.hP
    offP := fun e => by
      have e' : σ.pot ≠ none := fun q => e (h0 q)
      obtain ⟨ob, hp'⟩ := R.pAt
      exact ⟨newNone hp' (R.offP e').1, (R.offP e').2⟩
    offL := by
      obtain ⟨m, ⟨ob, _, _, e, _⟩, _⟩ := R.ns
      exact ⟨newNone e R.offL.1, R.offL.2⟩
    offC := fun x a hx => by
      obtain ⟨⟨ov, ob, e, hd⟩, r1, r2, r3⟩ := R.offC x a hx
      exact ⟨⟨ov, ob, hk _ _ (celN x a hx) e (cellP x a hx), hd⟩, newNone e r1, r2, r3⟩
    injC := R.injC
    offT := fun p hp => ⟨newNone (R.tmp p hp) (R.offT p hp).1, (R.offT p hp).2⟩
    potB := by
      rw [← R.potB]
      cases e : σ.pot with
      | none => rw [h0 e]
      | some q =>
        cases e' : p' with
        | none => exact absurd e' (h1 (by rw [e]; simp))
        | some q' => rfl }

/- behind anything that keeps what stood (but the pot) -/
theorem Rel.resume (R : Rel c F T o σ s) {h' : Heap} {t : Nat} {p' : Option Pot} (hF : F.le F') (hins : F'.ins h') (hnew : ∀ a ob, F' a = some ob → F a = some ob ∨ s.heap.get? a = none)
    (hk : ∀ a ob, s.heap.get? a = some ob → (σ.pot ≠ none → a ≠ c.g.P) → h'.get? a = some ob) (h0 : σ.pot = none → p' = none) (hp : ∀ p, p' = some p → PotRel c.g F' p h') (h1 : σ.pot ≠ none → p' ≠ none) :
    Rel c F' T o { σ with pot := p' } { s with heap := h', toks := t } := by
  have locP : c.env.locals ≠ c.g.P := fun q => by
    obtain ⟨ob, h⟩ := R.hP
    have := R.offL.2.2; rw [q, h] at this; cases this
  exact R.resumeL hF hins hnew (fun a ob zz => hk a ob) (fun m hm => hm.at' fun ob e => hk _ _ e fun zz => locP) h0 hp h1

theorem St.eta (σ : St) : ({ σ with pot := σ.pot } : St) = σ := rfl
/- the heap has grown, nothing is told of what is new -/
theorem Rel.grow (R : Rel c F T o σ s) {h' : Heap} {t : Nat} (hk : ∀ a ob, s.heap.get? a = some ob → h'.get? a = some ob) : Rel c F T o σ { s with heap := h', toks := t } :=
  R.resume (p' := σ.pot) (FM.le.refl F) (fun a ob e => hk _ _ (R.fro _ _ e)) (fun zz zz e => .inl e) (fun a ob e zz => hk a ob e) id (fun p e => (R.pot p e).mono (FM.le.refl F) fun zz => hk _ _) id
theorem Rel.growL (R : Rel c F T o σ s) {h' : Heap} {t : Nat} (hk : ∀ a ob, a ≠ c.env.locals → s.heap.get? a = some ob → h'.get? a = some ob) (hns : ∀ m, s.heap.Ns c.env.locals m → h'.Ns c.env.locals m) : Rel c F T o σ { s with heap := h', toks := t } :=
  R.resumeL (p' := σ.pot) (FM.le.refl F) (fun a ob e => hk _ _ (fun q => by rw [q, R.offL.1] at e; cases e) (R.fro _ _ e)) (fun zz zz e => .inl e) (fun a ob l e zz => hk a ob l e) hns id (fun p e => (R.pot p e).mono (FM.le.refl F) fun zz => hk _ _ fun q => by
    obtain ⟨ob, h⟩ := R.hP
    have := R.offL.2.2; rw [← q, h] at this; cases this) id
theorem Rel.tok (R : Rel c F T o σ s) (t : Nat) : Rel c F T o σ { s with toks := t } := R.grow fun zz zz e => e
/- the heap has grown by an object that is now held fast -/
theorem Rel.new (R : Rel c F T o σ s) {h' : Heap} {t : Nat} {a : Addr} {ob : Obj} (hk : ∀ a ob, s.heap.get? a = some ob → h'.get? a = some ob) (ha : s.heap.get? a = none) (h : h'.get? a = some ob) :
    F.le (F.put a ob) ∧ Rel c (F.put a ob) T o σ { s with heap := h', toks := t } := by
  have l : F.le (F.put a ob) := FM.le_put (R.offNew ha).f
  refine ⟨l, R.resume (p' := σ.pot) l (fun b x e => ?_) (fun b x e => ?_) (fun a ob e zz => hk a ob e) id (fun p e => (R.pot p e).mono l fun zz => hk _ _) id⟩
  · unfold FM.put at e
    by_cases hb : b = a
    · rw [if_pos hb] at e; cases e; rw [hb]; exact h
    · rw [if_neg hb] at e; exact hk _ _ (R.fro _ _ e)
  · unfold FM.put at e
    by_cases hb : b = a
    · right; rw [hb]; exact ha
    · rw [if_neg hb] at e; exact .inl e
theorem Rel.dropT (R : Rel c F T o σ s) {T' : List (Addr × Obj)} (h : ∀ p ∈ T', p ∈ T) : Rel c F T' o σ s :=
  { R with
    tmp := fun p hp => R.tmp p (h p hp)
    off := fun k hk => let O := R.off k hk; ⟨O.f, fun p hp => O.t p (h p hp), O.l, O.ce, O.p, O.h⟩
    offP := fun e => ⟨(R.offP e).1, fun q hq => (R.offP e).2 q (h q hq)⟩
    offL := ⟨R.offL.1, fun q hq => R.offL.2.1 q (h q hq), R.offL.2.2⟩
    offC := fun x a hx => (by obtain ⟨h1, h2, h3, h4⟩ := R.offC x a hx; exact ⟨h1, h2, fun q hq => h3 q (h q hq), h4⟩)
    offT := fun p hp => R.offT p (h p hp) }
/- an object that is nobody's is held fast for a while -/
theorem Rel.addT (R : Rel c F T o σ s) {a : Addr} {ob : Obj} (h : s.heap.get? a = some ob) (O : Off c F T a) (ho : ∀ k, Owned σ k → o k ≠ a) : Rel c F ((a, ob) :: T) o σ s :=
  { R with
    tmp := fun p hp => by
      rcases List.mem_cons.mp hp with rfl | hp
      · exact h
      · exact R.tmp p hp
    off := fun k hk => let O' := R.off k hk; ⟨O'.f, fun p hp => by
      rcases List.mem_cons.mp hp with rfl | hp
      · exact (ho k hk).symm
      · exact O'.t p hp, O'.l, O'.ce, O'.p, O'.h⟩
    offP := fun e => ⟨(R.offP e).1, fun q hq => by
      rcases List.mem_cons.mp hq with rfl | hq
      · exact O.p
      · exact (R.offP e).2 q hq⟩
    offL := ⟨R.offL.1, fun q hq => by
      rcases List.mem_cons.mp hq with rfl | hq
      · exact O.l
      · exact R.offL.2.1 q hq, R.offL.2.2⟩
    offC := fun x b hx => let ⟨h1, h2, h3, h4⟩ := R.offC x b hx; ⟨h1, h2, fun q hq => by
      rcases List.mem_cons.mp hq with rfl | hq
      · exact (O.ce x b hx).symm
      · exact h3 q hq, h4⟩
    offT := fun p hp => by
      rcases List.mem_cons.mp hp with rfl | hp
      · exact ⟨O.f, O.h⟩
      · exact R.offT p hp }
/- an object that is held fast is changed -/
theorem Rel.updB (R : Rel c F T o σ s) {B : Addr → Prop} (hB : ∀ b, B b → ∃ ob, (b, ob) ∈ T) {T' : List (Addr × Obj)} {h' : Heap} {t : Nat} (hT : ∀ p ∈ T', (B p.1 ∧ h'.get? p.1 = some p.2) ∨ (p ∈ T ∧ ¬ B p.1)) (keep : ∀ a x, ¬ B a → s.heap.get? a = some x → h'.get? a = some x) :
    Rel c F T' o σ { s with heap := h', toks := t } := by
  have addr : ∀ p ∈ T', ∃ q ∈ T, q.1 = p.1 := fun p hp => by
    rcases hT p hp with ⟨h, _⟩ | ⟨h, _⟩
    · obtain ⟨ob, hm⟩ := hB _ h; exact ⟨_, hm, rfl⟩
    · exact ⟨p, h, rfl⟩
  have hP : ¬ B c.g.P := fun q => by
    obtain ⟨ob, hm⟩ := hB _ q
    obtain ⟨x, hx⟩ := R.hP
    have := (R.offT _ hm).2
    simp only at this
    rw [hx] at this; cases this
  exact {
    same := (by obtain ⟨h, t', e⟩ := R.same; exact ⟨h', t, by rw [e]⟩)
    fro := fun a x e => keep a x (fun q => by obtain ⟨ob, hm⟩ := hB _ q; rw [(R.offT _ hm).1] at e; cases e) (R.fro a x e)
    f0 := R.f0
    fnew := R.fnew
    tmp := fun p hp => by
      rcases hT p hp with ⟨h, q⟩ | ⟨h, q⟩
      · exact q
      · exact keep _ _ q (R.tmp p h)
    kept := fun a x e q => keep _ _ (fun q' => by obtain ⟨ob, hm⟩ := hB _ q'; rw [(R.offT _ hm).2] at e; cases e) (R.kept a x e q)
    ns := by
      obtain ⟨m, hm', r⟩ := R.ns
      exact ⟨m, hm'.at' (fun ob e => keep _ _ (fun q => by obtain ⟨ob, hm⟩ := hB _ q; exact R.offL.2.1 _ hm rfl) e), r⟩
    cel := fun x k hx hk => by
      obtain ⟨a, ov, ha, hc, r⟩ := R.cel x k hx hk
      exact ⟨a, ov, ha, ((by obtain ⟨ob, e, d⟩ := hc; exact ⟨ob, keep _ _ (fun q => by obtain ⟨ob, hm⟩ := hB _ q; exact (R.offC x a ha).2.2.1 _ hm rfl) e, d⟩)), r⟩
    own := fun k vs e => by
      obtain ⟨us, n, h, r⟩ := R.own k vs e
      exact ⟨us, n, keep _ _ (fun q => by obtain ⟨ob, hm⟩ := hB _ q; exact (R.off k ⟨_, e, rfl⟩).t _ hm rfl) h, r⟩
    dct := fun k ks e => (R.dct k ks e).mono (FM.le.refl F) fun x h => keep _ _ (fun q => by obtain ⟨ob, hm⟩ := hB _ q; exact (R.off k ⟨_, e, rfl⟩).t _ hm rfl) h
    off := fun k hk => let O := R.off k hk; ⟨O.f, fun p hp => (by obtain ⟨q, hq, e⟩ := addr p hp; exact e ▸ O.t q hq), O.l, O.ce, O.p, O.h⟩
    inj := R.inj
    pot := fun p e => (R.pot p e).mono (FM.le.refl F) fun x h => keep _ _ hP h
    hP := R.hP
    offP := fun e => ⟨(R.offP e).1, fun p hp => (by obtain ⟨q, hq, e'⟩ := addr p hp; exact e' ▸ (R.offP e).2 q hq)⟩
    offL := ⟨R.offL.1, fun p hp => (by obtain ⟨q, hq, e⟩ := addr p hp; exact e ▸ R.offL.2.1 q hq), R.offL.2.2⟩
    offC := fun x a hx => (by obtain ⟨⟨ov, hc⟩, h2, h3, h4⟩ := R.offC x a hx; exact ⟨⟨ov, ((by obtain ⟨ob, e, d⟩ := hc; exact ⟨ob, keep _ _ (fun q => by obtain ⟨ob, hm⟩ := hB _ q; exact h3 _ hm rfl) e, d⟩))⟩, h2, fun p hp => (by obtain ⟨q, hq, e⟩ := addr p hp; exact e ▸ h3 q hq), h4⟩)
    injC := R.injC
    offT := fun p hp => (by obtain ⟨q, hq, e⟩ := addr p hp; exact e ▸ R.offT q hq)
    potB := R.potB }
theorem Rel.updT (R : Rel c F T o σ s) {b : Addr} {ob : Obj} (hm : (b, ob) ∈ T) {T' : List (Addr × Obj)} {h' : Heap} {t : Nat} (hT : ∀ p ∈ T', (p.1 = b ∧ h'.get? b = some p.2) ∨ (p ∈ T ∧ p.1 ≠ b)) (keep : ∀ a x, a ≠ b → s.heap.get? a = some x → h'.get? a = some x) :
    Rel c F T' o σ { s with heap := h', toks := t } :=
  R.updB (B := fun a => a = b) (fun a e => ⟨ob, by rw [e]; exact hm⟩) (fun p hp => by
    rcases hT p hp with ⟨h, q⟩ | h
    · exact .inl ⟨h, by rw [h]; exact q⟩
    · exact .inr h) keep
end
end Mine
end

section
open PySem PySem.W PyProof.Rows
set_option Elab.async false
set_option maxRecDepth 100000
set_option tactic.hygienic false
set_option genSizeOf false
set_option genInjectivity false
set_option linter.unusedVariables false
namespace Mine

theorem beq_self (k : Nat) : Nat.beq k k = true := Nat.beq_refl k
theorem beq_ne {k k' : Nat} (h : k ≠ k') : Nat.beq k k' = false := by
  cases e : Nat.beq k k' with
  | false => rfl
  | true => exact absurd (Nat.eq_of_beq_eq_true e) h
theorem getL_hit {k j : Nat} {v : LV} {r : List (Nat × LV)} (h : Nat.beq k j = true) : getL k ((j, v) :: r) = some v := by
  show (match Nat.beq k j with | true => some v | false => getL k r) = some v
  rw [h]
theorem getL_miss {k j : Nat} {v : LV} {r : List (Nat × LV)} (h : Nat.beq k j = false) : getL k ((j, v) :: r) = getL k r := by
  show (match Nat.beq k j with | true => some v | false => getL k r) = _
  rw [h]
theorem setL_hit {k j : Nat} {v u : LV} {r : List (Nat × LV)} (h : Nat.beq k j = true) : setL k v ((j, u) :: r) = (k, v) :: r := by
  show (match Nat.beq k j with | true => (k, v) :: r | false => (j, u) :: setL k v r) = _
  rw [h]
theorem setL_miss {k j : Nat} {v u : LV} {r : List (Nat × LV)} (h : Nat.beq k j = false) : setL k v ((j, u) :: r) = (j, u) :: setL k v r := by
  show (match Nat.beq k j with | true => (k, v) :: r | false => (j, u) :: setL k v r) = _
  rw [h]
theorem getL_set (k k' : Nat) (v : LV) (l : List (Nat × LV)) : getL k' (setL k v l) = if k' = k then some v else getL k' l := by
  induction l with
  | nil =>
    by_cases h : k' = k
    · subst h; rw [if_pos rfl]; exact getL_hit (beq_self _)
    · rw [if_neg h]; exact getL_miss (beq_ne h)
  | cons x r ih =>
    obtain ⟨j, u⟩ := x
    by_cases hj : k = j
    · subst hj
      rw [setL_hit (beq_self k)]
      by_cases h : k' = k
      · subst h; rw [if_pos rfl]; exact getL_hit (beq_self _)
      · rw [if_neg h, getL_miss (beq_ne h), getL_miss (beq_ne h)]
    · rw [setL_miss (beq_ne hj)]
      by_cases h : k' = j
      · subst h; rw [if_neg (Ne.symm hj), getL_hit (beq_self _), getL_hit (beq_self _)]
      · rw [getL_miss (beq_ne h), getL_miss (beq_ne h)]; exact ih
theorem St.get_set (σ : St) (k k' : Nat) (v : LV) : (σ.set k v).get k' = if k' = k then some v else σ.get k' := getL_set k k' v σ.loc
@[simp] theorem St.set_pot (σ : St) (k : Nat) (v : LV) : (σ.set k v).pot = σ.pot := rfl

/- what a value at hand is good for in a store -/
inductive Got (c : Cx) (F : FM) (T : List (Addr × Obj)) (o : Nat → Addr) (σ : St) (s : Shared) : Value → LV → Prop
  | imm {x : Value} {v : V} (r : Rep c.g F x v) : Got c F T o σ s x (.imm v)
  | own {a : Addr} {us : List Value} {n : Nat} {vs : List V} (h : s.heap.get? a = some (lstO us n)) (r : RepAll c.g F us vs) (O : Off c F T a) (ho : ∀ k, Owned σ k → o k ≠ a) : Got c F T o σ s (.ref a) (.own vs)
  | dic {a : Addr} {ks : List V} (h : OdicAt F s.heap a ks) (O : Off c F T a) (ho : ∀ k, Owned σ k → o k ≠ a) : Got c F T o σ s (.ref a) (.odic ks)

/- the owner map behind a store -/
noncomputable def refOf : Value → Addr
  | .ref a => a
  | _ => 0
noncomputable def putO (o : Nat → Addr) (k : Nat) (v : Value) : LV → Nat → Addr
  | .imm _ => o
  | _ => fun k' => if k' = k then refOf v else o k'

noncomputable def NmOk (env : Env) : Prop := ∀ x y k, env.kindOf x ≠ none → env.kindOf y ≠ none → varIx x = some k → varIx y = some k → x = y

section
variable {c : Cx} {F F' : FM} {T : List (Addr × Obj)} {o : Nat → Addr} {σ : St} {s : Shared}

theorem putO_ne {o : Nat → Addr} {k k' : Nat} {v : Value} {lv : LV} (h : k' ≠ k) : putO o k v lv k' = o k' := by
  cases lv with
  | imm _ => rfl
  | _ => exact if_neg h
theorem putO_own {o : Nat → Addr} {k : Nat} {a : Addr} {vs : List V} : putO o k (.ref a) (.own vs) k = a := if_pos rfl
theorem putO_dic {o : Nat → Addr} {k : Nat} {a : Addr} {vs : List V} : putO o k (.ref a) (.odic vs) k = a := if_pos rfl

theorem LocRel.other {g : GP} {k k' : Nat} {ov : Option Value} {v : Value} {lv : LV} (h : k' ≠ k) {w : Option LV} (r : LocRel g F o k' ov w) : LocRel g F (putO o k v lv) k' ov w := by
  cases w with
  | none => trivial
  | some w => cases w with
    | imm _ => exact r
    | own _ => show ov = some (.ref (putO o k v lv k')); rw [putO_ne h]; exact r
    | odic _ => show ov = some (.ref (putO o k v lv k')); rw [putO_ne h]; exact r
    | gone => trivial
theorem Got.loc {v : Value} {lv : LV} (G : Got c F T o σ s v lv) (k : Nat) : LocRel c.g F (putO o k v lv) k (some v) (some lv) := by
  cases G with
  | imm r => exact ⟨_, rfl, r⟩
  | own h r O ho => exact congrArg (fun a => some (Value.ref a)) putO_own.symm
  | dic h O ho => exact congrArg (fun a => some (Value.ref a)) putO_dic.symm
theorem owned_set {k k' : Nat} {lv : LV} (h : Owned (σ.set k lv) k') : (k' = k ∧ lv.isOwn = true) ∨ (k' ≠ k ∧ Owned σ k') := by
  obtain ⟨w, e, q⟩ := h
  rw [St.get_set] at e
  by_cases hk : k' = k
  · rw [if_pos hk] at e; cases e; exact .inl ⟨hk, q⟩
  · rw [if_neg hk] at e; exact .inr ⟨hk, w, e, q⟩

/- all of the relation but the variable's own place -/
theorem get_set_inv {k k' : Nat} {lv lv' : LV} (e : (σ.set k lv).get k' = some lv') : (k' = k ∧ lv = lv') ∨ (k' ≠ k ∧ σ.get k' = some lv') := by
  rw [St.get_set] at e
  by_cases h : k' = k
  · rw [if_pos h] at e; exact .inl ⟨h, Option.some.inj e⟩
  · rw [if_neg h] at e; exact .inr ⟨h, e⟩
theorem Got.ownAt {k : Nat} {v : Value} {vs : List V} (G : Got c F T o σ s v (.own vs)) : ∃ a us n, putO o k v (.own vs) k = a ∧ v = .ref a ∧ s.heap.get? a = some (lstO us n) ∧ RepAll c.g F us vs := by
  cases G with | own h r O ho => exact ⟨_, _, _, putO_own, rfl, h, r⟩
theorem Got.dicAt {k : Nat} {v : Value} {ks : List V} (G : Got c F T o σ s v (.odic ks)) : ∃ a, putO o k v (.odic ks) k = a ∧ v = .ref a ∧ OdicAt F s.heap a ks := by
  cases G with | dic h O ho => exact ⟨_, putO_dic, rfl, h⟩
theorem Got.offAt {k : Nat} {v : Value} {lv : LV} (G : Got c F T o σ s v lv) (h : lv.isOwn = true) : Off c F T (putO o k v lv k) ∧ ∀ k', Owned σ k' → o k' ≠ putO o k v lv k := by
  cases G with
  | imm r => cases h
  | own h r O ho => rw [putO_own]; exact ⟨O, ho⟩
  | dic h O ho => rw [putO_dic]; exact ⟨O, ho⟩
theorem Rel.store (R : Rel c F T o σ s) {k : Nat} {v : Value} {lv : LV} (G : Got c F T o σ s v lv) {h' : Heap} {t : Nat} {b : Addr}
    (hs : Heap.SameBut b s.heap h') (hbF : F b = none) (hbT : ∀ p ∈ T, p.1 ≠ b) (hbh : c.h0 b = none) (hbO : ∀ k', Owned σ k' → o k' ≠ b) (hbP : b ≠ c.g.P) (hbG : ∀ a, v = .ref a → lv.isOwn = true → a ≠ b)
    (hcl : ∀ x a, c.env.cells.lookup x = some a → ∃ ov, h'.IsCell a ov)
    (hns : ∃ m, h'.Ns c.env.locals m ∧ ∀ x k', c.env.kindOf x = some .local → varIx x = some k' → LocRel c.g F (putO o k v lv) k' (m x) ((σ.set k lv).get k'))
    (hce : ∀ x k', c.env.kindOf x = some .cell → varIx x = some k' → ∃ a ov, c.env.cells.lookup x = some a ∧ h'.IsCell a ov ∧ LocRel c.g F (putO o k v lv) k' ov ((σ.set k lv).get k')) :
    Rel c F T (putO o k v lv) (σ.set k lv) { s with heap := h', toks := t } := by
  have keep : ∀ a ob, a ≠ b → s.heap.get? a = some ob → h'.get? a = some ob := fun a ob q e => (hs.2 a q).trans e
  exact {
    same := (by obtain ⟨h, t', e⟩ := R.same; exact ⟨h', t, by rw [e]⟩)
    fro := fun a ob e => keep a ob (fun q => by rw [q, hbF] at e; cases e) (R.fro a ob e)
    f0 := R.f0
    fnew := R.fnew
    tmp := fun p hp => keep _ _ (hbT p hp) (R.tmp p hp)
    kept := fun a ob e q => keep _ _ (fun q' => by rw [q', hbh] at e; cases e) (R.kept a ob e q)
    ns := hns
    cel := hce
    own := fun k' vs e => by
      rcases get_set_inv e with ⟨rfl, rfl⟩ | ⟨hk, e⟩
      · obtain ⟨a, us, n, q, rfl, h, r⟩ := G.ownAt
        rw [q]; exact ⟨us, n, keep _ _ (hbG a rfl rfl) h, r⟩
      · obtain ⟨us, n, h, r⟩ := R.own k' vs e
        rw [putO_ne hk]
        exact ⟨us, n, keep _ _ (hbO k' ⟨_, e, rfl⟩) h, r⟩
    dct := fun k' ks e => by
      rcases get_set_inv e with ⟨rfl, rfl⟩ | ⟨hk, e⟩
      · obtain ⟨a, q, rfl, h⟩ := G.dicAt
        rw [q]; exact h.mono (FM.le.refl F) fun ob e => keep _ _ (hbG a rfl rfl) e
      · rw [putO_ne hk]
        exact (R.dct k' ks e).mono (FM.le.refl F) fun ob h => keep _ _ (hbO k' ⟨_, e, rfl⟩) h
    off := fun k' hk' => by
      rcases owned_set hk' with ⟨rfl, q⟩ | ⟨q, h⟩
      · exact (G.offAt q).1
      · rw [putO_ne q]; exact R.off k' h
    inj := fun k₁ k₂ h₁ h₂ e => by
      rcases owned_set h₁ with ⟨rfl, q₁⟩ | ⟨q₁, w₁⟩ <;> rcases owned_set h₂ with ⟨rfl, q₂⟩ | ⟨q₂, w₂⟩
      · rfl
      · rw [putO_ne q₂] at e; exact absurd e.symm ((G.offAt q₁).2 _ w₂)
      · rw [putO_ne q₁] at e; exact absurd e ((G.offAt q₂).2 _ w₁)
      · rw [putO_ne q₁, putO_ne q₂] at e; exact R.inj _ _ w₁ w₂ e
    pot := fun p e => (R.pot p e).mono (FM.le.refl F) fun ob h => keep _ _ hbP.symm h
    hP := R.hP
    offP := R.offP
    offL := R.offL
    offC := fun x a hx => ⟨hcl x a hx, (R.offC x a hx).2⟩
    injC := R.injC
    offT := R.offT
    potB := R.potB }

theorem Rel.locP (R : Rel c F T o σ s) : c.env.locals ≠ c.g.P := fun q => by
  obtain ⟨ob, h⟩ := R.hP
  have := R.offL.2.2; rw [q, h] at this; cases this
theorem Rel.cellP (R : Rel c F T o σ s) (hw : c.wr = true) {x : Str} {a : Addr} (hx : c.env.cells.lookup x = some a) : a ≠ c.g.P := fun q => by
  obtain ⟨ob, h⟩ := R.hP
  have := (R.offC x a hx).2.2.2.2 hw; rw [q, h] at this; cases this

theorem Rel.storeL (R : Rel c F T o σ s) (hN : NmOk c.env) {x : Str} {k : Nat} (hx : c.env.kindOf x = some .local) (hk : varIx x = some k) {v : Value} {lv : LV} (G : Got c F T o σ s v lv) {h' : Heap} {t : Nat}
    (hn : ∀ m, s.heap.Ns c.env.locals m → h'.Ns c.env.locals fun y => if y = x then some v else m y) (hs : Heap.SameBut c.env.locals s.heap h') :
    Rel c F T (putO o k v lv) (σ.set k lv) { s with heap := h', toks := t } := by
  refine R.store G hs R.offL.1 R.offL.2.1 R.offL.2.2 (fun k' h => (R.off k' h).l) R.locP (fun a ha q => ?_) (fun y a hy => ?_) ?_ fun y k' hy hk' => ?_
  · cases G with
    | imm r => cases q
    | own h r O ho => cases ha; exact O.l
    | dic h O ho => cases ha; exact O.l
  · obtain ⟨⟨ov, hc⟩, _, _, h4, _⟩ := R.offC y a hy
    exact ⟨ov, hc.sameBut hs h4⟩
  · obtain ⟨m, hm, r⟩ := R.ns
    refine ⟨_, hn m hm, fun y k' hy hk' => ?_⟩
    by_cases q : y = x
    · subst q
      rw [hk] at hk'; cases hk'
      rw [if_pos rfl, St.get_set, if_pos rfl]
      exact G.loc k
    · have qk : k' ≠ k := fun e => q (hN y x k (by rw [hy]; simp) (by rw [hx]; simp) (e ▸ hk') hk)
      rw [if_neg q, St.get_set, if_neg qk]
      exact (r y k' hy hk').other qk
  · obtain ⟨a, ov, ha, hc, r⟩ := R.cel y k' hy hk'
    have qk : k' ≠ k := fun e => by
      have : y = x := hN y x k (by rw [hy]; simp) (by rw [hx]; simp) (e ▸ hk') hk
      rw [this, hx] at hy; cases hy
    refine ⟨a, ov, ha, hc.sameBut hs (R.offC y a ha).2.2.2.1, ?_⟩
    rw [St.get_set, if_neg qk]
    exact r.other qk

theorem Rel.storeC (R : Rel c F T o σ s) (hN : NmOk c.env) (hw : c.wr = true) {x : Str} {k : Nat} (hx : c.env.kindOf x = some .cell) (hk : varIx x = some k) {v : Value} {lv : LV} (G : Got c F T o σ s v lv) {h' : Heap} {t : Nat} {b : Addr}
    (hb : c.env.cells.lookup x = some b) (hv : h'.IsCell b (some v)) (hs : Heap.SameBut b s.heap h') :
    Rel c F T (putO o k v lv) (σ.set k lv) { s with heap := h', toks := t } := by
  obtain ⟨_, hbF, hbT, hbl, hbh⟩ := R.offC x b hb
  refine R.store G hs hbF hbT (hbh hw) (fun k' h => ((R.off k' h).ce x b hb).symm) (R.cellP hw hb) (fun a ha q => ?_) (fun y a hy => ?_) ?_ fun y k' hy hk' => ?_
  · cases G with
    | imm r => cases q
    | own h r O ho => cases ha; exact (O.ce x b hb).symm
    | dic h O ho => cases ha; exact (O.ce x b hb).symm
  · by_cases q : a = b
    · subst q; exact ⟨_, hv⟩
    · obtain ⟨⟨ov, hc⟩, _⟩ := R.offC y a hy
      exact ⟨ov, hc.sameBut hs q⟩
  · obtain ⟨m, hm, r⟩ := R.ns
    refine ⟨m, hm.sameBut hs (Ne.symm hbl), fun y k' hy hk' => ?_⟩
    have qk : k' ≠ k := fun e => by
      have : y = x := hN y x k (by rw [hy]; simp) (by rw [hx]; simp) (e ▸ hk') hk
      rw [this, hx] at hy; cases hy
    rw [St.get_set, if_neg qk]
    exact (r y k' hy hk').other qk
  · by_cases q : y = x
    · subst q
      rw [hk] at hk'; cases hk'
      refine ⟨b, _, hb, hv, ?_⟩
      rw [St.get_set, if_pos rfl]
      exact G.loc k
    · have qk : k' ≠ k := fun e => q (hN y x k (by rw [hy]; simp) (by rw [hx]; simp) (e ▸ hk') hk)
      obtain ⟨a, ov, ha, hc, r⟩ := R.cel y k' hy hk'
      have qa : a ≠ b := fun e => q (R.injC y x b (e ▸ ha) hb)
      refine ⟨a, ov, ha, hc.sameBut hs qa, ?_⟩
      rw [St.get_set, if_neg qk]
      exact r.other qk

/- a change of a variable's own list or dict -/
theorem Rel.upd (R : Rel c F T o σ s) {k : Nat} (hO : Owned σ k) {lv : LV} (hl : lv.isOwn = true) {h' : Heap} {t : Nat} (hs : Heap.SameBut (o k) s.heap h')
    (h : match lv with | .imm _ => False | .gone => False | .own vs => ∃ us n, h'.get? (o k) = some (lstO us n) ∧ RepAll c.g F us vs | .odic ks => OdicAt F h' (o k) ks) :
    Rel c F T o (σ.set k lv) { s with heap := h', toks := t } := by
  have Ok := R.off k hO
  have keep : ∀ a ob, a ≠ o k → s.heap.get? a = some ob → h'.get? a = some ob := fun a ob q e => (hs.2 a q).trans e
  have loc : ∀ k' ov, LocRel c.g F o k' ov (σ.get k') → LocRel c.g F o k' ov ((σ.set k lv).get k') := fun k' ov r => by
    rw [St.get_set]
    by_cases q : k' = k
    · subst q
      rw [if_pos rfl]
      obtain ⟨w, e, q⟩ := hO
      rw [e] at r
      cases w with
      | imm _ => cases q
      | gone => cases q
      | own _ => cases lv with
        | imm _ => cases hl
        | gone => cases hl
        | own _ => exact r
        | odic _ => exact r
      | odic _ => cases lv with
        | imm _ => cases hl
        | gone => cases hl
        | own _ => exact r
        | odic _ => exact r
    · rw [if_neg q]; exact r
  have ownIff : ∀ k', Owned (σ.set k lv) k' → Owned σ k' := fun k' h => by
    rcases owned_set h with ⟨rfl, _⟩ | ⟨_, h⟩
    · exact hO
    · exact h
  exact {
    same := (by obtain ⟨h, t', e⟩ := R.same; exact ⟨h', t, by rw [e]⟩)
    fro := fun a ob e => keep a ob (fun q => by rw [q, Ok.f] at e; cases e) (R.fro a ob e)
    f0 := R.f0
    fnew := R.fnew
    tmp := fun p hp => keep _ _ (Ok.t p hp) (R.tmp p hp)
    kept := fun a ob e q => keep _ _ (fun q' => by rw [q', Ok.h] at e; cases e) (R.kept a ob e q)
    ns := by
      obtain ⟨m, hm, r⟩ := R.ns
      exact ⟨m, hm.sameBut hs Ok.l.symm, fun x k' hx hk' => loc _ _ (r x k' hx hk')⟩
    cel := fun x k' hx hk' => by
      obtain ⟨a, ov, ha, hc, r⟩ := R.cel x k' hx hk'
      exact ⟨a, ov, ha, hc.sameBut hs (Ok.ce x a ha), loc _ _ r⟩
    own := fun k' vs e => by
      rw [St.get_set] at e
      by_cases q : k' = k
      · rw [if_pos q] at e; cases e; subst q; exact h
      · rw [if_neg q] at e
        obtain ⟨us, n, hh, r⟩ := R.own k' vs e
        exact ⟨us, n, keep _ _ (fun e' => q (R.inj _ _ ⟨_, e, rfl⟩ hO e')) hh, r⟩
    dct := fun k' ks e => by
      rw [St.get_set] at e
      by_cases q : k' = k
      · rw [if_pos q] at e; cases e; subst q; exact h
      · rw [if_neg q] at e
        exact (R.dct k' ks e).mono (FM.le.refl F) fun ob hh => keep _ _ (fun e' => q (R.inj _ _ ⟨_, e, rfl⟩ hO e')) hh
    off := fun k' hk' => R.off k' (ownIff k' hk')
    inj := fun k₁ k₂ h₁ h₂ => R.inj k₁ k₂ (ownIff _ h₁) (ownIff _ h₂)
    pot := fun p e => (R.pot p e).mono (FM.le.refl F) fun ob hh => keep _ _ Ok.p.symm hh
    hP := R.hP
    offP := R.offP
    offL := R.offL
    offC := fun x a hx => by
      obtain ⟨⟨ov, hc⟩, r⟩ := R.offC x a hx
      exact ⟨⟨ov, hc.sameBut hs (Ok.ce x a hx)⟩, r⟩
    injC := R.injC
    offT := R.offT
    potB := R.potB }

/- a variable's own list becomes a plain value -/
theorem Rel.freeze (R : Rel c F T o σ s) {k : Nat} {vs : List V} (e : σ.get k = some (.own vs)) :
    ∃ F', F.le F' ∧ Rel c F' T o (σ.set k (.imm (.lst vs))) s ∧ Rep c.g F' (.ref (o k)) (.lst vs) := by
  obtain ⟨us, n, h, r⟩ := R.own k vs e
  have hO : Owned σ k := ⟨_, e, rfl⟩
  have Ok := R.off k hO
  have l : F.le (F.put (o k) (lstO us n)) := FM.le_put Ok.f
  have rep : Rep c.g (F.put (o k) (lstO us n)) (.ref (o k)) (.lst vs) := .lst (FM.put_self ..) (r.mono l)
  have ne : ∀ a, a ≠ o k → F a = none → F.put (o k) (lstO us n) a = none := fun a q e => by rw [FM.put_ne _ _ q]; exact e
  have ownIff : ∀ k', Owned (σ.set k (.imm (.lst vs))) k' → k' ≠ k ∧ Owned σ k' := fun k' h => by
    rcases owned_set h with ⟨_, q⟩ | h
    · cases q
    · exact h
  have loc : ∀ k' ov, LocRel c.g F o k' ov (σ.get k') → LocRel c.g (F.put (o k) (lstO us n)) o k' ov ((σ.set k (.imm (.lst vs))).get k') := fun k' ov r => by
    rw [St.get_set]
    by_cases q : k' = k
    · subst q
      rw [if_pos rfl]
      rw [e] at r
      exact ⟨_, r, rep⟩
    · rw [if_neg q]; exact r.mono l
  refine ⟨_, l, ?_, rep⟩
  exact {
    same := R.same
    fro := fun a ob e' => by
      unfold FM.put at e'
      by_cases q : a = o k
      · rw [if_pos q] at e'; cases e'; rw [q]; exact h
      · rw [if_neg q] at e'; exact R.fro _ _ e'
    f0 := R.f0.trans l
    fnew := fun a ob e' => by
      unfold FM.put at e'
      by_cases q : a = o k
      · right; rw [q]; exact Ok.h
      · rw [if_neg q] at e'; exact R.fnew _ _ e'
    tmp := R.tmp
    kept := R.kept
    ns := by
      obtain ⟨m, hm, r⟩ := R.ns
      exact ⟨m, hm, fun x k' hx hk' => loc _ _ (r x k' hx hk')⟩
    cel := fun x k' hx hk' => by
      obtain ⟨a, ov, ha, hc, r⟩ := R.cel x k' hx hk'
      exact ⟨a, ov, ha, hc, loc _ _ r⟩
    own := fun k' ws e' => by
      rw [St.get_set] at e'
      by_cases q : k' = k
      · rw [if_pos q] at e'; cases e'
      · rw [if_neg q] at e'
        obtain ⟨us, n, hh, r⟩ := R.own k' ws e'
        exact ⟨us, n, hh, r.mono l⟩
    dct := fun k' ks e' => by
      rw [St.get_set] at e'
      by_cases q : k' = k
      · rw [if_pos q] at e'; cases e'
      · rw [if_neg q] at e'
        exact (R.dct k' ks e').mono l fun zz h => h
    off := fun k' hk' => by
      obtain ⟨q, h⟩ := ownIff k' hk'
      have O := R.off k' h
      exact ⟨ne _ (fun e' => q (R.inj _ _ h hO e')) O.f, O.t, O.l, O.ce, O.p, O.h⟩
    inj := fun k₁ k₂ h₁ h₂ => R.inj k₁ k₂ (ownIff _ h₁).2 (ownIff _ h₂).2
    pot := fun p e' => (R.pot p e').mono l fun zz h => h
    hP := R.hP
    offP := fun e' => ⟨ne _ Ok.p.symm (R.offP e').1, (R.offP e').2⟩
    offL := ⟨ne _ Ok.l.symm R.offL.1, R.offL.2⟩
    offC := fun x a hx => by
      obtain ⟨h1, h2, h3⟩ := R.offC x a hx
      exact ⟨h1, ne _ (Ok.ce x a hx) h2, h3⟩
    injC := R.injC
    offT := fun p hp => ⟨ne _ (Ok.t p hp) (R.offT p hp).1, (R.offT p hp).2⟩
    potB := R.potB }

/- a variable's own thing is at hand as a value only -/
theorem Rel.setPot (R : Rel c F T o σ s) {p p' : Pot} (e : σ.pot = some p) {h' : Heap} {t : Nat} (hs : Heap.SameBut c.g.P s.heap h') (hp : PotRel c.g F p' h')
    (hc : ∀ x a, c.env.cells.lookup x = some a → a ≠ c.g.P) : Rel c F T o { σ with pot := some p' } { s with heap := h', toks := t } := by
  have ne : σ.pot ≠ none := by rw [e]; simp
  refine R.resume (p' := some p') (FM.le.refl F) (fun a ob e' => (hs.2 a fun q => ?_).trans (R.fro a ob e')) (fun zz zz e' => .inl e') (fun a ob e' q => (hs.2 a (q ne)).trans e') (fun q => absurd q ne) (fun q eq => by cases eq; exact hp) (fun zz => by simp)
  rw [q, (R.offP ne).1] at e'; cases e'
end
end Mine
end

section
open PySem PySem.W PyProof.Rows
set_option Elab.async false
set_option genCtorIdx false
set_option maxRecDepth 100000
set_option tactic.hygienic false
set_option genSizeOf false
set_option genInjectivity false
set_option linter.unusedVariables false
namespace Mine

noncomputable def bltTab : List (Str × Value) := [("len", .builtin "len"), ("all", .builtin "all"), ("list", .type "list"), ("tuple", .type "tuple"), ("int", .type "int"), ("sum", .builtin "sum"), ("max", .builtin "max"),
  ("range", .type "range"), ("set", .type "set"), ("zip", .type "zip"), ("enumerate", .type "enumerate"), ("isinstance", .builtin "isinstance"), ("sorted", .builtin "sorted"), ("bool", .type "bool")]

theorem blt_at (i : Nat) {p : Str × Value} (h : bltTab[i]? = some p) : p ∈ bltTab := List.mem_of_getElem? h
/- a def of the program: its statement's parts -/
structure DefOf where
  name : Str
  params : Arguments
  body : List Stmt
  scope : Scope
set_option backward.match.sparseCases false in
noncomputable def defOf? : Stmt → Option DefOf
  | .FunctionDef n a b _ _ _ sc _ _ _ => some ⟨n, a, b, sc⟩
  | _ => none
def st (i : Nat) : Stmt := PySem.Challenge.pw_nt0170_01.main.body.getD i (Stmt.Pass default)

set_option backward.match.sparseCases false in
noncomputable def metOf (i : Nat) : Option DefOf := match st i with | .ClassDef _ _ _ b _ _ _ _ _ _ _ => b.head?.bind defOf? | _ => none
noncomputable def clsNm (c : Bool) : Str := if c then "Procedure" else "Unit"
/- a class of the program at C -/
noncomputable def ClsFact (mg : Str → Option Value) (h : Heap) (C : Addr) (c : Bool) : Prop := ∃ (N : Addr) (mN : Str → Option Value) (f : Addr) (of : Obj) (pm cdv doc : Value), mg (if c then "Procedure" else "Unit") = some (.ref C) ∧ ClsAt h C N mN ∧
    (∀ nm ∈ nmsOf c, mN nm = none) ∧ mN "__getattribute__" = none ∧ mN "__setattr__" = none ∧ mN "__init__" = some (.ref f) ∧ h.get? f = some of ∧ of.cls = .type "function" ∧
    (∃ d : DefOf, metOf (if c then 3 else 4) = some d ∧
      of.data = .func (methDef d.name ((if c then ("Procedure" : Str) else "Unit") ++ "." ++ d.name) d.params d.body d.scope pm cdv doc) ∧ h.CodeRec cdv ((if c then ("Procedure" : Str) else "Unit") ++ "." ++ d.name))

/- what stands behind the top -/
structure Base (mg mb : Str → Option Value) (g : GP) (h : Heap) : Prop where
  ng : h.Ns mainGlobals mg
  nb : h.Ns builtinsNs mb
  nolimit : h.NoLimit
  mods : ∃ ob, h.get? sysModules = some ob
  blt : ∀ p ∈ bltTab, mg p.1 = none ∧ mb p.1 = some p.2
  ends : ∃ v, mg "ENDS" = some v ∧ Rep g (fun a => h.get? a) v endsV
  opnds : ∃ v, mg "OPERANDS" = some v ∧ Rep g (fun a => h.get? a) v opndsV
  fn : ∀ i d, 5 ≤ i → i < 40 → defOf? (st i) = some d → ∃ a ob pm code doc, mg d.name = some (.ref a) ∧ h.get? a = some ob ∧ ob.data = .func (Calls.docDef d.name d.params d.body d.scope pm code doc) ∧ h.CodeRec code d.name
  cls : ∀ c : Bool, ClsFact mg h (g.cls c) c

/- room for n more frames one in another -/
noncomputable def Room (n : Nat) (A : Around) : Prop := A.depth + 3 * n ≤ 500 ∧ A.units + 20 * n ≤ 5000 ∧ A.handled = none

structure GoodCx (hb : Heap) (g : GP) (c : Cx) (nm : Names) : Prop where
  g : c.g = g
  kind : c.env.scope.kind = .function
  names : c.env.scope.names = nm
  glob : c.env.globals = mainGlobals
  blt : c.env.builtins = builtinsNs
  nmok : NmOk c.env
  base : FM.le (fun a => hb.get? a) c.F0
  frozen : ∀ x, nm.lookup x ≠ some .free

/- a value handed back -/
noncomputable def Ret (hb : Heap) (F : FM) (g : GP) (s : Shared) (p : Option Pot) (F' : FM) (s' : Shared) (p' : Option Pot) : Prop :=
  F.le F' ∧ F'.ins s'.heap ∧ (∀ a ob, F' a = some ob → F a = some ob ∨ s.heap.get? a = none) ∧ (∀ a ob, s.heap.get? a = some ob → (p ≠ none → a ≠ g.P) → s'.heap.get? a = some ob) ∧
  (∃ h t, s' = { s with heap := h, toks := t }) ∧ (p = none → p' = none) ∧ (p ≠ none → p' ≠ none) ∧ (∀ q, p' = some q → PotRel g F' q s'.heap)

/- what holds of a state at a call -/
structure AtCall (hb : Heap) (g : GP) (F : FM) (s : Shared) (p : Option Pot) : Prop where
  fro : F.ins s.heap
  base : FM.le (fun a => hb.get? a) F
  pot : ∀ q, p = some q → PotRel g F q s.heap
  hP : ∃ ob, s.heap.get? g.P = some ob
  off : p ≠ none → F g.P = none

section
variable (prog : Program) (w : World) (hb : Heap) (mg mb : Str → Option Value) (g : GP)

/- the calls of C are those of the defs -/
noncomputable def CallsOk (n : Nat) (C : Calls) : Prop := ∀ (k : Nat) (vs : List V) (p : Option Pot) (Q : V → Option Pot → Prop), C k vs p Q →
  ∃ (f : Str) (a : Addr) (ob : Obj) (fd : FuncData), ixIn (cd f) fnCodes 0 = some k ∧ mg f = some (.ref a) ∧ hb.get? a = some ob ∧ ob.data = .func fd ∧
    ∀ (A : Around) (F : FM) (s : Shared) (us : List Value) (R : Result → Shared → Prop), Room n A → AtCall hb g F s p → RepAll g F us vs →
      (∀ F' s' val v p', Ret hb F g s p F' s' p' → Rep g F' val v → Q v p' → R (.ok (.ret val)) s') →
      codeAny (model prog w) A (.call (.ref a) ⟨us, []⟩) R s

noncomputable def SoundE (n : Nat) (C : Calls) (nm : Names) (e : Expr) (x : X) : Prop :=
  ∀ (A : Around) (c : Cx) (F : FM) (T : List (Addr × Obj)) (o : Nat → Addr) (σ : St) (s : Shared) (Q : V → St → Prop) (Qc : Value → Shared → Prop) (E : Value → Shared → Prop),
    Room n A → GoodCx hb g c nm → Rel c F T o σ s → wpE C x Q σ →
    (∀ F' s' val v σ', F.le F' → Rel c F' T o σ' s' → Rep g F' val v → Q v σ' → Qc val s') → wpAny (model prog w) A (eval e c.env) Qc E s
noncomputable def SoundT (n : Nat) (C : Calls) (nm : Names) (e : Expr) (x : X) : Prop :=
  ∀ (A : Around) (c : Cx) (F : FM) (T : List (Addr × Obj)) (o : Nat → Addr) (σ : St) (s : Shared) (Q : V → St → Prop) (Qc : Bool → Shared → Prop) (E : Value → Shared → Prop),
    Room n A → GoodCx hb g c nm → Rel c F T o σ s → wpE C x Q σ →
    (∀ F' s' v σ', F.le F' → Rel c F' T o σ' s' → Q v σ' → ∃ b, v = .bool b ∧ Qc b s') → wpAny (model prog w) A (isTrue e c.env (eval e c.env)) Qc E s
end

section
variable {prog : Program} {w : World} {hb : Heap} {mg mb : Str → Option Value} {g : GP} {n : Nat} {C : Calls} {nm : Names}

theorem truthP_inv {v : V} {k : Bool → Prop} (h : truthP v k) : ∃ b, v = .bool b ∧ k b := by
  cases v with
  | bool b => exact ⟨b, rfl, h⟩
  | _ => exact False.elim h
theorem int_inv {v : V} {k : Int → Prop} (h : match v with | .int i => k i | _ => False) : ∃ i, v = .int i ∧ k i := by
  cases v with
  | int i => exact ⟨i, rfl, h⟩
  | _ => exact False.elim h
theorem lst_inv {v : V} {k : List V → Prop} (h : match v with | .lst i => k i | _ => False) : ∃ i, v = .lst i ∧ k i := by
  cases v with
  | lst i => exact ⟨i, rfl, h⟩
  | _ => exact False.elim h
theorem tup_inv {v : V} {k : List V → Prop} (h : match v with | .tup i => k i | _ => False) : ∃ i, v = .tup i ∧ k i := by
  cases v with
  | tup i => exact ⟨i, rfl, h⟩
  | _ => exact False.elim h
theorem int2_inv {v u : V} {k : Int → Int → Prop} (h : match v, u with | .int i, .int j => k i j | _, _ => False) : ∃ i j, v = .int i ∧ u = .int j ∧ k i j := by
  cases v with
  | int i => cases u with
    | int j => exact ⟨i, j, rfl, rfl, h⟩
    | _ => exact False.elim h
  | _ => exact False.elim h
theorem optB_inv {o : Option Bool} {k : Bool → Prop} (h : match o with | some r => k r | _ => False) : ∃ r, o = some r ∧ k r := by
  cases o with
  | some r => exact ⟨r, rfl, h⟩
  | none => exact False.elim h
theorem optL_inv {o : Option (List Nat)} {k : List Nat → Prop} (h : match o with | some r => k r | _ => False) : ∃ r, o = some r ∧ k r := by
  cases o with
  | some r => exact ⟨r, rfl, h⟩
  | none => exact False.elim h
theorem Room.depth {A : Around} (h : Room n A) : A.depth < recursionLimit := by have := h.1; unfold recursionLimit; lia
theorem GoodCx.kindOf {c : Cx} (G : GoodCx hb g c nm) (x : Str) : c.env.kindOf x = nm.lookup x := by unfold Env.kindOf; rw [G.names]

theorem dbg_of {x : Str} {k : Nat} (h : varIx x = some k) : (x == ("__debug__" : Str)) = false := by
  cases e : x == ("__debug__" : Str) with
  | false => rfl
  | true =>
    rw [eq_of_beq e] at h
    have : varIx ("__debug__" : Str) = none := by decide +kernel
    rw [this] at h; cases h

theorem sound_int (i : Int) (k : Nat) (pos : Pos) : SoundE prog w hb g n C nm (.Constant (.int i) k pos) (.int i) :=
  fun A c F T o σ s Q Qc E hr G R hw hq => wpAny_Constant_int (hq F _ _ _ σ (FM.le.refl F) (R.tok _) (.int i _) hw)
theorem sound_bool (b : Bool) (k : Nat) (pos : Pos) : SoundE prog w hb g n C nm (.Constant (.bool b) k pos) (.bool b) :=
  fun A c F T o σ s Q Qc E hr G R hw hq => wpAny_Constant_bool (hq F _ _ _ σ (FM.le.refl F) R (.bool b) hw)
theorem sound_none (k : Nat) (pos : Pos) : SoundE prog w hb g n C nm (.Constant .none k pos) .none :=
  fun A c F T o σ s Q Qc E hr G R hw hq => wpAny_Constant_none (hq F _ _ _ σ (FM.le.refl F) R .none hw)
theorem sound_str {x : Str} {i : Nat} (h : strIx x = some i) (k : Nat) (pos : Pos) : SoundE prog w hb g n C nm (.Constant (.str x) k pos) (.str i) :=
  fun A c F T o σ s Q Qc E hr G R hw hq => wpAny_Constant_str (hq F _ _ _ σ (FM.le.refl F) (R.tok _) (.str h) hw)

/- a variable's value as it lies -/
theorem load_var {c : Cx} {F : FM} {T : List (Addr × Obj)} {o : Nat → Addr} {σ : St} {s : Shared} {A : Around} {x : Str} {k : Nat} {pos : Pos} {lv : LV} {Qc : Value → Shared → Prop} {E : Value → Shared → Prop} (hlv : lv ≠ .gone)
    (G : GoodCx hb g c nm) (R : Rel c F T o σ s) (hv : nm.lookup x = some .local ∨ nm.lookup x = some .cell) (hk : varIx x = some k) (e : σ.get k = some lv)
    (h : ∀ v, LocRel c.g F o k (some v) (some lv) → Qc v s) : wpAny (model prog w) A (eval (.Name x pos) c.env) Qc E s := by
  rcases hv with hx | hx
  · obtain ⟨m, hm, r⟩ := R.ns
    have hx' : c.env.kindOf x = some .local := by rw [G.kindOf]; exact hx
    have q := r x k hx' hk
    rw [e] at q
    have : ∃ v, m x = some v := by
      cases lv with
      | imm v => obtain ⟨y, hy, _⟩ := q; exact ⟨y, hy⟩
      | own _ => exact ⟨_, q⟩
      | odic _ => exact ⟨_, q⟩
      | gone => exact absurd rfl hlv
    obtain ⟨v, hv⟩ := this
    rw [hv] at q
    exact wpAny_Name (wpAny_loadName_local G.kind hx' hm hv (h v q)) (dbg_of hk)
  · have hx' : c.env.kindOf x = some .cell := by rw [G.kindOf]; exact hx
    obtain ⟨a, ov, ha, hc, q⟩ := R.cel x k hx' hk
    rw [e] at q
    have : ∃ v, ov = some v := by
      cases lv with
      | imm v => obtain ⟨y, hy, _⟩ := q; exact ⟨y, hy⟩
      | own _ => exact ⟨_, q⟩
      | odic _ => exact ⟨_, q⟩
      | gone => exact absurd rfl hlv
    obtain ⟨v, rfl⟩ := this
    exact wpAny_Name (wpAny_loadName_cell G.kind hx' ha hc (h v q)) (dbg_of hk)

theorem sound_var {x : Str} {k : Nat} {pos : Pos} (hv : nm.lookup x = some .local ∨ nm.lookup x = some .cell) (hk : varIx x = some k) : SoundE prog w hb g n C nm (.Name x pos) (.var k) := by
  intro A c F T o σ s Q Qc E hr G R hw hq
  replace hw : (match σ.get k with | some (.imm v) => Q v σ | some (.own vs) => Q (.lst vs) (σ.set k (.imm (.lst vs))) | _ => False) := hw
  cases e : σ.get k with
  | none => rw [e] at hw; exact hw.elim
  | some lv =>
    rw [e] at hw
    refine load_var (by rintro rfl; exact hw.elim) G R hv hk e fun v q => ?_
    cases lv with
    | imm d =>
      obtain ⟨y, hy, r⟩ := q
      cases hy
      exact hq F s _ _ σ (FM.le.refl F) R (G.g ▸ r) hw
    | own vs =>
      have q' : some v = some (.ref (o k)) := q
      cases q'
      obtain ⟨F', l, R', r⟩ := R.freeze e
      exact hq F' s _ _ _ l R' (G.g ▸ r) hw
    | odic ks => exact hw.elim
    | gone => exact hw.elim

theorem glob_name {c : Cx} {F : FM} {T : List (Addr × Obj)} {o : Nat → Addr} {σ : St} {s : Shared} {A : Around} {x : Str} {pos : Pos} {v : Value} {Qc : Value → Shared → Prop} {E : Value → Shared → Prop}
    (B : Base mg mb g hb) (G : GoodCx hb g c nm) (R : Rel c F T o σ s) (hx : nm.lookup x = some .globalImplicit) (hv : mg x = some v) (hd : (x == ("__debug__" : Str)) = false) (h : Qc v s) :
    wpAny (model prog w) A (eval (.Name x pos) c.env) Qc E s :=
  Calls.Name_function_global G.kind (by rw [G.kindOf]; exact hx) (Calls.loadGlobal_global (by rw [G.glob]; exact B.ng.keeps fun b ob e => R.fro _ _ (R.f0 _ _ (G.base _ _ e))) hv h) hd
theorem blt_name {c : Cx} {F : FM} {T : List (Addr × Obj)} {o : Nat → Addr} {σ : St} {s : Shared} {A : Around} {x : Str} {pos : Pos} {v : Value} {Qc : Value → Shared → Prop} {E : Value → Shared → Prop}
    (B : Base mg mb g hb) (G : GoodCx hb g c nm) (R : Rel c F T o σ s) (hx : nm.lookup x = some .globalImplicit) (hv : (x, v) ∈ bltTab) (hd : (x == ("__debug__" : Str)) = false) (h : Qc v s) :
    wpAny (model prog w) A (eval (.Name x pos) c.env) Qc E s := by
  have hk : ∀ b ob, hb.get? b = some ob → s.heap.get? b = some ob := fun b ob e => R.fro _ _ (R.f0 _ _ (G.base _ _ e))
  exact Calls.Name_function_global G.kind (by rw [G.kindOf]; exact hx) (Calls.loadGlobal_builtin (by rw [G.glob]; exact B.ng.keeps hk) (B.blt _ hv).1 (by rw [G.blt]; exact B.nb.keeps hk) (B.blt _ hv).2 h) hd

theorem Rel.baseLe {c : Cx} {F : FM} {T : List (Addr × Obj)} {o : Nat → Addr} {σ : St} {s : Shared} (R : Rel c F T o σ s) (G : GoodCx hb g c nm) : FM.le (fun a => hb.get? a) F := G.base.trans R.f0

theorem sound_ends {x : Str} {pos : Pos} (B : Base mg mb g hb) (hx : nm.lookup x = some .globalImplicit) (e : x = "ENDS") : SoundE prog w hb g n C nm (.Name x pos) .ends := by
  intro A c F T o σ s Q Qc E hr G R hw hq
  subst e
  obtain ⟨v, hv, r⟩ := B.ends
  exact glob_name B G R hx hv (by decide +kernel) (hq F s v endsV σ (FM.le.refl F) R (r.mono (R.baseLe G)) hw)
theorem sound_opnds {x : Str} {pos : Pos} (B : Base mg mb g hb) (hx : nm.lookup x = some .globalImplicit) (e : x = "OPERANDS") : SoundE prog w hb g n C nm (.Name x pos) .opnds := by
  intro A c F T o σ s Q Qc E hr G R hw hq
  subst e
  obtain ⟨v, hv, r⟩ := B.opnds
  exact glob_name B G R hx hv (by decide +kernel) (hq F s v opndsV σ (FM.le.refl F) R (r.mono (R.baseLe G)) hw)

theorem sound_ite {t a b : Expr} {xt xa xb : X} {pos : Pos} (ht : SoundT prog w hb g n C nm t xt) (ha : SoundE prog w hb g n C nm a xa) (hb' : SoundE prog w hb g n C nm b xb) : SoundE prog w hb g n C nm (.IfExp t a b pos) (.ite xt xa xb) := by
  intro A c F T o σ s Q Qc E hr G R hw hq
  refine wpAny_IfExp (ht A c F T o σ s _ _ E hr G R hw fun F' s' v σ' l R' q => ?_)
  obtain ⟨c', rfl, q⟩ := truthP_inv q
  refine ⟨c', rfl, ?_⟩
  cases c' with
  | true => exact ha A c F' T o σ' s' Q Qc E hr G R' (q.1 rfl) fun F'' s'' val v σ'' l' R'' r q' => hq F'' s'' val v σ'' (l.trans l') R'' r q'
  | false => exact hb' A c F' T o σ' s' Q Qc E hr G R' (q.2 rfl) fun F'' s'' val v σ'' l' R'' r q' => hq F'' s'' val v σ'' (l.trans l') R'' r q'

/- a test by its value -/
theorem soundT_of {e : Expr} {x : X} (h : SoundE prog w hb g n C nm e x) (he : ∀ env, isTrue e env (eval e env) = (do let v ← eval e env; standAt e.pos; holding [v] (truthy v))) : SoundT prog w hb g n C nm e x := by
  intro A c F T o σ s Q Qc E hr G R hw hq
  refine wpAny_isTrue_value (h A c F T o σ s Q _ E hr G R hw fun F' s' val v σ' l R' r q => ?_) (he _)
  obtain ⟨b, rfl, q'⟩ := hq F' s' v σ' l R' q
  obtain rfl := r.invBool
  exact wpAny_truthy_bool q'

theorem sound_not {e : Expr} {x : X} {pos : Pos} (h : SoundE prog w hb g n C nm e x) : SoundE prog w hb g n C nm (.UnaryOp .Not e pos) (.not x) := by
  intro A c F T o σ s Q Qc E hr G R hw hq
  refine wpAny_UnaryOp (h A c F T o σ s _ _ E hr G R hw fun F' s' val v σ' l R' r q => ?_)
  obtain ⟨b, rfl, q⟩ := truthP_inv q
  obtain rfl := r.invBool
  exact not_value (wpAny_truthy_bool (hq F' s' _ _ σ' l R' (.bool _) q))
theorem soundT_not {e : Expr} {x : X} {pos : Pos} (h : SoundT prog w hb g n C nm e x) : SoundT prog w hb g n C nm (.UnaryOp .Not e pos) (.not x) := by
  intro A c F T o σ s Q Qc E hr G R hw hq
  refine wpAny_isTrue_Not (h A c F T o σ s _ _ E hr G R hw fun F' s' v σ' l R' q => ?_)
  obtain ⟨b, rfl, q⟩ := truthP_inv q
  obtain ⟨b, hb, q'⟩ := hq F' s' _ σ' l R' q
  cases hb
  exact ⟨_, rfl, q'⟩
theorem sound_neg {e : Expr} {x : X} {pos : Pos} (h : SoundE prog w hb g n C nm e x) : SoundE prog w hb g n C nm (.UnaryOp .USub e pos) (.neg x) := by
  intro A c F T o σ s Q Qc E hr G R hw hq
  refine wpAny_UnaryOp (h A c F T o σ s _ _ E hr G R hw fun F' s' val v σ' l R' r q => ?_)
  obtain ⟨i, rfl, q⟩ := int_inv q
  obtain ⟨t, rfl⟩ := r.invInt
  exact neg_int (hq F' _ _ _ σ' l (R'.tok _) (.int _ _) q)

/- displays -/
noncomputable def SoundEs (prog : Program) (w : World) (hb : Heap) (g : GP) (n : Nat) (C : Calls) (nm : Names) (es : List Expr) (xs : List X) : Prop :=
  ∀ (A : Around) (c : Cx) (F : FM) (T : List (Addr × Obj)) (o : Nat → Addr) (σ : St) (s : Shared) (pos : Pos) (Q : List V → St → Prop) (Qc : List Value → Shared → Prop) (E : Value → Shared → Prop),
    Room n A → GoodCx hb g c nm → Rel c F T o σ s → wpEs C xs Q σ →
    (∀ F' s' vals vs σ', F.le F' → Rel c F' T o σ' s' → RepAll g F' vals vs → vals.length = es.length → Q vs σ' → Qc vals s') → wpAny (model prog w) A (spliced (backTo pos (starEach es c.env))) Qc E s
theorem soundEs_nil : SoundEs prog w hb g n C nm [] [] := by
  intro A c F T o σ s pos Q Qc E hr G R hw hq
  exact wpAny_items_nil (hq F s [] [] σ (FM.le.refl F) R .nil rfl hw)
theorem soundEs_cons {e : Expr} {es : List Expr} {x : X} {xs : List X} (h : SoundE prog w hb g n C nm e x) (hs : SoundEs prog w hb g n C nm es xs)
    (he : ∀ env, starEach (e :: es) env = (false, eval e env) :: starEach es env) : SoundEs prog w hb g n C nm (e :: es) (x :: xs) := by
  intro A c F T o σ s pos Q Qc E hr G R hw hq
  refine wpAny_items_cons (h A c F T o σ s _ _ E hr G R hw fun F' s' val v σ' l R' r q => ?_) (he _)
  exact hs A c F' T o σ' s' pos _ _ E hr G R' q fun F'' s'' vals vs σ'' l' R'' rs hl q' => hq F'' s'' _ _ σ'' (l.trans l') R'' (.cons (r.mono l') rs) (by rw [List.length_cons, List.length_cons, hl]) q'
end
end Mine
end

section
open PySem PySem.W PyProof.Rows
set_option Elab.async false
set_option maxRecDepth 100000
set_option tactic.hygienic false
set_option genSizeOf false
set_option genInjectivity false
set_option linter.unusedVariables false
namespace Mine

section
variable {prog : Program} {w : World} {hb : Heap} {mg mb : Str → Option Value} {g : GP} {n : Nat} {C : Calls} {nm : Names}
variable {c : Cx} {F : FM} {T : List (Addr × Obj)} {o : Nat → Addr} {σ : St} {s : Shared} {A : Around} {Qc : Value → Shared → Prop} {E : Value → Shared → Prop}

theorem Rel.pushed (R : Rel c F T o σ s) (ob : Obj) (hf : ob.isFreed = false) {t : Nat} :
    F.le (F.put s.heap.objs.size ob) ∧ Rel c (F.put s.heap.objs.size ob) T o σ { s with heap := s.heap.push ob, toks := t } :=
  R.new (fun a ob' h => Heap.get?_push_of_some ob h) (fresh_none (Nat.le_refl _)) (Heap.get?_push_size _ hf)

theorem sound_tup {es : List Expr} {xs : List X} {k : Nat} {pos : Pos} (h : SoundEs prog w hb g n C nm es xs) (hl : es.length ≤ 100) : SoundE prog w hb g n C nm (.Tuple es k pos) (.tup xs) := by
  intro A c F T o σ s Q Qc E hr G R hw hq
  refine wpAny_Tuple (h A c F T o σ s pos _ _ E hr G R hw fun F' s' vals vs σ' l R' r hlen q => ?_)
  refine ⟨by rw [hlen]; unfold sizeLine; lia, ?_⟩
  obtain ⟨l2, R2⟩ := R'.pushed (t := s'.toks) (tupO vals 0) rfl
  exact hq _ _ _ _ σ' (l.trans l2) R2 (.tup (FM.put_self ..) (r.mono l2)) q
theorem sound_lst {es : List Expr} {xs : List X} {pos : Pos} (h : SoundEs prog w hb g n C nm es xs) (hl : es.length ≤ 100) : SoundE prog w hb g n C nm (.List es pos) (.lst xs) := by
  intro A c F T o σ s Q Qc E hr G R hw hq
  refine wpAny_List (h A c F T o σ s pos _ _ E hr G R hw fun F' s' vals vs σ' l R' r hlen q => ?_)
  refine ⟨by rw [hlen]; unfold sizeLine; lia, ?_⟩
  obtain ⟨l2, R2⟩ := R'.pushed (t := s'.toks) (lstO vals 0) rfl
  exact hq _ _ _ _ σ' (l.trans l2) R2 (.lst (FM.put_self ..) (r.mono l2)) q

theorem small_bits {a : Int} (h : small a) : Builtin.Int.intBits a ≤ 64 := intBits_le (by unfold small at h; omega)
theorem bitAnd_nat {x y : Int} (hx : 0 ≤ x) (hy : 0 ≤ y) : Builtin.bitAnd x y = ((x.toNat &&& y.toNat : Nat) : Int) := by
  unfold Builtin.bitAnd; rw [decide_eq_true hx, decide_eq_true hy]
theorem bitOr_nat {x y : Int} (hx : 0 ≤ x) (hy : 0 ≤ y) : Builtin.bitOr x y = ((x.toNat ||| y.toNat : Nat) : Int) := by
  have e1 : decide (0 ≤ Builtin.bitNot x) = false := decide_eq_false (by unfold Builtin.bitNot; lia)
  have e2 : decide (0 ≤ Builtin.bitNot y) = false := decide_eq_false (by unfold Builtin.bitNot; lia)
  have e3 : ∀ z : Int, Builtin.bitNot (Builtin.bitNot z) = z := fun z => by unfold Builtin.bitNot; lia
  unfold Builtin.bitOr Builtin.bitAnd
  rw [e1, e2]
  simp only [e3]

theorem flat_one {α : Type} (u : α) (k : Nat) : (List.replicate k [u]).flatten = List.replicate k u := by
  induction k with
  | zero => rfl
  | succ k ih => rw [List.replicate_succ, List.flatten_cons, ih]; rfl
/- a list times a number -/
theorem mul_list_raw {vals : List Value} {m : Nat} {a : Addr} {x : Int} {u : Tok} (hl : s.heap.get? a = some (lstO vals m)) (hx : x < 2 ^ 10) (hs : vals.length ≤ 100)
    (h : Qc (.ref s.heap.objs.size) { s with heap := s.heap.push (lstO (List.replicate x.toNat vals).flatten 0), toks := s.toks }) : -(2 ^ 63 : Int) ≤ x → wpAny (model prog w) A (binaryOp .Mult (.ref a) (.int x u)) Qc E s := by
  intro hlo
  have hsz : vals.toArray.size * x.toNat ≤ 2 ^ 24 := by
    have h1 : vals.toArray.size ≤ 100 := by simpa using hs
    have h2 : x.toNat ≤ 1024 := by lia
    exact Nat.le_trans (Nat.mul_le_mul h1 h2) (by decide)
  have e : (List.foldl (fun x1 x2 => x1 ++ x2) #[] (List.replicate (if vals.toArray.isEmpty = true then 0 else x.toNat) vals.toArray)) = (List.replicate x.toNat vals).flatten.toArray := by
    have : ∀ (k : Nat) (acc : Array Value), List.foldl (fun x1 x2 => x1 ++ x2) acc (List.replicate k vals.toArray) = acc ++ (List.replicate k vals).flatten.toArray := by
      intro k
      induction k with
      | zero => intro acc; simp
      | succ k ih => intro acc; rw [List.replicate_succ, List.foldl_cons, ih, List.replicate_succ]; simp [Array.append_assoc]
    cases vals with
    | nil => simp
    | cons v vs => simp [this]
  exact wpAny_binaryOp_repeat_ref (T := "list") (U := "int") (by decide) ⟨_, hl, rfl⟩ (fun s' => typeIs_int s' x u) noFill_list_mul F.fills_int_mul F.slot_int_rmul repeat_list F.slot_int_index.lookup
    (call_meets F.slot_int_rmul (typeIs_int s x u) F.entry_int_rmul (F.args_int_rmul_2 _ _) (int___rmul___int_list x u a vals.toArray m)
      ⟨hl, rfl, ⟨_, hl, rfl⟩, call_meets F.slot_list_mul ⟨_, hl, rfl⟩ F.entry_list_mul (F.args_list_mul_2 _ _)
        (AutoListH.list___mul___list_int_3 a vals.toArray m x u (by simp [Builtin.List.listFitsIndex]; omega) (by omega) (by simp [Builtin.List.listTooLong, sizeLine]; omega))
        ⟨hl, by rw [e]; exact h⟩⟩)

inductive BinI (K : V → Prop) : Operator → V → V → Prop
  | addI (x y : Int) (h : K (.int (x + y))) : BinI K .Add (.int x) (.int y)
  | addL (x y : List V) (h : x.length + y.length < 2 ^ 20) (k : K (.lst (x ++ y))) : BinI K .Add (.lst x) (.lst y)
  | sub (x y : Int) (h : K (.int (x - y))) : BinI K .Sub (.int x) (.int y)
  | mul (x y : Int) (h : small x ∧ small y) (k : K (.int (x * y))) : BinI K .Mult (.int x) (.int y)
  | rep (v : V) (n : Int) (h : small n ∧ n < 2 ^ 10) (k : K (.lst (List.replicate n.toNat v))) : BinI K .Mult (.lst [v]) (.int n)
  | mod (x y : Int) (h : 0 < y ∧ small y) (k : K (.int (x % y))) : BinI K .Mod (.int x) (.int y)
  | shl (x y : Int) (h : small x ∧ 0 ≤ y ∧ y ≤ 60) (k : K (.int (x * 2 ^ y.toNat))) : BinI K .LShift (.int x) (.int y)
  | or (x y : Int) (h : 0 ≤ x ∧ 0 ≤ y) (k : K (.int (x.toNat ||| y.toNat : Nat))) : BinI K .BitOr (.int x) (.int y)
  | and (x y : Int) (h : 0 ≤ x ∧ 0 ≤ y) (k : K (.int (x.toNat &&& y.toNat : Nat))) : BinI K .BitAnd (.int x) (.int y)
/- two numbers -/
theorem ff {P : Prop} (h : False) : P := h.elim
theorem binP_inv {op : Operator} {a b : V} {K : V → Prop} (h : binP op a b K) : BinI K op a b := by
  cases op with
  | Add => cases a with
    | int x => cases b with
      | int y => exact .addI x y h
      | _ => exact ff h
    | lst x => cases b with
      | lst y => exact .addL x y h.1 h.2
      | _ => exact ff h
    | _ => exact ff h
  | Mult => cases a with
    | int x => cases b with
      | int y => exact .mul x y h.1 h.2
      | _ => exact ff h
    | lst vs => cases vs with
      | nil => exact ff h
      | cons v vs => cases vs with
        | nil => cases b with
          | int n => exact .rep v n h.1 h.2
          | _ => exact ff h
        | cons _ _ => exact ff h
    | _ => exact ff h
  | Sub => cases a with
    | int x => cases b with
      | int y => exact .sub x y h
      | _ => exact ff h
    | _ => exact ff h
  | Mod => cases a with
    | int x => cases b with
      | int y => exact .mod x y h.1 h.2
      | _ => exact ff h
    | _ => exact ff h
  | LShift => cases a with
    | int x => cases b with
      | int y => exact .shl x y h.1 h.2
      | _ => exact ff h
    | _ => exact ff h
  | BitOr => cases a with
    | int x => cases b with
      | int y => exact .or x y h.1 h.2
      | _ => exact ff h
    | _ => exact ff h
  | BitAnd => cases a with
    | int x => cases b with
      | int y => exact .and x y h.1 h.2
      | _ => exact ff h
    | _ => exact ff h
  | _ => exact ff h

theorem binOp_sound {op : Operator} {va vb : Value} {da db : V} {K : V → Prop} (R : Rel c F T o σ s) (ra : Rep c.g F va da) (rb : Rep c.g F vb db) (h : binP op da db K)
    (hq : ∀ F' s' val v, F.le F' → Rel c F' T o σ s' → Rep c.g F' val v → K v → Qc val s') : wpAny (model prog w) A (binaryOp op va vb) Qc E s := by
  have one : ∀ i t, K (.int i) → Qc (.int i t) { s with toks := s.toks + 1 } := fun i t k => hq F _ _ _ (FM.le.refl F) (R.tok _) (.int _ _) k
  have hI := binP_inv h
  clear h
  cases hI with
  | addI _ _ h => obtain ⟨_, rfl⟩ := ra.invInt; obtain ⟨_, rfl⟩ := rb.invInt; exact add_int (one _ _ h)
  | addL x y hlen k =>
    obtain ⟨a1, vs, n1, rfl, h1, r1⟩ := ra.invLst
    obtain ⟨a2, us, n2, rfl, h2, r2⟩ := rb.invLst
    obtain ⟨l, R'⟩ := R.pushed (t := s.toks) (lstO (vs ++ us) 0) rfl
    refine concat_meets ⟨_, R.fro _ _ h1, rfl⟩ ⟨_, R.fro _ _ h2, rfl⟩ noFill_list_add seq_list_add PySem.F.slot_list_add PySem.F.entry_list_add (PySem.F.args_list_add_2 _ _)
      (list_addW _ _ _ _ _ _ none none #[] #[] (by rw [List.size_toArray, List.size_toArray, r1.length, r2.length]; unfold sizeLine; lia)) ⟨R.fro _ _ h1, R.fro _ _ h2, ?_⟩
    rw [List.append_toArray]
    exact hq _ _ _ _ l R' (.lst (FM.put_self ..) ((r1.append r2).mono l)) k
  | sub _ _ h => obtain ⟨_, rfl⟩ := ra.invInt; obtain ⟨_, rfl⟩ := rb.invInt; exact sub_int (one _ _ h)
  | mul _ _ h k => obtain ⟨_, rfl⟩ := ra.invInt; obtain ⟨_, rfl⟩ := rb.invInt; exact mul_int (one _ _ k) (.of_left (small_bits h.1))
  | rep v x h k =>
    obtain ⟨a1, vs, n1, rfl, h1, r1⟩ := ra.invLst
    obtain ⟨t, rfl⟩ := rb.invInt
    obtain ⟨u, rfl, r⟩ := r1.inv1
    obtain ⟨l, R'⟩ := R.pushed (t := s.toks) (lstO (List.replicate x.toNat u) 0) rfl
    refine mul_list_raw (R.fro _ _ h1) h.2 (by simp) ?_ (by have := h.1; unfold small at this; lia)
    rw [flat_one]
    exact hq _ _ _ _ l R' (.lst (FM.put_self ..) (RepAll.replicate _ (r.mono l))) k
  | mod _ _ h k =>
    obtain ⟨_, rfl⟩ := ra.invInt; obtain ⟨_, rfl⟩ := rb.invInt
    refine mod_int (Int.ne_of_gt h.1) ?_
    rw [Int.fmod_eq_emod_of_nonneg _ (Int.le_of_lt h.1)]
    exact one _ _ k
  | shl _ _ h k =>
    obtain ⟨_, rfl⟩ := ra.invInt; obtain ⟨_, rfl⟩ := rb.invInt
    obtain ⟨h1, h2, h3⟩ := h
    exact lshift_int_small h2 (by lia) (by unfold small at h1; lia) (one _ _ k)
  | or _ _ h k =>
    obtain ⟨_, rfl⟩ := ra.invInt; obtain ⟨_, rfl⟩ := rb.invInt
    refine or_int ?_
    rw [bitOr_nat h.1 h.2]
    exact one _ _ k
  | and _ _ h k =>
    obtain ⟨_, rfl⟩ := ra.invInt; obtain ⟨_, rfl⟩ := rb.invInt
    refine and_int ?_
    rw [bitAnd_nat h.1 h.2]
    exact one _ _ k

theorem sound_bin {l r : Expr} {xl xr : X} {op : Operator} {pos : Pos} (hl : SoundE prog w hb g n C nm l xl) (hr' : SoundE prog w hb g n C nm r xr) : SoundE prog w hb g n C nm (.BinOp l op r pos) (.bin op xl xr) := by
  intro A c F T o σ s Q Qc E hr G R hw hq
  refine wpAny_BinOp (hl A c F T o σ s _ _ E hr G R hw fun F1 s1 va da σ1 l1 R1 r1 q1 => hr' A c F1 T o σ1 s1 _ _ E hr G R1 q1 fun F2 s2 vb db σ2 l2 R2 r2 q2 => ?_)
  have gg := G.g
  subst gg
  exact binOp_sound R2 (r1.mono l2) r2 q2 fun F3 s3 val v l3 R3 r3 k => hq F3 s3 val v σ2 ((l1.trans l2).trans l3) R3 r3 k
end
end Mine
end

section
open PySem
open Sem (wp)
set_option Elab.async false
set_option maxRecDepth 100000
set_option tactic.hygienic false
set_option linter.unusedVariables false
namespace Mine

/- a pair of a number and a tuple of numbers -/
noncomputable def IsPairKey (prog : Program) (w : World) (h : Heap) (k : Int × List Int) (a : Addr) : Prop :=
  ∃ o b t n, h.get? a = some o ∧ o.cls = .type "tuple" ∧ o.data = .seq #[.int k.1 t, .ref b] n ∧ IsTupleKey (intKind prog w) h k.2 b
noncomputable def pairKeyHash (k : Int × List Int) : Int := reduceHash (Builtin.Tuple.tupleHashOf [hashInt k.1, reduceHash (Builtin.Tuple.tupleHashOf (k.2.map hashInt))])

section
variable {prog : Program} {w : World} {A : Around} {E : Value → Shared → Prop} {s : Shared}

theorem IsPairKey.typeIs {k : Int × List Int} {a : Addr} (x : IsPairKey prog w s.heap k a) : s.TypeIs (.ref a) "tuple" := (by obtain ⟨o, _, _, _, ho, hc, _⟩ := x; exact ⟨o, ho, hc⟩)
theorem IsPairKey.inj {h : Heap} {a : Addr} {x y : Int × List Int} (hx : IsPairKey prog w h x a) (hy : IsPairKey prog w h y a) : x = y := by
  obtain ⟨o, b, t, n, ho, _, hd, hi⟩ := hx
  obtain ⟨o', b', t', n', ho', _, hd', hi'⟩ := hy
  obtain rfl : o = o' := Option.some.inj (ho.symm.trans ho')
  rw [hd] at hd'
  injection hd' with h1 _
  simp at h1
  obtain ⟨⟨h1, _⟩, rfl⟩ := h1
  have := hi.inj hi'
  exact Prod.ext h1 this
theorem IsPairKey.keeps {h h' : Heap} {k : Int × List Int} {a d : Addr} {o : Obj} {es ep} (x : IsPairKey prog w h k a) (ho : h.get? d = some o) (hd : o.data = .dict es ep) (hs : Heap.SameBut d h h') : IsPairKey prog w h' k a := by
  obtain ⟨o', b, t, n, ho', hc, hd', hi⟩ := x
  have hne : a ≠ d := by
    rintro rfl
    obtain rfl : o' = o := Option.some.inj (ho'.symm.trans ho)
    rw [hd] at hd'; exact nomatch hd'
  exact ⟨o', b, t, n, (hs.2 a hne).trans ho', hc, hd', hi.keeps ho hd hs⟩

theorem pair_hash {k : Int × List Int} {a : Addr} {Q : Int → Shared → Prop} (hu : A.units + 1 < cLine) (hk : IsPairKey prog w s.heap k a) (h : Q (pairKeyHash k) { s with toks := s.toks + (k.2.length + 3) }) :
    wpAny (model prog w) A (PySem.pyHash (.ref a)) Q E s := by
  have hT := hk.typeIs
  obtain ⟨o, b, t, n, ho, _, hd, hi⟩ := hk
  unfold PySem.pyHash
  unfold pyHashByItsType
  refine wpAny_bind (wpAny_cRoomFor_or (.inr (by lia)) ?_)
  refine wpAny_bind (wpAny_specialOf hT F.slot_tuple_hash.lookup ?_)
  show wpAny _ _ (if (some (Value.builtin "tuple.__hash__") == some Value.none) = true then _ else _) Q E s
  rw [if_neg (by rw [beq_builtin_none]; exact Bool.false_ne_true)]
  refine wpAny_bind (wpAny_specialOf hT F.slot_tuple_hash.lookup ?_)
  show wpAny _ _ (callSpecialIfBoundUnlessNone? (.ref a) "__hash__" _ >>= _) Q E s
  refine wpAny_bind (wpAny_callSpecialIfBoundUnlessNone?_slot hT F.slot_tuple_hash (wpAny_call_entry F.slot_tuple_hash hT F.entry_tuple_hash ?_ (F.args_tuple_hash_1 _)))
  show wpAny _ _ (Builtin.Tuple.tupleItemsOf (.ref a) >>= _) _ _ s
  refine wpAny_bind (wpAny_tupleItemsOf ho hd ?_)
  refine wpAny_bind ?_
  rw [← Array.forIn_toList]
  have hne : ∀ x : Int, (intKind prog w).hash x = hashInt x := fun zz => rfl
  refine wpAny_forIn_list _
    (fun rest (acc : Array Int) s' => (rest = [.int k.1 t, .ref b] ∧ acc = #[] ∧ s' = s) ∨ (rest = [.ref b] ∧ acc = #[hashInt k.1] ∧ s' = { s with toks := s.toks + 1 }) ∨
      (rest = [] ∧ acc = #[hashInt k.1, tupleKeyHash (intKind prog w) k.2] ∧ s' = { s with toks := s.toks + 1 + (k.2.length + 1) }))
    _ ?_ ?_ _ _ (.inl ⟨rfl, rfl, rfl⟩)
  · rintro x rest acc s' (⟨e, rfl, rfl⟩ | ⟨e, rfl, rfl⟩ | ⟨e, _⟩)
    · cases e
      refine wpAny_bind ((intKind prog w).pyHash (k := k.1) (by simp [intKind, Value.isInt]) ?_)
      first
        | exact wpAny_pure (.inr (.inl ⟨rfl, rfl, rfl⟩))
        | exact wpAny_bind (wpAny_pure (wpAny_pure (.inr (.inl ⟨rfl, rfl, rfl⟩))))
    · cases e
      refine wpAny_bind (wpAny_pyHash_tuple (s := { s with toks := s.toks + 1 }) (A := A.in1) hu hi ?_)
      first
        | exact wpAny_pure (.inr (.inr ⟨rfl, rfl, rfl⟩))
        | exact wpAny_bind (wpAny_pure (wpAny_pure (.inr (.inr ⟨rfl, rfl, rfl⟩))))
    · cases e
  · rintro acc s' (⟨e, _⟩ | ⟨e, _⟩ | ⟨_, rfl, rfl⟩)
    · cases e
    · cases e
    show wpAny _ _ (retInt (Builtin.Tuple.tupleHashOf [hashInt k.1, tupleKeyHash (intKind prog w) k.2])) _ _ _
    refine wpAny_ret_mkInt ?_
    have e : (intKind prog w).hash = hashInt := rfl
    unfold tupleKeyHash
    rw [e]
    unfold pairKeyHash at h
    generalize Builtin.Tuple.tupleHashOf [hashInt k.1, reduceHash (Builtin.Tuple.tupleHashOf (k.2.map hashInt))] = z at h
    have e2 : s.toks + 1 + (k.2.length + 1) + 1 = s.toks + (k.2.length + 3) := by lia
    show wpAny _ _ (if (decide (-(2 : Int) ^ 63 ≤ z) && decide (z < 2 ^ 63)) = true then _ else _) Q E _
    unfold reduceHash at h
    by_cases hr : (decide (-(2 : Int) ^ 63 ≤ z) && decide (z < 2 ^ 63)) = true
    · rw [if_pos hr]
      rw [if_pos hr] at h
      exact wpAny_pure (by rw [← e2] at h; exact h)
    · rw [if_neg hr]
      rw [if_neg hr] at h
      exact wpAny_bind (wpAny_rule (wpAny_pure (by rw [← e2] at h; exact h)))

theorem pair_eq_tree {x y : Int × List Int} {a b : Addr} {P : Fin → Shared → Prop} (hu : A.units < cLine) (hx : IsPairKey prog w s.heap x a) (hy : IsPairKey prog w s.heap y b) (h : P (.done (.ret (.bool (decide (x = y))))) s) :
    wpAny (model prog w) A (Builtin.«tuple.__eq__» ⟨[.ref a, .ref b], []⟩) P E s := by
  obtain ⟨o1, b1, t1, n1, ho1, hc1, hd1, hi1⟩ := hx
  obtain ⟨o2, b2, t2, n2, ho2, hc2, hd2, hi2⟩ := hy
  show wpAny _ _ (isInstance (.ref b) (.type "tuple") >>= _) _ _ s
  refine wpAny_bind (wpAny_isInstance (T := "tuple") ⟨o2, ho2, hc2⟩ isSubtype_tuple_tuple ?_)
  refine wpAny_bind (wpAny_tupleItemsOf ho1 hd1 ?_)
  refine wpAny_bind (wpAny_tupleItemsOf ho2 hd2 ?_)
  refine wpAny_bind ?_
  refine wpAny_forIn_list _
    (fun rest r s' => r.1 = none ∧ s' = s ∧ ((rest = [(Value.int x.1 t1, Value.int y.1 t2), (Value.ref b1, Value.ref b2)]) ∨ (rest = [(Value.ref b1, Value.ref b2)] ∧ x.1 = y.1) ∨ (rest = [] ∧ x = y)))
    _ ?_ ?_ _ _ ⟨rfl, rfl, .inl rfl⟩
  · rintro ⟨u, v⟩ rest r s' ⟨hr, rfl, (e | ⟨e, h1⟩ | ⟨e, _⟩)⟩
    · cases e
      refine wpAny_bind ((intKind prog w).eqBool (a := x.1) (b := y.1) (by simp [intKind, Value.isInt]) (by simp [intKind, Value.isInt]) ?_)
      by_cases hk : x.1 = y.1
      · rw [decide_eq_true hk]
        simp only [Bool.not_true, Bool.false_eq_true, if_false]
        exact wpAny_pure ⟨rfl, rfl, .inr (.inl ⟨trivial, hk⟩)⟩
      · rw [decide_eq_false hk]
        have hf : decide (x = y) = false := decide_eq_false (fun e => hk (by rw [e]))
        rw [hf] at h
        exact wpAny_bind (wpAny_pure (wpAny_pure (wpAny_pure h)))
    · cases e
      refine wpAny_bind (wpAny_eqBool_tuple hu hi1 hi2 ?_)
      by_cases hk : x.2 = y.2
      · rw [decide_eq_true hk]
        simp only [Bool.not_true, Bool.false_eq_true, if_false]
        exact wpAny_pure ⟨rfl, rfl, .inr (.inr ⟨trivial, Prod.ext h1 hk⟩)⟩
      · rw [decide_eq_false hk]
        have hf : decide (x = y) = false := decide_eq_false (fun e => hk (by rw [e]))
        rw [hf] at h
        exact wpAny_bind (wpAny_pure (wpAny_pure (wpAny_pure h)))
    · cases e
  · rintro ⟨r1, r2⟩ s' ⟨hr, rfl, (e | ⟨e, h1⟩ | ⟨_, e⟩)⟩
    · cases e
    · cases e
    simp only at hr
    subst hr
    refine wpAny_pure ?_
    rw [decide_eq_true e] at h
    exact h

theorem pair_eqAt {x y : Int × List Int} {a b : Addr} (hu : A.units + 1 < cLine) (hx : IsPairKey prog w s.heap x a) (hy : IsPairKey prog w s.heap y b) {Q : Bool → Shared → Prop} (h : Q (decide (x = y)) s) :
    wpAny (model prog w) A (PySem.eqBool (.ref a) (.ref b)) Q E s := by
  by_cases hab : a = b
  · subst hab
    obtain rfl := hx.inj hy
    exact SeqAt.EqAt.same _ prog w E Q (by simpa using h)
  · unfold PySem.eqBool
    try with_reducible refine wpAny_holding ?_
    show wpAny _ _ (if (Value.ref a == Value.ref b) = true then _ else _) Q E s
    rw [if_neg (fun e => hab (by have := eq_of_beq e; injection this))]
    exact wpAny_bind (wpAny_richCompare_same_room (op := .Eq) hx.typeIs hy.typeIs F.slot_tuple_eq
      (wpAny_call_entry F.slot_tuple_eq hx.typeIs F.entry_tuple_eq (pair_eq_tree (A := A.in1) hu hx hy ⟨_, rfl, (fun e => nomatch e), wpAny_truthy_bool h⟩) (F.args_tuple_eq_2 _ _)) (by lia))

theorem pair_quiet {k : Int × List Int} {a : Addr} {Q : Bool → Shared → Prop} (hk : IsPairKey prog w s.heap k a) (h : Q true s) : wpAny (model prog w) A (eqIsQuiet 8 (.ref a)) Q E s := by
  have hT := hk.typeIs
  obtain ⟨o, b, t, n, ho, _, hd, hi⟩ := hk
  unfold eqIsQuiet
  refine wpAny_bind (wpAny_specialOf hT F.slot_tuple_eq.lookup ?_)
  show wpAny _ _ (isInstance (.ref a) (.type "tuple") >>= _) _ _ s
  refine wpAny_bind (wpAny_isInstance hT isSubtype_tuple_tuple ?_)
  refine wpAny_bind (wpAny_seqItems ho hd ?_)
  refine wpAny_bind ?_
  show wpAny _ _ (forIn #[Value.int k.1 t, Value.ref b] _ _) _ _ s
  rw [← Array.forIn_toList]
  refine wpAny_forIn_list _ (fun rest r s' => r.1 = none ∧ s' = s ∧ ((rest = [Value.int k.1 t, Value.ref b]) ∨ rest = [Value.ref b] ∨ rest = [])) _ ?_ ?_ _ _ ⟨rfl, rfl, .inl rfl⟩
  · rintro v rest r s' ⟨hr, rfl, (e | e | e)⟩
    · cases e
      rw [eqIsQuiet_byValue _ rfl]
      refine wpAny_bind (wpAny_pure ?_)
      simp only [Bool.not_true, Bool.false_eq_true, if_false]
      exact wpAny_pure ⟨rfl, rfl, .inr (.inl trivial)⟩
    · cases e
      refine wpAny_bind ?_
      have hT := hi.typeIs
      obtain ⟨o2, items, n2, ho2, _, hd2, hi2⟩ := hi
      unfold eqIsQuiet
      refine wpAny_bind (wpAny_specialOf hT F.slot_tuple_eq.lookup ?_)
      show wpAny _ _ (isInstance (.ref b) (.type "tuple") >>= _) _ _ _
      refine wpAny_bind (wpAny_isInstance hT isSubtype_tuple_tuple ?_)
      simp only [Bool.not_true, Bool.false_eq_true, if_false]
      refine wpAny_bind (wpAny_seqItems ho2 hd2 ?_)
      refine wpAny_bind ?_
      show wpAny _ _ (forIn items _ _) _ _ _
      rw [← Array.forIn_toList]
      refine wpAny_forIn_list _ (fun rest r s'' => r.1 = none ∧ s'' = s' ∧ ∀ v ∈ rest, carriedByValue v = true) _ ?_ ?_ _ _ ⟨rfl, rfl, hi2.byValue⟩
      · rintro v rest r s'' ⟨hr, rfl, hall⟩
        rw [eqIsQuiet_byValue _ (hall v List.mem_cons_self)]
        refine wpAny_bind (wpAny_pure ?_)
        exact wpAny_pure ⟨rfl, rfl, fun u hu' => hall u (List.mem_cons_of_mem _ hu')⟩
      · rintro ⟨r1, r2⟩ s'' ⟨hr2, rfl, _⟩
        simp only at hr2
        subst hr2
        refine wpAny_pure ?_
        exact wpAny_pure ⟨rfl, rfl, .inr (.inr trivial)⟩
    · cases e
  · rintro ⟨r1, r2⟩ s' ⟨hr, rfl, _⟩
    simp only at hr
    subst hr
    exact wpAny_pure h
end

noncomputable def pairKind (prog : Program) (w : World) : HeapKind prog w (Int × List Int) where
  is := IsPairKey prog w
  hash := pairKeyHash
  draws := fun k => k.2.length + 3
  room := fun A => A.units + 1 < cLine
  inj := fun hx hy => hx.inj hy
  keeps := fun x ho hd hs => x.keeps ho hd hs
  pyHash := fun hu hk h => pair_hash hu hk h
  eqBool := fun hu hx hy h => pair_eqAt hu hx hy h
  quiet := fun hk h => pair_quiet hk h
end Mine
end

section
open PySem PySem.W PyProof.Rows
set_option Elab.async false
set_option maxRecDepth 100000
set_option tactic.hygienic false
set_option genSizeOf false
set_option genInjectivity false
set_option linter.unusedVariables false
namespace Mine

section
variable {prog : Program} {w : World} {hb : Heap} {mg mb : Str → Option Value} {g : GP} {n : Nat} {C : Calls} {nm : Names}
variable {c : Cx} {F : FM} {T : List (Addr × Obj)} {o : Nat → Addr} {σ : St} {s : Shared} {A : Around} {Qc : Value → Shared → Prop} {E : Value → Shared → Prop}

inductive All2 {α β : Type} (R : α → β → Prop) : List α → List β → Prop
  | nil : All2 R [] []
  | cons {a b as bs} (h : R a b) (t : All2 R as bs) : All2 R (a :: as) (b :: bs)

theorem sound_and {es : List Expr} {xs : List X} {pos : Pos} (h : All2 (SoundE prog w hb g n C nm) es xs) : SoundE prog w hb g n C nm (.BoolOp .And es pos) (.and xs) := by
  intro A c F T o σ s Q Qc E hr G R hw hq
  replace hw : wpAnd C xs Q σ := hw
  induction h generalizing F σ s Q Qc with
  | nil => exact False.elim hw
  | @cons e x es xs he t ih =>
    cases t with
    | nil =>
      exact BoolOp_one (he A c F T o σ s Q Qc E hr G R hw hq)
    | @cons e2 x2 es2 xs2 he2 t2 =>
      refine BoolOp_and (he A c F T o σ s _ _ E hr G R hw fun F' s' val v σ' l R' r q => ?_)
      obtain ⟨b, rfl, q⟩ := truthP_inv q
      obtain rfl := r.invBool
      refine wpAny_truthy_bool ?_
      cases b with
      | true => exact ih F' σ' s' Q Qc R' (fun F'' s'' val v σ'' l' => hq F'' s'' val v σ'' (l.trans l')) (q.1 rfl)
      | false => exact hq F' s' _ _ σ' l R' (.bool false) (q.2 rfl)
theorem sound_or {es : List Expr} {xs : List X} {pos : Pos} (h : All2 (SoundE prog w hb g n C nm) es xs) : SoundE prog w hb g n C nm (.BoolOp .Or es pos) (.or xs) := by
  intro A c F T o σ s Q Qc E hr G R hw hq
  replace hw : wpOr C xs Q σ := hw
  induction h generalizing F σ s Q Qc with
  | nil => exact False.elim hw
  | @cons e x es xs he t ih =>
    cases t with
    | nil =>
      exact BoolOp_one (he A c F T o σ s Q Qc E hr G R hw hq)
    | @cons e2 x2 es2 xs2 he2 t2 =>
      refine BoolOp_or (he A c F T o σ s _ _ E hr G R hw fun F' s' val v σ' l R' r q => ?_)
      obtain ⟨b, rfl, q⟩ := truthP_inv q
      obtain rfl := r.invBool
      refine wpAny_truthy_bool ?_
      cases b with
      | false => exact ih F' σ' s' Q Qc R' (fun F'' s'' val v σ'' l' => hq F'' s'' val v σ'' (l.trans l')) (q.2 rfl)
      | true => exact hq F' s' _ _ σ' l R' (.bool true) (q.1 rfl)
theorem soundT_and {es : List Expr} {xs : List X} {pos : Pos} (h : All2 (SoundT prog w hb g n C nm) es xs) : SoundT prog w hb g n C nm (.BoolOp .And es pos) (.and xs) := by
  intro A c F T o σ s Q Qc E hr G R hw hq
  show wpAny _ _ (isTrue (.BoolOp .And es pos) c.env (eval (.BoolOp .And es pos) c.env)) Qc E s
  generalize eval (.BoolOp .And es pos) c.env = whole
  replace hw : wpAnd C xs Q σ := hw
  induction h generalizing F σ s Q Qc with
  | nil => exact False.elim hw
  | @cons e x es xs he t ih =>
    cases t with
    | nil =>
      refine isTrue_and (he A c F T o σ s _ _ E hr G R hw fun F' s' v σ' l R' q => ?_)
      obtain ⟨b, hb, q'⟩ := hq F' s' v σ' l R' q
      refine ⟨b, hb, ?_⟩
      cases b with
      | true => exact isTrue_and_nil q'
      | false => exact q'
    | @cons e2 x2 es2 xs2 he2 t2 =>
      refine isTrue_and (he A c F T o σ s _ _ E hr G R hw fun F' s' v σ' l R' q => ?_)
      obtain ⟨b, rfl, q⟩ := truthP_inv q
      refine ⟨b, rfl, ?_⟩
      cases b with
      | true => exact ih F' σ' s' Q Qc R' (fun F'' s'' v σ'' l' => hq F'' s'' v σ'' (l.trans l')) (q.1 rfl)
      | false =>
        obtain ⟨b, hb, q'⟩ := hq F' s' _ σ' l R' (q.2 rfl)
        cases hb; exact q'
theorem soundT_or {es : List Expr} {xs : List X} {pos : Pos} (h : All2 (SoundT prog w hb g n C nm) es xs) : SoundT prog w hb g n C nm (.BoolOp .Or es pos) (.or xs) := by
  intro A c F T o σ s Q Qc E hr G R hw hq
  show wpAny _ _ (isTrue (.BoolOp .Or es pos) c.env (eval (.BoolOp .Or es pos) c.env)) Qc E s
  generalize eval (.BoolOp .Or es pos) c.env = whole
  replace hw : wpOr C xs Q σ := hw
  induction h generalizing F σ s Q Qc with
  | nil => exact False.elim hw
  | @cons e x es xs he t ih =>
    cases t with
    | nil =>
      refine isTrue_or (he A c F T o σ s _ _ E hr G R hw fun F' s' v σ' l R' q => ?_)
      obtain ⟨b, hb, q'⟩ := hq F' s' v σ' l R' q
      refine ⟨b, hb, ?_⟩
      cases b with
      | true => exact q'
      | false => exact isTrue_or_nil q'
    | @cons e2 x2 es2 xs2 he2 t2 =>
      refine isTrue_or (he A c F T o σ s _ _ E hr G R hw fun F' s' v σ' l R' q => ?_)
      obtain ⟨b, rfl, q⟩ := truthP_inv q
      refine ⟨b, rfl, ?_⟩
      cases b with
      | false => exact ih F' σ' s' Q Qc R' (fun F'' s'' v σ'' l' => hq F'' s'' v σ'' (l.trans l')) (q.2 rfl)
      | true =>
        obtain ⟨b, hb, q'⟩ := hq F' s' _ σ' l R' (q.1 rfl)
        cases hb; exact q'
theorem soundT_ite {t a b : Expr} {xt xa xb : X} {pos : Pos} (ht : SoundT prog w hb g n C nm t xt) (ha : SoundT prog w hb g n C nm a xa) (hb' : SoundT prog w hb g n C nm b xb) : SoundT prog w hb g n C nm (.IfExp t a b pos) (.ite xt xa xb) := by
  intro A c F T o σ s Q Qc E hr G R hw hq
  refine isTrue_IfExp (ht A c F T o σ s _ _ E hr G R hw fun F' s' v σ' l R' q => ?_)
  obtain ⟨c', rfl, q⟩ := truthP_inv q
  refine ⟨c', rfl, ?_⟩
  cases c' with
  | true => exact ha A c F' T o σ' s' Q Qc E hr G R' (q.1 rfl) fun F'' s'' v σ'' l' => hq F'' s'' v σ'' (l.trans l')
  | false => exact hb' A c F' T o σ' s' Q Qc E hr G R' (q.2 rfl) fun F'' s'' v σ'' l' => hq F'' s'' v σ'' (l.trans l')
end
end Mine
end

section
open PySem PySem.W PyProof.Rows
set_option Elab.async false
set_option maxRecDepth 100000
set_option tactic.hygienic false
set_option genSizeOf false
set_option genInjectivity false
set_option linter.unusedVariables false
namespace Mine

theorem ixIn_hit {c c' : Nat} {l : List Nat} {i : Nat} (h : Nat.beq c c' = true) : ixIn c (c' :: l) i = some i := by
  show (match Nat.beq c c' with | true => some i | false => ixIn c l (i + 1)) = _
  rw [h]
theorem ixIn_miss {c c' : Nat} {l : List Nat} {i : Nat} (h : Nat.beq c c' = false) : ixIn c (c' :: l) i = ixIn c l (i + 1) := by
  show (match Nat.beq c c' with | true => some i | false => ixIn c l (i + 1)) = _
  rw [h]
theorem ixIn_ge {c : Nat} : ∀ {l : List Nat} {i k : Nat}, ixIn c l i = some k → i ≤ k
  | [], _, _, h => by cases h
  | c' :: l, i, k, h => by
    cases e : Nat.beq c c' with
    | true => rw [ixIn_hit e] at h; cases h; exact Nat.le_refl _
    | false => rw [ixIn_miss e] at h; exact Nat.le_of_succ_le (ixIn_ge h)
theorem ixIn_mem {c : Nat} : ∀ {l : List Nat} {i k : Nat}, ixIn c l i = some k → c ∈ l
  | [], _, _, h => by cases h
  | c' :: l, i, k, h => by
    cases e : Nat.beq c c' with
    | true => rw [Nat.eq_of_beq_eq_true e]; exact List.mem_cons_self ..
    | false => exact List.mem_cons_of_mem _ (ixIn_mem ((ixIn_miss e).symm.trans h))
theorem ixIn_inj {c c' : Nat} : ∀ {l : List Nat} {i k : Nat}, ixIn c l i = some k → ixIn c' l i = some k → c = c'
  | [], _, _, h, _ => by cases h
  | d :: l, i, k, h, h' => by
    cases e : Nat.beq c d with
    | true =>
      cases e' : Nat.beq c' d with
      | true => rw [Nat.eq_of_beq_eq_true e, Nat.eq_of_beq_eq_true e']
      | false =>
        rw [ixIn_hit e] at h; cases h
        rw [ixIn_miss e'] at h'; exact absurd (ixIn_ge h') (Nat.not_succ_le_self _)
    | false =>
      rw [ixIn_miss e] at h
      cases e' : Nat.beq c' d with
      | true => rw [ixIn_hit e'] at h'; cases h'; exact absurd (ixIn_ge h) (Nat.not_succ_le_self _)
      | false => rw [ixIn_miss e'] at h'; exact ixIn_inj h h'
theorem code_inj {l : List Nat} (h0 : 0 ∉ l) {x y : Str} {k : Nat} (hx : ixIn (cd x) l 0 = some k) (hy : ixIn (cd y) l 0 = some k) : x = y :=
  cd_inj (ixIn_inj hx hy) fun e => h0 (e ▸ ixIn_mem hx)
theorem strIx_inj {x y : Str} {k : Nat} (hx : strIx x = some k) (hy : strIx y = some k) : x = y := code_inj (by decide +kernel) hx hy
theorem varIx_inj {x y : Str} {k : Nat} (hx : varIx x = some k) (hy : varIx y = some k) : x = y := code_inj (by decide +kernel) hx hy
theorem str_beq {x y : Str} {a b : Nat} (hx : strIx x = some a) (hy : strIx y = some b) : (x == y) = Nat.beq a b := by
  by_cases h : a = b
  · subst h; rw [strIx_inj hx hy, beq_self]; exact beq_self_eq_true _
  · rw [beq_ne h]
    cases e : (x == y) with
    | false => rfl
    | true => rw [eq_of_beq e, hy] at hx; cases hx; exact absurd rfl h

section
variable {prog : Program} {w : World} {hb : Heap} {mg mb : Str → Option Value} {g : GP} {n : Nat} {C : Calls} {nm : Names}
variable {c : Cx} {F : FM} {T : List (Addr × Obj)} {o : Nat → Addr} {σ : St} {s : Shared} {A : Around} {Qc : Value → Shared → Prop} {E : Value → Shared → Prop}

theorem isTuple_of {h : Heap} {a : Addr} {vs : List Value} {m : Nat} (e : h.get? a = some (tupO vs m)) : h.IsTuple a vs.toArray := ⟨_, e, rfl, m, rfl⟩
theorem isList_of {h : Heap} {a : Addr} {vs : List Value} {m : Nat} (e : h.get? a = some (lstO vs m)) : h.IsList a vs.toArray := ⟨_, e, rfl, m, rfl⟩

theorem nil_all (vs : List Value) {e : Nat → Bool} : ((List.range (min vs.toArray.size ([] : List Value).toArray.size)).all e && vs.toArray.size == ([] : List Value).toArray.size) = vs.isEmpty := by
  cases vs <;> simp
theorem pair_all {a b c d : Value} {p q : Bool} {e : Nat → Bool} (h0 : e 0 = p) (h1 : e 1 = q) : ((List.range (min ([a, b].toArray).size ([c, d].toArray).size)).all e && [a, b].toArray.size == [c, d].toArray.size) = (p && q) := by
  rw [← h0, ← h1]
  show (List.all [0, 1] e && true) = _
  rw [List.all_cons, List.all_cons, List.all_nil, Bool.and_true, Bool.and_true]

theorem nn {α : Type} {P : Prop} {r : α} (h : (none : Option α) = some r) : P := by cases h
theorem noBool {P : Prop} (h : False) : P := h.elim
inductive EqI : V → V → Bool → Prop
  | int (a b : Int) : EqI (.int a) (.int b) (decide (a = b))
  | str (a b : Nat) : EqI (.str a) (.str b) (Nat.beq a b)
  | bool (a b : Bool) : EqI (.bool a) (.bool b) (a == b)
  | tup (vs : List V) : EqI (.tup vs) (.tup []) vs.isEmpty
  | lst (vs : List V) : EqI (.lst vs) (.lst []) vs.isEmpty
  | pair (a b c d : Int) : EqI (.tup [.int a, .int b]) (.tup [.int c, .int d]) (decide (a = c) && decide (b = d))
theorem EqI.of {α : Type} {P : α → Prop} {x r : α} (h : some x = some r) (p : P x) : P r := Option.some.inj h ▸ p
theorem eqV_tup {vs us : List V} {r : Bool} (h : eqV (.tup vs) (.tup us) = some r) : EqI (.tup vs) (.tup us) r := by
  cases us with
  | nil => exact EqI.of (P := EqI _ _) (x := vs.isEmpty) h (.tup vs)
  | cons u us => cases u with
    | int c => cases us with
      | nil => exact nn h
      | cons z us => cases z with
        | int d => cases us with
          | cons _ _ => exact nn h
          | nil => cases vs with
            | nil => exact nn h
            | cons v vs => cases v with
              | int a => cases vs with
                | nil => exact nn h
                | cons w vs => cases w with
                  | int b => cases vs with
                    | cons _ _ => exact nn h
                    | nil => exact EqI.of (P := EqI _ _) (x := decide (a = c) && decide (b = d)) h (.pair a b c d)
                  | _ => exact nn h
              | _ => exact nn h
        | _ => exact nn h
    | _ => exact nn h
theorem eqV_inv {da db : V} {r : Bool} (h : eqV da db = some r) : EqI da db r := by
  cases da with
  | int a => cases db with
    | int b => exact EqI.of (P := EqI _ _) (x := decide (a = b)) h (.int a b)
    | _ => exact nn h
  | str a => cases db with
    | str b => exact EqI.of (P := EqI _ _) (x := Nat.beq a b) h (.str a b)
    | _ => exact nn h
  | bool a => cases db with
    | bool b => exact EqI.of (P := EqI _ _) (x := a == b) h (.bool a b)
    | _ => exact nn h
  | tup vs => cases db with
    | tup us => exact eqV_tup h
    | _ => exact nn h
  | lst vs => cases db with
    | lst us => cases us with
      | nil => exact EqI.of (P := EqI _ _) (x := vs.isEmpty) h (.lst vs)
      | cons _ _ => exact nn h
    | _ => exact nn h
  | _ => exact nn h

@[reducible] noncomputable def Rc2 (A : Around) (s : Shared) (a b : Addr) (r : Bool) : Prop := SeqAt.RcAt A s (.ref a) (.ref b) r ∧ SeqAt.RcNeAt A s (.ref a) (.ref b) (!r)
theorem size_nil {α : Type} {P : Prop} {j : Nat} (h : j < ([] : List α).toArray.size) : P := absurd h (Nat.not_lt_zero j)
theorem rc_tup {a b : Addr} {us : List Value} {vs : List V} {m m' : Nat} (h1 : s.heap.get? a = some (tupO us m)) (r1 : RepAll g F us vs) (h2 : s.heap.get? b = some (tupO [] m')) (hu : A.units < cLine) : Rc2 A s a b vs.isEmpty := by
  have e : us.isEmpty = vs.isEmpty := by cases r1 <;> rfl
  rw [← e, ← nil_all us (e := fun zz => true)]
  exact ⟨SeqAt.RcAt.tuples (isTuple_of h1) (isTuple_of h2) hu (fun j zz hj => size_nil hj), SeqAt.RcNeAt.tuples (isTuple_of h1) (isTuple_of h2) hu (fun j zz hj => size_nil hj)⟩
theorem rc_lst {a b : Addr} {us : List Value} {vs : List V} {m m' : Nat} (h1 : s.heap.get? a = some (lstO us m)) (r1 : RepAll g F us vs) (h2 : s.heap.get? b = some (lstO [] m')) (hu : A.units < cLine) : Rc2 A s a b vs.isEmpty := by
  cases r1 with
  | nil => exact ⟨SeqAt.RcAt.lists (e := fun zz => true) (isList_of h1) (isList_of h2) rfl hu (fun j zz hj => size_nil hj), SeqAt.RcNeAt.lists (e := fun zz => true) (isList_of h1) (isList_of h2) rfl hu (fun j zz hj => size_nil hj)⟩
  | cons hh tt => exact ⟨SeqAt.RcAt.lists_lengths (isList_of h1) (isList_of h2) (by simp) hu, SeqAt.RcNeAt.lists_lengths (isList_of h1) (isList_of h2) (by simp) hu⟩
theorem rc_pair {a b : Addr} {x y x' y' : Int} {t1 t2 t3 t4 : Tok} {m m' : Nat} (h1 : s.heap.get? a = some (tupO [.int x t1, .int y t2] m)) (h2 : s.heap.get? b = some (tupO [.int x' t3, .int y' t4] m')) (hu : A.units < cLine) : Rc2 A s a b (x == x' && y == y') := by
  have he : ∀ j (h1 : j < ([Value.int x t1, Value.int y t2].toArray).size) (h2 : j < ([Value.int x' t3, Value.int y' t4].toArray).size),
      SeqAt.EqAt A.in1 s ([Value.int x t1, Value.int y t2].toArray)[j] ([Value.int x' t3, Value.int y' t4].toArray)[j] (if j = 0 then x == x' else y == y') := fun j hj1 hj2 => by
    match j with
    | 0 => exact SeqAt.EqAt.int_int x t1 x' t3
    | 1 => exact SeqAt.EqAt.int_int y t2 y' t4
    | k + 2 => exact absurd hj1 (Nat.not_lt.mpr (Nat.le_add_left 2 k))
  rw [← pair_all (a := .int x t1) (b := .int y t2) (c := .int x' t3) (d := .int y' t4) (p := x == x') (q := y == y') (e := fun j => if j = 0 then x == x' else y == y') rfl rfl]
  exact ⟨SeqAt.RcAt.tuples (isTuple_of h1) (isTuple_of h2) hu he, SeqAt.RcNeAt.tuples (isTuple_of h1) (isTuple_of h2) hu he⟩

noncomputable def Eq2 (prog : Program) (w : World) (A : Around) (s : Shared) (va vb : Value) (r : Bool) : Prop := ∀ (Qc : Value → Shared → Prop) (E : Value → Shared → Prop),
  (Qc (.bool r) s → wpAny (model prog w) A (compareOp .Eq va vb) Qc E s) ∧ (Qc (.bool (!r)) s → wpAny (model prog w) A (compareOp .NotEq va vb) Qc E s)
theorem Eq2.refs {a b : Addr} {r : Bool} (h : Rc2 A s a b r) : Eq2 prog w A s (.ref a) (.ref b) r := fun Qc E => ⟨fun q => h.1 prog w E Qc q, fun q => h.2 prog w E Qc q⟩
theorem eq2_sound {va vb : Value} {da db : V} {r : Bool} (R : Rel c F T o σ s) (ra : Rep c.g F va da) (rb : Rep c.g F vb db) (hu : A.units < cLine) (h : EqI da db r) : Eq2 prog w A s va vb r := by
  cases h with
  | int => obtain ⟨_, rfl⟩ := ra.invInt; obtain ⟨_, rfl⟩ := rb.invInt; exact fun Qc E => ⟨fun q => eq_int q, fun q => ne_int q⟩
  | str =>
    obtain ⟨_, _, rfl, h1⟩ := ra.invStr
    obtain ⟨_, _, rfl, h2⟩ := rb.invStr
    rw [← str_beq h1 h2]
    exact fun Qc E => ⟨fun q => eq_str q, fun q => ne_str q⟩
  | bool => obtain rfl := ra.invBool; obtain rfl := rb.invBool; exact fun Qc E => ⟨fun q => eq_bool q, fun q => ne_bool q⟩
  | tup =>
    obtain ⟨_, _, _, rfl, h1, r1⟩ := ra.invTup
    obtain ⟨_, _, _, rfl, h2, r2⟩ := rb.invTup
    rw [r2.invNil] at h2
    exact .refs (rc_tup (R.fro _ _ h1) r1 (R.fro _ _ h2) hu)
  | lst =>
    obtain ⟨_, _, _, rfl, h1, r1⟩ := ra.invLst
    obtain ⟨_, _, _, rfl, h2, r2⟩ := rb.invLst
    rw [r2.invNil] at h2
    exact .refs (rc_lst (R.fro _ _ h1) r1 (R.fro _ _ h2) hu)
  | pair =>
    obtain ⟨_, _, _, rfl, h1, r1⟩ := ra.invTup
    obtain ⟨_, _, _, rfl, h2, r2⟩ := rb.invTup
    obtain ⟨_, _, rfl, p1, p2⟩ := r1.inv2
    obtain ⟨_, _, rfl, p3, p4⟩ := r2.inv2
    obtain ⟨_, rfl⟩ := p1.invInt
    obtain ⟨_, rfl⟩ := p2.invInt
    obtain ⟨_, rfl⟩ := p3.invInt
    obtain ⟨_, rfl⟩ := p4.invInt
    exact .refs (rc_pair (R.fro _ _ h1) (R.fro _ _ h2) hu)
theorem eq_sound {va vb : Value} {da db : V} {r : Bool} (R : Rel c F T o σ s) (ra : Rep c.g F va da) (rb : Rep c.g F vb db) (hu : A.units + 100 < cLine) (h : eqV da db = some r) (hq : Qc (.bool r) s) :
    wpAny (model prog w) A (compareOp .Eq va vb) Qc E s := (eq2_sound R ra rb (Nat.lt_of_le_of_lt (Nat.le_add_right _ _) hu) (eqV_inv h) Qc E).1 hq
theorem ne_sound {va vb : Value} {da db : V} {r : Bool} (R : Rel c F T o σ s) (ra : Rep c.g F va da) (rb : Rep c.g F vb db) (hu : A.units + 100 < cLine) (h : eqV da db = some r) (hq : Qc (.bool (!r)) s) :
    wpAny (model prog w) A (compareOp .NotEq va vb) Qc E s := (eq2_sound R ra rb (Nat.lt_of_le_of_lt (Nat.le_add_right _ _) hu) (eqV_inv h) Qc E).2 hq
end
end Mine
end

section
open PySem PySem.W PyProof.Rows
set_option Elab.async false
set_option maxRecDepth 100000
set_option tactic.hygienic false
set_option genSizeOf false
set_option genInjectivity false
set_option linter.unusedVariables false
namespace Mine

section
variable {prog : Program} {w : World} {hb : Heap} {mg mb : Str → Option Value} {g : GP} {n : Nat} {C : Calls} {nm : Names}
variable {c : Cx} {F : FM} {T : List (Addr × Obj)} {o : Nat → Addr} {σ : St} {s : Shared} {A : Around} {Qc : Value → Shared → Prop} {E : Value → Shared → Prop}

noncomputable def isStrV (x : Str) : Value → Bool
  | .str z _ => z == x
  | _ => false
noncomputable def isIntV (i : Int) : Value → Bool
  | .int z _ => z == i
  | _ => false
theorem beq_comm' (a b : Nat) : Nat.beq a b = Nat.beq b a := by
  by_cases h : a = b
  · subst h; rfl
  · rw [beq_ne h, beq_ne (Ne.symm h)]

theorem hasN_hit {k j : Nat} {r : List Nat} (h : Nat.beq k j = true) : hasN k (j :: r) = true := by
  show (match Nat.beq k j with | true => true | false => hasN k r) = _
  rw [h]
theorem hasN_miss {k j : Nat} {r : List Nat} (h : Nat.beq k j = false) : hasN k (j :: r) = hasN k r := by
  show (match Nat.beq k j with | true => true | false => hasN k r) = _
  rw [h]
theorem findD_hit {k j : Nat} {r : List Nat} {v : V} {vs : List V} (h : Nat.beq k j = true) : findD k (j :: r) (v :: vs) = some v := by
  show (match Nat.beq k j with | true => some v | false => findD k r vs) = _
  rw [h]
theorem findD_miss {k j : Nat} {r : List Nat} {v : V} {vs : List V} (h : Nat.beq k j = false) : findD k (j :: r) (v :: vs) = findD k r vs := by
  show (match Nat.beq k j with | true => some v | false => findD k r vs) = _
  rw [h]
theorem strs_any {x : Str} {k : Nat} (hx : strIx x = some k) {us : List Value} {vs : List V} {l : List Nat} (h : RepAll g F us vs) (e : strsOf vs = some l) : us.any (isStrV x) = hasN k l ∧ ∀ y ∈ us, ∃ z t, y = .str z t := by
  induction vs generalizing us l with
  | nil => cases h; cases e; exact ⟨rfl, fun y hy => nomatch hy⟩
  | cons d vs ih =>
    cases d with
    | str c' =>
      obtain ⟨u, us, rfl, h, r⟩ := h.invCons
      replace e : (strsOf vs).map (c' :: ·) = some l := e
      cases hr : strsOf vs with
      | none => rw [hr] at e; cases e
      | some l' =>
        rw [hr] at e
        cases e
        obtain ⟨e1, e2⟩ := ih r hr
        obtain ⟨z, t, rfl, hz⟩ := h.invStr
        refine ⟨?_, fun y hy => ?_⟩
        · rw [List.any_cons, e1]
          show (z == x || hasN k l') = _
          rw [str_beq hz hx, beq_comm']
          cases e : Nat.beq k c' with
          | true => exact (hasN_hit e).symm
          | false => exact (hasN_miss e).symm
        · rcases List.mem_cons.mp hy with rfl | hy
          · exact ⟨z, t, rfl⟩
          · exact e2 y hy
    | _ => exact nn e
theorem ints_any (i : Int) {us : List Value} {is : List Int} (h : IntsAre us is) : us.any (isIntV i) = decide (i ∈ is) ∧ ∀ y ∈ us, ∃ z t, y = .int z t := by
  induction h with
  | nil => exact ⟨rfl, fun y hy => nomatch hy⟩
  | @cons z t us is r ih =>
    refine ⟨?_, fun y hy => ?_⟩
    · rw [List.any_cons, ih.1]
      show (z == i || decide (i ∈ is)) = _
      by_cases h : z = i
      · subst h; rw [beq_self_eq_true, decide_eq_true (List.mem_cons_self ..)]; rfl
      · rw [beq_eq_false_iff_ne.mpr h]
        exact decide_eq_decide.mpr ⟨List.mem_cons_of_mem _, fun q => (List.mem_cons.mp q).resolve_left (Ne.symm h)⟩
    · rcases List.mem_cons.mp hy with rfl | hy
      · exact ⟨z, t, rfl⟩
      · exact ih.2 y hy

theorem any_arr (us : List Value) (e : Value → Bool) : us.toArray.any e = us.any e := by simp

/- a dict by strs -/
theorem find_ent {x : Str} {k : Nat} (hx : strIx x = some k) {es : List DictEntry} : ∀ {ks : List Nat} {ds : List V}, RepEnt g F es ks ds →
    (∀ e ∈ es, ∃ y, Value.isStrOf y e.key = true ∧ e.hash = hashStr g.w y) ∧ (findBy Value.isStrOf es.toArray x).isSome = hasN k ks ∧
    ∀ d, findD k ks ds = some d → ∃ v, findBy Value.isStrOf es.toArray x = some v ∧ Rep g F v d := by
  have hf : ∀ l : List DictEntry, findBy Value.isStrOf l.toArray x = (l.find? fun e => Value.isStrOf x e.key).map (·.val) := fun l => by simp [findBy]
  induction es with
  | nil =>
    intro ks ds h
    cases h
    refine ⟨(fun e he => nomatch he), rfl, (fun d h => by cases h)⟩
  | cons e es ih =>
    intro ks ds h
    cases h with
    | @cons hh y t v _ k' ks d ds he hk hv r =>
    obtain ⟨h1, h2, h3⟩ := ih r
    have hb : Value.isStrOf x (Value.str y t) = Nat.beq k k' := by
      show (y == x) = _
      rw [str_beq hk hx, beq_comm']
    rw [hf] at h2
    refine ⟨fun e' he' => ?_, ?_, fun d' hd' => ?_⟩
    · rcases List.mem_cons.mp he' with rfl | he'
      · exact ⟨y, by show (y == y) = true; exact beq_self_eq_true _, he⟩
      · exact h1 e' he'
    · rw [hf, List.find?_cons]
      cases hbb : Nat.beq k k' with
      | true => rw [hbb] at hb; rw [hasN_hit hbb]; simp only [hb]; rfl
      | false => rw [hbb] at hb; rw [hasN_miss hbb]; simp only [hb]; exact h2
    · rw [hf, List.find?_cons]
      cases hbb : Nat.beq k k' with
      | true =>
        rw [findD_hit hbb] at hd'
        rw [hbb] at hb
        cases hd'
        simp only [hb]
        exact ⟨v, rfl, hv⟩
      | false =>
        rw [findD_miss hbb] at hd'
        rw [hbb] at hb
        simp only [hb]
        obtain ⟨v', e1, e2⟩ := h3 d' hd'
        rw [hf] at e1
        exact ⟨v', e1, e2⟩

theorem dic_map {a : Addr} {es : List DictEntry} {m : Nat} {ks : List Nat} {ds : List V} {h : Heap} (hW : g.w = w) (e : h.get? a = some (dicO es m)) (r : RepEnt g F es ks ds) :
    h.MapOf (strKind prog w) a (findBy Value.isStrOf es.toArray) := by
  refine ⟨_, es.toArray, m, e, ⟨rfl, rfl, rfl⟩, rfl, fun en hen => ?_, fun k => rfl⟩
  subst hW
  have hx : strIx "p" = some 30 := by decide +kernel
  obtain ⟨y, h1, h2⟩ := (find_ent hx r).1 en (by simpa using hen)
  exact ⟨y, h1, h2⟩

/- in, not in -/
inductive InI (K : Bool → Prop) : V → V → Prop
  | strTup (s : Nat) (vs : List V) (l : List Nat) (hl : strsOf vs = some l) (k : K (hasN s l)) : InI K (.str s) (.tup vs)
  | strDic (s : Nat) (ks : List Nat) (ds : List V) (k : K (hasN s ks)) : InI K (.str s) (.dic ks ds)
  | intTup (i : Int) (is : List Int) (k : K (decide (i ∈ is))) : InI K (.int i) (.tup (is.map V.int))
  | intLst (i : Int) (is : List Int) (k : K (decide (i ∈ is))) : InI K (.int i) (.lst (is.map V.int))
theorem inP_inv {a b : V} {K : Bool → Prop} (h : inP a b K) : InI K a b := by
  cases a with
  | str s => cases b with
    | tup vs => obtain ⟨l, e, k⟩ := optL_inv (o := strsOf vs) (k := fun l => K (hasN s l)) h; exact .strTup s vs l e k
    | dic ks ds => exact .strDic s ks ds h
    | _ => exact ff h
  | int i => cases b with
    | tup vs => obtain ⟨is, e, k⟩ := h; rw [e]; exact .intTup i is k
    | lst vs => obtain ⟨is, e, k⟩ := h; rw [e]; exact .intLst i is k
    | _ => exact ff h
  | _ => exact ff h
noncomputable def In2 (prog : Program) (w : World) (A : Around) (s : Shared) (va vb : Value) (r : Bool) : Prop := ∀ (Qc : Value → Shared → Prop) (E : Value → Shared → Prop),
  ((∀ t, Qc (.bool r) { s with toks := t }) → wpAny (model prog w) A (compareOp .In va vb) Qc E s) ∧ ((∀ t, Qc (.bool (!r)) { s with toks := t }) → wpAny (model prog w) A (compareOp .NotIn va vb) Qc E s)
theorem In2.of_tuple {va : Value} {a : Addr} {us : List Value} {m : Nat} (e : Value → Bool) {b : Bool} (h1 : s.heap.get? a = some (tupO us m)) (he : us.any e = b) (h : ∀ y ∈ us, SeqAt.EqAt A.in1 s y va (e y)) : In2 prog w A s va (.ref a) b := by
  have h' : ∀ y ∈ us.toArray.toList, SeqAt.EqAt A.in1 s y va (e y) := h
  rw [← he, ← any_arr]
  exact fun Qc E => ⟨fun q => SeqAt.in_tupleAt e (isTuple_of h1) (fun y hy => h' y (Array.mem_toList_iff.mpr hy)) (q s.toks), fun q => SeqAt.notIn_tupleAt e (isTuple_of h1) (fun y hy => h' y (Array.mem_toList_iff.mpr hy)) (q s.toks)⟩
theorem In2.of_list {va : Value} {a : Addr} {us : List Value} {m : Nat} (e : Value → Bool) {b : Bool} (h1 : s.heap.get? a = some (lstO us m)) (he : us.any e = b) (h : ∀ y ∈ us, SeqAt.EqAt A.in1 s y va (e y)) : In2 prog w A s va (.ref a) b := by
  have h' : ∀ y ∈ us.toArray.toList, SeqAt.EqAt A.in1 s y va (e y) := h
  rw [← he, ← any_arr]
  exact fun Qc E => ⟨fun q => SeqAt.in_listAt e (isList_of h1) (fun y hy => h' y (Array.mem_toList_iff.mpr hy)) (q s.toks), fun q => SeqAt.notIn_listAt e (isList_of h1) (fun y hy => h' y (Array.mem_toList_iff.mpr hy)) (q s.toks)⟩
theorem in2_sound {va vb : Value} {da db : V} {K : Bool → Prop} (hW : c.g.w = w) (R : Rel c F T o σ s) (ra : Rep c.g F va da) (rb : Rep c.g F vb db) (h : InI K da db) : ∃ b, K b ∧ In2 prog w A s va vb b := by
  cases h with
  | strTup sc vs l hl k =>
    obtain ⟨x, t, rfl, hx⟩ := ra.invStr
    obtain ⟨_, _, _, rfl, h1, r1⟩ := rb.invTup
    obtain ⟨e1, e2⟩ := strs_any hx r1 hl
    exact ⟨_, k, .of_tuple (isStrV x) (R.fro _ _ h1) e1 fun y hy => (by obtain ⟨z, t', e⟩ := e2 y hy; exact e ▸ SeqAt.EqAt.str_str z t' x t)⟩
  | strDic sc ks ds k =>
    obtain ⟨x, t, rfl, hx⟩ := ra.invStr
    obtain ⟨_, _, _, rfl, h1, hs, r1⟩ := rb.invDic
    refine ⟨_, k, ?_⟩
    rw [← (find_ent hx r1).2.1]
    exact fun Qc E => ⟨fun q => wpAny_in_of (knd := strKind prog w) (k := x) (show (x == x) = true from beq_self_eq_true _) hs (dic_map hW (R.fro _ _ h1) r1) (q _),
      fun q => wpAny_notIn_of (knd := strKind prog w) (k := x) (show (x == x) = true from beq_self_eq_true _) hs (dic_map hW (R.fro _ _ h1) r1) (q _)⟩
  | intTup x is k =>
    obtain ⟨t, rfl⟩ := ra.invInt
    obtain ⟨_, _, _, rfl, h1, r1⟩ := rb.invTup
    obtain ⟨e1, e2⟩ := ints_any x r1.ints
    exact ⟨_, k, .of_tuple (isIntV x) (R.fro _ _ h1) e1 fun y hy => (by obtain ⟨z, t', e⟩ := e2 y hy; exact e ▸ SeqAt.EqAt.int_int z t' x t)⟩
  | intLst x is k =>
    obtain ⟨t, rfl⟩ := ra.invInt
    obtain ⟨_, _, _, rfl, h1, r1⟩ := rb.invLst
    obtain ⟨e1, e2⟩ := ints_any x r1.ints
    exact ⟨_, k, .of_list (isIntV x) (R.fro _ _ h1) e1 fun y hy => (by obtain ⟨z, t', e⟩ := e2 y hy; exact e ▸ SeqAt.EqAt.int_int z t' x t)⟩
theorem in_sound {va vb : Value} {da db : V} {K : Bool → Prop} (hW : c.g.w = w) (R : Rel c F T o σ s) (ra : Rep c.g F va da) (rb : Rep c.g F vb db) (h : inP da db K) (hq : ∀ b t, K b → Qc (.bool b) { s with toks := t }) :
    wpAny (model prog w) A (compareOp .In va vb) Qc E s := (by obtain ⟨b, k, i⟩ := in2_sound hW R ra rb (inP_inv h); exact (i Qc E).1 fun t => hq b t k)
theorem notin_sound {va vb : Value} {da db : V} {K : Bool → Prop} (hW : c.g.w = w) (R : Rel c F T o σ s) (ra : Rep c.g F va da) (rb : Rep c.g F vb db) (h : inP da db fun r => K (!r)) (hq : ∀ b t, K b → Qc (.bool b) { s with toks := t }) :
    wpAny (model prog w) A (compareOp .NotIn va vb) Qc E s := (by obtain ⟨b, k, i⟩ := in2_sound hW R ra rb (inP_inv h); exact (i Qc E).2 fun t => hq (!b) t k)

theorem rep_none {v : Value} {d : V} (r : Rep g F v d) (h : d ≠ .none) : (v == Value.none) = false := by
  rcases r.shape with ⟨e, _⟩ | ⟨_, e⟩ | ⟨_, _, e⟩ | ⟨_, _, e⟩ | ⟨_, e⟩
  · exact absurd e h
  all_goals rw [e]; rfl
theorem is_inv {a b : V} {kt kf : Prop} (h : match b with | .none => (match a with | .none => kt | .pot => False | _ => kf) | _ => False) : b = .none ∧ ((a = .none ∧ kt) ∨ (a ≠ .none ∧ kf)) := by
  cases b with
  | none => cases a with
    | none => exact ⟨rfl, .inl ⟨rfl, h⟩⟩
    | pot => exact ff h
    | _ => exact ⟨rfl, .inr ⟨fun e => V.noConfusion e, h⟩⟩
  | _ => exact ff h
theorem cmp_sound {op : CmpOp} {va vb : Value} {da db : V} {K : Bool → Prop} (hW : c.g.w = w) (R : Rel c F T o σ s) (ra : Rep c.g F va da) (rb : Rep c.g F vb db) (hu : A.units + 100 < cLine) (h : cmpP op da db K)
    (hq : ∀ b t, K b → Qc (.bool b) { s with toks := t }) : wpAny (model prog w) A (compareOp op va vb) Qc E s := by
  cases op with
  | Eq => obtain ⟨r, hr, h⟩ := optB_inv (o := eqV da db) (k := K) h; exact eq_sound R ra rb hu hr (hq r s.toks h)
  | NotEq => obtain ⟨r, hr, h⟩ := optB_inv (o := eqV da db) (k := fun r => K (!r)) h; exact ne_sound R ra rb hu hr (hq _ s.toks h)
  | Lt => obtain ⟨_, _, rfl, rfl, h⟩ := int2_inv (v := da) (u := db) (k := fun x y => K (decide (x < y))) h; obtain ⟨_, rfl⟩ := ra.invInt; obtain ⟨_, rfl⟩ := rb.invInt; exact lt_int (hq _ s.toks h)
  | Gt => obtain ⟨_, _, rfl, rfl, h⟩ := int2_inv (v := da) (u := db) (k := fun x y => K (decide (y < x))) h; obtain ⟨_, rfl⟩ := ra.invInt; obtain ⟨_, rfl⟩ := rb.invInt; exact gt_int (hq _ s.toks h)
  | GtE => obtain ⟨_, _, rfl, rfl, h⟩ := int2_inv (v := da) (u := db) (k := fun x y => K (decide (y ≤ x))) h; obtain ⟨_, rfl⟩ := ra.invInt; obtain ⟨_, rfl⟩ := rb.invInt; exact ge_int (hq _ s.toks h)
  | In => exact in_sound hW R ra rb h hq
  | NotIn => exact notin_sound hW R ra rb h hq
  | Is =>
    obtain ⟨rfl, h2⟩ := is_inv (a := da) (b := db) (kt := K true) (kf := K false) h
    obtain rfl := rb.invNone
    refine is_none ?_
    rcases h2 with ⟨rfl, h⟩ | ⟨h1, h⟩
    · obtain rfl := ra.invNone; exact hq true s.toks h
    · rw [rep_none ra h1]; exact hq false s.toks h
  | IsNot =>
    obtain ⟨rfl, h2⟩ := is_inv (a := da) (b := db) (kt := K false) (kf := K true) h
    obtain rfl := rb.invNone
    refine isNot_none ?_
    rcases h2 with ⟨rfl, h⟩ | ⟨h1, h⟩
    · obtain rfl := ra.invNone; exact hq false s.toks h
    · rw [rep_none ra h1]; exact hq true s.toks h
  | _ => exact ff h
end
end Mine
end

section
open PySem PySem.W PyProof.Rows
set_option Elab.async false
set_option maxRecDepth 100000
set_option linter.unusedVariables false
namespace Mine

theorem Key.v_inj : ∀ {a b : Key}, a.v = b.v → a = b
  | .i n, .i m, h => by
    have h : V.int n = V.int m := h
    injection h with e
    rw [e]
  | .i n, .t m ms, h => nomatch h
  | .t n ns, .i m, h => nomatch h
  | .t n ns, .t m ms, h => by
    have h : V.tup [.int n, .tup (ns.map V.int)] = V.tup [.int m, .tup (ms.map V.int)] := h
    injection h with h
    injection h with h1 h2
    injection h1 with e1
    injection h2 with h3 _
    injection h3 with h4
    have : ns = ms := (List.map_inj_right (fun a b h => by injection h)).mp h4
    rw [this, e1]
theorem keys_inj {l l' : List Key} (h : l.map Key.v = l'.map Key.v) : l = l' := (List.map_inj_right (fun zz zz h => Key.v_inj h)).mp h

section
variable {prog : Program} {w : World} {hb : Heap} {mg mb : Str → Option Value} {g : GP} {n : Nat} {C : Calls} {nm : Names}
variable {c : Cx} {F : FM} {T : List (Addr × Obj)} {o : Nat → Addr} {σ : St} {s : Shared} {A : Around} {Qc : Value → Shared → Prop} {E : Value → Shared → Prop}

theorem allI {l : List Key} (h : ∀ k ∈ l, k.isT = false) : ∃ is : List Int, l = is.map Key.i := by
  induction l with
  | nil => exact ⟨[], rfl⟩
  | cons k l ih =>
    obtain ⟨is, rfl⟩ := ih fun k hk => h k (List.mem_cons_of_mem _ hk)
    cases k with
    | i n => exact ⟨n :: is, rfl⟩
    | t n ns => exact absurd (h _ (List.mem_cons_self ..)) (by simp [Key.isT])
noncomputable def Key.ofP (p : Int × List Int) : Key := .t p.1 p.2
theorem allT {l : List Key} (h : ∀ k ∈ l, k.isT = true) : ∃ ps : List (Int × List Int), l = ps.map Key.ofP := by
  induction l with
  | nil => exact ⟨[], rfl⟩
  | cons k l ih =>
    obtain ⟨is, rfl⟩ := ih fun k hk => h k (List.mem_cons_of_mem _ hk)
    cases k with
    | t n ns => exact ⟨(n, ns) :: is, rfl⟩
    | i n => exact absurd (h _ (List.mem_cons_self ..)) (by simp [Key.isT])
theorem nodup_map {α β : Type} {f : α → β} (hf : ∀ a b, f a = f b → a = b) : ∀ {l : List α}, (l.map f).Nodup ↔ l.Nodup
  | [] => by simp
  | a :: l => by
    rw [List.map_cons, List.nodup_cons, List.nodup_cons, nodup_map hf]
    constructor
    · rintro ⟨h1, h2⟩; exact ⟨fun h => h1 (List.mem_map_of_mem h), h2⟩
    · rintro ⟨h1, h2⟩
      refine ⟨fun h => ?_, h2⟩
      obtain ⟨b, hb, e⟩ := List.mem_map.mp h
      exact h1 (hf _ _ e ▸ hb)
theorem ofP_inj (a b : Int × List Int) (h : Key.ofP a = Key.ofP b) : a = b := by
  unfold Key.ofP at h
  injection h with h1 h2
  exact Prod.ext h1 h2
theorem i_inj (a b : Int) (h : Key.i a = Key.i b) : a = b := by injection h

@[reducible] noncomputable def tt (i : Int) : Int × Value := (i, .bool true)

/- an own dict by numbers -/
theorem odic_int {h : Heap} {a : Addr} {is : List Int} (x : OdicAt F h a ((is.map Key.i).map Key.v)) : h.DictOf (intKind prog w) a (is.map tt) := by
  obtain ⟨l, es, m, e, hg, nd, r⟩ := x
  cases keys_inj e
  have nd' : is.Nodup := (nodup_map i_inj).mp nd
  refine ⟨_, es.toArray, m, hg, ⟨rfl, rfl, rfl⟩, rfl, ?_, ?_, ?_⟩
  · intro en hen
    have : ∀ {es : List DictEntry} {is : List Int}, EntsAt F es (is.map Key.i) → ∀ en ∈ es, ∃ k, (intKind prog w).is k en.key = true ∧ en.hash = (intKind prog w).hash k := by
      intro es
      induction es with
      | nil => intro is _ en hen; exact nomatch hen
      | cons e es ih =>
        intro is r en hen
        cases is with
        | nil => cases r
        | cons i is =>
          cases r with
          | cons h r =>
            rcases List.mem_cons.mp hen with rfl | hen
            · obtain ⟨t, rfl⟩ := h
              exact ⟨i, by show (i == i) = true; simp, rfl⟩
            · exact ih r en hen
    exact this r en (by simpa using hen)
  · show Pairs (intKind prog w) es.toArray.toList (is.map tt)
    have : ∀ {es : List DictEntry} {is : List Int}, EntsAt F es (is.map Key.i) → Pairs (intKind prog w) es (is.map tt) := by
      intro es
      induction es with
      | nil => intro is r; cases is with
        | nil => exact .nil
        | cons i is => cases r
      | cons e es ih =>
        intro is r
        cases is with
        | nil => cases r
        | cons i is =>
          cases r with
          | cons h r =>
            obtain ⟨t, rfl⟩ := h
            exact .cons (by show (i == i) = true; simp) rfl (ih r)
    exact this r
  · have e : (is.map tt).map (·.1) = is := by rw [List.map_map]; exact List.map_id' is
    rw [e]; exact nd'
theorem of_dict_int {h : Heap} {a : Addr} {is : List Int} (x : h.DictOf (intKind prog w) a (is.map tt)) : OdicAt F h a ((is.map Key.i).map Key.v) := by
  obtain ⟨ob, es, m, hg, ⟨x1, x2, x3⟩, hd, hk, hp, nd⟩ := x
  have e : (is.map tt).map (·.1) = is := by rw [List.map_map]; exact List.map_id' is
  rw [e] at nd
  obtain ⟨oc, od, oda, osl⟩ := ob
  cases x1; cases x2; cases x3; cases hd
  refine ⟨_, es.toList, m, rfl, hg, (nodup_map i_inj).mpr nd, ?_⟩
  have : ∀ {es : List DictEntry} {is : List Int}, (∀ en ∈ es, ∃ k, (intKind prog w).is k en.key = true ∧ en.hash = (intKind prog w).hash k) → Pairs (intKind prog w) es (is.map tt) → EntsAt F es (is.map Key.i) := by
    intro es
    induction es with
    | nil => intro is _ r; cases is with
      | nil => exact .nil
      | cons i is => cases r
    | cons e es ih =>
      intro is hk r
      cases is with
      | nil => cases r
      | cons i is =>
        cases r with
        | cons h1 h2 r =>
          refine .cons ?_ (ih (fun en hen => hk en (List.mem_cons_of_mem _ hen)) r)
          obtain ⟨k, h3, h4⟩ := hk e (List.mem_cons_self ..)
          obtain rfl := (intKind prog w).inj _ _ _ h1 h3
          obtain ⟨t, h5⟩ := Value.isInt_shape h1
          obtain ⟨eh, ek, ev⟩ := e
          cases h5; cases h2; cases h4
          exact ⟨t, rfl⟩
  exact this (fun en hen => hk en (by simpa using hen)) hp
theorem valueAt_tt (is : List Int) (i : Int) : (valueAt (is.map tt) i).isSome = decide (i ∈ is) := by
  induction is with
  | nil => rfl
  | cons j is ih =>
    unfold valueAt at ih ⊢
    rw [List.map_cons, List.find?_cons]
    by_cases h : j = i
    · subst h; simp
    · have : decide ((tt j).1 = i) = false := by simp [h]
      rw [this]
      simp only [ih]
      simp [Ne.symm h]
theorem stored_tt (is : List Int) (i : Int) : stored (is.map tt) i (.bool true) = (if i ∈ is then is else is ++ [i]).map tt := by
  unfold stored
  have e : (is.map tt).any (fun kv => decide (kv.1 = i)) = decide (i ∈ is) := by
    induction is with
    | nil => rfl
    | cons j is ih =>
      rw [List.map_cons, List.any_cons, ih]
      by_cases h : j = i
      · subst h; simp
      · simp [h, Ne.symm h]
  rw [e]
  by_cases h : i ∈ is
  · rw [decide_eq_true h, if_pos rfl, if_pos h]
    rw [List.map_map]
    refine List.map_congr_left fun j zz => ?_
    show (if (tt j).1 = i then ((tt j).1, _) else tt j) = tt j
    split <;> rfl
  · rw [decide_eq_false h, if_neg (by decide), if_neg h, List.map_append]
    rfl

/- an own dict by pairs -/
theorem pairAt_key {h : Heap} {p : Int × List Int} {a : Addr} (hF : F.ins h) (x : PairAt F p.1 p.2 a) : IsPairKey prog w h p a := by
  obtain ⟨b, us, t, m, m', h1, h2, h3⟩ := x
  refine ⟨_, b, t, m, hF _ _ h1, rfl, rfl, _, us.toArray, m', hF _ _ h2, rfl, rfl, ?_⟩
  have : ∀ {us : List Value} {ns : List Int}, IntsAre us ns → ItemsAre (intKind prog w) ns us := by
    intro us ns h
    induction h with
    | nil => exact .nil
    | cons z t r ih => exact .cons (by show (z == z) = true; simp) ih
  exact this h3
theorem pairAt_of {a : Addr} {i : Int} {ns : List Int} (r : Rep g F (.ref a) (.tup [.int i, .tup (ns.map V.int)])) : PairAt F i ns a := by
  obtain ⟨vs, m, h, r⟩ := r.invTupR
  obtain ⟨_, _, rfl, r1, r2⟩ := r.inv2
  obtain ⟨t, rfl⟩ := r1.invInt
  obtain ⟨b, us, m', rfl, h2, r2⟩ := r2.invTup
  exact ⟨b, us, t, m, m', h, h2, r2.ints⟩

@[reducible] noncomputable def PX := (Int × List Int) × Addr × Value
theorem odic_pair {h : Heap} {a : Addr} {ps : List (Int × List Int)} (hF : F.ins h) (x : OdicAt F h a ((ps.map Key.ofP).map Key.v)) :
    ∃ xs : List PX, xs.map (·.1) = ps ∧ (∀ x ∈ xs, PairAt F x.1.1 x.1.2 x.2.1 ∧ x.2.2 = .bool true) ∧ h.DictOfH (pairKind prog w) a xs := by
  obtain ⟨l, es, m, e, hg, nd, r⟩ := x
  cases keys_inj e
  have nd' : ps.Nodup := (nodup_map ofP_inj).mp nd
  have : ∀ {es : List DictEntry} {ps : List (Int × List Int)}, EntsAt F es (ps.map Key.ofP) → ∃ xs : List PX, xs.map (·.1) = ps ∧ (∀ x ∈ xs, PairAt F x.1.1 x.1.2 x.2.1 ∧ x.2.2 = .bool true) ∧ es = xs.map (entryOfKey (pairKind prog w)) := by
    intro es
    induction es with
    | nil => intro ps r; cases ps with
      | nil => exact ⟨[], rfl, fun x hx => (nomatch hx), rfl⟩
      | cons i is => cases r
    | cons e es ih =>
      intro ps r
      cases ps with
      | nil => cases r
      | cons p ps =>
        cases r with
        | cons h r =>
          obtain ⟨xs, h1, h2, h3⟩ := ih r
          obtain ⟨a, rfl, hp⟩ := h
          refine ⟨(p, a, .bool true) :: xs, by rw [List.map_cons, h1], fun x hx => ?_, by rw [List.map_cons, h3]; rfl⟩
          rcases List.mem_cons.mp hx with rfl | hx
          · exact ⟨hp, rfl⟩
          · exact h2 x hx
  obtain ⟨xs, h1, h2, h3⟩ := this r
  exact ⟨xs, h1, h2, _, es.toArray, m, hg, ⟨rfl, rfl, rfl⟩, rfl, h3, fun x hx => pairAt_key hF (h2 x hx).1, by rw [h1]; exact nd'⟩
theorem of_dict_pair {h : Heap} {a : Addr} {xs : List PX} (hx : ∀ x ∈ xs, PairAt F x.1.1 x.1.2 x.2.1 ∧ x.2.2 = .bool true) (x : h.DictOfH (pairKind prog w) a xs) : OdicAt F h a (((xs.map (·.1)).map Key.ofP).map Key.v) := by
  obtain ⟨ob, es, m, hg, ⟨x1, x2, x3⟩, hd, he, hz, nd⟩ := x
  obtain ⟨oc, od, oda, osl⟩ := ob
  cases x1; cases x2; cases x3; cases hd
  refine ⟨_, es.toList, m, rfl, hg, (nodup_map ofP_inj).mpr nd, ?_⟩
  rw [he]
  clear he nd hg hz
  induction xs with
  | nil => exact .nil
  | cons x xs ih =>
    refine .cons ?_ (ih fun y hy => hx y (List.mem_cons_of_mem _ hy))
    obtain ⟨h1, h2⟩ := hx x (List.mem_cons_self ..)
    exact ⟨x.2.1, by unfold entryOfKey; rw [h2]; rfl, h1⟩
theorem atKey_isSome (xs : List PX) (p : Int × List Int) : (atKey xs p).isSome = decide (p ∈ xs.map (·.1)) := by
  unfold atKey
  induction xs with
  | nil => rfl
  | cons x xs ih =>
    rw [List.find?_cons, List.map_cons]
    by_cases h : x.1 = p
    · simp [h]
    · rw [decide_eq_false h]
      simp only [ih]
      simp [Ne.symm h]
theorem storedH_keys {xs : List PX} {p : Int × List Int} {a : Addr} (hx : ∀ x ∈ xs, PairAt F x.1.1 x.1.2 x.2.1 ∧ x.2.2 = .bool true) (ha : PairAt F p.1 p.2 a) :
    (storedH xs p a (.bool true)).map (·.1) = (if p ∈ xs.map (·.1) then xs.map (·.1) else xs.map (·.1) ++ [p]) ∧ ∀ x ∈ storedH xs p a (.bool true), PairAt F x.1.1 x.1.2 x.2.1 ∧ x.2.2 = .bool true := by
  have e := atKey_isSome xs p
  by_cases h : p ∈ xs.map (·.1)
  · rw [if_pos h]
    rw [decide_eq_true h] at e
    obtain ⟨q, hq⟩ := Option.isSome_iff_exists.mp e
    rw [storedH_old hq]
    refine ⟨keys_map_putAt _ _ _, fun x hx' => ?_⟩
    obtain ⟨y, hy, rfl⟩ := List.mem_map.mp hx'
    unfold putAt
    split
    · exact ⟨(hx y hy).1, rfl⟩
    · exact hx y hy
  · rw [if_neg h]
    rw [decide_eq_false h] at e
    have hq : atKey xs p = none := by cases h : atKey xs p with | none => rfl | some _ => rw [h] at e; cases e
    rw [storedH_new hq]
    refine ⟨by rw [List.map_append]; rfl, fun x hx' => ?_⟩
    rcases List.mem_append.mp hx' with h | h
    · exact hx x h
    · rw [List.mem_singleton.mp h]; exact ⟨ha, rfl⟩

theorem keyI_mem (i : Int) (is : List Int) : (Key.i i ∈ is.map Key.i) ↔ i ∈ is :=
  ⟨fun h => by obtain ⟨j, hj, e⟩ := List.mem_map.mp h; exact i_inj _ _ e ▸ hj, fun h => List.mem_map_of_mem h⟩
theorem keyT_mem (p : Int × List Int) (ps : List (Int × List Int)) : (Key.ofP p ∈ ps.map Key.ofP) ↔ p ∈ ps :=
  ⟨fun h => by obtain ⟨j, hj, e⟩ := List.mem_map.mp h; exact ofP_inj _ _ e ▸ hj, fun h => List.mem_map_of_mem h⟩

/- in, not in an own dict -/
theorem odic_in {va : Value} {a : Addr} {K : Key} {l : List Key} (hF : F.ins s.heap) (ra : Rep g F va K.v) (hd : OdicAt F s.heap a (l.map Key.v)) (hs : (a == sysModules) = false) (hl : ∀ k ∈ l, k.isT = K.isT) (hu : A.units + 100 < cLine) :
    ((∀ t, Qc (.bool (decide (K ∈ l))) { s with toks := t }) → wpAny (model prog w) A (compareOp .In va (.ref a)) Qc E s) ∧
    ((∀ t, Qc (.bool (!decide (K ∈ l))) { s with toks := t }) → wpAny (model prog w) A (compareOp .NotIn va (.ref a)) Qc E s) := by
  cases K with
  | i i =>
    obtain ⟨is, rfl⟩ := allI hl
    obtain ⟨t, rfl⟩ := ra.invInt
    have D := (odic_int (prog := prog) (w := w) hd).mapOf
    have e : (valueAt (is.map tt) i).isSome = decide (Key.i i ∈ is.map Key.i) := by rw [valueAt_tt]; exact decide_eq_decide.mpr (keyI_mem i is).symm
    exact ⟨fun h => wpAny_in_of (knd := intKind prog w) (k := i) (by show (i == i) = true; simp) hs D (by rw [e]; exact h _),
      fun h => wpAny_notIn_of (knd := intKind prog w) (k := i) (by show (i == i) = true; simp) hs D (by rw [e]; exact h _)⟩
  | t i ns =>
    obtain ⟨ps, rfl⟩ := allT hl
    obtain ⟨xs, h1, h2, h3⟩ := odic_pair (prog := prog) (w := w) hF hd
    have e : (atKey xs (i, ns)).isSome = decide (Key.t i ns ∈ ps.map Key.ofP) := by rw [atKey_isSome, h1]; exact decide_eq_decide.mpr (keyT_mem (i, ns) ps).symm
    have hr : (pairKind prog w).room A.in1 := by show A.in1.units + 1 < cLine; have : A.in1.units = A.units + 1 := rfl; lia
    obtain ⟨_, _, _, rfl, hh, rr⟩ := ra.invTup
    have hk : IsPairKey prog w s.heap (i, ns) _ := pairAt_key hF (pairAt_of (.tup hh rr))
    exact ⟨fun h => wpAny_in_heap (knd := pairKind prog w) (k := (i, ns)) hr hk hs h3 (by rw [e]; exact h _),
      fun h => wpAny_notIn_heap (knd := pairKind prog w) (k := (i, ns)) hr hk hs h3 (by rw [e]; exact h _)⟩

/- a store into an own dict -/
theorem odic_set {va : Value} {a : Addr} {K : Key} {l : List Key} {Qu : Unit → Shared → Prop} (hF : F.ins s.heap) (ra : Rep g F va K.v) (hd : OdicAt F s.heap a (l.map Key.v)) (hl : ∀ k ∈ l, k.isT = K.isT) (hu : A.units + 100 < cLine) (hsz : l.length < 2 ^ 10)
    (h : ∀ h' t, OdicAt F h' a ((addKey l K).map Key.v) → Heap.SameBut a s.heap h' → Qu () { s with heap := h', toks := t }) : wpAny (model prog w) A (setItem (.ref a) va (.bool true)) Qu E s := by
  cases K with
  | i i =>
    obtain ⟨is, rfl⟩ := allI hl
    obtain ⟨t, rfl⟩ := ra.invInt
    refine wpAny_setItem_pairs (knd := intKind prog w) (k := i) (by show (i == i) = true; simp) (odic_int (prog := prog) (w := w) hd) (fun h' hd' hs' => ?_) (by rw [List.length_map]; rw [List.length_map] at hsz; unfold sizeLine; lia)
    refine h h' _ ?_ hs'
    rw [stored_tt] at hd'
    have := of_dict_int (F := F) hd'
    unfold addKey
    by_cases hm : i ∈ is
    · rw [if_pos ((keyI_mem i is).mpr hm)]; rw [if_pos hm] at this; exact this
    · rw [if_neg (fun e => hm ((keyI_mem i is).mp e))]; rw [if_neg hm, List.map_append] at this; exact this
  | t i ns =>
    obtain ⟨ps, rfl⟩ := allT hl
    obtain ⟨xs, h1, h2, h3⟩ := odic_pair (prog := prog) (w := w) hF hd
    have hr : (pairKind prog w).room A.in1 := by show A.in1.units + 1 < cLine; have : A.in1.units = A.units + 1 := rfl; lia
    obtain ⟨_, _, _, rfl, hh, rr⟩ := ra.invTup
    have hp := pairAt_of (.tup hh rr)
    have hk : IsPairKey prog w s.heap (i, ns) _ := pairAt_key hF hp
    have hlen : xs.length = ps.length := by rw [← h1, List.length_map]
    refine wpAny_setItem_heap (knd := pairKind prog w) (k := (i, ns)) hr hk h3 (fun h' hd' hs' => ?_) (by rw [hlen]; rw [List.length_map] at hsz; unfold sizeLine; lia)
    refine h h' _ ?_ hs'
    obtain ⟨e1, e2⟩ := storedH_keys (p := (i, ns)) h2 hp
    have := of_dict_pair e2 hd'
    rw [e1, h1] at this
    unfold addKey
    by_cases hm : (i, ns) ∈ ps
    · rw [if_pos (show Key.t i ns ∈ _ from (keyT_mem (i, ns) ps).mpr hm)]; rw [if_pos hm] at this; exact this
    · rw [if_neg (show Key.t i ns ∉ _ from fun e => hm ((keyT_mem (i, ns) ps).mp e))]; rw [if_neg hm, List.map_append] at this; exact this
end
end Mine
end

section
open PySem PySem.W PyProof.Rows
set_option Elab.async false
set_option maxRecDepth 100000
set_option tactic.hygienic false
set_option linter.unusedVariables false
namespace Mine

noncomputable def VarOf (nm : Names) (e : Expr) (k : Nat) : Prop := ∃ x p, e = .Name x p ∧ (nm.lookup x = some .local ∨ nm.lookup x = some .cell) ∧ varIx x = some k

section
variable {prog : Program} {w : World} {hb : Heap} {mg mb : Str → Option Value} {g : GP} {n : Nat} {C : Calls} {nm : Names}
variable {c : Cx} {F : FM} {T : List (Addr × Obj)} {o : Nat → Addr} {σ : St} {s : Shared} {A : Around} {Qc : Value → Shared → Prop} {E : Value → Shared → Prop}

theorem own_of {a : X} {vs : List V} (h : ownOf a σ = some vs) : ∃ k, a = .var k ∧ σ.get k = some (.own vs) := by
  cases a with
  | var k =>
    replace h : (match σ.get k with | some (.own vs) => some vs | _ => none) = some vs := h
    cases e : σ.get k with
    | none => rw [e] at h; exact nn h
    | some lv => rw [e] at h; cases lv with
      | own us => cases h; exact ⟨k, rfl, e⟩
      | _ => exact nn h
  | _ => exact nn h
theorem dic_of {a : X} {vs : List V} (h : dicOf a σ = some vs) : ∃ k, a = .var k ∧ σ.get k = some (.odic vs) := by
  cases a with
  | var k =>
    replace h : (match σ.get k with | some (.odic vs) => some vs | _ => none) = some vs := h
    cases e : σ.get k with
    | none => rw [e] at h; exact nn h
    | some lv => rw [e] at h; cases lv with
      | odic us => cases h; exact ⟨k, rfl, e⟩
      | _ => exact nn h
  | _ => exact nn h
noncomputable def OwnCmp (op : CmpOp) (b : X) (p : Prop) : Prop := match op, b with | .NotEq, .lst [] => p | _, _ => False
theorem own_cmp {op : CmpOp} {b : X} {p : Prop} (h : OwnCmp op b p) : op = .NotEq ∧ b = .lst [] ∧ p := by
  cases op with
  | NotEq => cases b with
    | lst xs => cases xs with
      | nil => exact ⟨rfl, rfl, h⟩
      | cons _ _ => exact ff h
    | _ => exact ff h
  | _ => exact ff h
noncomputable def OwnIn (op : CmpOp) (v : V) (p q : Int → Prop) : Prop := match op, v with | .In, .int i => p i | .NotIn, .int i => q i | _, _ => False
theorem own_in {op : CmpOp} {v : V} {p q : Int → Prop} (h : OwnIn op v p q) : ∃ i, v = .int i ∧ ((op = .In ∧ p i) ∨ (op = .NotIn ∧ q i)) := by
  cases op with
  | In => cases v with
    | int i => exact ⟨i, rfl, .inl ⟨rfl, h⟩⟩
    | _ => exact ff h
  | NotIn => cases v with
    | int i => exact ⟨i, rfl, .inr ⟨rfl, h⟩⟩
    | _ => exact ff h
  | _ => exact ff h
noncomputable def DicIn (op : CmpOp) (p q : Prop) : Prop := match op with | .In => p | .NotIn => q | _ => False
theorem dic_in {op : CmpOp} {p q : Prop} (h : DicIn op p q) : (op = .In ∧ p) ∨ (op = .NotIn ∧ q) := by
  cases op with
  | In => exact .inl ⟨rfl, h⟩
  | NotIn => exact .inr ⟨rfl, h⟩
  | _ => exact ff h
theorem Rel.odicNe (R : Rel c F T o σ s) (G : GoodCx hb g c nm) (B : Base mg mb g hb) {k : Nat} (hk : Owned σ k) : (o k == sysModules) = false := by
  cases e : (o k == sysModules) with
  | false => rfl
  | true =>
    have e' : o k = sysModules := by simpa using e
    obtain ⟨ob, h⟩ := B.mods
    have := (R.off k hk).f
    have h2 := (G.base.trans R.f0) _ _ h
    rw [e', h2] at this; cases this

theorem Room.u100 (h : Room n A) : A.units + 100 < cLine := by have := h.2.1; unfold cLine; lia

noncomputable def CmpNext (C : Calls) (op : CmpOp) (b : X) (Q : V → St → Prop) (va : V) (σ₁ : St) : Prop := match ownOf b σ₁, dicOf b σ₁ with
  | some vs, _ => OwnIn op va (fun i => intsP vs fun is => Q (.bool (decide (i ∈ is))) σ₁) (fun i => intsP vs fun is => Q (.bool (!decide (i ∈ is))) σ₁)
  | _, some ks => ∃ (K : Key) (l : List Key), va = K.v ∧ ks = l.map Key.v ∧ (∀ k ∈ l, k.isT = K.isT) ∧ DicIn op (Q (.bool (decide (K ∈ l))) σ₁) (Q (.bool (!decide (K ∈ l))) σ₁)
  | _, _ => wpE C b (fun vb σ₂ => cmpP op va vb fun r => Q (.bool r) σ₂) σ₁
theorem cmp_some {a b : X} {op : CmpOp} {Q : V → St → Prop} {vs : List V} (e : ownOf a σ = some vs) (h : wpE C (.cmp op a b) Q σ) : OwnCmp op b (Q (.bool (!vs.isEmpty)) σ) := by
  replace h : (match ownOf a σ with | some vs => OwnCmp op b (Q (.bool (!vs.isEmpty)) σ) | none => wpE C a (CmpNext C op b Q) σ) := h
  rw [e] at h; exact h
theorem cmp_none {a b : X} {op : CmpOp} {Q : V → St → Prop} (e : ownOf a σ = none) (h : wpE C (.cmp op a b) Q σ) : wpE C a (CmpNext C op b Q) σ := by
  replace h : (match ownOf a σ with | some vs => OwnCmp op b (Q (.bool (!vs.isEmpty)) σ) | none => wpE C a (CmpNext C op b Q) σ) := h
  rw [e] at h; exact h
theorem cmp_next {op : CmpOp} {b : X} {Q : V → St → Prop} {va : V} (h : CmpNext C op b Q va σ) :
    (∃ vs, ownOf b σ = some vs ∧ OwnIn op va (fun i => intsP vs fun is => Q (.bool (decide (i ∈ is))) σ) (fun i => intsP vs fun is => Q (.bool (!decide (i ∈ is))) σ)) ∨
    (∃ ks, dicOf b σ = some ks ∧ ∃ (K : Key) (l : List Key), va = K.v ∧ ks = l.map Key.v ∧ (∀ k ∈ l, k.isT = K.isT) ∧ DicIn op (Q (.bool (decide (K ∈ l))) σ) (Q (.bool (!decide (K ∈ l))) σ)) ∨
    wpE C b (fun vb σ₂ => cmpP op va vb fun r => Q (.bool r) σ₂) σ := by
  unfold CmpNext at h
  cases e1 : ownOf b σ with
  | some vs => rw [e1] at h; exact .inl ⟨vs, rfl, h⟩
  | none =>
    rw [e1] at h
    cases e2 : dicOf b σ with
    | some ks => rw [e2] at h; exact .inr (.inl ⟨ks, rfl, h⟩)
    | none => rw [e2] at h; exact .inr (.inr h)
theorem cmp_core {l r : Expr} {a b : X} {op : CmpOp} (hW : g.w = w) (B : Base mg mb g hb) (hl : SoundE prog w hb g n C nm l a) (hr' : SoundE prog w hb g n C nm r b) (hvl : ∀ k, a = .var k → VarOf nm l k) (hvr : ∀ k, b = .var k → VarOf nm r k)
    {A : Around} {c : Cx} {F : FM} {T : List (Addr × Obj)} {o : Nat → Addr} {σ : St} {s : Shared} {Q : V → St → Prop} {Qc : Value → Shared → Prop} {E : Value → Shared → Prop}
    (hr : Room n A) (G : GoodCx hb g c nm) (R : Rel c F T o σ s) (hw : wpE C (.cmp op a b) Q σ) (hq : ∀ F' s' b σ', F.le F' → Rel c F' T o σ' s' → Q (.bool b) σ' → Qc (.bool b) s') :
    wpAny (model prog w) A (eval l c.env) (fun va s1 => wpAny (model prog w) A (eval r c.env) (fun vb s2 => wpAny (model prog w) A (compareOp op va vb) Qc E s2) E s1) E s := by
  have hu := hr.u100
  have gg := G.g
  subst gg
  cases ho : ownOf a σ with
  | some vs =>
    have hw' : OwnCmp op b (Q (.bool (!vs.isEmpty)) σ) := cmp_some ho hw
    clear hw
    obtain ⟨k, rfl, e⟩ := own_of ho
    obtain ⟨x, p, rfl, hx, hk⟩ := hvl k rfl
    obtain ⟨rfl, rfl, hw⟩ := own_cmp hw'
    refine load_var (fun h => LV.noConfusion h) G R hx hk e fun v q => ?_
    cases (show some v = some (Value.ref (o k)) from q)
    refine hr' A c F T o σ s (fun v σ' => v = .lst [] ∧ σ' = σ) _ E hr G R ⟨rfl, rfl⟩ fun F' s' val v σ' l' R' r' q' => ?_
    obtain ⟨rfl, rfl⟩ := q'
    obtain ⟨F2, l2, R2, r2⟩ := R'.freeze e
    exact ne_sound R2 r2 (r'.mono l2) hu rfl (hq F' s' _ _ l' R' hw)
  | none =>
    have hw' := cmp_none ho hw
    clear hw
    refine hl A c F T o σ s _ _ E hr G R hw' fun F1 s1 va da σ1 l1 R1 r1 q1 => ?_
    clear hl hw' hvl ho R
    have qn := cmp_next q1
    clear q1
    rcases qn with ⟨vs, ho2, q1⟩ | ⟨ks, hd, q1⟩ | q1
    · obtain ⟨k, rfl, e⟩ := own_of ho2
      obtain ⟨x, p, rfl, hx, hk⟩ := hvr k rfl
      refine load_var (fun h => LV.noConfusion h) G R1 hx hk e fun v q => ?_
      cases (show some v = some (Value.ref (o k)) from q)
      obtain ⟨F2, l2, R2, r2⟩ := R1.freeze e
      have qn := own_in q1
      clear q1
      obtain ⟨i, rfl, ⟨rfl, is, rfl, q1⟩ | ⟨rfl, is, rfl, q1⟩⟩ := qn
      · exact in_sound (K := fun b => Q (.bool b) σ1) hW R2 (r1.mono l2) r2 ⟨is, rfl, q1⟩ fun b t hK => hq F1 _ b σ1 l1 (R1.tok t) hK
      · exact notin_sound (K := fun b => Q (.bool b) σ1) hW R2 (r1.mono l2) r2 ⟨is, rfl, q1⟩ fun b t hK => hq F1 _ b σ1 l1 (R1.tok t) hK
    · obtain ⟨k, rfl, e⟩ := dic_of hd
      obtain ⟨x, p, rfl, hx, hk⟩ := hvr k rfl
      refine load_var (fun h => LV.noConfusion h) G R1 hx hk e fun v q => ?_
      cases (show some v = some (Value.ref (o k)) from q)
      obtain ⟨K, ll, rfl, rfl, hk', q1⟩ := q1
      have hs := R1.odicNe G B (k := k) ⟨_, e, rfl⟩
      obtain ⟨z1, z2⟩ := odic_in (prog := prog) (w := w) (Qc := Qc) (E := E) R1.fro r1 (R1.dct k _ e) hs hk' hu
      have qn := dic_in q1
      clear q1
      rcases qn with ⟨rfl, q1⟩ | ⟨rfl, q1⟩
      · exact z1 fun t => hq F1 _ _ σ1 l1 (R1.tok t) q1
      · exact z2 fun t => hq F1 _ _ σ1 l1 (R1.tok t) q1
    · refine hr' A c F1 T o σ1 s1 _ _ E hr G R1 q1 fun F2 s2 vb db σ2 l2 R2 r2 q2 => ?_
      exact cmp_sound hW R2 (r1.mono l2) r2 hu q2 fun b t hK => hq F2 _ b σ2 (l1.trans l2) (R2.tok t) hK

theorem sound_cmp {l r : Expr} {a b : X} {op : CmpOp} {pos : Pos} (hW : g.w = w) (B : Base mg mb g hb) (hl : SoundE prog w hb g n C nm l a) (hr' : SoundE prog w hb g n C nm r b) (hvl : ∀ k, a = .var k → VarOf nm l k) (hvr : ∀ k, b = .var k → VarOf nm r k)
    (hm : behindInMarks op r = false) : SoundE prog w hb g n C nm (.Compare l [op] [r] pos) (.cmp op a b) := by
  intro A c F T o σ s Q Qc E hr G R hw hq
  exact wpAny_Compare1 (cmp_core hW B hl hr' hvl hvr hr G R hw fun F' s' b σ' l R' q => hq F' s' _ _ σ' l R' (.bool b) q) hm
theorem soundT_cmp {l r : Expr} {a b : X} {op : CmpOp} {pos : Pos} (hW : g.w = w) (B : Base mg mb g hb) (hl : SoundE prog w hb g n C nm l a) (hr' : SoundE prog w hb g n C nm r b) (hvl : ∀ k, a = .var k → VarOf nm l k) (hvr : ∀ k, b = .var k → VarOf nm r k)
    (hm : behindInMarks op r = false) : SoundT prog w hb g n C nm (.Compare l [op] [r] pos) (.cmp op a b) := by
  intro A c F T o σ s Q Qc E hr G R hw hq
  refine wpAny_isTrue_Compare1 (cmp_core hW B hl hr' hvl hvr hr G R hw fun F' s' b σ' l R' q => ?_) hm
  obtain ⟨b', hb, q'⟩ := hq F' s' _ σ' l R' q
  cases hb
  exact wpAny_truthy_bool q'
end
end Mine
end

section
open PySem PySem.W PyProof.Rows
set_option Elab.async false
set_option maxRecDepth 100000
set_option tactic.hygienic false
set_option genSizeOf false
set_option genInjectivity false
set_option linter.unusedVariables false
namespace Mine

theorem ixIn_lt {c : Nat} : ∀ {l : List Nat} {i k : Nat}, ixIn c l i = some k → k < i + l.length
  | [], _, _, h => by cases h
  | c' :: l, i, k, h => by
    cases e : Nat.beq c c' with
    | true => rw [ixIn_hit e] at h; cases h; exact Nat.lt_add_of_pos_right (Nat.succ_pos _)
    | false =>
      rw [ixIn_miss e] at h
      have := ixIn_lt h
      rw [List.length_cons, ← Nat.add_assoc, Nat.add_right_comm]; exact this
noncomputable def attrNms : List Str := procNames ++ unitNames
noncomputable def attrAt (k : Nat) : Bool × Nat := if k < 8 then (true, k) else (false, k - 8)
theorem attrNms_t : (List.range 12).all (fun k => match attrNms[k]? with | some nm => (ixIn (cd nm) attrCodes 0 == some k) && ((nmsOf (attrAt k).1)[(attrAt k).2]? == some nm) && (match fastLookup "object" nm with | some none => true | _ => false) | none => false) = true := by decide +kernel
theorem attr_nm {a : Str} {cc : Bool} {i : Nat} (h : attrIx a = some (cc, i)) : (nmsOf cc)[i]? = some a ∧ typeLookup (.type "object") a = pure none := by
  unfold attrIx at h
  cases e : ixIn (cd a) attrCodes 0 with
  | none => rw [e] at h; exact nn h
  | some k =>
    rw [e] at h
    have hk : k < 12 := by have := ixIn_lt e; exact this
    have t := List.all_eq_true.mp attrNms_t k (List.mem_range.mpr hk)
    cases en : attrNms[k]? with
    | none => rw [en] at t; cases t
    | some nm =>
      rw [en] at t
      obtain ⟨t1, t3⟩ := Bool.and_eq_true_iff.mp t
      obtain ⟨t1, t2⟩ := Bool.and_eq_true_iff.mp t1
      obtain rfl := code_inj (by decide +kernel) e (eq_of_beq t1)
      have h' : attrAt k = (cc, i) := Option.some.inj h
      rw [h'] at t2
      refine ⟨eq_of_beq t2, ?_⟩
      rw [typeLookup_type, builtinLookup_eq_fast]
      cases ef : fastLookup "object" a with
      | none => rw [ef] at t3; cases t3
      | some r => rw [ef] at t3; cases r with
        | none => rfl
        | some _ => cases t3

section
variable {prog : Program} {w : World} {hb : Heap} {mg mb : Str → Option Value} {g : GP} {n : Nat} {C : Calls} {nm : Names}
variable {c : Cx} {F : FM} {T : List (Addr × Obj)} {o : Nat → Addr} {σ : St} {s : Shared} {A : Around} {Qc : Value → Shared → Prop} {E : Value → Shared → Prop}

theorem rep_handed {v : Value} {d : V} (r : Rep g F v d) : handedOut v = pure v := by
  rcases r.shape with ⟨_, e⟩ | ⟨_, e⟩ | ⟨_, _, e⟩ | ⟨_, _, e⟩ | ⟨_, e⟩ <;> rw [e] <;> rfl

theorem Rel.keepB (R : Rel c F T o σ s) (G : GoodCx hb g c nm) : ∀ b ob, hb.get? b = some ob → s.heap.get? b = some ob := fun b ob e => R.fro _ _ (R.f0 _ _ (G.base _ _ e))

theorem obj_inst {x : Value} {cc : Bool} {fs : List V} {i : Nat} {a : Str} {d : V} {h : Heap} (r : Rep g F x (.obj cc fs)) (hF : F.ins h) (hnm : (nmsOf cc)[i]? = some a) (hd : fs[i]? = some d) :
    ∃ xa mA v, x = .ref xa ∧ h.Inst xa (g.cls cc) mA ∧ mA a = some v ∧ Rep g F v d := by
  obtain ⟨xa, da, ob, od, es, ep, vs, e, hx, hc, hn, hdd, hne, h2, h3, h4, h5, hl, h6, r⟩ := r.out
  obtain ⟨v, hv, rv⟩ := r.get hd
  exact ⟨xa, nsFind es, v, e, ⟨ob, hF _ _ hx, hc, hn, .inr ⟨da, hdd, hne, od, es, ep, hF _ _ h2, h3, h4, h5, fun zz => rfl⟩⟩, (h6 i a hnm).trans hv, rv⟩
theorem cls_info (B : Base mg mb g hb) (cc : Bool) : ∃ N mN, ClsAt hb (g.cls cc) N mN ∧ (∀ nm ∈ nmsOf cc, mN nm = none) ∧ mN "__getattribute__" = none := by
  obtain ⟨N, mN, f, of, pm, cdv, doc, h⟩ := B.cls cc
  exact ⟨N, mN, h.2.1, h.2.2.1, h.2.2.2.1⟩
theorem load_attr_at {x C N : Addr} {mN mA : Str → Option Value} {a : Str} {v : Value} {expr : Bool} (hcl : ClsAt s.heap C N mN) (hga : mN "__getattribute__" = none) (hna : mN a = none) (hty : typeLookup (.type "object") a = pure none)
    (hI : s.heap.Inst x C mA) (hv : mA a = some v) (hh : handedOut v = pure v) (h : ∀ t, Qc v { s with toks := t }) : wpAny (model prog w) A (getAttr (.ref x) a expr) Qc E s := by
  obtain ⟨_, _, _, _, _, _, _, _, _, _, _, _, hC⟩ := hcl.obj
  exact load_attr hC hcl.ns hga hna hty hI hv hh (h _)
theorem attr_sound {x : Value} {cc : Bool} {fs : List V} {i : Nat} {a : Str} {d : V} {expr : Bool} (B : Base mg mb g hb) (G : GoodCx hb g c nm) (R : Rel c F T o σ s) (r : Rep g F x (.obj cc fs)) (ha : attrIx a = some (cc, i)) (hd : fs[i]? = some d)
    (h : ∀ t v, Rep g F v d → Qc v { s with toks := t }) : wpAny (model prog w) A (getAttr x a expr) Qc E s := by
  obtain ⟨hnm, hty⟩ := attr_nm ha
  obtain ⟨xa, mA, v, rfl, hI, hv, rv⟩ := obj_inst r R.fro hnm hd
  obtain ⟨N, mN, hcl, hns, hga⟩ := cls_info B cc
  exact load_attr_at (hcl.keeps (R.keepB G)) hga (hns a (List.mem_of_getElem? hnm)) hty hI hv (rep_handed rv) fun t => h t v rv

theorem attr_any {e : Expr} {a : Str} {pos : Pos} {env : Env} (h : wpAny (model prog w) A (eval e env) (fun o s₁ => wpAny (model prog w) A (getAttr o a true) Qc E s₁) E s) (hok : okBase e = true) : wpAny (model prog w) A (eval (.Attribute e a pos) env) Qc E s := by
  cases e with
  | Name => exact Attribute_any_ h
  | Subscript => exact Attribute_any_ h
  | Attribute => exact Attribute_any_ h
  | _ => exact Bool.noConfusion (show false = true from hok)
theorem objP_inv {v : V} {cc : Bool} {i : Nat} {k : V → Prop} (h : match v with | .obj c' fs => c' = cc ∧ (match fs[i]? with | some r => k r | _ => False) | _ => False) : ∃ fs d, v = .obj cc fs ∧ fs[i]? = some d ∧ k d := by
  cases v with
  | obj c' fs =>
    obtain ⟨rfl, h⟩ := h
    cases e : fs[i]? with
    | none => rw [e] at h; exact ff h
    | some d => rw [e] at h; exact ⟨fs, d, rfl, e, h⟩
  | _ => exact ff h
theorem sound_attr {e : Expr} {x : X} {a : Str} {cc : Bool} {i : Nat} {pos : Pos} (B : Base mg mb g hb) (he : SoundE prog w hb g n C nm e x) (ha : attrIx a = some (cc, i)) (hok : okBase e = true) : SoundE prog w hb g n C nm (.Attribute e a pos) (.attr x cc i) := by
  intro A c F T o σ s Q Qc E hr G R hw hq
  refine attr_any (he A c F T o σ s _ _ E hr G R hw fun F' s' val v σ' l R' r q => ?_) hok
  obtain ⟨fs, d, rfl, hd, q⟩ := objP_inv (k := fun r => Q r σ') q
  exact attr_sound B G R' r ha hd fun t v rv => hq F' _ v d σ' l (R'.tok t) rv q

theorem sub_ops (slice : Expr) (ov i : Value) : ∃ ops, subscripted slice false ov i = operate ops (getItem ov i) := by
  cases slice with
  | Slice a b c p => cases c <;> exact ⟨_, rfl⟩
  | _ => exact ⟨_, rfl⟩
theorem tail_all {value slice : Expr} {ov i : Value} {Ty id : String} (hT : s.TypeIs ov Ty) (hl : typeLookup (.type Ty) "__getitem__" = pure (some (.builtin id))) (hg : wpAny (model prog w) A (getItem ov i) Qc E s) :
    wpAny (model prog w) A (subscriptTail value slice ov i) Qc E s :=
  let ⟨_, h⟩ := sub_ops slice ov i
  tail_any hT hl hg h

theorem item_tup {a : Addr} {us : List Value} {vs : List V} {m : Nat} {i : Int} {t : Tok} {d : V} {h : Heap} (e : s.heap.get? a = some (tupO us m)) (r : RepAll g F us vs) (hs : small i) (hi : itemAt vs i = some d)
    (hq : ∀ v, Rep g F v d → Qc v s) : wpAny (model prog w) A (getItem (.ref a) (.int i t)) Qc E s := by
  have hs' := hs
  unfold small at hs'
  have hlen : us.toArray.size = vs.length := by simpa using r.length
  unfold itemAt at hi
  split at hi
  · rename_i h0
    obtain ⟨v, hv, rv⟩ := r.get hi
    have hlt : i.toNat < vs.length := (List.getElem?_eq_some_iff.mp hi).1
    refine P.getItem_tuple (k := i.toNat) e (by lia) (by lia) ?_ (by simpa using hv) (hq v rv)
    unfold seqIndex?
    rw [if_neg (show ¬ i < 0 by lia), if_pos (by rw [hlen]; simp; lia)]
  · rename_i h0
    split at hi
    · rename_i h1
      obtain ⟨v, hv, rv⟩ := r.get hi
      refine P.getItem_tuple (k := (vs.length + i).toNat) e (by lia) (by lia) ?_ (by simpa using hv) (hq v rv)
      unfold seqIndex?
      rw [if_pos (show i < 0 by lia), if_pos (by rw [hlen]; simp; lia), hlen, Int.add_comm]
    · cases hi
theorem item_lst {a : Addr} {us : List Value} {vs : List V} {m : Nat} {i : Int} {t : Tok} {d : V} (e : s.heap.get? a = some (lstO us m)) (r : RepAll g F us vs) (hs : small i) (hi : itemAt vs i = some d)
    (hq : ∀ v, Rep g F v d → Qc v s) : wpAny (model prog w) A (getItem (.ref a) (.int i t)) Qc E s := by
  have hs' := hs
  unfold small at hs'
  have hlen : us.toArray.size = vs.length := by simpa using r.length
  unfold itemAt at hi
  split at hi
  · rename_i h0
    obtain ⟨v, hv, rv⟩ := r.get hi
    exact wpAny_getItem_list (isList_of e) h0 (by omega) (by simpa using hv) (hq v rv)
  · rename_i h0
    split at hi
    · rename_i h1
      obtain ⟨v, hv, rv⟩ := r.get hi
      refine wpAny_getItem_list_neg (isList_of e) (by omega) (by rw [hlen]; omega) (by omega) ?_ (hq v rv)
      rw [hlen, Int.add_comm]; simpa using hv
    · cases hi

theorem lst_item : typeLookup (.type "list") "__getitem__" = pure (some (.builtin "list.__getitem__")) := F.slot_list_getitem.lookup
theorem tup_item : typeLookup (.type "tuple") "__getitem__" = pure (some (.builtin "tuple.__getitem__")) := F.slot_tuple_getitem.lookup
theorem dic_item : typeLookup (.type "dict") "__getitem__" = pure (some (.builtin "dict.__getitem__")) := F.slot_dict_getitem.lookup

inductive IdxI (p : Option Pot) (K : V → Prop) : V → V → Prop
  | tup (vs : List V) (n : Int) (hs : small n) (v : V) (hi : itemAt vs n = some v) (k : K v) : IdxI p K (.tup vs) (.int n)
  | lst (vs : List V) (n : Int) (hs : small n) (v : V) (hi : itemAt vs n = some v) (k : K v) : IdxI p K (.lst vs) (.int n)
  | dic (ks : List Nat) (vs : List V) (c : Nat) (v : V) (hd : findD c ks vs = some v) (k : K v) : IdxI p K (.dic ks vs) (.str c)
  | pot (ns : List Int) (a b : Int) (n : Int) (hp : p = some (ns, a, b)) (v : V) (hs : small n) (hi : itemAt [.lst (ns.map V.int), .int a, .int b] n = some v) (k : K v) : IdxI p K .pot (.int n)
theorem idxP_inv {a i : V} {p : Option Pot} {K : V → Prop} (h : idxP a i p K) : IdxI p K a i := by
  cases a with
  | tup vs => cases i with
    | int n => obtain ⟨h1, v, h2, h3⟩ := h; exact .tup vs n h1 v h2 h3
    | _ => exact ff h
  | lst vs => cases i with
    | int n => obtain ⟨h1, v, h2, h3⟩ := h; exact .lst vs n h1 v h2 h3
    | _ => exact ff h
  | dic ks vs => cases i with
    | str c =>
      replace h : (match findD c ks vs with | some v => K v | _ => False) := h
      cases e : findD c ks vs with
      | none => rw [e] at h; exact ff h
      | some v => rw [e] at h; exact .dic ks vs c v e h
    | _ => exact ff h
  | pot => cases i with
    | int n => cases p with
      | none => exact ff h
      | some p =>
        obtain ⟨ns, a, b⟩ := p
        match n, h with
        | 0, h => exact .pot ns a b 0 rfl _ ⟨by decide, by decide⟩ rfl h
        | 1, h => exact .pot ns a b 1 rfl _ ⟨by decide, by decide⟩ rfl h
        | 2, h => exact .pot ns a b 2 rfl _ ⟨by decide, by decide⟩ rfl h
        | .ofNat (n + 3), h => exact ff h
        | .negSucc n, h => exact ff h
    | _ => exact ff h
  | _ => exact ff h
theorem idx_sound {va vi : Value} {da di : V} {K : V → Prop} {value slice : Expr} (hW : c.g.w = w) (R : Rel c F T o σ s) (ra : Rep c.g F va da) (ri : Rep c.g F vi di) (h : idxP da di σ.pot K)
    (hq : ∀ v d t, Rep c.g F v d → K d → Qc v { s with toks := t }) : wpAny (model prog w) A (subscriptTail value slice va vi) Qc E s := by
  have hI := idxP_inv h
  clear h
  generalize hp : σ.pot = p at hI
  cases hI with
  | tup _ _ h2 d h3 h4 =>
    obtain ⟨_, _, _, rfl, h1, r1⟩ := ra.invTup
    obtain ⟨t, rfl⟩ := ri.invInt
    exact tail_all ⟨_, R.fro _ _ h1, rfl⟩ tup_item (item_tup (h := s.heap) (R.fro _ _ h1) r1 h2 h3 fun v rv => hq v d s.toks rv h4)
  | lst _ _ h2 d h3 h4 =>
    obtain ⟨_, _, _, rfl, h1, r1⟩ := ra.invLst
    obtain ⟨t, rfl⟩ := ri.invInt
    exact tail_all ⟨_, R.fro _ _ h1, rfl⟩ lst_item (item_lst (R.fro _ _ h1) r1 h2 h3 fun v rv => hq v d s.toks rv h4)
  | dic _ _ _ d hd h =>
    obtain ⟨_, _, _, rfl, h1, hs, r1⟩ := ra.invDic
    obtain ⟨x, t, rfl, hx⟩ := ri.invStr
    obtain ⟨v, hv, rv⟩ := (find_ent hx r1).2.2 d hd
    exact tail_all ⟨_, R.fro _ _ h1, rfl⟩ dic_item (wpAny_getItem_of (knd := strKind prog w) (k := x) (show (x == x) = true from beq_self_eq_true _) (dic_map hW (R.fro _ _ h1) r1) hv (hq v d _ rv h))
  | pot ns at_ sd n hp' d hs hi h =>
    obtain rfl := ra.invPot
    obtain ⟨t, rfl⟩ := ri.invInt
    obtain ⟨l, vs, m, m', t1, t2, e1, e2, e3⟩ := R.pot _ (hp.trans hp')
    exact tail_all ⟨_, e1, rfl⟩ lst_item (item_lst e1 (.cons (.lst e2 (RepAll.of_ints e3)) (.cons (.int _ _) (.cons (.int _ _) .nil))) hs hi fun v rv => hq v _ s.toks rv h)

theorem plain_ix {i : X} {σ : St} {k : Int} (h : plainIx i σ = some k) {C : Calls} : wpE C i (fun v σ' => v = .int k ∧ σ' = σ) σ := by
  cases i with
  | int n => cases h; exact ⟨rfl, rfl⟩
  | var x =>
    replace h : (match σ.get x with | some (.imm (.int n)) => some n | _ => none) = some k := h
    show (match σ.get x with | some (.imm v) => v = V.int k ∧ σ = σ | some (.own vs) => V.lst vs = V.int k ∧ σ.set x (.imm (.lst vs)) = σ | _ => False)
    cases e : σ.get x with
    | none => rw [e] at h; exact nn h
    | some lv =>
      rw [e] at h
      cases lv with
      | imm v => cases v with
        | int z => cases h; exact ⟨rfl, rfl⟩
        | _ => exact nn h
      | _ => exact nn h
  | _ => exact nn h

theorem sound_idx {e i : Expr} {a xi : X} {pos : Pos} (hW : g.w = w) (he : SoundE prog w hb g n C nm e a) (hi : SoundE prog w hb g n C nm i xi) (hv : ∀ k, a = .var k → VarOf nm e k) : SoundE prog w hb g n C nm (.Subscript e i pos) (.idx a xi) := by
  intro A c F T o σ s Q Qc E hr G R hw hq
  have gg := G.g
  subst gg
  refine Subscript_ ?_
  replace hw : (match ownOf a σ with
    | some vs => (match plainIx xi σ with
      | some n => small n ∧ ∃ v, itemAt vs n = some v ∧ Q v σ
      | none => False)
    | none => wpE C a (fun va σ₁ => wpE C xi (fun vi σ₂ => idxP va vi σ₂.pot fun v => Q v σ₂) σ₁) σ) := hw
  cases ho : ownOf a σ with
  | some vs =>
    rw [ho] at hw
    obtain ⟨k, rfl, ek⟩ := own_of ho
    obtain ⟨x, p, rfl, hx, hk⟩ := hv k rfl
    refine load_var (fun h => LV.noConfusion h) G R hx hk ek fun v q => ?_
    cases (show some v = some (Value.ref (o k)) from q)
    dsimp only at hw
    cases hp : plainIx xi σ with
    | none => rw [hp] at hw; exact hw.elim
    | some z =>
      rw [hp] at hw
      obtain ⟨h2, d, h3, h4⟩ := hw
      refine hi A c F T o σ s _ _ E hr G R (plain_ix hp) fun F' s' val v σ' l R' r q => ?_
      obtain ⟨rfl, rfl⟩ := q
      obtain ⟨t, rfl⟩ := r.invInt
      obtain ⟨us, m, h1, r1⟩ := R'.own k vs ek
      exact tail_all ⟨_, h1, rfl⟩ lst_item (item_lst h1 r1 h2 h3 fun v rv => hq F' s' v d σ' l R' rv h4)
  | none =>
    rw [ho] at hw
    refine he A c F T o σ s _ _ E hr G R hw fun F1 s1 va da σ1 l1 R1 r1 q1 => ?_
    refine hi A c F1 T o σ1 s1 _ _ E hr G R1 q1 fun F2 s2 vb db σ2 l2 R2 r2 q2 => ?_
    exact idx_sound hW R2 (r1.mono l2) r2 q2 fun v d t rv hK => hq F2 _ v d σ2 (l1.trans l2) (R2.tok t) rv hK
end
end Mine
end

section
open PySem PySem.W PyProof.Rows PyProof.Rows.LSm
set_option Elab.async false
set_option backward.match.sparseCases false
set_option maxRecDepth 100000
set_option tactic.hygienic false
set_option genSizeOf false
set_option genInjectivity false
set_option linter.unusedVariables false
namespace Mine

/- the library's frames and ledgers over all that stands -/
noncomputable def h00 : Heap := {}
theorem h00_get (a : Addr) : h00.get? a = none := Heap.get?_none_of_le (Nat.zero_le _)
noncomputable def fullNews (h : Heap) (L : Addr) : List (Addr × Obj) := (List.range h.objs.size).filterMap fun a => if a = L then none else (h.get? a).map fun ob => (a, ob)
theorem mem_full {h : Heap} {L a : Addr} {ob : Obj} : (a, ob) ∈ fullNews h L ↔ a ≠ L ∧ h.get? a = some ob := by
  unfold fullNews
  rw [List.mem_filterMap]
  constructor
  · rintro ⟨b, _, e⟩
    by_cases q : b = L
    · rw [if_pos q] at e; cases e
    · rw [if_neg q] at e
      cases hg : h.get? b with
      | none => rw [hg] at e; cases e
      | some ob' => rw [hg] at e; cases e; exact ⟨q, hg⟩
  · rintro ⟨h1, h2⟩
    exact ⟨a, List.mem_range.mpr (Heap.lt_size h2), by rw [if_neg h1, h2]; rfl⟩
theorem full_news (h : Heap) (L : Addr) : News h00 L h (fullNews h L) := fun p hp => ⟨(mem_full (a := p.1) (ob := p.2).mp hp).2, (mem_full (a := p.1) (ob := p.2).mp hp).1, h00_get _⟩
theorem full_fr {h : Heap} {L : Addr} {m : Str → Option Value} (hm : h.Ns L m) : Fr h00 L h m := ⟨hm, fun b o e => (by rw [h00_get] at e; cases e), Nat.zero_le _⟩
theorem full_keep {h h' : Heap} {L : Addr} {x : List (Addr × Obj)} (N : News h00 L h' (x ++ fullNews h L)) : ∀ a ob, a ≠ L → h.get? a = some ob → h'.get? a = some ob :=
  fun a ob q e => (N _ (List.mem_append_right _ (mem_full.mpr ⟨q, e⟩))).1
theorem ns_unique {h : Heap} {L : Addr} {m m' : Str → Option Value} (x : h.Ns L m) (y : h.Ns L m') : m = m' := by
  obtain ⟨ob, es, ep, h1, h2, _, h3⟩ := x
  obtain ⟨ob', es', ep', h1', h2', _, h3'⟩ := y
  rw [h1] at h1'; cases h1'
  rw [h2] at h2'; cases h2'
  exact funext fun n => (h3 n).symm.trans (h3' n)
theorem full_above {h : Heap} {L D : Addr} (hD : ∀ q ∈ fullNews h L, q.1 < D) (hL : D ≠ L) : h.get? D = none := by
  cases e : h.get? D with
  | none => rfl
  | some ob => exact absurd (hD _ (mem_full.mpr ⟨hL, e⟩)) (Nat.lt_irrefl _)

section
variable {prog : Program} {w : World} {hb : Heap} {mg mb : Str → Option Value} {g : GP} {n : Nat} {C : Calls} {nm : Names}
variable {c : Cx} {F : FM} {T : List (Addr × Obj)} {o : Nat → Addr} {σ : St} {s : Shared} {A : Around} {Qc : Value → Shared → Prop} {E : Value → Shared → Prop}

theorem Rel.full (R : Rel c F T o σ s) : ∃ m, Fr h00 c.env.locals s.heap m ∧ News h00 c.env.locals s.heap (fullNews s.heap c.env.locals) ∧
    (∀ h' t, Fr h00 c.env.locals h' m → News h00 c.env.locals h' (fullNews s.heap c.env.locals) → Rel c F T o σ { s with heap := h', toks := t }) ∧
    (∀ h' t D ob, Fr h00 c.env.locals h' m → News h00 c.env.locals h' ((D, ob) :: fullNews s.heap c.env.locals) → (∀ q ∈ fullNews s.heap c.env.locals, q.1 < D) → F.le (F.put D ob) ∧ Rel c (F.put D ob) T o σ { s with heap := h', toks := t }) := by
  obtain ⟨m, hm, _⟩ := R.ns
  refine ⟨m, full_fr hm, full_news _ _, fun h' t F' N' => R.growL (full_keep (x := []) N') (fun m' hm' => ns_unique hm hm' ▸ F'.ns), fun h' t D ob F' N' hD => ?_⟩
  have hk := full_keep (x := [(D, ob)]) N'
  have hD' := N' _ (List.mem_cons_self ..)
  have hfresh : s.heap.get? D = none := full_above hD hD'.2.1
  have l : F.le (F.put D ob) := FM.le_put (R.offNew hfresh).f
  refine ⟨l, R.resumeL (p' := σ.pot) l (fun b x e => ?_) (fun b x e => ?_) (fun a ob q e zz => hk a ob q e) (fun m' hm' => ns_unique hm hm' ▸ F'.ns) id (fun p e => (R.pot p e).mono l fun zz => hk _ _ ?_) id⟩
  · unfold FM.put at e
    by_cases hb : b = D
    · rw [if_pos hb] at e; cases e; rw [hb]; exact hD'.1
    · rw [if_neg hb] at e; exact hk _ _ (fun q => by rw [q, R.offL.1] at e; cases e) (R.fro _ _ e)
  · unfold FM.put at e
    by_cases hb : b = D
    · right; rw [hb]; exact hfresh
    · rw [if_neg hb] at e; exact .inl e
  · intro q
    obtain ⟨ob, h⟩ := R.hP
    have := R.offL.2.2; rw [← q, h] at this; cases this

/- calls of built-ins -/
noncomputable def NoStar (e : Expr) : Prop := ∀ rest env, starEach (e :: rest) env = (false, eval e env) :: starEach rest env
theorem plain_args {es : List Expr} (h : ∀ e ∈ es, NoStar e) (pos : Pos) (env : Env) : (backTo pos (starEach es env)).any (·.1) = false := by
  induction es with
  | nil => rfl
  | cons e es ih =>
    rw [h e (List.mem_cons_self ..)]
    show (false || (backTo pos (starEach es env)).any (·.1)) = false
    rw [ih fun x hx => h x (List.mem_cons_of_mem _ hx)]; rfl

noncomputable def isBlt : Value → Bool
  | .builtin _ => true
  | .type _ => true
  | _ => false
theorem callWith_blt {f : Value} (hf : isBlt f = true) {pos : Pos} {e : Expr} {es : List Expr} {env : Env} (hns : ∀ x ∈ e :: es, NoStar x)
    (h : wpAny (model prog w) A (spliced (backTo pos (starEach (e :: es) env))) (fun vs s₁ => wpAny (model prog w) A (call f vs) Qc E s₁) E s) : wpAny (model prog w) A (callWith pos f [] (backTo pos (starEach (e :: es) env)) []) Qc E s := by
  have hp := plain_args hns pos env
  have he := hns e (List.mem_cons_self ..) es env
  rw [he] at h hp ⊢
  cases f with
  | builtin id => exact Calls.callWith_builtin hp (Calls.evalArgs_plain h)
  | type Ty => exact PyProof.Rows.callWith_type hp (Calls.evalArgs_plain h)
  | _ => cases hf

theorem call_core {gn : Str} {p pos : Pos} {f : Value} {e : Expr} {es : List Expr} {xs : List X} (B : Base mg mb g hb) (hg : nm.lookup gn = some .globalImplicit) (hv : (gn, f) ∈ bltTab) (hd : (gn == ("__debug__" : Str)) = false) (hf : isBlt f = true)
    (hs : SoundEs prog w hb g n C nm (e :: es) xs) (hns : ∀ x ∈ e :: es, NoStar x)
    {A : Around} {c : Cx} {F : FM} {T : List (Addr × Obj)} {o : Nat → Addr} {σ : St} {s : Shared} {Q : List V → St → Prop} {Qc : Value → Shared → Prop} {E : Value → Shared → Prop}
    (hr : Room n A) (G : GoodCx hb g c nm) (R : Rel c F T o σ s) (hw : wpEs C xs Q σ)
    (hq : ∀ F' s' vals vs σ', F.le F' → Rel c F' T o σ' s' → RepAll g F' vals vs → Q vs σ' → wpAny (model prog w) A (call f vals) Qc E s') :
    wpAny (model prog w) A (eval (.Call (.Name gn p) (e :: es) [] pos) c.env) Qc E s := by
  refine wpAny_Call_NameR (blt_name B G R hg hv hd ?_)
  exact callWith_blt hf hns (hs A c F T o σ s pos _ _ E hr G R hw fun F' s' vals vs σ' l R' r zz q => hq F' s' vals vs σ' l R' r q)

theorem bools_are {bs : List Bool} : ∀ {vs : List Value}, RepAll g F vs (bs.map V.bool) → BoolsAre vs bs := by
  induction bs with
  | nil => intro vs h; obtain rfl := h.invNil; exact .nil
  | cons b bs ih =>
    intro vs h
    obtain ⟨_, _, rfl, h, r⟩ := h.invCons
    obtain rfl := h.invBool
    exact .cons _ (ih r)
theorem none_of_keep {h h' : Heap} (hk : ∀ a ob, h.get? a = some ob → h'.get? a = some ob) : h.get? h'.objs.size = none := by
  cases e : h.get? h'.objs.size with
  | none => rfl
  | some ob => exact absurd (Heap.lt_size (hk _ _ e)) (Nat.lt_irrefl _)

noncomputable def fnVal : Fn → Option Value
  | .len => some (.builtin "len")
  | .all => some (.builtin "all")
  | .list => some (.type "list")
  | .int => some (.type "int")
  | .sum => some (.builtin "sum")
  | .max => some (.builtin "max")
  | .range => some (.type "range")
  | .tuple => some (.type "tuple")
  | _ => none
/- a built-in's call read off -/
inductive BltI (K : V → Option Pot → Prop) (p : Option Pot) : Fn → List V → Prop
  | lenT (xs : List V) (h : xs.length < 2 ^ 20) (k : K (.int xs.length) p) : BltI K p .len [.tup xs]
  | lenL (xs : List V) (h : xs.length < 2 ^ 20) (k : K (.int xs.length) p) : BltI K p .len [.lst xs]
  | all (bs : List Bool) (k : K (.bool (bs.all id)) p) : BltI K p .all [.lst (bs.map V.bool)]
  | lstT (xs : List V) (h : xs.length < 2 ^ 20) (k : K (.lst xs) p) : BltI K p .list [.tup xs]
  | lstL (xs : List V) (h : xs.length < 2 ^ 20) (k : K (.lst xs) p) : BltI K p .list [.lst xs]
  | tupL (xs : List V) (h : xs.length < 2 ^ 20) (k : K (.tup xs) p) : BltI K p .tuple [.lst xs]
  | tupR (n : Int) (h : 0 ≤ n ∧ n < 2 ^ 10) (k : K (.tup ((List.range n.toNat).map fun (i : Nat) => V.int (i : Int))) p) : BltI K p .tuple [.rng n]
  | intB (b : Bool) (k : K (.int (if b then 1 else 0)) p) : BltI K p .int [.bool b]
  | intI (i : Int) (k : K (.int i) p) : BltI K p .int [.int i]
  | sum (is : List Int) (k : K (.int is.sum) p) : BltI K p .sum [.lst (is.map V.int)]
  | max (a b : Int) (k : K (.int (if a < b then b else a)) p) : BltI K p .max [.int a, .int b]
  | range (n : Int) (h : small n) (k : K (.rng n) p) : BltI K p .range [.int n]
theorem blt_inv {f : Fn} {fv : Value} (hf : fnVal f = some fv) {vs : List V} {p : Option Pot} {K : V → Option Pot → Prop} (h : callP C f vs p K) : BltI K p f vs := by
  cases f with
  | len => cases vs with
    | nil => exact ff h
    | cons v vs => cases v with
      | tup xs => cases vs with
        | nil => exact .lenT xs h.1 h.2
        | cons _ _ => exact ff h
      | lst xs => cases vs with
        | nil => exact .lenL xs h.1 h.2
        | cons _ _ => exact ff h
      | _ => exact ff h
  | all => cases vs with
    | nil => exact ff h
    | cons v vs => cases v with
      | lst xs => cases vs with
        | nil => obtain ⟨bs, e, k⟩ := h; rw [e]; exact .all bs k
        | cons _ _ => exact ff h
      | _ => exact ff h
  | list => cases vs with
    | nil => exact ff h
    | cons v vs => cases v with
      | tup xs => cases vs with
        | nil => exact .lstT xs h.1 h.2
        | cons _ _ => exact ff h
      | lst xs => cases vs with
        | nil => exact .lstL xs h.1 h.2
        | cons _ _ => exact ff h
      | _ => exact ff h
  | tuple => cases vs with
    | nil => exact ff h
    | cons v vs => cases v with
      | lst xs => cases vs with
        | nil => exact .tupL xs h.1 h.2
        | cons _ _ => exact ff h
      | rng n => cases vs with
        | nil => exact .tupR n h.1 h.2
        | cons _ _ => exact ff h
      | _ => exact ff h
  | int => cases vs with
    | nil => exact ff h
    | cons v vs => cases v with
      | bool b => cases vs with
        | nil => exact .intB b h
        | cons _ _ => exact ff h
      | int i => cases vs with
        | nil => exact .intI i h
        | cons _ _ => exact ff h
      | _ => exact ff h
  | sum => cases vs with
    | nil => exact ff h
    | cons v vs => cases v with
      | lst xs => cases vs with
        | nil => obtain ⟨is, e, k⟩ := h; rw [e]; exact .sum is k
        | cons _ _ => exact ff h
      | _ => exact ff h
  | range => cases vs with
    | nil => exact ff h
    | cons v vs => cases v with
      | int n => cases vs with
        | nil => exact .range n h.1 h.2
        | cons _ _ => exact ff h
      | _ => exact ff h
  | max => cases vs with
    | nil => exact ff h
    | cons v vs => cases v with
      | int a => cases vs with
        | nil => exact ff h
        | cons u vs => cases u with
          | int b => cases vs with
            | nil => exact .max a b h
            | cons _ _ => exact ff h
          | _ => exact ff h
      | _ => exact ff h
  | _ => exact nn hf
theorem val_eq {v v' : Value} (h : some v = some v') : v' = v := (Option.some.inj h).symm
/- what a built-in gives -/
theorem blt_sound {f : Fn} {fv : Value} {vals : List Value} {vs : List V} {K : V → Option Pot → Prop} {p : Option Pot} (hA : A.handled = none) (R : Rel c F T o σ s) (r : RepAll c.g F vals vs)
    (hf : fnVal f = some fv) (hn : ∀ n, vs = [.rng n] → f ≠ .tuple) (h : BltI K p f vs)
    (hq : ∀ F' s' val v, F.le F' → Rel c F' T o σ s' → Rep c.g F' val v → K v p → Qc val s') : wpAny (model prog w) A (call fv vals) Qc E s := by
  have one : ∀ i t t', K (.int i) p → Qc (.int i t) { s with toks := t' } := fun i t t' k => hq F _ _ _ (FM.le.refl F) (R.tok _) (.int _ _) k
  have sz : ∀ {us : List Value} {xs : List V}, RepAll c.g F us xs → xs.length < 2 ^ 20 → us.toArray.size ≤ sizeLine ∧ (us.toArray.size : Int) < 2 ^ 63 ∧ us.toArray.size = xs.length := fun r h => by
    have e : _ = _ := r.length
    rw [List.size_toArray, e]; unfold sizeLine; lia
  cases h with
  | lenT xs h k =>
    obtain rfl := val_eq hf
    obtain ⟨_, rfl, r1⟩ := r.inv1
    obtain ⟨_, _, _, rfl, h1, r1⟩ := r1.invTup
    refine P.len_tuple (R.fro _ _ h1) (Int.not_le.mpr (sz r1 h).2.1) ?_
    rw [(sz r1 h).2.2]
    exact one _ _ _ k
  | lenL xs h k =>
    obtain rfl := val_eq hf
    obtain ⟨_, rfl, r1⟩ := r.inv1
    obtain ⟨_, _, _, rfl, h1, r1⟩ := r1.invLst
    refine len_list (isList_of (R.fro _ _ h1)) (sz r1 h).2.1 ?_
    rw [(sz r1 h).2.2]
    exact one _ _ _ k
  | all bs k =>
    obtain rfl := val_eq hf
    obtain ⟨_, rfl, r1⟩ := r.inv1
    obtain ⟨_, _, _, rfl, h1, r1⟩ := r1.invLst
    obtain ⟨m, fr, nw, k0, k1⟩ := R.full
    exact all_bools fr nw hA (isList_of (R.fro _ _ h1)) (bools_are r1) fun h' tk F' N' => hq F _ _ _ (FM.le.refl F) (k0 h' tk F' N') (.bool _) k
  | lstT xs h k =>
    obtain rfl := val_eq hf
    obtain ⟨_, rfl, r1⟩ := r.inv1
    obtain ⟨a, us, m, rfl, h1, r1⟩ := r1.invTup
    refine call_list_seq a (.inr rfl) (R.fro _ _ h1) rfl rfl (fun h' c' hk hn => ?_) (sz r1 h).1
    obtain ⟨l, R'⟩ := R.new (t := s.toks) hk (fresh_none (Nat.le_refl _)) hn
    exact hq _ _ _ _ l R' (.lst (FM.put_self ..) (r1.mono l)) k
  | lstL xs h k =>
    obtain rfl := val_eq hf
    obtain ⟨_, rfl, r1⟩ := r.inv1
    obtain ⟨a, us, m, rfl, h1, r1⟩ := r1.invLst
    refine call_list_seq a (.inl rfl) (R.fro _ _ h1) rfl rfl (fun h' c' hk hn => ?_) (sz r1 h).1
    obtain ⟨l, R'⟩ := R.new (t := s.toks) hk (fresh_none (Nat.le_refl _)) hn
    exact hq _ _ _ _ l R' (.lst (FM.put_self ..) (r1.mono l)) k
  | tupL xs h k =>
    obtain rfl := val_eq hf
    obtain ⟨_, rfl, r1⟩ := r.inv1
    obtain ⟨a, us, m, rfl, h1, r1⟩ := r1.invLst
    refine call_tuple_list (isList_of (R.fro _ _ h1)) (fun h' hk => ?_) (sz r1 h).1
    have hnone : s.heap.get? h'.objs.size = none := none_of_keep hk
    obtain ⟨l, R'⟩ := R.new (t := s.toks) (fun a ob e => Heap.get?_push_of_some (tupO us 0) (hk a ob e)) hnone (Heap.get?_push_size _ rfl)
    exact hq _ _ _ _ l R' (.tup (FM.put_self ..) (r1.mono l)) k
  | tupR n _ _ => exact (hn n rfl rfl).elim
  | intB b k =>
    obtain rfl := val_eq hf
    obtain ⟨_, rfl, r1⟩ := r.inv1
    obtain rfl := r1.invBool
    exact call_int_bool (one _ _ _ k)
  | intI i k =>
    obtain rfl := val_eq hf
    obtain ⟨_, rfl, r1⟩ := r.inv1
    obtain ⟨_, rfl⟩ := r1.invInt
    exact call_int_int (one _ _ _ k)
  | sum is k =>
    obtain rfl := val_eq hf
    obtain ⟨_, rfl, r1⟩ := r.inv1
    obtain ⟨_, _, _, rfl, h1, r1⟩ := r1.invLst
    obtain ⟨m, fr, nw, k0, k1⟩ := R.full
    exact sum_ints fr nw hA (isList_of (R.fro _ _ h1)) r1.ints fun h' tk t' F' N' => hq F _ _ _ (FM.le.refl F) (k0 h' tk F' N') (.int _ _) k
  | max a b k =>
    obtain rfl := val_eq hf
    obtain ⟨_, _, rfl, r1, r2⟩ := r.inv2
    obtain ⟨_, rfl⟩ := r1.invInt
    obtain ⟨_, rfl⟩ := r2.invInt
    obtain ⟨m, fr, nw, k0, k1⟩ := R.full
    exact max_two_N hA fr nw fun h' tk F' N' => hq F _ _ _ (FM.le.refl F) (k0 h' tk F' N') (.int _ _) k
  | range n h k =>
    obtain rfl := val_eq hf
    obtain ⟨_, rfl, r1⟩ := r.inv1
    obtain ⟨_, rfl⟩ := r1.invInt
    obtain ⟨l, R'⟩ := R.pushed (t := s.toks + 1 + 1) { cls := .type "range", data := .fields #[.int 0 s.toks, .int _ _, .int 1 (s.toks + 1)] } rfl
    exact call_range_1 (hq _ _ _ _ l R' (.rng (FM.put_self ..)) k)
end
end Mine
end

section
open PySem PySem.W PyProof.Rows PyProof.Rows.LSm
set_option Elab.async false
set_option maxRecDepth 100000
set_option tactic.hygienic false
set_option linter.unusedVariables false
namespace Mine

section
variable {prog : Program} {w : World} {A : Around} {E : Value → Shared → Prop} {s : Shared}
theorem collect_range {R : List Value → Shared → Prop} {r : Addr} {a b c : Int} {t u v : Tok} {n : Nat} (hh : A.handled = none) (hr : IsRange s.heap r a b c t u v) (hsmall : Builtin.Range.small a b c = true)
    (hn : Builtin.Range.rangeSize a b c = n) (hlen : n ≤ 2 ^ 24)
    (h : ∀ (h' : Heap) (tk : Nat) (acc : Array Value), (∀ b o, s.heap.get? b = some o → h'.get? b = some o) → ItemsOf (fun i v => ∃ t, v = .int (a + i * c) t) acc n → R acc.toList { s with heap := h', toks := tk }) :
    wpAny (model prog w) A (collect (.ref r)) R E s := by
  unfold collect
  refine wpAny_bind (wpAny_runValue (codeAny_builtin F.entry_proto_collect ?_))
  rw [Around.under_plainId PySem.F.plain_proto_collect _]
  show wpAny _ A.in1 (newList [] >>= fun l => again (.builtin "list.__iadd__" ⟨[l, .ref r], []⟩)) _ _ s
  refine wpAny_bind (wpAny_newObj_type ?_)
  refine wpAny_pure ⟨plainId_quiet PySem.F.plain_list_iadd _, codeAny_builtin F.entry_list_iadd ?_⟩
  rw [Around.under_plainId PySem.F.plain_list_iadd _]
  have hS₁ : (s.heap.push { cls := .type "list", data := .seq ([] : List Value).toArray }).get? s.heap.objs.size = some { cls := .type "list", data := .seq #[] } := Heap.get?_push_size _ rfl
  show wpAny _ A.in1 (Builtin.List.listExtendWith (.ref s.heap.objs.size) (.ref r) (.ref s.heap.objs.size)) _ _ _
  have key := wpAny_extend_range (prog := prog) (w := w) (A := A) (s := { s with heap := s.heap.push { cls := .type "list", data := .seq ([] : List Value).toArray } })
    (R := fun (q : Result) (s' : Shared) => ∃ (h' : Heap) (tk : Nat) (acc' : Array Value) (c' : Nat), q = .ok (.ret (.ref s.heap.objs.size)) ∧ s' = { s with heap := h', toks := tk } ∧
      (∀ b o, s.heap.get? b = some o → h'.get? b = some o) ∧ h'.get? s.heap.objs.size = some { cls := .type "list", dict := none, data := .seq acc' c', slots := #[] } ∧ ItemsOf (fun i v => ∃ t, v = .int (a + i * c) t) acc' n)
    hh (Heap.get?_push_of_some _ hr) hsmall hn hlen s.heap.objs.size (.ref s.heap.objs.size) 0 hS₁
    (fun h' tk acc' c' hk hS' hacc => ⟨h', tk, acc', c', rfl, rfl, fun b o e => hk b o (Nat.ne_of_lt (Heap.lt_size e)) (Heap.get?_push_of_some _ e), hS', hacc⟩)
  refine wpAny_mono key (fun fin s' x => ?_) fun e s' x => ?_
  · cases fin with
    | done f =>
      obtain ⟨h', tk, acc', c', e, rfl, hk, hS', hacc⟩ := x
      cases e
      show wpAny _ A (load s.heap.objs.size >>= _) _ _ _
      refine wpAny_bind (wpAny_load hS' ?_)
      exact wpAny_pure (h h' tk acc' hk hacc)
    | again c₁ =>
      refine ⟨x.1, codeAny_mono x.2 fun q s₂ y => ?_⟩
      obtain ⟨h', tk, acc', c', rfl, rfl, hk, hS', hacc⟩ := y
      show wpAny _ A (load s.heap.objs.size >>= _) _ _ _
      refine wpAny_bind (wpAny_load hS' ?_)
      exact wpAny_pure (h h' tk acc' hk hacc)
  · obtain ⟨_, _, _, _, e', _⟩ := x
    cases e'

open AutoSeq1 (wpAny_loadPart') in
theorem meets_tuple_range {r : Addr} {a b c : Int} {t u v : Tok} {n : Nat} (hsmall : Builtin.Range.small a b c = true) (hn : Builtin.Range.rangeSize a b c = n) (hlen : n ≤ 2 ^ 24) :
    Meets (Builtin.«tuple.__new__» ⟨[.type "tuple", .ref r], []⟩)
      (fun A R s => A.handled = none ∧ IsRange s.heap r a b c t u v ∧ ∀ (h' : Heap) (tk : Nat) (acc : Array Value), (∀ b o, s.heap.get? b = some o → h'.get? b = some o) → ItemsOf (fun i v => ∃ t, v = .int (a + i * c) t) acc n →
        R (.ok (.ret (.ref h'.objs.size))) { s with heap := h'.push { cls := .type "tuple", data := .seq acc }, toks := tk }) :=
  .of_wp fun prog w A R s h => by
    obtain ⟨hh, hr, h⟩ := h
    have hsub := sub_tuple_self
    have hinit := init_tuple_lookup
    have hmh := madeHere_tuple
    have hT : s.TypeIs (.ref r) "range" := ⟨_, hr, rfl⟩
    have hh1 : A.in1.handled = none := hh
    obtain ⟨hp, g, d, tk, os⟩ := s
    wp_walk using wpAny_loadPart' hr, wpAny_typeOf hT, collect_range (n := n) hh1 hr hsmall hn hlen
    intro h' tk' acc hk hacc
    show wpAny _ _ (Builtin.Tuple.tupleExact acc.toList.toArray >>= fun v => ret v) _ _ _
    unfold Builtin.Tuple.tupleExact
    refine wpAny_bind (wpAny_newObj_type ?_ (show acc.toList.toArray.size ≤ sizeLine by simp only [Array.toArray_toList]; rw [hacc.1, sizeLine_eq]; omega))
    refine wpAny_pure ⟨_, rfl, ?_⟩
    have e : acc.toList.toArray = acc := by simp
    rw [e]
    exact h h' tk' acc hk hacc

theorem call_tuple_range {r : Addr} {a b c : Int} {t u v : Tok} {n : Nat} {Q : Value → Shared → Prop} (hh : A.handled = none) (hr : IsRange s.heap r a b c t u v) (hsmall : Builtin.Range.small a b c = true)
    (hn : Builtin.Range.rangeSize a b c = n) (hlen : n ≤ 2 ^ 24)
    (h : ∀ (h' : Heap) (tk : Nat) (acc : Array Value), (∀ b o, s.heap.get? b = some o → h'.get? b = some o) → ItemsOf (fun i v => ∃ t, v = .int (a + i * c) t) acc n →
      Q (.ref h'.objs.size) { s with heap := h'.push { cls := .type "tuple", data := .seq acc }, toks := tk }) :
    wpAny (model prog w) A (call (.type "tuple") [.ref r]) Q E s :=
  callType_new F.called_tuple (by decide) (F.typeCall_tuple_1 _) (F.newCall_tuple_1 _) (fun obj => F.args_object_init_2 obj _) F.entry_tuple_new
    (meets_tuple_range hsmall hn hlen) ⟨hh, hr, fun h' tk acc hk hacc => ⟨⟨_, Heap.get?_push_size _ rfl, rfl⟩, h h' tk acc hk hacc⟩⟩
end
end Mine
end

section
open PySem PySem.W PyProof.Rows PyProof.Rows.LSm
set_option Elab.async false
set_option maxRecDepth 100000
set_option tactic.hygienic false
set_option genSizeOf false
set_option genInjectivity false
set_option linter.unusedVariables false
namespace Mine

section
variable {prog : Program} {w : World} {hb : Heap} {mg mb : Str → Option Value} {g : GP} {n : Nat} {C : Calls} {nm : Names}
variable {c : Cx} {F : FM} {T : List (Addr × Obj)} {o : Nat → Addr} {σ : St} {s : Shared} {A : Around} {Qc : Value → Shared → Prop} {E : Value → Shared → Prop}

theorem range_rep {us : List Value} {n : Nat} (hl : us.length = n) (hj : ∀ (j : Nat) v, us[j]? = some v → ∃ t, v = Value.int (0 + (j : Int) * 1) t) : RepAll g F us ((List.range n).map fun (i : Nat) => V.int (i : Int)) := by
  have key : ∀ (m : Nat) (us : List Value) (i : Nat), us.length = m → (∀ j v, us[j]? = some v → ∃ t, v = Value.int (0 + ((i + j : Nat) : Int) * 1) t) → RepAll g F us ((List.range' i m).map fun (i : Nat) => V.int (i : Int)) := by
    intro m
    induction m with
    | zero => intro us i hl _; rw [List.length_eq_zero_iff.mp hl]; exact .nil
    | succ m ih =>
      intro us i hl hj
      cases us with
      | nil => cases hl
      | cons u us =>
        obtain ⟨t, rfl⟩ := hj 0 u rfl
        rw [List.range'_succ, List.map_cons]
        refine .cons ?_ (ih us (i + 1) (by simpa using hl) fun j v hv => ?_)
        · rw [Int.zero_add, Int.mul_one]; exact .int _ _
        · obtain ⟨t', e⟩ := hj (j + 1) v (by simpa using hv)
          exact ⟨t', by rw [e]; congr 1; omega⟩
  rw [List.range_eq_range']
  exact key _ _ 0 hl fun j v hv => by rw [Nat.zero_add]; exact hj j v hv
theorem range_small {k : Int} (h0 : 0 ≤ k) (h1 : k < 2 ^ 10) : Builtin.Range.rangeSize 0 k 1 = (k.toNat : Int) ∧ Builtin.Range.small 0 k 1 = true := by
  have hz : Builtin.Range.rangeSize 0 k 1 = (k.toNat : Int) := by
    unfold Builtin.Range.rangeSize
    have e2 : Int.fdiv (k - 0 + (1 - 1)) 1 = k := by simp
    simp only [show (1 : Int) > 0 by decide, if_true]
    split
    · omega
    · omega
  refine ⟨hz, ?_⟩
  unfold Builtin.Range.small
  rw [hz]
  simp [Builtin.Range.rangeFitsLong]
  omega
theorem blt_all {f : Fn} {fv : Value} {vals : List Value} {vs : List V} {K : V → Option Pot → Prop} {p : Option Pot} (hA : A.handled = none) (R : Rel c F T o σ s) (r : RepAll c.g F vals vs)
    (hf : fnVal f = some fv) (h : BltI K p f vs)
    (hq : ∀ F' s' val v, F.le F' → Rel c F' T o σ s' → Rep c.g F' val v → K v p → Qc val s') : wpAny (model prog w) A (call fv vals) Qc E s := by
  by_cases hn : ∀ n, vs = [.rng n] → f ≠ .tuple
  · exact blt_sound hA R r hf hn h hq
  · obtain ⟨k, rfl, rfl⟩ : ∃ k, vs = [.rng k] ∧ f = .tuple := by
      cases Classical.em (∃ k, vs = [.rng k] ∧ f = .tuple) with
      | inl h => exact h
      | inr h => exact absurd (fun k e1 e2 => h ⟨k, e1, e2⟩) hn
    obtain rfl := val_eq hf
    obtain ⟨⟨h0, h1⟩, h2⟩ : (0 ≤ k ∧ k < 2 ^ 10) ∧ K (.tup ((List.range k.toNat).map fun (i : Nat) => V.int (i : Int))) p := by cases h with | tupR _ h k => exact ⟨h, k⟩
    obtain ⟨_, rfl, r1⟩ := r.inv1
    obtain ⟨a, t, u, v, rfl, hr⟩ := r1.invRng
    obtain ⟨hz, hsm⟩ := range_small h0 h1
    refine call_tuple_range hA (R.fro _ _ hr) hsm hz (by omega) fun h' tk acc hk hacc => ?_
    obtain ⟨l, R'⟩ := R.new (t := tk) (fun a ob e => Heap.get?_push_of_some (tupO acc.toList 0) (hk a ob e)) (none_of_keep hk) (Heap.get?_push_size _ rfl)
    refine hq _ _ _ _ l R' (.tup (FM.put_self ..) (range_rep (by rw [Array.length_toList]; exact hacc.1) fun j v hv => ?_)) h2
    exact hacc.2 j v (by rw [← Array.getElem?_toList]; exact hv)

theorem Room.handled (h : Room n A) : A.handled = none := h.2.2

theorem sound_blt {gn : Str} {p pos : Pos} {f : Fn} {fv : Value} {e : Expr} {es : List Expr} {xs : List X} (B : Base mg mb g hb) (hg : nm.lookup gn = some .globalImplicit) (hv : (gn, fv) ∈ bltTab) (hd : (gn == ("__debug__" : Str)) = false)
    (hf : fnVal f = some fv) (hs : SoundEs prog w hb g n C nm (e :: es) xs) (hns : ∀ x ∈ e :: es, NoStar x) : SoundE prog w hb g n C nm (.Call (.Name gn p) (e :: es) [] pos) (.call f xs) := by
  intro A c F T o σ s Q Qc E hr G R hw hq
  have gg := G.g
  subst gg
  have hb : isBlt fv = true := by cases f <;> cases hf <;> rfl
  refine call_core B hg hv hd hb hs hns hr G R hw fun F' s' vals vs σ' l R' r q => ?_
  exact blt_all hr.handled R' r hf (blt_inv hf q) fun F2 s2 val v l2 R2 r2 hK => hq F2 s2 val v σ' (l.trans l2) R2 r2 hK

inductive IsiI (k : Bool → Prop) : V → Nat → Prop
  | int (i : Int) (h : k true) : IsiI k (.int i) 0
  | bool (i : Int) (h : k false) : IsiI k (.int i) 1
  | tup (vs : List V) (h : k true) : IsiI k (.tup vs) 2
theorem isiP_inv {v : V} {T : Nat} {k : Bool → Prop} (h : isiP v T k) : IsiI k v T := by
  match T, h with
  | 0, h => cases v with
    | int i => exact .int i h
    | _ => exact ff h
  | 1, h => cases v with
    | int i => exact .bool i h
    | _ => exact ff h
  | 2, h => cases v with
    | tup vs => exact .tup vs h
    | _ => exact ff h
  | n + 3, h => exact ff h
noncomputable def isiT : Nat → String | 0 => "int" | 1 => "bool" | _ => "tuple"
theorem isi_name {k : Nat} {Tn : Str} (hk : (k = 0 ∧ Tn = "int") ∨ (k = 1 ∧ Tn = "bool") ∨ (k = 2 ∧ Tn = "tuple")) : ∃ T, (Tn, Value.type T) ∈ bltTab ∧ (Tn == ("__debug__" : Str)) = false ∧ T = isiT k := by
  rcases hk with ⟨rfl, rfl⟩ | ⟨rfl, rfl⟩ | ⟨rfl, rfl⟩
  · exact ⟨"int", blt_at 4 rfl, by decide +kernel, rfl⟩
  · exact ⟨"bool", blt_at 13 rfl, by decide +kernel, rfl⟩
  · exact ⟨"tuple", blt_at 3 rfl, by decide +kernel, rfl⟩
theorem isi_call {k : Nat} {val : Value} {v : V} {K : Bool → Prop} (R : Rel c F T o σ s) (r : Rep c.g F val v) (h : IsiI K v k) (hq : ∀ b t, K b → Qc (.bool b) { s with toks := t }) :
    wpAny (model prog w) A (call (.builtin "isinstance") [val, .type (isiT k)]) Qc E s := by
  cases h with
  | int i h => obtain ⟨_, rfl⟩ := r.invInt; exact IsiPair.int_int (hq _ s.toks h)
  | bool i h => obtain ⟨_, rfl⟩ := r.invInt; exact IsiPair.int_bool (hq _ _ h)
  | tup vs h => obtain ⟨_, _, _, rfl, h1, _⟩ := r.invTup; exact IsiPair.tuple_tuple (R.fro _ _ h1) rfl (hq _ s.toks h)
theorem sound_isi {e : Expr} {x : X} {k : Nat} {Tn : Str} {p1 p2 pos : Pos} {gn : Str} {Tv : Value} (B : Base mg mb g hb) (hg : nm.lookup gn = some .globalImplicit) (hgn : gn = "isinstance") (hT : nm.lookup Tn = some .globalImplicit)
    (hk : (k = 0 ∧ Tn = "int") ∨ (k = 1 ∧ Tn = "bool") ∨ (k = 2 ∧ Tn = "tuple")) (he : SoundE prog w hb g n C nm e x) (hns : NoStar e) : SoundE prog w hb g n C nm (.Call (.Name gn p1) [e, .Name Tn p2] [] pos) (.isi x k) := by
  intro A c F T o σ s Q Qc E hr G R hw hq
  subst hgn
  have gg := G.g
  subst gg
  refine wpAny_Call_NameR (blt_name (v := .builtin "isinstance") B G R hg (blt_at 11 rfl) (by decide +kernel) ?_)
  have hns2 : ∀ z ∈ [e, Expr.Name Tn p2], NoStar z := fun z hz => by
    rcases List.mem_cons.mp hz with rfl | hz
    · exact hns
    · rw [List.mem_singleton.mp hz]; exact fun zz zz => rfl
  refine callWith_blt rfl hns2 ?_
  obtain ⟨_, h1, h2, rfl⟩ := isi_name hk
  refine wpAny_items_cons (he A c F T o σ s _ _ E hr G R hw fun F' s' val v σ' l R' r q => ?_) (hns _ _)
  exact wpAny_items_cons (blt_name B G R' hT h1 h2 (wpAny_items_nil (isi_call R' r (isiP_inv q) fun b t q => hq F' _ _ _ σ' l (R'.tok t) (.bool b) q))) rfl

/- slices -/
theorem sound_slF {e lo : Expr} {a : X} {k : Nat} {kd : Nat} {p1 p2 pos : Pos} {i : Int} (hi : lo = .Constant (.int i) kd p1) (hk : i = (k : Int)) (he : SoundE prog w hb g n C nm e a) :
    SoundE prog w hb g n C nm (.Subscript e (.Slice (some lo) none none p2) pos) (.slF a k) := by
  intro A c F T o σ s Q Qc E hr G R hw hq
  have gg := G.g
  subst gg
  subst hi
  refine Subscript_ (he A c F T o σ s _ _ E hr G R hw fun F' s' val v σ' l R' r q => ?_)
  obtain ⟨vs, rfl, ⟨h1, h2, h3⟩, q⟩ := tup_inv (k := fun vs => (1 ≤ k ∧ k ≤ vs.length ∧ vs.length < 2 ^ 20) ∧ Q (.tup (vs.drop k)) σ') q
  obtain ⟨ta, us, m, rfl, hh, rr⟩ := r.invTup
  refine wpAny_Slice (show wpAny _ _ (eval (.Constant (.int i) kd p1) c.env) _ _ _ from wpAny_Constant_int (wpAny_pure (wpAny_pure ?_)))
  obtain ⟨l2, R2⟩ := (R'.tok (s'.toks + 1)).pushed (t := s'.toks + 1) { cls := .type "slice", data := .fields #[.int i s'.toks, .none, .none] } rfl
  have hlen := rr.length
  refine tail_all ⟨_, R2.fro _ _ (l2 _ _ hh), rfl⟩ tup_item ?_
  subst hk
  refine getItem_tuple_from (a := k) ⟨_, R2.fro _ _ (l2 _ _ hh), rfl, m, rfl⟩ (Heap.IsSliceOf.new ..) h1 (by simpa [hlen] using h2) ?_ (by simp [hlen]; unfold sizeLine; omega)
  obtain ⟨l3, R3⟩ := R2.pushed (t := s'.toks + 1) (tupO (us.drop k) 0) rfl
  exact hq _ _ _ _ σ' ((l.trans l2).trans l3) R3 (.tup (FM.put_self ..) (((rr.drop k).mono l2).mono l3)) q
theorem lstInt_inv {v u : V} {k : List V → Int → Prop} (h : match v, u with | .lst i, .int j => k i j | _, _ => False) : ∃ i j, v = .lst i ∧ u = .int j ∧ k i j := by
  cases v with
  | lst i => cases u with
    | int j => exact ⟨i, j, rfl, rfl, h⟩
    | _ => exact ff h
  | _ => exact ff h
theorem sound_slT {e hi : Expr} {a xh : X} {p2 pos : Pos} (he : SoundE prog w hb g n C nm e a) (hh : SoundE prog w hb g n C nm hi xh) : SoundE prog w hb g n C nm (.Subscript e (.Slice none (some hi) none p2) pos) (.slT a xh) := by
  intro A c F T o σ s Q Qc E hr G R hw hq
  have gg := G.g
  subst gg
  refine Subscript_ (he A c F T o σ s _ _ E hr G R hw fun F' s' val v σ' l R' r q => ?_)
  refine wpAny_Slice (wpAny_pure (hh A c F' T o σ' s' _ _ E hr G R' q fun F2 s2 val2 v2 σ2 l2 R2 r2 q2 => wpAny_pure ?_))
  obtain ⟨vs, k, rfl, rfl, ⟨h1, h2, h3⟩, q2⟩ := lstInt_inv (k := fun vs n => (0 ≤ n ∧ small n ∧ vs.length < 2 ^ 20) ∧ Q (.lst (vs.take n.toNat)) σ2) q2
  obtain ⟨ta, us, m, rfl, hh, rr⟩ := r.invLst
  obtain ⟨t, rfl⟩ := r2.invInt
  obtain ⟨l3, R3⟩ := R2.pushed (t := s2.toks) { cls := .type "slice", data := .fields #[.none, .int k t, .none] } rfl
  have hlen := rr.length
  have hg := R3.fro _ _ (l3 _ _ (l2 _ _ hh))
  refine tail_all ⟨_, hg, rfl⟩ lst_item ?_
  refine wpAny_getItem_list_slice (isList_of hg) (Heap.IsSliceOf.new ..) .none (.int k t) .none (by simp) ?_ (by simp [hlen]; unfold sizeLine; omega)
  have e : slicePick us.toArray none (some k) none = (us.take k.toNat).toArray := by
    have := slicePick_upto' us.toArray k.toNat
    rw [Int.toNat_of_nonneg h1] at this
    simpa using this
  rw [e]
  obtain ⟨l4, R4⟩ := R3.pushed (t := s2.toks) (lstO (us.take k.toNat) 0) rfl
  exact hq _ _ _ _ σ2 (((l.trans l2).trans l3).trans l4) R4 (.lst (FM.put_self ..) ((((rr.take k.toNat).mono l2).mono l3).mono l4)) q2

theorem erase_last {α : Type} (us : List α) (u : α) : (us ++ [u]).toArray.eraseIdxIfInBounds ((us ++ [u]).toArray.size - 1) = us.toArray := by
  simp [Array.eraseIdxIfInBounds, List.eraseIdx_append_of_length_le]
theorem mapSeq_lst {f : Array Value → Array Value} {vs us : List Value} {m : Nat} (h : f vs.toArray = us.toArray) : ∃ m', Obj.mapSeq f (lstO vs m) = lstO us m' :=
  ⟨if ((f vs.toArray).size == vs.toArray.size) = true then m else m + 1, by
    show ({ cls := .type "list", data := .seq (f vs.toArray) (if ((f vs.toArray).size == vs.toArray.size) = true then m else m + 1) } : Obj) = _
    rw [h]⟩
/- x.pop() -/
theorem plain_base {x : Str} {p : Pos} {m : Str} {env : Env} : attributeBase (.Name x p) m env (eval (.Name x p) env) = eval (.Name x p) env := rfl
theorem ty_meth {id : String} (h : typeOf (.builtin id) = pure (.type "method_descriptor")) : typeOf (.builtin id) = pure (.type "method_descriptor") := h
theorem sound_pop {x : Str} {k : Nat} {p apos pos : Pos} {m : Str} (hx : nm.lookup x = some .local ∨ nm.lookup x = some .cell) (hk : varIx x = some k) (hm : m = "pop") (hline : (apos.endLine == pos.line) = true) :
    SoundE prog w hb g n C nm (.Call (.Attribute (.Name x p) m apos) [] [] pos) (.pop k) := by
  intro A c F T o σ s Q Qc E hr G R hw hq
  have gg := G.g
  subst gg
  subst hm
  replace hw : (match σ.get k with | some (.own vs) => vs.length < 2 ^ 20 ∧ ∃ ini v, vs = ini ++ [v] ∧ Q v (σ.set k (.own ini)) | _ => False) := hw
  cases e : σ.get k with
  | none => rw [e] at hw; exact hw.elim
  | some lv =>
    rw [e] at hw
    cases lv with
    | imm _ => exact hw.elim
    | odic _ => exact hw.elim
    | gone => exact hw.elim
    | own vs =>
      obtain ⟨hsz, ini, v, rfl, q⟩ := hw
      refine wpAny_Call_method0_late plain_base hline (load_var (fun h => LV.noConfusion h) G R hx hk e fun y hy => ?_)
      cases (show some y = some (Value.ref (o k)) from hy)
      obtain ⟨us, m, h1, r1⟩ := R.own k _ e
      obtain ⟨us', u, rfl, ri, ru⟩ := r1.split
      refine ⟨"list", "list.pop", PySem.F.plainAttrs_list, PySem.F.slot_list_pop, by rfl, ⟨_, h1, rfl⟩, fun a ha => by cases ha; exact ⟨_, h1, rfl⟩, ?_⟩
      have hlen : us'.length = ini.length := ri.length
      have hsz' : (us' ++ [u]).toArray.size ≤ sizeLine := by
        have e2 : (us' ++ [u]).toArray.size = ini.length + 1 := by simp [hlen]
        have e3 : (ini ++ [v]).length = ini.length + 1 := by simp
        rw [e2]; unfold sizeLine; omega
      refine P.pop_list h1 (y := u) (by simp) ?_ hsz'
      have hup := Heap.get?_update_self (Obj.mapSeq fun xs => xs.eraseIdxIfInBounds ((us' ++ [u]).toArray.size - 1)) h1 rfl
      obtain ⟨m', hm'⟩ := mapSeq_lst (f := fun xs => xs.eraseIdxIfInBounds ((us' ++ [u]).toArray.size - 1)) (m := m) (erase_last us' u)
      have R2 := R.upd (k := k) ⟨_, e, rfl⟩ (lv := .own ini) rfl (h' := s.heap.update (o k) (Obj.mapSeq fun xs => xs.eraseIdxIfInBounds ((us' ++ [u]).toArray.size - 1))) (t := s.toks) (Heap.SameBut.update ..) ⟨us', m', ?_, ri⟩
      · exact hq F _ u v _ (FM.le.refl F) R2 ru q
      · rw [hup, hm']
end
end Mine
end

section
open PySem PySem.W PyProof.Rows PyProof.Rows.LSm
set_option Elab.async false
set_option maxRecDepth 100000
set_option tactic.hygienic false
set_option linter.unusedVariables false
namespace Mine

section
variable {prog : Program} {w : World} {hb : Heap} {mg mb : Str → Option Value} {g : GP} {n : Nat} {C : Calls} {nm : Names}
variable {c : Cx} {F : FM} {T : List (Addr × Obj)} {o : Nat → Addr} {σ : St} {s : Shared} {A : Around} {Qc : Value → Shared → Prop} {E : Value → Shared → Prop}

noncomputable def stOf (k : Nat) : Nat := if k < 6 then k + 5 else if k < 20 then k + 6 else k + 7
noncomputable def stOk (k : Nat) : Bool := match defOf? (st (stOf k)) with
  | some d => ixIn (cd d.name) fnCodes 0 == some k
  | none => false
theorem stOk_all : (List.range 32).all stOk = true := by decide +kernel
theorem fnIx_inj {x y : Str} {k : Nat} (hx : ixIn (cd x) fnCodes 0 = some k) (hy : ixIn (cd y) fnCodes 0 = some k) : x = y := code_inj (by decide +kernel) hx hy

theorem fn_st {x : Str} {k : Nat} (h : ixIn (cd x) fnCodes 0 = some k) : ∃ d, defOf? (st (stOf k)) = some d ∧ d.name = x ∧ 5 ≤ stOf k ∧ stOf k < 40 := by
  have hk : k < 32 := by have := ixIn_lt h; have e : fnCodes.length = 32 := rfl; lia
  have := List.all_eq_true.mp stOk_all k (List.mem_range.mpr hk)
  unfold stOk at this
  cases e : defOf? (st (stOf k)) with
  | none => rw [e] at this; cases this
  | some d =>
    rw [e] at this
    refine ⟨d, rfl, fnIx_inj (by simpa using this) h, ?_, ?_⟩
    · unfold stOf; split <;> (try split) <;> lia
    · unfold stOf; split <;> (try split) <;> lia
theorem Base.fnAt {x : Str} {k : Nat} (B : Base mg mb g hb) (h : ixIn (cd x) fnCodes 0 = some k) : ∃ a ob fd, mg x = some (.ref a) ∧ hb.get? a = some ob ∧ ob.data = .func fd := by
  obtain ⟨d, h1, rfl, h2, h3⟩ := fn_st h
  obtain ⟨a, ob, pm, code, doc, e1, e2, e3, _⟩ := B.fn _ d h2 h3 h1
  exact ⟨a, ob, _, e1, e2, e3⟩

theorem callWith_fn {a : Addr} {ob : Obj} {fd : FuncData} {pos : Pos} {e : Expr} {es : List Expr} {env : Env} (hns : ∀ x ∈ e :: es, NoStar x) (hd : ob.data = .func fd)
    (h : wpAny (model prog w) A (spliced (backTo pos (starEach (e :: es) env))) (fun vs s₁ => s₁.heap.get? a = some ob ∧ wpAny (model prog w) A (call (.ref a) vs) Qc E s₁) E s) : wpAny (model prog w) A (callWith pos (.ref a) [] (backTo pos (starEach (e :: es) env)) []) Qc E s := by
  have he := hns e (List.mem_cons_self ..) es env
  rw [he] at h ⊢
  exact Calls.callWith_function (o := ob) (fd := fd) (Calls.evalArgs_plain (wpAny_mono h (fun vs s₁ h₁ => ⟨⟨h₁.1, hd⟩, h₁.2⟩) fun zz zz x => x))

theorem Rel.atCall (R : Rel c F T o σ s) (G : GoodCx hb g c nm) : AtCall hb c.g F s σ.pot where
  fro := R.fro
  base := R.baseLe G
  pot := R.pot
  hP := R.pAt
  off := fun e => (R.offP e).1

theorem Rel.ret (R : Rel c F T o σ s) {F' : FM} {s' : Shared} {p' : Option Pot} (h : Ret hb F c.g s σ.pot F' s' p') : F.le F' ∧ Rel c F' T o { σ with pot := p' } s' := by
  obtain ⟨h1, h2, h3, h4, ⟨h', t, rfl⟩, h6, h7, h8⟩ := h
  exact ⟨h1, R.resume h1 h2 h3 h4 h6 h8 h7⟩

theorem sound_user {gn : Str} {p pos : Pos} {k : Nat} {e : Expr} {es : List Expr} {xs : List X} (B : Base mg mb g hb) (K : CallsOk prog w hb mg g n C) (hg : nm.lookup gn = some .globalImplicit) (hk : ixIn (cd gn) fnCodes 0 = some k) (hd : (gn == ("__debug__" : Str)) = false)
    (hs : SoundEs prog w hb g n C nm (e :: es) xs) (hns : ∀ x ∈ e :: es, NoStar x) : SoundE prog w hb g n C nm (.Call (.Name gn p) (e :: es) [] pos) (.call (.user k) xs) := by
  intro A c F T o σ s Q Qc E hr G R hw hq
  have gg := G.g
  subst gg
  have hfn := B.fnAt hk
  obtain ⟨a, ob, fd, hm, ho, hdt⟩ := hfn
  refine wpAny_Call_NameR (glob_name B G R hg hm hd ?_)
  refine callWith_fn hns hdt (hs A c F T o σ s pos _ _ E hr G R hw fun F' s' vals vs σ' l R' r zz q => ?_)
  refine ⟨R'.keepB G _ _ ho, ?_⟩
  obtain ⟨f, a', ob', fd', h1, h2, h3, h4, h5⟩ := K k vs σ'.pot _ q
  have e := fnIx_inj h1 hk
  subst e
  rw [hm] at h2; cases h2
  refine wpAny_call (h5 A F' s' vals _ hr (R'.atCall G) r fun F2 s2 val v p' hret rv hq2 => ?_)
  obtain ⟨l2, R2⟩ := R'.ret hret
  exact hq F2 s2 val v _ (l.trans l2) R2 rv hq2
end
end Mine
end

section
open PySem PySem.W PyProof.Rows PyProof.Rows.LSm
set_option Elab.async false
set_option maxRecDepth 100000
set_option genSizeOf false
set_option genInjectivity false
set_option linter.unusedVariables false
namespace Mine

section
variable {prog : Program} {w : World} {hb : Heap} {mg mb : Str → Option Value} {g : GP} {n : Nat} {C : Calls} {nm : Names}
variable {c : Cx} {F : FM} {T : List (Addr × Obj)} {o : Nat → Addr} {σ σ' : St} {s : Shared} {A : Around} {Qc : Value → Shared → Prop} {E : Value → Shared → Prop}

theorem nmok_all (env : Env) : NmOk env := fun x y k zz zz hx hy => varIx_inj hx hy

theorem Rel.congr (R : Rel c F T o σ s) (h : ∀ k, σ'.get k = σ.get k) (hp : σ'.pot = σ.pot) : Rel c F T o σ' s :=
  have ow : ∀ k, Owned σ' k → Owned σ k := fun k ⟨lv, e, q⟩ => ⟨lv, by rw [← h]; exact e, q⟩
  { R with
    kept := fun a ob e q => R.kept a ob e (by rw [← hp]; exact q)
    ns := (by obtain ⟨m, hm, r⟩ := R.ns; exact ⟨m, hm, fun x k hx hk => by rw [h]; exact r x k hx hk⟩)
    cel := fun x k hx hk => (by obtain ⟨a, ov, ha, hc, r⟩ := R.cel x k hx hk; exact ⟨a, ov, ha, hc, by rw [h]; exact r⟩)
    own := fun k vs e => R.own k vs (by rw [← h]; exact e)
    dct := fun k vs e => R.dct k vs (by rw [← h]; exact e)
    off := fun k hk => R.off k (ow k hk)
    inj := fun k k' h1 h2 => R.inj k k' (ow _ h1) (ow _ h2)
    pot := fun p e => R.pot p (by rw [← hp]; exact e)
    offP := fun e => R.offP (by rw [← hp]; exact e)
    potB := by rw [hp]; exact R.potB }

/- something that is nobody's has changed -/
noncomputable def ownsTups : List String := ["enumerate", "zip", "dict_itemiterator", "dict_reverseitemiterator", "odict_iterator", "itertools.zip_longest", "itertools.pairwise"]
noncomputable def PlainIt (ob : Obj) : Prop := ∃ nm, ob.cls = .type nm ∧ ownsTups.contains nm = false
theorem letOwned_plain {I : Addr} {ob : Obj} {target : Expr} {v : Value} {Qu : Unit → Shared → Prop} (h : s.heap.get? I = some ob) (hp : PlainIt ob) (hq : Qu () s) : wpAny (model prog w) A (letOwnedTupleGo target (.ref I) v) Qu E s := by
  obtain ⟨nm, hc, hn⟩ := hp
  obtain ⟨c, d, dt, sl⟩ := ob
  simp only at hc
  subst hc
  unfold letOwnedTupleGo
  have go : wpAny (model prog w) A (do
      let (.ref r, .ref a) := (Value.ref I, v) | (pure () : Sem Unit)
      let o ← load r
      match o.cls, o.data with
      | .type n, .fields vs =>
        if ownsTups.contains n && vs[0]? == some (rawInt a) then
          rule "for.unpacks-the-owned-tuple"
          updateField r 0 .none
      | _, _ => pure ()) Qu E s := by
    cases v <;> try exact wpAny_pure hq
    refine wpAny_bind (wpAny_load h ?_)
    cases dt <;> try exact wpAny_pure hq
    dsimp only
    rw [hn]
    exact wpAny_pure hq
  cases target <;> first | exact wpAny_pure hq | exact go

/- what is walked along: its iterator, its items -/
structure Src (prog : Program) (w : World) (A : Around) (g : GP) (F : FM) (I : Addr) (items : List V) (P : Nat → Value → Prop) (St : Nat → Heap → Prop) (fp : List Addr) : Prop where
  walk : Walks prog w A I fp [I] items.length P St
  foot : ∀ b ∈ fp, b = I ∨ ∃ ob, F b = some ob
  live : ∀ i h, St i h → ∃ ob, h.get? I = some ob ∧ PlainIt ob
  item : ∀ i v, i < items.length → P i v → ∃ d, items[i]? = some d ∧ Rep g F v d

/- an iterator is made -/
theorem iter_sound {va : Value} {d : V} {K : List V → Prop} (hA : A.handled = none) (R : Rel c F T o σ s) (r : Rep c.g F va d) (h : itemsP d K)
    (hq : ∀ s' items I P St fp, (∀ a ob, s.heap.get? a = some ob → s'.heap.get? a = some ob) → s.heap.get? I = none → Rel c F T o σ s' → Src prog w A c.g F I items P St fp → St 0 s'.heap → K items → Qc (.ref I) s') :
    wpAny (model prog w) A (pyIter va) Qc E s := by
  have hk : ∀ (ob : Obj) a x, s.heap.get? a = some x → (s.heap.push ob).get? a = some x := fun ob a x e => Heap.get?_push_of_some ob e
  cases d with
  | tup vs =>
    obtain ⟨a, us, m, rfl, h1, r1⟩ := r.invTup
    refine wpAny_pyIter_tuple (isTuple_of (R.fro _ _ h1)) ?_
    have hne : a ≠ s.heap.objs.size := Nat.ne_of_lt (Heap.lt_size (R.fro _ _ h1))
    have hlen : us.toArray.size = vs.length := by simpa using r1.length
    have W := Walks.tuple (prog := prog) (w := w) (A := A) hA s.heap.objs.size a hne us.toArray
    rw [hlen] at W
    refine hq _ vs s.heap.objs.size _ _ _ (hk _) (fresh_none (Nat.le_refl _)) (R.grow (t := s.toks) (hk _)) ⟨W, fun b hb => ?_, fun i h hs => ?_, fun i v zz hv => ?_⟩ ⟨⟨_, Heap.get?_push_size _ rfl, rfl, rfl⟩, (isTuple_of (hk _ _ _ (R.fro _ _ h1)))⟩ h
    · simp only [List.mem_cons, List.not_mem_nil, or_false] at hb
      rcases hb with rfl | rfl
      · exact .inl rfl
      · exact .inr ⟨_, h1⟩
    · obtain ⟨⟨ob, e, hc, _⟩, _⟩ := hs; exact ⟨ob, e, _, hc, by decide⟩
    · exact r1.get' (by simpa using hv)
  | lst vs =>
    obtain ⟨a, us, m, rfl, h1, r1⟩ := r.invLst
    refine wpAny_pyIter_list (isList_of (R.fro _ _ h1)) ?_
    have hne : a ≠ s.heap.objs.size := Nat.ne_of_lt (Heap.lt_size (R.fro _ _ h1))
    have hlen : us.toArray.size = vs.length := by simpa using r1.length
    have W := Walks.list (prog := prog) (w := w) (A := A) hA s.heap.objs.size a hne us.toArray
    rw [hlen] at W
    refine hq _ vs s.heap.objs.size _ _ _ (hk _) (fresh_none (Nat.le_refl _)) (R.grow (t := s.toks) (hk _)) ⟨W, fun b hb => ?_, fun i h hs => ?_, fun i v zz hv => ?_⟩ ⟨⟨_, Heap.get?_push_size _ rfl, rfl, rfl⟩, (isList_of (hk _ _ _ (R.fro _ _ h1)))⟩ h
    · simp only [List.mem_cons, List.not_mem_nil, or_false] at hb
      rcases hb with rfl | rfl
      · exact .inl rfl
      · exact .inr ⟨_, h1⟩
    · obtain ⟨⟨ob, e, hc, _⟩, _⟩ := hs; exact ⟨ob, e, _, hc, by decide⟩
    · exact r1.get' (by simpa using hv)
  | rng k =>
    obtain ⟨⟨hlo, hhi⟩, h⟩ := h
    obtain ⟨a, t, u, v, rfl, h1⟩ := r.invRng
    have hz : Builtin.Range.rangeSize 0 k 1 = (k.toNat : Int) := by
      unfold Builtin.Range.rangeSize
      have e2 : Int.fdiv (k - 0 + (1 - 1)) 1 = k := by simp
      simp only [show (1 : Int) > 0 by decide, if_true]
      split
      · lia
      · lia
    have hsm : Builtin.Range.small 0 k 1 = true := by
      unfold Builtin.Range.small
      rw [hz]
      simp [Builtin.Range.rangeFitsLong]
      lia
    refine wpAny_pyIter_range (R.fro _ _ h1) hsm ?_
    rw [hz]
    have W := Walks.range (prog := prog) (w := w) (A := A) hA s.heap.objs.size 0 1 k.toNat
    have hlen : ((List.range k.toNat).map fun (i : Nat) => V.int (i : Int)).length = k.toNat := by simp
    rw [← hlen] at W
    refine hq _ _ s.heap.objs.size _ _ _ (hk _) (fresh_none (Nat.le_refl _)) (R.grow (t := s.toks) (hk _)) ⟨W, fun b hb => ?_, fun i h hs => ?_, fun i v hi hv => ?_⟩ ?_ h
    · exact .inl (List.mem_singleton.mp hb)
    · exact ⟨_, hs, _, rfl, by decide⟩
    · obtain ⟨t', e⟩ := hv
      rw [hlen] at hi
      refine ⟨V.int (i : Int), ?_, ?_⟩
      · rw [List.getElem?_map, List.getElem?_range hi]; rfl
      · have e3 : (0 : Int) + (i : Int) * 1 = (i : Int) := by lia
        rw [e, e3]; exact .int _ _
    · rw [hlen]
      have e1 : (0 : Int) + ((0 : Nat) : Int) * 1 = 0 := by lia
      have e2 : ((k.toNat : Nat) : Int) - ((0 : Nat) : Int) = (k.toNat : Int) := by lia
      show Heap.get? _ _ = _
      rw [e1, e2]
      exact Heap.get?_push_size _ rfl
  | _ => exact ff h
end
end Mine
end

section
open PySem PySem.W PyProof.Rows PyProof.Rows.LSm
set_option Elab.async false
set_option maxRecDepth 100000
set_option tactic.hygienic false
set_option genSizeOf false
set_option genInjectivity false
set_option linter.unusedVariables false
set_option linter.unusedSimpArgs false
namespace Mine

theorem getL_imm (k : Nat) : ∀ l, getL k (immOnly l) = (getL k l).map LV.plain
  | [] => rfl
  | (k', v) :: r => by
    show getL k ((k', v.plain) :: immOnly r) = _
    cases e : Nat.beq k k' with
    | true => rw [getL_hit e, getL_hit e]; rfl
    | false => rw [getL_miss e, getL_miss e]; exact getL_imm k r

theorem lookup_relab (nm : Names) (y : Str) : ∀ l : Names, (relab nm l).lookup y = (l.lookup y).map fun k => if (k == .free && nm.lookup y == some .cell) then .cell else k
  | [] => rfl
  | (n, k) :: r => by
    have ih := lookup_relab nm y r
    show List.lookup y ((if (k == .free && nm.lookup n == some .cell) = true then (n, NameKind.cell) else (n, k)) :: relab nm r) = _
    by_cases h : y = n
    · subst h
      by_cases hc : (k == .free && nm.lookup y == some .cell) = true
      · rw [if_pos hc]; simp only [List.lookup_cons, beq_self_eq_true, Option.map_some, hc, if_true]
      · rw [if_neg hc]; simp only [List.lookup_cons, beq_self_eq_true, Option.map_some, hc]; rfl
    · have hb : (y == n) = false := by simpa using h
      by_cases hc : (k == .free && nm.lookup n == some .cell) = true
      · rw [if_pos hc]; simp only [List.lookup_cons, hb]; exact ih
      · rw [if_neg hc]; simp only [List.lookup_cons, hb]; exact ih

theorem lookup_mem {n : Str} {k : NameKind} : ∀ {l : Names}, l.lookup n = some k → (n, k) ∈ l
  | (m, k') :: r, h => by
    by_cases e : n = m
    · subst e
      have hb : (n == n) = true := beq_self_eq_true n
      simp only [List.lookup_cons, hb] at h
      cases h; exact List.mem_cons_self ..
    · have hb : (n == m) = false := by simpa using e
      simp only [List.lookup_cons, hb] at h
      exact List.mem_cons_of_mem _ (lookup_mem h)
  | [], h => by cases h
theorem mem_lookup {n : Str} {k : NameKind} : ∀ {l : Names}, (l.map (·.1)).Nodup → (n, k) ∈ l → l.lookup n = some k
  | (m, k') :: r, hn, h => by
    rw [List.map_cons, List.nodup_cons] at hn
    rcases List.mem_cons.mp h with e | h
    · cases e; simp [List.lookup_cons]
    · have hne : n ≠ m := fun e => hn.1 (e ▸ List.mem_map_of_mem (f := (·.1)) h)
      have hb : (n == m) = false := by simpa using hne
      simp only [List.lookup_cons, hb]
      exact mem_lookup hn.2 h

/- what the scope of a comprehension is like -/
structure CompSc (nm : Names) (sc : Scope) (x : Str) : Prop where
  kind : sc.kind = .function
  nodup : (sc.names.map (·.1)).Nodup
  each : ∀ y k, (y, k) ∈ sc.names → (k = .local ∧ (y = x ∨ varIx y = none)) ∨ k = .globalImplicit ∨ (k = .free ∧ nm.lookup y = some .cell ∧ ∃ i, varIx y = some i)
theorem compSc_of {nm : Names} {sc : Scope} {x : Str} (h : compOk nm sc x = true) : CompSc nm sc x := by
  unfold compOk at h
  simp only [Bool.and_eq_true, List.all_eq_true] at h
  obtain ⟨⟨h1, h2⟩, h3⟩ := h
  unfold namesOk at h2
  simp only [Bool.and_eq_true, decide_eq_true_eq] at h2
  refine ⟨by simpa using h1, h2.2, fun y k hy => ?_⟩
  have := h3 (y, k) hy
  simp only [Bool.or_eq_true, Bool.and_eq_true] at this
  rcases this with (⟨h4, h5⟩ | h4) | ⟨⟨h4, h5⟩, h6⟩
  · exact .inl ⟨by simpa using h4, by simpa using h5⟩
  · exact .inr (.inl (by simpa using h4))
  · exact .inr (.inr ⟨by simpa using h4, by simpa using h5, Option.isSome_iff_exists.mp h6⟩)

section
variable {prog : Program} {w : World} {hb : Heap} {mg mb : Str → Option Value} {g : GP} {n : Nat} {C : Calls} {nm : Names}
variable {c : Cx} {F : FM} {T : List (Addr × Obj)} {o : Nat → Addr} {σ σ' : St} {s : Shared} {A : Around} {Qc : Value → Shared → Prop} {E : Value → Shared → Prop}

theorem clos_go (env : Env) : ∀ (names : Names) (acc : List (Str × Addr)), (∀ y, (y, NameKind.free) ∈ names → ∃ a, env.cells.lookup y = some a) → (∀ y a, acc.lookup y = some a → env.cells.lookup y = some a) →
    ∃ cl, (forIn names acc fun (x : Str × NameKind) (cs : List (Str × Addr)) => (do if x.2 == .free then (do let a ← cellOf env x.1; pure (ForInStep.yield ((x.1, a) :: cs))) else pure (ForInStep.yield cs) : Sem (ForInStep (List (Str × Addr))))) = pure cl ∧
      (∀ y a, cl.lookup y = some a → env.cells.lookup y = some a) ∧ (∀ y, (y, NameKind.free) ∈ names ∨ (∃ a, acc.lookup y = some a) → ∃ a, cl.lookup y = some a)
  | [], acc, _, h2 => ⟨acc, by rw [List.forIn_nil], h2, fun y hy => by rcases hy with h | h; exact nomatch h; exact h⟩
  | (m, k) :: r, acc, h1, h2 => by
    rw [List.forIn_cons]
    by_cases hk : k = .free
    · subst hk
      obtain ⟨a, ha⟩ := h1 m (List.mem_cons_self ..)
      obtain ⟨cl, e, h3, h4⟩ := clos_go env r ((m, a) :: acc) (fun y hy => h1 y (List.mem_cons_of_mem _ hy)) fun y b hb => by
        by_cases e : y = m
        · subst e; simp [List.lookup_cons] at hb; rw [← hb]; exact ha
        · have hbq : (y == m) = false := by simpa using e
          simp only [List.lookup_cons, hbq] at hb; exact h2 y b hb
      refine ⟨cl, ?_, h3, fun y hy => h4 y ?_⟩
      · have e1 : cellOf env m = pure a := by unfold cellOf; rw [ha]
        have e2 : (NameKind.free == NameKind.free) = true := rfl
        simp only [e2, if_true, e1]
        exact e
      · by_cases em : y = m
        · subst em; right; exact ⟨a, by simp [List.lookup_cons]⟩
        · have hbq : (y == m) = false := by simpa using em
          rcases hy with hy | ⟨b, hb⟩
          · rcases List.mem_cons.mp hy with e' | hy
            · cases e'; exact absurd rfl em
            · exact .inl hy
          · right; exact ⟨b, by simp only [List.lookup_cons, hbq]; exact hb⟩
    · obtain ⟨cl, e, h3, h4⟩ := clos_go env r acc (fun y hy => h1 y (List.mem_cons_of_mem _ hy)) h2
      refine ⟨cl, ?_, h3, fun y hy => h4 y ?_⟩
      · have e2 : (k == NameKind.free) = false := by cases k <;> first | rfl | exact absurd rfl hk
        simp only [e2, Bool.false_eq_true, if_false]
        exact e
      · rcases hy with hy | hy
        · rcases List.mem_cons.mp hy with e' | hy
          · cases e'; exact absurd rfl hk
          · exact .inl hy
        · exact .inr hy
theorem clos_ok (env : Env) (sc : Scope) (h : ∀ y, (y, NameKind.free) ∈ sc.names → ∃ a, env.cells.lookup y = some a) :
    ∃ cl, closureFor sc env = pure cl ∧ (∀ y a, cl.lookup y = some a → env.cells.lookup y = some a) ∧ ∀ y, (y, NameKind.free) ∈ sc.names → ∃ a, cl.lookup y = some a := by
  obtain ⟨cl, e, h1, h2⟩ := clos_go env sc.names [] h (fun y a e => by cases e)
  refine ⟨cl, ?_, h1, fun y hy => h2 y (.inl hy)⟩
  simp only [closureFor]
  rw [e]
  rfl

/- the frame of a comprehension -/
noncomputable def compCx (c : Cx) (F : FM) (s : Shared) (sc : Scope) (cl : List (Str × Addr)) (L : Addr) : Cx := { g := c.g, env := compEnvC sc cl L c.env, h0 := fun a => s.heap.get? a, F0 := F, s0 := s, wr := false, hp := c.hp }
theorem comp_names (G : GoodCx hb g c nm) (sc : Scope) (cl : List (Str × Addr)) (L : Addr) : (compEnvC sc cl L c.env).scope.names = relab nm sc.names := by
  show (relabel sc c.env).names = _
  unfold relabel relab
  refine List.map_congr_left fun p zz => ?_
  obtain ⟨m, k⟩ := p
  have e1 : (c.env.scope.kind == ScopeKind.function) = true := by rw [G.kind]; rfl
  simp only [e1, Bool.and_true, G.kindOf]
theorem comp_good (G : GoodCx hb g c nm) (R : Rel c F T o σ s) {sc : Scope} {x : Str} (S : CompSc nm sc x) (cl : List (Str × Addr)) (L : Addr) : GoodCx hb g (compCx c F s sc cl L) (relab nm sc.names) where
  g := G.g
  kind := by show (relabel sc c.env).kind = _; exact S.kind
  names := comp_names G sc cl L
  glob := G.glob
  blt := G.blt
  nmok := nmok_all _
  base := R.baseLe G
  frozen := fun y h => by
    rw [lookup_relab] at h
    cases e : sc.names.lookup y with
    | none => rw [e] at h; cases h
    | some k =>
      rw [e] at h
      rcases S.each y k (lookup_mem e) with ⟨rfl, _⟩ | rfl | ⟨rfl, h2, _⟩
      · simp at h
      · simp at h
      · rw [h2] at h; simp at h

theorem pot_cell {p : Option Pot} {a : Addr} {ov : Option Value} (hc : s.heap.IsCell a ov) (hp : ∀ q, p = some q → PotRel g F q s.heap) : p ≠ none → a ≠ g.P := fun h q => by
  obtain ⟨ob, e, hd⟩ := hc
  cases p with
  | none => exact h rfl
  | some p =>
    obtain ⟨l, vs, n, m, t, u, e1, _⟩ := hp p rfl
    rw [q, e1] at e; cases e; cases hd

/- the relation at the head of a turn -/
theorem comp_head (G : GoodCx hb g c nm) (R : Rel c F T o σ s) {sc : Scope} {x : Str} {kx : Nat} (hx : varIx x = some kx) (S : CompSc nm sc x) {cl : List (Str × Addr)} {L : Addr} (hcl : ∀ y a, cl.lookup y = some a → c.env.cells.lookup y = some a) (hfree : ∀ y, (y, NameKind.free) ∈ sc.names → ∃ a, cl.lookup y = some a)
    (hL : s.heap.get? L = none) {F' : FM} {T' : List (Addr × Obj)} {p : Option Pot} {s' : Shared} (same : ∃ h t, s' = { s with heap := h, toks := t }) (fro : F'.ins s'.heap) (le : F.le F') (fnew : ∀ a ob, F' a = some ob → F a = some ob ∨ s.heap.get? a = none)
    (tmp : ∀ q ∈ T', s'.heap.get? q.1 = some q.2) (kept : ∀ a ob, s.heap.get? a = some ob → (p ≠ none → a ≠ c.g.P) → s'.heap.get? a = some ob) (hns : ∃ m, s'.heap.Ns L m) (hp : ∀ q, p = some q → PotRel c.g F' q s'.heap)
    (offL : F' L = none ∧ ∀ q ∈ T', q.1 ≠ L) (offT : ∀ q ∈ T', F' q.1 = none ∧ s.heap.get? q.1 = none) (hpb : p.isSome = c.hp) (o' : Nat → Addr) :
    Rel (compCx c F s sc cl L) F' T' o' ⟨(kx, .gone) :: immOnly σ.loc, p⟩ s' := by
  have hget : ∀ k lv, St.get ⟨(kx, .gone) :: immOnly σ.loc, p⟩ k = some lv → lv.isOwn = false := fun k lv e => by
    replace e : getL k ((kx, .gone) :: immOnly σ.loc) = some lv := e
    cases hb : Nat.beq k kx with
    | true => rw [getL_hit hb] at e; cases e; rfl
    | false =>
      rw [getL_miss hb, getL_imm] at e
      cases e2 : getL k σ.loc with
      | none => rw [e2] at e; cases e
      | some lv' => rw [e2] at e; cases e; cases lv' <;> rfl
  have noOwn : ∀ k, ¬ Owned ⟨(kx, .gone) :: immOnly σ.loc, p⟩ k := fun k ⟨lv, e, q⟩ => by rw [hget k lv e] at q; cases q
  have newNone : ∀ a ob, s.heap.get? a = some ob → F a = none → F' a = none := fun a ob e hf => by
    cases h : F' a with
    | none => rfl
    | some ob' =>
      rcases fnew _ _ h with q | q
      · rw [q] at hf; cases hf
      · rw [q] at e; cases e
  have hpp : p ≠ none → σ.pot ≠ none := fun h e => by
    have := R.potB
    rw [e, ← hpb] at this
    cases p with
    | none => exact h rfl
    | some q => cases this
  obtain ⟨obP, hobP⟩ := R.pAt
  have keepC : ∀ a ov, s.heap.IsCell a ov → s'.heap.IsCell a ov := fun a ov hc => by
    obtain ⟨ob, e, hd⟩ := id hc
    exact ⟨ob, kept a ob e (fun h => pot_cell hc R.pot (hpp h)), hd⟩
  exact {
    same := same
    fro := fro
    f0 := le
    fnew := fnew
    tmp := tmp
    kept := kept
    ns := by
      obtain ⟨m, hm⟩ := hns
      refine ⟨m, hm, fun y k hy hk => ?_⟩
      have hy' : (relab nm sc.names).lookup y = some .local := by
        rw [← comp_names G sc cl L]; exact hy
      rw [lookup_relab] at hy'
      cases e : sc.names.lookup y with
      | none => rw [e] at hy'; cases hy'
      | some kd =>
        rw [e] at hy'
        have : y = x := by
          rcases S.each y kd (lookup_mem e) with ⟨_, h | h⟩ | rfl | ⟨rfl, h2, _⟩
          · exact h
          · rw [h] at hk; cases hk
          · simp at hy'
          · rw [h2] at hy'; simp at hy'
        subst this
        rw [hx] at hk; cases hk
        show LocRel _ _ _ _ _ (getL kx ((kx, .gone) :: _))
        rw [getL_hit (beq_self kx)]; trivial
    cel := fun y k hy hk => by
      have hy' : (relab nm sc.names).lookup y = some .cell := by
        rw [← comp_names G sc cl L]; exact hy
      rw [lookup_relab] at hy'
      cases e : sc.names.lookup y with
      | none => rw [e] at hy'; cases hy'
      | some kd =>
        rw [e] at hy'
        obtain ⟨h2, h3⟩ : nm.lookup y = some .cell ∧ (y, NameKind.free) ∈ sc.names := by
          rcases S.each y kd (lookup_mem e) with ⟨rfl, _⟩ | rfl | ⟨rfl, h2, _⟩
          · simp at hy'
          · simp at hy'
          · exact ⟨h2, lookup_mem e⟩
        obtain ⟨a, ov, ha, hc, r⟩ := R.cel y k (by rw [G.kindOf]; exact h2) hk
        obtain ⟨a', ha'⟩ := hfree y h3
        have := hcl y a' ha'
        rw [ha] at this; cases this
        refine ⟨a, ov, ha', keepC a ov hc, ?_⟩
        show LocRel _ _ _ _ _ (getL k ((kx, .gone) :: immOnly σ.loc))
        cases hb : Nat.beq k kx with
        | true => rw [getL_hit hb]; trivial
        | false =>
          rw [getL_miss hb, getL_imm]
          have r' : LocRel c.g F o k ov (getL k σ.loc) := r
          cases e2 : getL k σ.loc with
          | none => trivial
          | some lv =>
            rw [e2] at r'
            cases lv with
            | imm v => obtain ⟨z, e3, r3⟩ := r'; exact ⟨z, e3, r3.mono le⟩
            | own _ => trivial
            | odic _ => trivial
            | gone => trivial
    own := fun k vs e => by have := hget k _ e; cases this
    dct := fun k vs e => by have := hget k _ e; cases this
    off := fun k hk => absurd hk (noOwn k)
    inj := fun k k' hk => absurd hk (noOwn k)
    pot := hp
    hP := ⟨obP, hobP⟩
    offP := fun h => ⟨newNone _ _ hobP (R.offP (hpp h)).1, fun q hq e => by
      have := (offT q hq).2; rw [e] at this
      have h2 : s.heap.get? c.g.P = none := this
      rw [hobP] at h2; cases h2⟩
    offL := ⟨offL.1, offL.2, hL⟩
    offC := fun y a ha => by
      have ha' := hcl y a ha
      obtain ⟨⟨ov, hc⟩, h2, h3, h4, _⟩ := R.offC y a ha'
      obtain ⟨ob, e, _⟩ := id hc
      refine ⟨⟨ov, keepC a ov hc⟩, newNone _ _ e h2, fun q hq e' => ?_, fun e' => ?_, fun h => (by cases h)⟩
      · have := (offT q hq).2; rw [e', e] at this; cases this
      · have e2 : a = L := e'
        rw [e2, hL] at e; cases e
    injC := fun y z a hy hz => R.injC y z a (hcl y a hy) (hcl z a hz)
    offT := offT
    potB := hpb }
end
end Mine
end

section
open PySem PySem.W PyProof.Rows PyProof.Rows.LSm
set_option Elab.async false
set_option maxRecDepth 100000
set_option tactic.hygienic false
set_option linter.unusedVariables false
set_option linter.unusedSimpArgs false
namespace Mine

section
variable {prog : Program} {w : World} {hb : Heap} {mg mb : Str → Option Value} {g : GP} {n : Nat} {C : Calls} {nm : Names}
variable {c : Cx} {F : FM} {T : List (Addr × Obj)} {o : Nat → Addr} {σ σ' : St} {s : Shared} {A : Around} {Qc : Value → Shared → Prop} {E : Value → Shared → Prop}

noncomputable def TestsOk (prog : Program) (w : World) (hb : Heap) (g : GP) (n : Nat) (C : Calls) (nm : Names) (fs : List Expr) (xs : List X) : Prop :=
  (fs = [] ∧ xs = []) ∨ ∃ f x, fs = [f] ∧ xs = [x] ∧ SoundT prog w hb g n C nm f x

theorem tests_sound {fs : List Expr} {xs : List X} (h : TestsOk prog w hb g n C nm fs xs) (hr : Room n A) (G : GoodCx hb g c nm) (R : Rel c F T o σ s) {Q : Bool → St → Prop} (hw : wpTs C xs Q σ) {Qb : Bool → Shared → Prop}
    (hq : ∀ F' s' b σ', F.le F' → Rel c F' T o σ' s' → Q b σ' → Qb b s') :
    wpAny (model prog w) A (forIn fs true fun e r => if r = true then do let ok ← isTrue e c.env (eval e c.env); pure (ForInStep.yield ok) else pure (ForInStep.yield r)) Qb E s := by
  rcases h with ⟨rfl, rfl⟩ | ⟨f, x, rfl, rfl, hf⟩
  · rw [List.forIn_nil]
    exact wpAny_pure (hq F s true σ (FM.le.refl F) R hw)
  · rw [List.forIn_cons]
    refine wpAny_bind (wpAny_bind (hf A c F T o σ s _ _ E hr G R hw fun F' s' v σ' l R' q => ?_))
    obtain ⟨b, rfl, q⟩ := truthP_inv q
    refine ⟨b, rfl, wpAny_pure ?_⟩
    show wpAny _ _ (forIn [] b _) _ _ _
    rw [List.forIn_nil]
    exact wpAny_pure (hq F' s' b σ' l R' q)

/- a name of the frame is stored -/
theorem store_local {x : Str} {k : Nat} {v : Value} {lv : LV} {Qu : Unit → Shared → Prop} (G : GoodCx hb g c nm) (R : Rel c F T o σ s) (hx : nm.lookup x = some .local) (hk : varIx x = some k) (Go : Got c F T o σ s v lv)
    (hq : ∀ s', Rel c F T (putO o k v lv) (σ.set k lv) s' → Qu () s') : wpAny (model prog w) A (storeName c.env x v) Qu E s := by
  obtain ⟨m, hm, _⟩ := R.ns
  have hx' : c.env.kindOf x = some .local := by rw [G.kindOf]; exact hx
  refine wpAny_storeName_local hx' hm (fun h' hn hs => hq _ (R.storeL G.nmok hx' hk Go (fun m' hm' => ns_unique hm hm' ▸ hn) hs)) ?_
  rw [G.kind]; rfl
theorem store_cell {x : Str} {k : Nat} {v : Value} {lv : LV} {Qu : Unit → Shared → Prop} (G : GoodCx hb g c nm) (hwr : c.wr = true) (R : Rel c F T o σ s) (hx : nm.lookup x = some .cell) (hk : varIx x = some k) (Go : Got c F T o σ s v lv)
    (hq : ∀ s', Rel c F T (putO o k v lv) (σ.set k lv) s' → Qu () s') : wpAny (model prog w) A (storeName c.env x v) Qu E s := by
  have hx' : c.env.kindOf x = some .cell := by rw [G.kindOf]; exact hx
  obtain ⟨a, ov, ha, hc, _⟩ := R.cel x k hx' hk
  exact wpAny_storeName_cell G.kind hx' ha hc fun h' hv hs => hq _ (R.storeC G.nmok hwr hx' hk Go ha hv hs (t := s.toks))

/- where a comprehension's loop stands -/
inductive CompInv (c' : Cx) (F : FM) (D I : Addr) (kx : Nat) (loc : List (Nat × LV)) (items : List V) (St : Nat → Heap → Prop) (W : List V → List V → Option Pot → Prop) (k : Nat) (s : Shared) : Prop
  | mk (rest done acc : List V) (us : List Value) (m : Nat) (F' : FM) (p : Option Pot) (oI : Obj) (hk : rest.length = k) (hi : items = done ++ rest) (R : Rel c' F' [(D, lstO us m), (I, oI)] (fun zz => 0) ⟨(kx, .gone) :: loc, p⟩ s)
    (hle : F.le F') (hacc : RepAll c'.g F' us acc) (hst : St done.length s.heap) (hal : acc.length ≤ done.length) (hw : W rest acc p)

theorem Src.keepR {I : Addr} {items : List V} {P : Nat → Value → Prop} {St : Nat → Heap → Prop} {fp : List Addr} (Sr : Src prog w A g F I items P St fp) {c' : Cx} {F1 F2 : FM} {T1 T2 : List (Addr × Obj)} {z1 z2 : Nat → Addr} {σ1 σ2 : Mine.St} {s1 s2 : Shared} {oI : Obj} {i : Nat}
    (R1 : Rel c' F1 T1 z1 σ1 s1) (R2 : Rel c' F2 T2 z2 σ2 s2) (m1 : (I, oI) ∈ T1) (m2 : (I, oI) ∈ T2) (l1 : F.le F1) (l2 : F.le F2) (hs : St i s1.heap) : St i s2.heap := by
  refine Sr.walk.frame _ _ _ hs fun b hb ob e => ?_
  rcases Sr.foot b hb with rfl | ⟨ob', hob⟩
  · have e1 := R1.tmp _ m1
    rw [e] at e1; cases e1; exact R2.tmp _ m2
  · have e1 := R1.fro _ _ (l1 _ _ hob)
    rw [e] at e1; cases e1; exact R2.fro _ _ (l2 _ _ hob)

section
variable {D I : Addr} {oD oI : Obj} {h' : Heap} {t : Nat}
theorem Rel.dropI (R : Rel c F [(D, oD), (I, oI)] o σ s) (hID : I ≠ D) (keep : ∀ a x, a ∉ [I] → s.heap.get? a = some x → h'.get? a = some x) : Rel c F [(D, oD)] o σ { s with heap := h', toks := t } :=
  R.updT (.tail _ (.head _)) (fun q hq => by rw [List.mem_singleton.mp hq]; exact .inr ⟨.head _, Ne.symm hID⟩) fun a x q e => keep a x (fun h => q (List.mem_singleton.mp h)) e
theorem Rel.updI (R : Rel c F [(D, oD), (I, oI)] o σ s) (hID : I ≠ D) {oI' : Obj} (hI : h'.get? I = some oI') (keep : ∀ a x, a ∉ [I] → s.heap.get? a = some x → h'.get? a = some x) : Rel c F [(D, oD), (I, oI')] o σ { s with heap := h', toks := t } :=
  R.updT (.tail _ (.head _)) (fun q hq => by
    rcases List.mem_cons.mp hq with rfl | hq
    · exact .inr ⟨.head _, Ne.symm hID⟩
    · rw [List.mem_singleton.mp hq]; exact .inl ⟨rfl, hI⟩) fun a x q e => keep a x (fun h => q (List.mem_singleton.mp h)) e
theorem Rel.updD (R : Rel c F [(D, oD), (I, oI)] o σ s) (hID : I ≠ D) {oD' : Obj} (hD : h'.get? D = some oD') (keep : ∀ a, a ≠ D → h'.get? a = s.heap.get? a) : Rel c F [(D, oD'), (I, oI)] o σ { s with heap := h', toks := t } :=
  R.updT (.head _) (fun q hq => by
    rcases List.mem_cons.mp hq with rfl | hq
    · exact .inl ⟨rfl, hD⟩
    · rw [List.mem_singleton.mp hq]; exact .inr ⟨.tail _ (.head _), hID⟩) fun a x q e => (keep a q).trans e
end
theorem push_lstO {us : List Value} {v : Value} {m : Nat} : ({ cls := .type "list", data := .seq (us.toArray.push v) m } : Obj) = lstO (us ++ [v]) m := by simp [lstO]
theorem set_gone {kx : Nat} {lv lv' : LV} {loc : List (Nat × LV)} {p : Option Pot} : (⟨(kx, lv) :: loc, p⟩ : Mine.St).set kx lv' = ⟨(kx, lv') :: loc, p⟩ := by
  show (⟨setL kx lv' ((kx, lv) :: loc), p⟩ : Mine.St) = _
  rw [setL_hit (beq_self kx)]
section
variable {items done rest : List V} {d d' : V}
theorem ap_len (h : items = done ++ []) : done.length = items.length := by rw [h, List.append_nil]
theorem ap_lt (h : items = done ++ d :: rest) : done.length < items.length := by rw [h, List.length_append]; exact Nat.lt_add_of_pos_right (Nat.succ_pos _)
theorem ap_at (h : items = done ++ d :: rest) (h' : items[done.length]? = some d') : d' = d := by
  rw [h, List.getElem?_append_right (Nat.le_refl _), Nat.sub_self] at h'
  exact (Option.some.inj h').symm
theorem ap_one (h : items = done ++ d :: rest) : items = (done ++ [d]) ++ rest := by rw [h, List.append_assoc]; rfl
end

/- the loop, from any frame -/
theorem comp_go {c' : Cx} {nm' : Names} (G' : GoodCx hb c'.g c' nm') {x : Str} {kx : Nat} (hx : varIx x = some kx) (hxl : nm'.lookup x = some .local) {loc : List (Nat × LV)}
    (hgo : ∀ (F5 : FM) (T5 : List (Addr × Obj)) (σ5 : Mine.St) (s5 : Shared), F.le F5 → Rel c' F5 T5 (fun zz => 0) σ5 s5 → Rel c' F5 T5 (fun zz => 0) ⟨(kx, .gone) :: loc, σ5.pot⟩ s5) {D I : Addr} (hID : I ≠ D)
    {elt it : Expr} {fs : List Expr} {px : Pos} {pos : Pos} {sc : Scope} {ex : X} {xfs : List X} (hr : Room n A) (he : SoundE prog w hb c'.g n C nm' elt ex) (hf : TestsOk prog w hb c'.g n C nm' fs xfs)
    {items : List V} {P : Nat → Value → Prop} {St : Nat → Heap → Prop} {fp : List Addr} (Sr : Src prog w A c'.g F I items P St fp) {K : List V → Option Pot → Prop} {RR : Result → Shared → Prop} (hsz : items.length < 2 ^ 20)
    (hRR : ∀ F' us vs m p s', Rel c' F' [(D, lstO us m)] (fun zz => 0) ⟨(kx, .gone) :: loc, p⟩ s' → F.le F' → RepAll c'.g F' us vs → K vs p → RR (.ok .next) s') {k : Nat} {s' : Shared}
    (hi : CompInv c' F D I kx loc items St (fun rest acc p => compL (fun Q σ => wpE C ex Q σ) (fun Q σ => wpTs C xfs Q σ) kx loc rest acc p K) k s') :
    codeAny (model prog w) A (.compLoop (.ListComp elt [⟨.Name x px, it, fs, 0⟩] sc pos) 0 (.ref I) (.ref D) c'.env) RR s' := by
  refine codeAny_compLoop_tests (CompInv c' F D I kx loc items St (fun rest acc p => compL (fun Q σ => wpE C ex Q σ) (fun Q σ => wpTs C xfs Q σ) kx loc rest acc p K)) ?_ k hi
  clear hi
  intro k s1 h
  cases h
  subst hk
  cases rest with
  | nil =>
    rw [ap_len hi] at hst
    exact Sr.walk.done s1 _ _ hst fun h' tk hk => hRR F' us acc m p _ (R.dropI hID hk) hle hacc hw
  | cons d rest =>
    have hlt := ap_lt hi
    refine Sr.walk.item done.length s1 _ _ hlt hst fun v h' tk hP hst' hk => ?_
    obtain ⟨d', hd', rv⟩ := Sr.item _ _ hlt hP
    cases ap_at hi hd'
    obtain ⟨oI', hI', _⟩ := Sr.live _ _ hst'
    have R2 := R.updI (t := tk) hID hI' hk
    refine wpAny_assign_Name (store_local (c := c') G' R2 hxl hx (.imm (rv.mono hle)) fun s3 R3 => ?_)
    rw [set_gone] at R3
    have hst3 := Sr.keepR R2 R3 (.tail _ (.head _)) (.tail _ (.head _)) hle hle hst'
    refine tests_sound (c := c') hf hr G' R3 hw fun F4 s4 b σ4 l4 R4 hw4 => ?_
    have hle4 := hle.trans l4
    have hl1 : (done ++ [d]).length = done.length + 1 := List.length_append
    cases b with
    | false =>
      exact ⟨rest.length, Nat.lt_succ_self _, .mk rest (done ++ [d]) acc us m F4 σ4.pot oI' rfl (ap_one hi) (hgo _ _ _ _ hle4 R4) hle4 (hacc.mono l4) (hl1 ▸ Sr.keepR R3 R4 (.tail _ (.head _)) (.tail _ (.head _)) hle hle4 hst3) (hl1 ▸ Nat.le_succ_of_le hal) (hw4.2 rfl)⟩
    | true =>
      refine he A c' F4 _ _ σ4 s4 _ _ _ hr G' R4 (hw4.1 rfl) fun F5 s5 val vv σ5 l5 R5 r5 q5 => ?_
      have hle5 := hle4.trans l5
      refine append_at (R5.tmp (D, lstO us m) (.head _)) (fun h6 hs6 hD6 => ?_) (by rw [List.size_toArray, hacc.length]; exact Nat.le_trans hal (Nat.le_trans (Nat.le_of_lt (Nat.lt_trans hlt hsz)) (by decide)))
      have R6 := R5.updD (t := s5.toks) hID hD6 hs6.2
      rw [push_lstO] at R6
      exact ⟨rest.length, Nat.lt_succ_self _, .mk rest (done ++ [d]) (acc ++ [vv]) (us ++ [val]) (m + 1) F5 σ5.pot oI' rfl (ap_one hi) (hgo _ _ _ _ hle5 R6) hle5 (((hacc.mono l4).mono l5).append (.cons r5 .nil)) (hl1 ▸ Sr.keepR R3 R6 (.tail _ (.head _)) (.tail _ (.head _)) hle hle5 hst3) (by rw [hl1, List.length_append]; exact Nat.succ_le_succ hal) q5⟩

/- the loop of a comprehension -/
theorem comp_loop (G : GoodCx hb g c nm) (R : Rel c F T o σ s) {sc : Scope} {x : Str} {kx : Nat} (hx : varIx x = some kx) (hxl : sc.names.lookup x = some .local) (S : CompSc nm sc x) {cl : List (Str × Addr)} {L D I : Addr}
    (hcl : ∀ y a, cl.lookup y = some a → c.env.cells.lookup y = some a) (hfree : ∀ y, (y, NameKind.free) ∈ sc.names → ∃ a, cl.lookup y = some a)
    (hL : s.heap.get? L = none) (hD : s.heap.get? D = none) (hI : s.heap.get? I = none) (hID : I ≠ D)
    {elt it : Expr} {fs : List Expr} {px : Pos} {pos : Pos} {ex : X} {xfs : List X} (hr : Room n A) (he : SoundE prog w hb g n C (relab nm sc.names) elt ex) (hf : TestsOk prog w hb g n C (relab nm sc.names) fs xfs)
    {items : List V} {P : Nat → Value → Prop} {St : Nat → Heap → Prop} {fp : List Addr} (Sr : Src prog w A c.g F I items P St fp) {K : List V → Option Pot → Prop} {RR : Result → Shared → Prop} (hsz : items.length < 2 ^ 20)
    (hRR : ∀ F' us vs m p s', Rel (compCx c F s sc cl L) F' [(D, lstO us m)] (fun zz => 0) ⟨(kx, .gone) :: immOnly σ.loc, p⟩ s' → F.le F' → RepAll c.g F' us vs → K vs p → RR (.ok .next) s')
    (rest done acc : List V) (us : List Value) (m : Nat) (F' : FM) (p : Option Pot) (oI : Obj) (s' : Shared) (hi : items = done ++ rest) (R' : Rel (compCx c F s sc cl L) F' [(D, lstO us m), (I, oI)] (fun zz => 0) ⟨(kx, .gone) :: immOnly σ.loc, p⟩ s')
    (hle : F.le F') (hacc : RepAll c.g F' us acc) (hst : St done.length s'.heap) (hal : acc.length ≤ done.length)
    (hw : compL (fun Q σ => wpE C ex Q σ) (fun Q σ => wpTs C xfs Q σ) kx (immOnly σ.loc) rest acc p K) :
    codeAny (model prog w) A (.compLoop (.ListComp elt [⟨.Name x px, it, fs, 0⟩] sc pos) 0 (.ref I) (.ref D) (compEnvC sc cl L c.env)) RR s' := by
  have gg := G.g
  subst gg
  exact comp_go (c' := compCx c F s sc cl L) (comp_good G R S cl L) hx (by rw [lookup_relab, hxl]; rfl) (fun F5 T5 σ5 s5 l5 R5 =>
    comp_head G R hx S hcl hfree hL R5.same R5.fro l5 R5.fnew R5.tmp R5.kept (R5.ns.elim fun m h => ⟨m, h.1⟩) R5.pot ⟨R5.offL.1, R5.offL.2.1⟩ R5.offT R5.potB _) hID hr he hf Sr hsz hRR (.mk rest done acc us m F' p oI rfl hi R' hle hacc hst hal hw)
end
end Mine
end

section
open PySem PySem.W PyProof.Rows PyProof.Rows.LSm
set_option Elab.async false
set_option maxRecDepth 100000
set_option tactic.hygienic false
set_option linter.unusedVariables false
set_option linter.unusedSimpArgs false
namespace Mine

section
variable {prog : Program} {w : World} {hb : Heap} {mg mb : Str → Option Value} {g : GP} {n : Nat} {C : Calls} {nm : Names}
variable {c : Cx} {F : FM} {T : List (Addr × Obj)} {o : Nat → Addr} {σ σ' : St} {s : Shared} {A : Around} {Qc : Value → Shared → Prop} {E : Value → Shared → Prop}

theorem comp_core {elt it : Expr} {fs : List Expr} {x : Str} {px pos : Pos} {sc : Scope} {ex xit : X} {xfs : List X} {kx : Nat} (hit : SoundE prog w hb g n C nm it xit) (he : SoundE prog w hb g n C (relab nm sc.names) elt ex)
    (hf : TestsOk prog w hb g n C (relab nm sc.names) fs xfs) (hx : varIx x = some kx) (hxl : sc.names.lookup x = some .local) (S : CompSc nm sc x) (hfold : ∀ env v, foldedSetIterable it env v = pure v)
    {A : Around} {c : Cx} {F : FM} {T : List (Addr × Obj)} {o : Nat → Addr} {σ : St} {s : Shared} {Q : V → St → Prop} {Qc : Value → Shared → Prop} {E : Value → Shared → Prop} {use : Option (Value → Sem Unit)}
    (hr : Room n A) (G : GoodCx hb g c nm) (R : Rel c F T o σ s) (hw : wpE C (.comp ex kx xit xfs) Q σ)
    (hq : ∀ F' s' D L obL vs σ', F.le F' → Rel c F' ((L, obL) :: T) o σ' s' → (∀ q ∈ T, q.1 ≠ L) → (∃ m, s'.heap.Ns L m) → Rep g F' (.ref D) (.lst vs) → Q (.lst vs) σ' → compPost (model prog w) A E use Qc (.ref D) L (.ok .next) s') :
    wpAny (model prog w) A (comprehension (.ListComp elt [⟨.Name x px, it, fs, 0⟩] sc pos) sc c.env (firstIterPos [⟨.Name x px, it, fs, 0⟩] pos) (newList []) (firstAsync [⟨.Name x px, it, fs, 0⟩]) (firstIter [⟨.Name x px, it, fs, 0⟩] c.env) use) Qc E s := by
  have gg := G.g
  subst gg
  obtain ⟨cl, hclos, hcl, hfree⟩ := clos_ok c.env sc fun y hy => by
    rcases S.each y _ hy with ⟨h, _⟩ | h | ⟨_, h2, i, hi⟩
    · cases h
    · cases h
    · obtain ⟨a, ov, ha, _⟩ := R.cel y i (by rw [G.kindOf]; exact h2) hi
      exact ⟨a, ha⟩
  have hcell : ∀ y ∈ sc.names, y.2 ≠ .cell := fun y hy e => by
    rcases S.each y.1 y.2 hy with ⟨h, _⟩ | h | ⟨h, _⟩ <;> rw [h] at e <;> cases e
  refine wpAny_comprehension_free (use := use) rfl (hfold c.env) hclos S.kind (fun y hy hl => mem_lookup S.nodup (by rw [← hl]; exact hy))
    (hit A c F T o σ s _ _ E hr G R hw fun F1 s1 va da σ1 l1 R1 r1 q1 => ?_)
  refine iter_sound hr.handled R1 r1 q1 fun s2 items I P St fp hkeep hI R2 Sr hst hK => ?_
  obtain ⟨hsz, hK⟩ := hK
  obtain ⟨oI, hoI, _⟩ := Sr.live _ _ hst
  refine wpAny_newObj_type (wpAny_newFunctionEnv hcell (by intro y hy; simp at hy) (fun h₁ hns₁ hsb₁ => ?_) S.kind)
  dsimp only at hns₁ hsb₁ ⊢
  generalize hH2 : s2.heap.push { cls := .type "list", dict := none, data := .seq ([] : List Value).toArray } = H2 at hns₁ hsb₁ ⊢
  have hLsz : H2.objs.size = s2.heap.objs.size + 1 := by rw [← hH2, Heap.size_push]
  have none2 : ∀ a, s2.heap.objs.size ≤ a → s1.heap.get? a = none := fun a ha => by
    cases e : s1.heap.get? a with
    | none => rfl
    | some ob => exact absurd (Heap.lt_size (hkeep _ _ e)) (Nat.not_lt.mpr ha)
  have hDn : s1.heap.get? s2.heap.objs.size = none := none2 _ (Nat.le_refl _)
  have hLn : s1.heap.get? H2.objs.size = none := none2 _ (by rw [hLsz]; exact Nat.le_succ _)
  have hIlt : I < s2.heap.objs.size := Heap.lt_size hoI
  have hID : I ≠ s2.heap.objs.size := Nat.ne_of_lt hIlt
  have hIL : I ≠ H2.objs.size := by rw [hLsz]; exact Nat.ne_of_lt (Nat.lt_succ_of_lt hIlt)
  have hDL : s2.heap.objs.size ≠ H2.objs.size := by rw [hLsz]; exact Nat.ne_of_lt (Nat.lt_succ_self _)
  have keep2 : ∀ a ob, s2.heap.get? a = some ob → h₁.get? a = some ob := fun a ob e =>
    hsb₁.extBut a ob (by rw [hLsz]; exact Nat.ne_of_lt (Nat.lt_succ_of_lt (Heap.lt_size e))) (Heap.get?_push_of_some _ (hH2 ▸ Heap.get?_push_of_some _ e))
  have hDo : h₁.get? s2.heap.objs.size = some (lstO [] 0) := hsb₁.extBut _ _ hDL (Heap.get?_push_of_some _ (hH2 ▸ Heap.get?_push_size _ rfl))
  have oD := R1.offNew hDn
  have oL := R1.offNew hLn
  have oIo := R1.offNew hI
  have loop : ∀ s₃ : Shared, s₃ = { s2 with heap := h₁, toks := s2.toks + ([] : List (Str × Value)).length } →
      codeAny (model prog w) A (.compLoop (.ListComp elt [⟨.Name x px, it, fs, 0⟩] sc pos) 0 (.ref I) (.ref s2.heap.objs.size) (compEnvC sc cl H2.objs.size c.env)) (compPost (model prog w) A E use Qc (.ref s2.heap.objs.size) H2.objs.size) s₃ := by
    rintro s₃ rfl
    have R3 : Rel (compCx c F1 s1 sc cl H2.objs.size) F1 [(s2.heap.objs.size, lstO [] 0), (I, oI)] (fun zz => 0) ⟨(kx, .gone) :: immOnly σ1.loc, σ1.pot⟩ { s2 with heap := h₁, toks := s2.toks + ([] : List (Str × Value)).length } := by
      refine comp_head G R1 hx S hcl hfree hLn ?_ (fun a ob e => keep2 _ _ (R2.fro _ _ e)) (FM.le.refl _) (fun zz zz e => .inl e) (fun q hq => ?_) (fun a ob e zz => keep2 _ _ (hkeep _ _ e)) ⟨_, hns₁⟩
        (fun q e => (R2.pot q e).mono (FM.le.refl _) fun ob => keep2 _ ob) ⟨oL.f, fun q hq => ?_⟩ (fun q hq => ?_) R1.potB _
      · obtain ⟨h2, t2, e2⟩ := R2.same
        obtain ⟨h1, t1, e1⟩ := R1.same
        exact ⟨h₁, _, by rw [e2, e1]⟩
      · rcases List.mem_cons.mp hq with rfl | hq
        · exact hDo
        · rw [List.mem_singleton.mp hq]; exact keep2 _ _ hoI
      · rcases List.mem_cons.mp hq with rfl | hq
        · exact hDL
        · rw [List.mem_singleton.mp hq]; exact hIL
      · rcases List.mem_cons.mp hq with rfl | hq
        · exact ⟨oD.f, hDn⟩
        · rw [List.mem_singleton.mp hq]; exact ⟨oIo.f, hI⟩
    refine comp_loop G R1 hx hxl S hcl hfree hLn hDn hI hID hr he hf Sr hsz ?_ items [] [] [] 0 F1 σ1.pot oI _ rfl R3 (FM.le.refl _) .nil (Sr.walk.frame _ _ _ hst fun b zz ob e => keep2 _ _ e) (Nat.le_refl _) hK
    intro F' us vs m p s' R' hle hacc hKv
    have hD' : F' s2.heap.objs.size = none := (R'.offT _ (List.mem_singleton.mpr rfl)).1
    have hDs := R'.tmp _ (List.mem_singleton.mpr rfl)
    simp only at hDs
    have l' : F'.le (F'.put s2.heap.objs.size (lstO us m)) := FM.le_put hD'
    obtain ⟨mL, hmL⟩ := R'.ns
    obtain ⟨obL, esL, epL, hobL, hL2⟩ := id hmL.1
    have hLL : (compCx c F1 s1 sc cl H2.objs.size).env.locals = H2.objs.size := rfl
    rw [hLL] at hobL
    have potIff : p.isSome = σ1.pot.isSome := by rw [R1.potB]; exact R'.potB
    have Ro : Rel c (F'.put s2.heap.objs.size (lstO us m)) T o { σ1 with pot := p } s' := by
      obtain ⟨h3, t3, e3⟩ := R'.same
      have e3' : s' = { s1 with heap := h3, toks := t3 } := e3
      have R4 := R1.resume (F' := F'.put s2.heap.objs.size (lstO us m)) (h' := h3) (t := t3) (p' := p) (hle.trans l') (fun a ob e => ?_) (fun a ob e => ?_) (fun a ob e q => ?_) (fun e => ?_) (fun q e => ?_) (fun e => ?_)
      · rw [e3']; exact R4
      · unfold FM.put at e
        by_cases hb : a = s2.heap.objs.size
        · rw [if_pos hb] at e; cases e; rw [hb]; rw [e3'] at hDs; exact hDs
        · rw [if_neg hb] at e; have := R'.fro _ _ e; rw [e3'] at this; exact this
      · unfold FM.put at e
        by_cases hb : a = s2.heap.objs.size
        · right; rw [hb]; exact hDn
        · rw [if_neg hb] at e; exact R'.fnew _ _ e
      · have := R'.kept a ob e fun hp => q fun h => by rw [h] at potIff; cases p with | none => exact hp rfl | some _ => cases potIff
        rw [e3'] at this; exact this
      · rw [e] at potIff; cases p with | none => rfl | some _ => cases potIff
      · have := (R'.pot q e).mono (F' := F'.put s2.heap.objs.size (lstO us m)) l' fun ob h => h
        rw [e3'] at this; exact this
      · intro h; rw [h] at potIff; cases hs : σ1.pot with | none => exact e hs | some _ => rw [hs] at potIff; cases potIff
    have oL' : Off c (F'.put s2.heap.objs.size (lstO us m)) T H2.objs.size := ⟨by rw [FM.put_ne _ _ (Ne.symm hDL)]; exact R'.offL.1, oL.t, oL.l, oL.ce, oL.p, oL.h⟩
    exact hq _ s' s2.heap.objs.size H2.objs.size obL vs _ ((l1.trans hle).trans l') (Ro.addT hobL oL' fun k hk => R1.ownNe hLn hk) oL.t ⟨mL, hmL.1⟩ (.lst (FM.put_self ..) (hacc.mono l')) hKv
  have hst₁ : St 0 h₁ := Sr.walk.frame _ _ _ hst fun b zz ob e => keep2 _ _ e
  exact codeAny_compStart_list (loop _ rfl) (Sr.walk.self 0 _ _ _ hst₁ (loop _ rfl))

theorem comp_close {L : Addr} {obL : Obj} (R : Rel c F ((L, obL) :: T) o σ s) (hT : ∀ q ∈ T, q.1 ≠ L) {h' : Heap} (hs : Heap.SameBut L s.heap h') : Rel c F T o σ { s with heap := h' } :=
  R.updT (b := L) (ob := obL) (t := s.toks) (List.mem_cons_self ..) (fun q hq => .inr ⟨List.mem_cons_of_mem _ hq, hT q hq⟩) fun a x q e => (hs.2 a q).trans e

theorem sound_comp {elt it : Expr} {fs : List Expr} {x : Str} {px pos : Pos} {sc : Scope} {ex xit : X} {xfs : List X} {kx : Nat} (hit : SoundE prog w hb g n C nm it xit) (he : SoundE prog w hb g n C (relab nm sc.names) elt ex)
    (hf : TestsOk prog w hb g n C (relab nm sc.names) fs xfs) (hx : varIx x = some kx) (hxl : sc.names.lookup x = some .local) (S : CompSc nm sc x) (hfold : ∀ env v, foldedSetIterable it env v = pure v) :
    SoundE prog w hb g n C nm (.ListComp elt [⟨.Name x px, it, fs, 0⟩] sc pos) (.comp ex kx xit xfs) := by
  intro A c F T o σ s Q Qc E hr G R hw hq
  rw [eval_ListComp]
  refine comp_core (use := none) hit he hf hx hxl S hfold hr G R hw fun F' s' D L obL vs σ' l R' hT ⟨m, hm⟩ r q => ⟨m, hm, fun h' hs => ?_⟩
  exact hq F' _ _ _ σ' l (comp_close R' hT hs) r q
end
end Mine
end

section
open PySem PySem.W PyProof.Rows PyProof.Rows.LSm
set_option Elab.async false
set_option backward.match.sparseCases false
set_option maxRecDepth 100000
set_option linter.unusedVariables false
set_option linter.unusedSimpArgs false
namespace Mine

section
variable (prog : Program) (w : World) (hb : Heap) (mg mb : Str → Option Value) (g : GP)
noncomputable def SoundR (n : Nat) (C : Calls) (nm : Names) (e : Expr) (x : X) : Prop :=
  ∀ (A : Around) (c : Cx) (F : FM) (T : List (Addr × Obj)) (o : Nat → Addr) (σ : St) (s : Shared) (Q : LV → St → Prop) (Qc : Value → Shared → Prop) (E : Value → Shared → Prop),
    Room n A → GoodCx hb g c nm → Rel c F T o σ s → wpR C x Q σ →
    (∀ F' s' val lv σ', F.le F' → Rel c F' T o σ' s' → Got c F' T o σ' s' val lv → Q lv σ' → Qc val s') → wpAny (model prog w) A (eval e c.env) Qc E s
noncomputable def SoundS (n : Nat) (C : Calls) (nm : Names) (st : Stmt) (x : S) : Prop :=
  ∀ (A : Around) (c : Cx) (F : FM) (T : List (Addr × Obj)) (o : Nat → Addr) (σ : St) (s : Shared) (Q : Fl → St → Prop) (Qc : Flow → Shared → Prop) (E : Value → Shared → Prop),
    Room n A → GoodCx hb g c nm → c.wr = true → Rel c F T o σ s → wpS C x Q σ →
    (∀ F' o' s' σ', F.le F' → Rel c F' T o' σ' s' → Q .next σ' → Qc .next s') →
    (∀ F' o' s' σ' val v, F.le F' → Rel c F' T o' σ' s' → Rep g F' val v → Q (.ret v) σ' → Qc (.ret val) s') → wpAny (model prog w) A (exec st c.env) Qc E s
noncomputable def SoundSs (n : Nat) (C : Calls) (nm : Names) (ss : List Stmt) (xs : List S) : Prop :=
  ∀ (A : Around) (c : Cx) (F : FM) (T : List (Addr × Obj)) (o : Nat → Addr) (σ : St) (s : Shared) (Q : Fl → St → Prop) (Qc : Flow → Shared → Prop) (E : Value → Shared → Prop),
    Room n A → GoodCx hb g c nm → c.wr = true → Rel c F T o σ s → wpSs C xs Q σ →
    (∀ F' o' s' σ', F.le F' → Rel c F' T o' σ' s' → Q .next σ' → Qc .next s') →
    (∀ F' o' s' σ' val v, F.le F' → Rel c F' T o' σ' s' → Rep g F' val v → Q (.ret v) σ' → Qc (.ret val) s') → wpAny (model prog w) A (execs ss c.env) Qc E s
end

section
variable {prog : Program} {w : World} {hb : Heap} {mg mb : Str → Option Value} {g : GP} {n : Nat} {C : Calls} {nm : Names}
variable {c : Cx} {F : FM} {T : List (Addr × Obj)} {o : Nat → Addr} {σ σ' : St} {s : Shared} {A : Around} {Qc : Value → Shared → Prop} {E : Value → Shared → Prop}

/- a fresh list is the target's own -/
theorem Rel.ownNew (R : Rel c F T o σ s) {us : List Value} {vs : List V} {m : Nat} {t : Nat} (r : RepAll c.g F us vs) :
    Rel c F T o σ { s with heap := s.heap.push (lstO us m), toks := t } ∧ Got c F T o σ { s with heap := s.heap.push (lstO us m), toks := t } (.ref s.heap.objs.size) (.own vs) :=
  ⟨R.grow fun a x e => Heap.get?_push_of_some _ e, .own (Heap.get?_push_size _ rfl) r (R.offNew (fresh_none (Nat.le_refl _))) fun k hk => R.ownNe (fresh_none (Nat.le_refl _)) hk⟩

theorem soundR_of {e : Expr} {x : X} (h : SoundE prog w hb g n C nm e x) (hx : ∀ (Q : LV → St → Prop) σ, wpR C x Q σ → wpE C x (fun v σ' => Q (.imm v) σ') σ) : SoundR prog w hb g n C nm e x := by
  intro A c F T o σ s Q Qc E hr G R hw hq
  have gg := G.g
  subst gg
  exact h A c F T o σ s _ _ E hr G R (hx Q σ hw) fun F' s' val v σ' l R' r q => hq F' s' val _ σ' l R' (.imm r) q

theorem soundR_lst {es : List Expr} {xs : List X} {pos : Pos} (h : SoundEs prog w hb g n C nm es xs) (hl : es.length ≤ 100) : SoundR prog w hb g n C nm (.List es pos) (.lst xs) := by
  intro A c F T o σ s Q Qc E hr G R hw hq
  have gg := G.g
  subst gg
  refine wpAny_List (h A c F T o σ s pos _ _ E hr G R hw fun F' s' vals vs σ' l R' r hlen q => ?_)
  refine ⟨by rw [hlen]; unfold sizeLine; omega, ?_⟩
  obtain ⟨R2, Go⟩ := R'.ownNew (m := 0) (t := s'.toks) r
  exact hq _ _ _ _ σ' l R2 Go q
theorem soundR_dct {pos : Pos} : SoundR prog w hb g n C nm (.Dict [] [] pos) (.dct [] []) := by
  intro A c F T o σ s Q Qc E hr G R hw hq
  refine wpAny_Dict_empty ?_
  have hfr : s.heap.get? s.heap.objs.size = none := fresh_none (Nat.le_refl _)
  exact hq F _ _ _ σ (FM.le.refl F) (R.grow (t := s.toks) fun a x e => Heap.get?_push_of_some _ e) (.dic ⟨[], [], 0, rfl, Heap.get?_push_size _ rfl, List.nodup_nil, .nil⟩ (R.offNew hfr) fun k hk => R.ownNe hfr hk) hw
theorem soundR_mul {e1 r : Expr} {x b : X} {pos p1 : Pos} (he : SoundE prog w hb g n C nm e1 x) (hns : NoStar e1) (hr' : SoundE prog w hb g n C nm r b) : SoundR prog w hb g n C nm (.BinOp (.List [e1] p1) .Mult r pos) (.bin .Mult (.lst [x]) b) := by
  intro A c F T o σ s Q Qc E hr G R hw hq
  have gg := G.g
  subst gg
  refine wpAny_BinOp (wpAny_List (wpAny_items_cons (he A c F T o σ s _ _ E hr G R hw fun F1 s1 u v σ1 l1 R1 r q1 => wpAny_items_nil ⟨by unfold sizeLine; simp, ?_⟩) (hns _ _)))
  obtain ⟨l1b, R1b⟩ := R1.pushed (t := s1.toks) (lstO [u] 0) rfl
  refine hr' A c _ T o σ1 _ _ _ E hr G R1b q1 fun F2 s2 vb db σ2 l2 R2 r2 q2 => ?_
  cases db <;> try exact q2.elim
  rename_i k
  obtain ⟨⟨h1, h2⟩, q2⟩ := q2
  obtain ⟨t, rfl⟩ := r2.invInt
  obtain ⟨R3, Go⟩ := R2.ownNew (us := List.replicate k.toNat u) (m := 0) (t := s2.toks) (RepAll.replicate k.toNat ((r.mono l1b).mono l2))
  refine mul_list_raw (R2.fro _ _ (l2 _ _ (FM.put_self ..))) h2 (by simp) ?_ (by unfold small at h1; omega)
  rw [flat_one]
  exact hq _ _ _ _ σ2 ((l1.trans l1b).trans l2) R3 Go q2
theorem soundR_ite {t a b : Expr} {xt xa xb : X} {pos : Pos} (ht : SoundT prog w hb g n C nm t xt) (ha : SoundR prog w hb g n C nm a xa) (hb' : SoundR prog w hb g n C nm b xb) : SoundR prog w hb g n C nm (.IfExp t a b pos) (.ite xt xa xb) := by
  intro A c F T o σ s Q Qc E hr G R hw hq
  refine wpAny_IfExp (ht A c F T o σ s _ _ E hr G R hw fun F' s' v σ' l R' q => ?_)
  cases v <;> try exact q.elim
  rename_i c'
  refine ⟨c', rfl, ?_⟩
  cases c' with
  | true => exact ha A c F' T o σ' s' Q Qc E hr G R' (q.1 rfl) fun F'' s'' val v σ'' l' => hq F'' s'' val v σ'' (l.trans l')
  | false => exact hb' A c F' T o σ' s' Q Qc E hr G R' (q.2 rfl) fun F'' s'' val v σ'' l' => hq F'' s'' val v σ'' (l.trans l')

/- statements -/
theorem sound_ret {e : Expr} {x : X} {pos : Pos} (h : SoundE prog w hb g n C nm e x) : SoundS prog w hb g n C nm (.Return (some e) pos) (.ret x) := by
  intro A c F T o σ s Q Qc E hr G hwr R hw hq1 hq2
  exact wpAny_Return_some (h A c F T o σ s _ _ E hr G R hw fun F' s' val v σ' l R' r q => hq2 F' o s' σ' val v l R' r q)
theorem soundSs_nil : SoundSs prog w hb g n C nm [] [] := by
  intro A c F T o σ s Q Qc E hr G hwr R hw hq1 hq2
  exact wpAny_execs_nil (hq1 F o s σ (FM.le.refl F) R hw)
theorem soundSs_cons {st : Stmt} {ss : List Stmt} {x : S} {xs : List S} (h : SoundS prog w hb g n C nm st x) (hs : SoundSs prog w hb g n C nm ss xs) : SoundSs prog w hb g n C nm (st :: ss) (x :: xs) := by
  intro A c F T o σ s Q Qc E hr G hwr R hw hq1 hq2
  refine wpAny_execs_cons (h A c F T o σ s _ _ E hr G hwr R hw (fun F' o' s' σ' l R' q => ?_) fun F' o' s' σ' val v l R' r q => ?_)
  · exact hs A c F' T o' σ' s' Q Qc E hr G hwr R' q (fun F2 o2 s2 σ2 l2 => hq1 F2 o2 s2 σ2 (l.trans l2)) fun F2 o2 s2 σ2 val v l2 => hq2 F2 o2 s2 σ2 val v (l.trans l2)
  · exact hq2 F' o' s' σ' val v l R' r q
theorem sound_iff {t : Expr} {b e : List Stmt} {xt : X} {xb xe : List S} {pos : Pos} (ht : SoundT prog w hb g n C nm t xt) (hb' : SoundSs prog w hb g n C nm b xb) (he : SoundSs prog w hb g n C nm e xe) : SoundS prog w hb g n C nm (.If t b e pos) (.iff xt xb xe) := by
  intro A c F T o σ s Q Qc E hr G hwr R hw hq1 hq2
  refine wpAny_If (ht A c F T o σ s _ _ E hr G R hw fun F' s' v σ' l R' q => ?_)
  cases v <;> try exact q.elim
  rename_i c'
  refine ⟨c', rfl, ?_⟩
  cases c' with
  | true => exact hb' A c F' T o σ' s' Q Qc E hr G hwr R' (q.1 rfl) (fun F2 o2 s2 σ2 l2 => hq1 F2 o2 s2 σ2 (l.trans l2)) fun F2 o2 s2 σ2 val v l2 => hq2 F2 o2 s2 σ2 val v (l.trans l2)
  | false => exact he A c F' T o σ' s' Q Qc E hr G hwr R' (q.2 rfl) (fun F2 o2 s2 σ2 l2 => hq1 F2 o2 s2 σ2 (l.trans l2)) fun F2 o2 s2 σ2 val v l2 => hq2 F2 o2 s2 σ2 val v (l.trans l2)

/- any variable is stored -/
theorem store_var {x : Str} {k : Nat} {v : Value} {lv : LV} {Qu : Unit → Shared → Prop} (G : GoodCx hb g c nm) (hwr : c.wr = true) (R : Rel c F T o σ s) (hx : nm.lookup x = some .local ∨ nm.lookup x = some .cell) (hk : varIx x = some k) (Go : Got c F T o σ s v lv)
    (hq : ∀ s', Rel c F T (putO o k v lv) (σ.set k lv) s' → Qu () s') : wpAny (model prog w) A (storeName c.env x v) Qu E s := by
  rcases hx with hx | hx
  · exact store_local G R hx hk Go hq
  · exact store_cell G hwr R hx hk Go hq

noncomputable def NotComp : Expr → Prop
  | .ListComp .. | .SetComp .. | .DictComp .. => False
  | _ => True
theorem swaps_not {e : Expr} (h : NotComp e) (t : Option Expr) (line : Nat) (env : Env) : swapsWith e t line env = pure false := by
  cases e <;> first | rfl | exact h.elim
theorem sound_asg {x : Str} {k : Nat} {e : Expr} {xe : X} {p pos : Pos} (hx : nm.lookup x = some .local ∨ nm.lookup x = some .cell) (hk : varIx x = some k) (h : SoundR prog w hb g n C nm e xe) (hn : NotComp e) :
    SoundS prog w hb g n C nm (.Assign [.Name x p] e pos) (.asg k xe) := by
  intro A c F T o σ s Q Qc E hr G hwr R hw hq1 hq2
  refine wpAny_Assign_Name (h A c F T o σ s _ _ E hr G R hw fun F' s' val lv σ' l R' Go q => ?_) (swaps_not hn _ _ _)
  exact store_var G hwr R' hx hk Go fun s2 R2 => hq1 F' _ s2 _ l R2 q
end
end Mine
end

section
open PySem PySem.W PyProof.Rows PyProof.Rows.LSm
set_option Elab.async false
set_option maxRecDepth 100000
set_option tactic.hygienic false
set_option linter.unusedVariables false
set_option linter.unusedSimpArgs false
namespace Mine

section
variable {prog : Program} {w : World} {hb : Heap} {mg mb : Str → Option Value} {g : GP} {n : Nat} {C : Calls} {nm : Names}
variable {c : Cx} {F : FM} {T : List (Addr × Obj)} {o : Nat → Addr} {σ σ' : St} {s : Shared} {A : Around} {Qc : Value → Shared → Prop} {E : Value → Shared → Prop}

@[reducible] noncomputable def IsV (nm : Names) (x : Str) : Prop := nm.lookup x = some .local ∨ nm.lookup x = some .cell

theorem eval_plainIx {e : Expr} {i : X} (hi : SoundE prog w hb g n C nm e i) (hr : Room n A) (G : GoodCx hb g c nm) (R : Rel c F T o σ s) {k : Int} (h : plainIx i σ = some k)
    (hq : ∀ F' s' t, F.le F' → Rel c F' T o σ s' → Qc (.int k t) s') : wpAny (model prog w) A (eval e c.env) Qc E s := by
  refine hi A c F T o σ s _ _ E hr G R (plain_ix (C := C) h) fun F' s' val v σ' l R' r q => ?_
  obtain ⟨rfl, rfl⟩ := q
  obtain ⟨_, rfl⟩ := r.invInt
  exact hq F' s' _ l R'

theorem put_own {k : Nat} {vs : List V} {us : List Value} {m : Nat} {i : Int} {t : Tok} {val : Value} {v : V} {Qu : Unit → Shared → Prop} (R : Rel c F T o σ s) (e : σ.get k = some (.own vs)) (h0 : 0 ≤ i) (h1 : i < vs.length) (h2 : small i) (r : Rep c.g F val v)
    (hq : ∀ s', Rel c F T o (σ.set k (.own (vs.set i.toNat v))) s' → Qu () s') : wpAny (model prog w) A (setItem (.ref (o k)) (.int i t) val) Qu E s := by
  obtain ⟨us, m, hg, rr⟩ := R.own k vs e
  have hlen := rr.length
  refine ki_setAt (n := m) hg h0 (by unfold small at h2; omega) (by simp [hlen]; exact h1) ?_
  have hup := Heap.get?_update_self (Obj.mapSeq fun xs => xs.setIfInBounds i.toNat val) hg rfl
  obtain ⟨m', hm'⟩ := mapSeq_lst (f := fun xs => xs.setIfInBounds i.toNat val) (vs := us) (us := us.set i.toNat val) (m := m) (by simp)
  exact hq _ (R.upd (k := k) ⟨_, e, rfl⟩ (lv := .own (vs.set i.toNat v)) rfl (t := s.toks) (Heap.SameBut.update ..) ⟨us.set i.toNat val, m', by rw [hup, hm'], rr.set _ r⟩)

theorem put_dic {k : Nat} {l : List Key} {K : Key} {va : Value} {Qu : Unit → Shared → Prop} (R : Rel c F T o σ s) (e : σ.get k = some (.odic (l.map Key.v))) (ra : Rep c.g F va K.v) (hl : ∀ k ∈ l, k.isT = K.isT) (hu : A.units + 100 < cLine) (hsz : l.length < 2 ^ 10)
    (hq : ∀ s', Rel c F T o (σ.set k (.odic ((addKey l K).map Key.v))) s' → Qu () s') : wpAny (model prog w) A (setItem (.ref (o k)) va (.bool true)) Qu E s := by
  refine odic_set (prog := prog) (w := w) R.fro ra (R.dct k _ e) hl hu hsz fun h' t hd hs => ?_
  exact hq _ (R.upd (k := k) ⟨_, e, rfl⟩ (lv := .odic ((addKey l K).map Key.v)) rfl hs hd)

theorem put_pot {ns : List Int} {at_ sd a : Int} {i : Int} {t u : Tok} {p' : Pot} {Qu : Unit → Shared → Prop} (R : Rel c F T o σ s) (hwr : c.wr = true) (e : σ.pot = some (ns, at_, sd)) (hi : (i = 1 ∧ p' = (ns, a, sd)) ∨ (i = 2 ∧ p' = (ns, at_, a)))
    (hq : ∀ s', Rel c F T o { σ with pot := some p' } s' → Qu () s') : wpAny (model prog w) A (setItem (.ref c.g.P) (.int i t) (.int a u)) Qu E s := by
  obtain ⟨l, vs, m, m', t1, t2, e1, e2, e3⟩ := R.pot _ e
  have hi1 : 0 ≤ i ∧ i < 3 := by rcases hi with ⟨rfl, _⟩ | ⟨rfl, _⟩ <;> decide
  refine ki_setAt (n := m) e1 hi1.1 (by omega) (by simp; omega) ?_
  have hup := Heap.get?_update_self (Obj.mapSeq fun xs => xs.setIfInBounds i.toNat (.int a u)) e1 rfl
  have hc : ∀ x b, c.env.cells.lookup x = some b → b ≠ c.g.P := fun x b hb => R.cellP hwr hb
  rcases hi with ⟨rfl, rfl⟩ | ⟨rfl, rfl⟩
  · obtain ⟨m2, hm2⟩ := mapSeq_lst (f := fun xs => xs.setIfInBounds (1 : Int).toNat (.int a u)) (vs := [Value.ref l, .int at_ t1, .int sd t2]) (us := [Value.ref l, .int a u, .int sd t2]) (m := m) (by simp)
    exact hq _ (R.setPot e (t := s.toks) (Heap.SameBut.update ..) ⟨l, vs, m2, m', u, t2, by rw [hup, hm2], e2, e3⟩ hc)
  · obtain ⟨m2, hm2⟩ := mapSeq_lst (f := fun xs => xs.setIfInBounds (2 : Int).toNat (.int a u)) (vs := [Value.ref l, .int at_ t1, .int sd t2]) (us := [Value.ref l, .int at_ t1, .int a u]) (m := m) (by simp)
    exact hq _ (R.setPot e (t := s.toks) (Heap.SameBut.update ..) ⟨l, vs, m2, m', t1, u, by rw [hup, hm2], e2, e3⟩ hc)

theorem ownVar_inv {k : Nat} {p : List V → Prop} (h : match σ.get k with | some (.own vs) => p vs | _ => False) : ∃ vs, σ.get k = some (.own vs) ∧ p vs := by
  cases e : σ.get k with
  | none => rw [e] at h; exact ff h
  | some lv => rw [e] at h; cases lv with
    | own vs => exact ⟨vs, rfl, h⟩
    | _ => exact ff h
noncomputable def SetD (x : Nat) (v : V) (Q : Fl → St → Prop) (vi : V) (σ₂ : St) : Prop := match σ₂.get x, v with
  | some (.odic ks), .bool true => ∃ (K : Key) (l : List Key), vi = K.v ∧ ks = l.map Key.v ∧ (∀ k ∈ l, k.isT = K.isT) ∧ l.length < 2 ^ 10 ∧ Q .next (σ₂.set x (.odic ((addKey l K).map Key.v)))
  | _, _ => False
theorem setD_inv {x : Nat} {v : V} {Q : Fl → St → Prop} {vi : V} (h : SetD x v Q vi σ) :
    ∃ (K : Key) (l : List Key), σ.get x = some (.odic (l.map Key.v)) ∧ v = .bool true ∧ vi = K.v ∧ (∀ k ∈ l, k.isT = K.isT) ∧ l.length < 2 ^ 10 ∧ Q .next (σ.set x (.odic ((addKey l K).map Key.v))) := by
  unfold SetD at h
  cases e : σ.get x with
  | none => rw [e] at h; exact ff h
  | some lv => rw [e] at h; cases lv with
    | odic ks => cases v with
      | bool b => cases b with
        | true => obtain ⟨K, l, h1, rfl, h2⟩ := h; exact ⟨K, l, rfl, rfl, h1, h2⟩
        | false => exact ff h
      | _ => exact ff h
    | _ => exact ff h
noncomputable def SetPot (x : Nat) (xi : X) (v : V) (Q : Fl → St → Prop) (σ : St) : Prop := match σ.pot, plainIx xi σ, v with
  | some (ns, at_, sd), some n, .int a => (match n with
    | 1 => Q .next { σ with pot := some (ns, a, sd) }
    | 2 => Q .next { σ with pot := some (ns, at_, a) }
    | _ => False)
  | _, _, _ => False
theorem setPot_inv {x : Nat} {xi : X} {v : V} {Q : Fl → St → Prop} (h : SetPot x xi v Q σ) :
    ∃ ns at_ sd n a p', σ.pot = some (ns, at_, sd) ∧ plainIx xi σ = some n ∧ v = .int a ∧ ((n = 1 ∧ p' = (ns, a, sd)) ∨ (n = 2 ∧ p' = (ns, at_, a))) ∧ Q .next { σ with pot := some p' } := by
  unfold SetPot at h
  cases e : σ.pot with
  | none => rw [e] at h; exact ff h
  | some p =>
    rw [e] at h
    obtain ⟨ns, at_, sd⟩ := p
    cases e2 : plainIx xi σ with
    | none => rw [e2] at h; exact ff h
    | some n =>
      rw [e2] at h
      cases v with
      | int a =>
        match n, h with
        | 1, h => exact ⟨ns, at_, sd, 1, a, _, rfl, rfl, rfl, .inl ⟨rfl, rfl⟩, h⟩
        | 2, h => exact ⟨ns, at_, sd, 2, a, _, rfl, rfl, rfl, .inr ⟨rfl, rfl⟩, h⟩
        | 0, h => exact ff h
        | .ofNat (n + 3), h => exact ff h
        | .negSucc n, h => exact ff h
      | _ => exact ff h
noncomputable def SetiNext (C : Calls) (x : Nat) (xi : X) (Q : Fl → St → Prop) (v : V) (σ₁ : St) : Prop := match σ₁.get x with
  | some (.own vs) => (match plainIx xi σ₁ with
    | some n => (0 ≤ n ∧ n < vs.length ∧ small n) ∧ Q .next (σ₁.set x (.own (vs.set n.toNat v)))
    | none => False)
  | some (.imm .pot) => SetPot x xi v Q σ₁
  | some (.odic _) => wpE C xi (SetD x v Q) σ₁
  | _ => False
theorem seti_inv {x : Nat} {xi : X} {v : V} {Q : Fl → St → Prop} (h : SetiNext C x xi Q v σ) :
    (∃ vs n, σ.get x = some (.own vs) ∧ plainIx xi σ = some n ∧ (0 ≤ n ∧ n < vs.length ∧ small n) ∧ Q .next (σ.set x (.own (vs.set n.toNat v)))) ∨ (σ.get x = some (.imm .pot) ∧ SetPot x xi v Q σ) ∨ (∃ ks, σ.get x = some (.odic ks) ∧ wpE C xi (SetD x v Q) σ) := by
  unfold SetiNext at h
  cases e : σ.get x with
  | none => rw [e] at h; exact ff h
  | some lv =>
    rw [e] at h
    cases lv with
    | gone => exact ff h
    | odic ks => exact .inr (.inr ⟨ks, rfl, h⟩)
    | own vs =>
      replace h : (match plainIx xi σ with | some n => (0 ≤ n ∧ n < vs.length ∧ small n) ∧ Q .next (σ.set x (.own (vs.set n.toNat v))) | none => False) := h
      cases e2 : plainIx xi σ with
      | none => rw [e2] at h; exact ff h
      | some n => rw [e2] at h; exact .inl ⟨vs, n, rfl, rfl, h⟩
    | imm d => cases d with
      | pot => exact .inr (.inl ⟨rfl, h⟩)
      | _ => exact ff h
theorem sound_seti {x : Str} {k : Nat} {i e : Expr} {xi xe : X} {p p2 pos : Pos} (hx : IsV nm x) (hk : varIx x = some k) (hi : SoundE prog w hb g n C nm i xi) (he : SoundE prog w hb g n C nm e xe) (hn : NotComp e) :
    SoundS prog w hb g n C nm (.Assign [.Subscript (.Name x p) i p2] e pos) (.seti k xi xe) := by
  intro A c F T o σ s Q Qc E hr G hwr R hw hq1 hq2
  have gg := G.g
  subst gg
  replace hw : wpE C xe (SetiNext C k xi Q) σ := hw
  refine wpAny_Assign_Subscript (he A c F T o σ s _ _ E hr G R hw fun F1 s1 val v σ1 l1 R1 r1 q1 => ?_) (swaps_not hn _ _ _)
  rcases seti_inv q1 with ⟨vs, z, e1, hp, ⟨h0, h1, h2⟩, q⟩ | ⟨e1, q⟩ | ⟨ks, e1, q⟩
  · refine load_var (fun h => LV.noConfusion h) G R1 hx hk e1 fun y hy => ?_
    cases (show some y = some (Value.ref (o k)) from hy)
    refine eval_plainIx hi hr G R1 hp fun F2 s2 t l2 R2 => ?_
    exact put_own (us := []) (m := 0) R2 e1 h0 h1 h2 (r1.mono l2) fun s3 R3 => hq1 F2 o s3 _ (l1.trans l2) R3 q
  · obtain ⟨ns, at_, sd, z, a, p', e2, hp, rfl, hz, q⟩ := setPot_inv q
    refine load_var (fun h => LV.noConfusion h) G R1 hx hk e1 fun y hy => ?_
    obtain ⟨y', hy', rz⟩ := hy
    cases hy'
    obtain rfl := rz.invPot
    obtain ⟨t, rfl⟩ := r1.invInt
    exact eval_plainIx hi hr G R1 hp fun F2 s2 t2 l2 R2 => put_pot R2 hwr e2 hz fun s3 R3 => hq1 F2 o s3 _ (l1.trans l2) R3 q
  · refine load_var (fun h => LV.noConfusion h) G R1 hx hk e1 fun y hy => ?_
    cases (show some y = some (Value.ref (o k)) from hy)
    refine hi A c F1 T o σ1 s1 _ _ E hr G R1 q fun F2 s2 vi di σ2 l2 R2 r2 q2 => ?_
    obtain ⟨K, l, e2, rfl, rfl, h1, h2, q⟩ := setD_inv q2
    obtain rfl := r1.invBool
    exact put_dic R2 e2 r2 h1 hr.u100 h2 fun s3 R3 => hq1 F2 o s3 _ (l1.trans l2) R3 q

/- x.append(e), x.extend(e) -/
theorem meth_call {x : Str} {k : Nat} {e : Expr} {p apos pos : Pos} {m : Str} {id : String} (hx : IsV nm x) (hk : varIx x = some k) (hline : (apos.endLine == pos.line) = true) (hns : NoStar e) {vs : List V} (ev : σ.get k = some (.own vs))
    (sl : Slot "list" m id) (ty : typeOf (.builtin id) = pure (.type "method_descriptor")) (G : GoodCx hb g c nm) (R : Rel c F T o σ s)
    (h : wpAny (model prog w) A (callWith pos (.builtin id) [.ref (o k)] [(false, eval e c.env)] []) Qc E s) : wpAny (model prog w) A (eval (.Call (.Attribute (.Name x p) m apos) [e] [] pos) c.env) Qc E s := by
  have htr : backTo pos (starEach [e] c.env) = [(false, eval e c.env)] := by rw [hns [] c.env]; rfl
  refine wpAny_Call_method1_late plain_base hline htr (load_var (fun h => LV.noConfusion h) G R hx hk ev fun y q => ?_)
  cases (show some y = some (Value.ref (o k)) from q)
  obtain ⟨us, m', h1, r1⟩ := R.own k _ ev
  exact ⟨"list", id, PySem.F.plainAttrs_list, sl, ty, ⟨_, h1, rfl⟩, fun a ha => by cases ha; exact ⟨_, h1, rfl⟩, h⟩

theorem not_inter (G : GoodCx hb g c nm) : interactive c.env = false := by unfold interactive; rw [G.kind]; rfl

theorem sound_app {x : Str} {k : Nat} {e : Expr} {xe : X} {p apos pos spos : Pos} {m : Str} (hx : IsV nm x) (hk : varIx x = some k) (hm : m = "append") (hline : (apos.endLine == pos.line) = true) (hns : NoStar e) (he : SoundE prog w hb g n C nm e xe) :
    SoundS prog w hb g n C nm (.Expr (.Call (.Attribute (.Name x p) m apos) [e] [] pos) spos) (.app k xe) := by
  intro A c F T o σ s Q Qc E hr G hwr R hw hq1 hq2
  have gg := G.g
  subst gg
  subst hm
  obtain ⟨vs, ev, hw'⟩ := ownVar_inv (p := fun zz => wpE C xe (fun v σ' => match σ'.get k with | some (.own vs) => vs.length < 2 ^ 20 ∧ Q .next (σ'.set k (.own (vs ++ [v]))) | _ => False) σ) hw
  refine wpAny_Expr (meth_call hx hk hline hns ev PySem.F.slot_list_append (by rfl) G R ?_) (not_inter G) rfl
  refine P.append_list (he A c F T o σ s _ _ E hr G R hw' fun F' s' val v σ' l R' r q => ?_)
  obtain ⟨vs2, ev2, hsz, q⟩ := ownVar_inv (p := fun vs => vs.length < 2 ^ 20 ∧ Q .next (σ'.set k (.own (vs ++ [v])))) q
  obtain ⟨us, m, hg, rr⟩ := R'.own k _ ev2
  have hlen := rr.length
  refine ⟨us.toArray, m, by simp [hlen]; unfold sizeLine; omega, hg, ?_⟩
  have hup := Heap.get?_update_self (Obj.mapSeq fun xs => xs.push val) hg rfl
  obtain ⟨m', hm'⟩ := mapSeq_lst (f := fun xs => xs.push val) (vs := us) (us := us ++ [val]) (m := m) (by simp)
  exact hq1 F' o _ _ l (R'.upd (k := k) ⟨_, ev2, rfl⟩ (lv := .own (vs2 ++ [v])) rfl (t := s'.toks) (Heap.SameBut.update ..) ⟨us ++ [val], m', by rw [hup, hm'], rr.append (.cons r .nil)⟩) q

theorem extend_tup {x : Sem Value} {pos : Pos} {l : Addr}
    (h : wpAny (model prog w) A x (fun v s₁ => ∃ b items items2 n n2, items.size ≤ sizeLine ∧ items.size + items2.size ≤ sizeLine + 1 ∧ ¬(!items.isEmpty && Builtin.List.listTooLong (items.size + items2.size)) = true ∧ v = .ref b ∧ IsL s₁.heap l items n ∧ (IsL s₁.heap b items2 n2 ∨ IsT s₁.heap b items2 n2) ∧ Qc .none { s₁ with heap := s₁.heap.update l (Obj.mapSeq fun xs => xs ++ items2) }) E s) :
    wpAny (model prog w) A (callWith pos (.builtin "list.extend") [.ref l] [(false, x)] []) Qc E s :=
  seqMethod1_meets PySem.F.slot_list_extend PySem.F.entry_list_extend (wpAny_mono h (fun v s₁ h₁ => by
    obtain ⟨b, items, items2, n, n2, hsz, hs2, hdoor, rfl, hl, hb, hq⟩ := h₁
    rcases hb with hb | hb
    · exact ⟨⟨_, hl, rfl⟩, PySem.F.args_list_extend_2 _ _, _, AutoSeq1.list_extend_list_list_0 l items n b items2 n2 hdoor hsz hs2, hl, hb, hq⟩
    · exact ⟨⟨_, hl, rfl⟩, PySem.F.args_list_extend_2 _ _, _, AutoSeq1.list_extend_list_tuple_0 l items n b items2 n2 hdoor hsz hs2, hl, hb, hq⟩) fun zz zz e => e)

noncomputable def ExtP (k : Nat) (Q : Fl → St → Prop) (v : V) (σ' : St) : Prop := match σ'.get k, v with
  | some (.own vs), .lst us => vs.length + us.length < 2 ^ 20 ∧ Q .next (σ'.set k (.own (vs ++ us)))
  | some (.own vs), .tup us => vs.length + us.length < 2 ^ 20 ∧ Q .next (σ'.set k (.own (vs ++ us)))
  | _, _ => False
theorem ext_inv {k : Nat} {Q : Fl → St → Prop} {v : V} (h : ExtP k Q v σ) : ∃ vs us, σ.get k = some (.own vs) ∧ (v = .lst us ∨ v = .tup us) ∧ vs.length + us.length < 2 ^ 20 ∧ Q .next (σ.set k (.own (vs ++ us))) := by
  unfold ExtP at h
  cases e : σ.get k with
  | none => rw [e] at h; exact ff h
  | some lv => rw [e] at h; cases lv with
    | own vs => cases v with
      | lst us => exact ⟨vs, us, rfl, .inl rfl, h⟩
      | tup us => exact ⟨vs, us, rfl, .inr rfl, h⟩
      | _ => exact ff h
    | _ => exact ff h
theorem sound_ext {x : Str} {k : Nat} {e : Expr} {xe : X} {p apos pos spos : Pos} {m : Str} (hx : IsV nm x) (hk : varIx x = some k) (hm : m = "extend") (hline : (apos.endLine == pos.line) = true) (hns : NoStar e) (he : SoundE prog w hb g n C nm e xe) :
    SoundS prog w hb g n C nm (.Expr (.Call (.Attribute (.Name x p) m apos) [e] [] pos) spos) (.ext k xe) := by
  intro A c F T o σ s Q Qc E hr G hwr R hw hq1 hq2
  have gg := G.g
  subst gg
  subst hm
  obtain ⟨vs, ev, hw'⟩ := ownVar_inv (p := fun zz => wpE C xe (ExtP k Q) σ) hw
  refine wpAny_Expr (meth_call hx hk hline hns ev PySem.F.slot_list_extend (by rfl) G R ?_) (not_inter G) rfl
  refine extend_tup (he A c F T o σ s _ _ E hr G R hw' fun F' s' val v σ' l R' r q => ?_)
  obtain ⟨vs2, zs, ev2, hv, hz, q⟩ := ext_inv q
  obtain ⟨us, m, hg, rr⟩ := R'.own k _ ev2
  have hlen := rr.length
  obtain ⟨a, ys, m2, rfl, h2, r2⟩ : ∃ a ys m2, val = .ref a ∧ (IsL s'.heap a ys.toArray m2 ∨ IsT s'.heap a ys.toArray m2) ∧ RepAll c.g F' ys zs := by
    rcases hv with rfl | rfl
    · obtain ⟨a, ys, m2, e, h2, r2⟩ := r.invLst; exact ⟨a, ys, m2, e, .inl (R'.fro _ _ h2), r2⟩
    · obtain ⟨a, ys, m2, e, h2, r2⟩ := r.invTup; exact ⟨a, ys, m2, e, .inr (R'.fro _ _ h2), r2⟩
  have hylen := r2.length
  have hup := Heap.get?_update_self (Obj.mapSeq fun xs => xs ++ ys.toArray) hg rfl
  obtain ⟨m', hm'⟩ := mapSeq_lst (f := fun xs => xs ++ ys.toArray) (vs := us) (us := us ++ ys) (m := m) (by simp)
  exact ⟨a, us.toArray, ys.toArray, m, m2, by simp [hlen]; unfold sizeLine; omega, by simp [hlen, hylen]; unfold sizeLine; omega, extend_door (by simp [hlen, hylen]; unfold sizeLine; omega), rfl, hg, h2,
    hq1 F' o _ _ l (R'.upd (k := k) ⟨_, ev2, rfl⟩ (lv := .own (vs2 ++ zs)) rfl (t := s'.toks) (Heap.SameBut.update ..) ⟨us ++ ys, m', by rw [hup, hm'], rr.append r2⟩) q⟩
end
end Mine
end

section
open PySem PySem.W PyProof.Rows PyProof.Rows.LSm
set_option Elab.async false
set_option backward.match.sparseCases false
set_option genCtorIdx false
set_option maxRecDepth 100000
set_option tactic.hygienic false
set_option genSizeOf false
set_option genInjectivity false
set_option linter.unusedVariables false
set_option linter.unusedSimpArgs false
namespace Mine

section
variable {prog : Program} {w : World} {hb : Heap} {mg mb : Str → Option Value} {g : GP} {n : Nat} {C : Calls} {nm : Names}
variable {c : Cx} {F : FM} {T : List (Addr × Obj)} {o : Nat → Addr} {σ σ' : St} {s : Shared} {A : Around} {Qc : Value → Shared → Prop} {E : Value → Shared → Prop}

theorem swaps_comp {elt : Expr} {gs : List Comprehension} {sc : Scope} {cp : Pos} {y : Str} {py : Pos} {line : Nat} {env : Env} :
    ∃ b, swapsWith (.ListComp elt gs sc cp) (some (.Name y py)) line env = pure b ∧ (b = true → env.kindOf y = some .local) := by
  refine ⟨_, rfl, fun h => ?_⟩
  simp only [Bool.and_eq_true] at h
  simpa using h.1.1.2

/- a comprehension's list under a name -/
theorem sound_asg_comp {y : Str} {ky : Nat} {py spos : Pos} {elt it : Expr} {fs : List Expr} {x : Str} {px pos : Pos} {sc : Scope} {ex xit : X} {xfs : List X} {kx : Nat} (hy : IsV nm y) (hky : varIx y = some ky)
    (hit : SoundE prog w hb g n C nm it xit) (he : SoundE prog w hb g n C (relab nm sc.names) elt ex)
    (hf : TestsOk prog w hb g n C (relab nm sc.names) fs xfs) (hx : varIx x = some kx) (hxl : sc.names.lookup x = some .local) (S : CompSc nm sc x) (hfold : ∀ env v, foldedSetIterable it env v = pure v) :
    SoundS prog w hb g n C nm (.Assign [.Name y py] (.ListComp elt [⟨.Name x px, it, fs, 0⟩] sc pos) spos) (.asg ky (.comp ex kx xit xfs)) := by
  intro A c F T o σ s Q Qc E hr G hwr R hw hq1 hq2
  replace hw : wpE C (.comp ex kx xit xfs) (fun v σ' => Q .next (σ'.set ky (.imm v))) σ := hw
  have gg := G.g
  subst gg
  obtain ⟨b, hb, hloc⟩ := swaps_comp (elt := elt) (gs := [⟨.Name x px, it, fs, 0⟩]) (sc := sc) (cp := pos) (y := y) (py := py) (line := spos.line) (env := c.env)
  cases b with
  | false =>
    refine wpAny_Assign_Name (sound_comp hit he hf hx hxl S hfold A c F T o σ s _ _ E hr G R hw fun F' s' val v σ' l R' r q => ?_) hb
    exact store_var G hwr R' hy hky (.imm r) fun s2 R2 => hq1 F' _ s2 _ l R2 q
  | true =>
    have hyl : nm.lookup y = some .local := by rw [← G.kindOf]; exact hloc rfl
    rw [exec_Assign_Name_used _ _ _ _ hb]
    refine wpAny_bind (wpAny_standAt (wpAny_bind ?_))
    show wpAny _ A (do let _ ← comprehension (.ListComp elt [⟨.Name x px, it, fs, 0⟩] sc pos) sc c.env (firstIterPos [⟨.Name x px, it, fs, 0⟩] pos) (newList []) (firstAsync [⟨.Name x px, it, fs, 0⟩]) (firstIter [⟨.Name x px, it, fs, 0⟩] c.env) (some (assign (.Name y py) c.env))) _ _ s
    refine wpAny_bind (wpAny_mono (comp_core (Qc := fun zz s' => Qc .next s') (use := some (assign (.Name y py) c.env)) hit he hf hx hxl S hfold hr G R hw fun F' s' D L obL vs σ' l R' hT hm r q => ?_) (fun zz s' hq => wpAny_pure (wpAny_pure hq)) fun zz zz e => e)
    obtain ⟨m, hm⟩ := hm
    refine wpAny_assign_Name (store_local G R' hyl hky (.imm r) fun s2 R2 => ?_)
    have e1 := R'.tmp (L, obL) (List.mem_cons_self ..)
    have e2 := R2.tmp (L, obL) (List.mem_cons_self ..)
    refine ⟨m, hm.at' fun ob e => ?_, fun h' hs => ?_⟩
    · simp only at e1 e2
      rw [e1] at e; cases e; exact e2
    · exact hq1 F' _ _ _ l (comp_close R2 hT hs) q

/- several names at once -/
inductive NmTs (nm : Names) : List Expr → List Nat → Prop
  | nil : NmTs nm [] []
  | cons {x : Str} {p : Pos} {k : Nat} {es : List Expr} {ks : List Nat} (hx : IsV nm x) (hk : varIx x = some k) (r : NmTs nm es ks) : NmTs nm (.Name x p :: es) (k :: ks)

/- a value that waits for its store: its own object is held fast -/
inductive Held (g : GP) (F : FM) (T : List (Addr × Obj)) : Value → LV → Prop
  | imm {v : Value} {d : V} (r : Rep g F v d) : Held g F T v (.imm d)
  | own {a : Addr} {us : List Value} {m : Nat} {vs : List V} (h : (a, lstO us m) ∈ T) (r : RepAll g F us vs) : Held g F T (.ref a) (.own vs)
  | dic {a : Addr} {es : List DictEntry} {m : Nat} {l : List Key} (h : (a, dicO es m) ∈ T) (nd : l.Nodup) (r : EntsAt F es l) : Held g F T (.ref a) (.odic (l.map Key.v))
theorem Held.mono {F' : FM} {T' : List (Addr × Obj)} (l : F.le F') (hT : ∀ p ∈ T, p ∈ T') {v : Value} {lv : LV} (h : Held g F T v lv) : Held g F' T' v lv := by
  cases h with
  | imm r => exact .imm (r.mono l)
  | own h r => exact .own (hT _ h) (r.mono l)
  | dic h nd r => exact .dic (hT _ h) nd (r.mono l)
noncomputable def ownAddr (v : Value) (lv : LV) : Option Addr := match lv, v with
  | .imm _, _ => none
  | .gone, _ => none
  | _, .ref a => some a
  | _, _ => none

theorem Rel.offT' (R : Rel c F T o σ s) {a : Addr} {ob : Obj} (h : (a, ob) ∈ T) {T' : List (Addr × Obj)} (hT : ∀ p ∈ T', p.1 ≠ a) : Off c F T' a ∧ ∀ k, Owned σ k → o k ≠ a := by
  refine ⟨⟨(R.offT _ h).1, hT, fun e => R.offL.2.1 _ h e, fun x b hb e => (R.offC x b hb).2.2.1 _ h e.symm, fun e => ?_, (R.offT _ h).2⟩, fun k hk e => (R.off k hk).t _ h e.symm⟩
  obtain ⟨ob', hP⟩ := R.hP
  have := (R.offT _ h).2
  simp only at this
  rw [e, hP] at this; cases this

/- one held value is stored -/
theorem store_held {x : Str} {k : Nat} {v : Value} {lv : LV} {Qu : Unit → Shared → Prop} (G : GoodCx hb g c nm) (hwr : c.wr = true) (R : Rel c F T o σ s) (hx : IsV nm x) (hk : varIx x = some k) (H : Held c.g F T v lv)
    {T' : List (Addr × Obj)} (hT : ∀ p ∈ T', p ∈ T) (hT' : ∀ a, ownAddr v lv = some a → ∀ p ∈ T', p.1 ≠ a)
    (hq : ∀ s' o', Rel c F T' o' (σ.set k lv) s' → Qu () s') : wpAny (model prog w) A (storeName c.env x v) Qu E s := by
  have R' := R.dropT hT
  cases H with
  | imm r => exact store_var G hwr R' hx hk (.imm r) fun s' R2 => hq s' _ R2
  | own h r =>
    obtain ⟨O, ho⟩ := R.offT' h (hT' _ rfl)
    exact store_var G hwr R' hx hk (.own (R.tmp _ h) r O ho) fun s' R2 => hq s' _ R2
  | dic h nd r =>
    obtain ⟨O, ho⟩ := R.offT' h (hT' _ rfl)
    exact store_var G hwr R' hx hk (.dic ⟨_, _, _, rfl, R.tmp _ h, nd, r⟩ O ho) fun s' R2 => hq s' _ R2

/- names, numbers, values, what they are -/
structure Tgt where
  x : Str
  p : Pos
  k : Nat
  v : Value
  lv : LV
noncomputable def TgtOk (nm : Names) (g : GP) (F : FM) (T : List (Addr × Obj)) (t : Tgt) : Prop := IsV nm t.x ∧ varIx t.x = some t.k ∧ Held g F T t.v t.lv
noncomputable def stepAll (σ : St) : List Tgt → St
  | [] => σ
  | t :: ts => stepAll (σ.set t.k t.lv) ts

theorem store_all (G : GoodCx hb g c nm) (hwr : c.wr = true) (f : Tgt → Value → Sem Unit) (hf : ∀ (t : Tgt) (v : Value) (Qu : Unit → Shared → Prop) (s : Shared), wpAny (model prog w) A (storeName c.env t.x v) Qu E s → wpAny (model prog w) A (f t v) Qu E s) {T0 : List (Addr × Obj)} {Qu : Unit → Shared → Prop} :
    ∀ (ts : List Tgt) (T : List (Addr × Obj)) (o : Nat → Addr) (σ : St) (s : Shared), (∀ t ∈ ts, TgtOk nm c.g F T t) → (ts.filterMap fun t => ownAddr t.v t.lv).Nodup → (∀ p ∈ T0, p ∈ T ∧ ∀ t ∈ ts, ownAddr t.v t.lv ≠ some p.1) → Rel c F T o σ s →
      (∀ o' s', Rel c F T0 o' (stepAll σ ts) s' → Qu () s') → wpAny (model prog w) A (assignInOrder (ts.map f) (ts.map (·.v))) Qu E s
  | [], T, o, σ, s, _, _, hT0, R, hq => wpAny_pure (hq o s (R.dropT fun p hp => (hT0 p hp).1))
  | t :: ts, T, o, σ, s, hts, hnd, hT0, R, hq => by
    obtain ⟨h1, h2, h3⟩ := hts t (List.mem_cons_self ..)
    show wpAny _ _ (do holding (ts.map (·.v)) (f t t.v); assignInOrder (ts.map f) (ts.map (·.v))) _ _ _
    have hdrop : ∀ a, ownAddr t.v t.lv = some a → ∀ t' ∈ ts, ownAddr t'.v t'.lv ≠ some a := fun a ha t' ht' e => by
      rw [List.filterMap_cons, ha] at hnd
      exact (List.nodup_cons.mp hnd).1 (List.mem_filterMap.mpr ⟨t', ht', e⟩)
    have hnd' : (ts.filterMap fun t => ownAddr t.v t.lv).Nodup := by
      rw [List.filterMap_cons] at hnd
      cases e : ownAddr t.v t.lv with
      | none => rw [e] at hnd; exact hnd
      | some a => rw [e] at hnd; exact (List.nodup_cons.mp hnd).2
    refine wpAny_bind (wpAny_holding (hf t t.v _ _ (store_held G hwr R h1 h2 h3 (T' := T.filter fun p => decide (ownAddr t.v t.lv ≠ some p.1)) (fun p hp => (List.mem_filter.mp hp).1) (fun a ha p hp e => ?_) fun s' o' R' => ?_)))
    · have := (List.mem_filter.mp hp).2
      rw [ha, e] at this; simp at this
    · refine store_all G hwr f hf ts _ o' _ s' (fun t' ht' => ?_) hnd' (fun p hp => ⟨List.mem_filter.mpr ⟨(hT0 p hp).1, by simpa using (hT0 p hp).2 t (List.mem_cons_self ..)⟩, fun t' ht' => (hT0 p hp).2 t' (List.mem_cons_of_mem _ ht')⟩) R' hq
      obtain ⟨g1, g2, g3⟩ := hts t' (List.mem_cons_of_mem _ ht')
      refine ⟨g1, g2, ?_⟩
      obtain ⟨x', p', k', v', lv'⟩ := t'
      have hd2 := fun a ha => hdrop a ha _ ht'
      simp only at g3 hd2 ⊢
      cases g3 with
      | imm r => exact .imm r
      | own h r => exact .own (List.mem_filter.mpr ⟨h, by simpa using fun e => hd2 _ e rfl⟩) r
      | dic h nd r => exact .dic (List.mem_filter.mpr ⟨h, by simpa using fun e => hd2 _ e rfl⟩) nd r
end
end Mine
end

section
open PySem PySem.W PyProof.Rows PyProof.Rows.LSm
set_option Elab.async false
set_option maxRecDepth 100000
set_option genSizeOf false
set_option genInjectivity false
set_option linter.unusedVariables false
set_option linter.unusedSimpArgs false
namespace Mine

set_option backward.match.sparseCases false in
noncomputable def mkT : List Expr → List Nat → List Value → List LV → List Tgt
  | .Name x p :: es, k :: ks, v :: vs, l :: ls => ⟨x, p, k, v, l⟩ :: mkT es ks vs ls
  | _, _, _, _ => []

section
variable {prog : Program} {w : World} {hb : Heap} {mg mb : Str → Option Value} {g : GP} {n : Nat} {C : Calls} {nm : Names}
variable {c : Cx} {F : FM} {T : List (Addr × Obj)} {o : Nat → Addr} {σ σ' : St} {s : Shared} {A : Around} {Qc : Value → Shared → Prop} {E : Value → Shared → Prop}

inductive AllHeld (g : GP) (F : FM) (T : List (Addr × Obj)) : List Value → List LV → Prop
  | nil : AllHeld g F T [] []
  | cons {v : Value} {l : LV} {vs : List Value} {ls : List LV} (h : Held g F T v l) (r : AllHeld g F T vs ls) : AllHeld g F T (v :: vs) (l :: ls)
theorem AllHeld.length {vs : List Value} {ls : List LV} (h : AllHeld g F T vs ls) : vs.length = ls.length := by
  induction h with
  | nil => rfl
  | cons _ _ ih => rw [List.length_cons, List.length_cons, ih]
theorem AllHeld.of_rep {vs : List Value} {ds : List V} (h : RepAll g F vs ds) : AllHeld g F T vs (ds.map .imm) := by
  induction vs generalizing ds with
  | nil => cases h; exact .nil
  | cons v vs ih => cases h with | cons h r => exact .cons (.imm h) (ih r)

theorem mkT_all {es : List Expr} {ks : List Nat} (h : NmTs nm es ks) : ∀ {vs : List Value} {ls : List LV}, AllHeld g F T vs ls → ks.length = ls.length →
    (∀ t ∈ mkT es ks vs ls, TgtOk nm g F T t) ∧ (mkT es ks vs ls).map (·.v) = vs ∧ (∀ env, (assignEach es env).map (·.2) = (mkT es ks vs ls).map fun t => assign (.Name t.x t.p) env) ∧ (∀ σ : St, stepAll σ (mkT es ks vs ls) = σ.setAll ks ls) ∧
      (mkT es ks vs ls).map (·.k) = ks ∧ (∀ env, (assignEach es env).length = vs.length ∧ (assignEach es env).findIdx? (·.1) = none) := by
  induction h with
  | nil =>
    intro vs ls H hl
    cases ls with
    | nil =>
      cases H
      exact ⟨fun t ht => (nomatch ht), rfl, fun env => rfl, fun σ => rfl, rfl, fun env => ⟨rfl, rfl⟩⟩
    | cons l ls => cases hl
  | @cons x p k es ks hx hk r ih =>
    intro vs ls H hl
    cases H with
    | nil => cases hl
    | @cons v l vs ls hh hr =>
      obtain ⟨h1, h2, h3, h4, h5, h6⟩ := ih hr (by simpa using hl)
      refine ⟨fun t ht => ?_, ?_, fun env => ?_, fun σ => ?_, ?_, fun env => ⟨?_, ?_⟩⟩
      · rcases List.mem_cons.mp ht with rfl | ht
        · exact ⟨hx, hk, hh⟩
        · exact h1 t ht
      · show v :: _ = _; rw [h2]
      · show assign (.Name x p) env :: _ = _
        rw [h3 env]; rfl
      · show stepAll (σ.set k l) _ = _
        rw [h4]; rfl
      · show k :: _ = _; rw [h5]
      · show (assignEach es env).length + 1 = _
        rw [(h6 env).1]; rfl
      · have := (h6 env).2
        show List.findIdx? (·.1) ((false, assign (.Name x p) env) :: assignEach es env) = none
        rw [List.findIdx?_cons]; simp [this]

theorem own_imm (es : List Expr) (ks : List Nat) (vs : List Value) (ds : List V) : ((mkT es ks vs (ds.map .imm)).filterMap fun t => ownAddr t.v t.lv) = [] := by
  induction es generalizing ks vs ds with
  | nil => rfl
  | cons e es ih =>
    cases e <;> try rfl
    cases ks with
    | nil => rfl
    | cons k ks => cases vs with
      | nil => rfl
      | cons v vs => cases ds with
        | nil => rfl
        | cons d ds =>
          show List.filterMap _ (⟨_, _, k, v, .imm d⟩ :: mkT es ks vs (ds.map .imm)) = []
          rw [List.filterMap_cons]
          exact ih ks vs ds

set_option backward.match.sparseCases false in
noncomputable def NotTup : Expr → Prop
  | .Tuple .. => False
  | _ => True
theorem swapped_none {ts : List Expr} {k : Nat} {tp : Pos} {v : Expr} {env : Env} (h : NotTup v) : swappedStores [.Tuple ts k tp] v env = pure none := by
  cases v <;> first | rfl | exact h.elim

theorem sound_unp {ts : List Expr} {ks : List Nat} {k0 : Nat} {tp pos : Pos} {e : Expr} {xe : X} (hts : NmTs nm ts ks) (he : SoundE prog w hb g n C nm e xe) (hn : NotComp e) (hnt : NotTup e) :
    SoundS prog w hb g n C nm (.Assign [.Tuple ts k0 tp] e pos) (.unp ks xe) := by
  intro A c F T o σ s Q Qc E hr G hwr R hw hq1 hq2
  have gg := G.g
  subst gg
  refine Assign_Tuple (he A c F T o σ s _ _ E hr G R hw fun F' s' val v σ' l R' r q => ?_) (by unfold swapsWithSole; exact swaps_not hn _ _ _) (swapped_none hnt)
  unfold unpP at q
  cases v <;> try exact q.elim
  rename_i ds
  obtain ⟨hlen, q⟩ := q
  obtain ⟨a, us, m, rfl, h1, r1⟩ := r.invTup
  have H : AllHeld c.g F' T us (ds.map .imm) := .of_rep r1
  obtain ⟨g1, g2, g3, g4, g5, g6⟩ := mkT_all hts H (by rw [List.length_map]; exact hlen.symm)
  obtain ⟨g7, g8⟩ := g6 c.env
  refine wpAny_assign_Tuple hr.handled (isTuple_of (R'.fro _ _ h1)) (by simpa using g7) g8 fun h' hext => ?_
  have R2 : Rel c F' T o σ' { s' with heap := h' } := R'.grow (t := s'.toks) fun b ob e => hext b ob (Nat.ne_of_lt (Heap.lt_size e)) e
  rw [g3 c.env]
  have e2 : us.toArray.toList = (mkT ts ks us (ds.map .imm)).map (·.v) := by rw [g2]
  rw [e2]
  refine store_all G hwr (fun t => assign (.Name t.x t.p) c.env) (fun t v Qu s h => wpAny_assign_Name h) _ T o σ' _ g1 (by rw [own_imm]; exact List.nodup_nil) (fun p hp => ⟨hp, fun t ht e => ?_⟩) R2 fun o' s2 R3 => ?_
  · have := own_imm ts ks us ds
    have hm : p.1 ∈ (mkT ts ks us (ds.map .imm)).filterMap fun t => ownAddr t.v t.lv := List.mem_filterMap.mpr ⟨t, ht, e⟩
    rw [this] at hm; cases hm
  · rw [g4] at R3
    exact hq1 F' o' s2 _ l R3 q

/- a display of several values -/
noncomputable def SoundRs (prog : Program) (w : World) (hb : Heap) (g : GP) (n : Nat) (C : Calls) (nm : Names) (es : List Expr) (xs : List X) : Prop :=
  ∀ (A : Around) (c : Cx) (F : FM) (T : List (Addr × Obj)) (o : Nat → Addr) (σ : St) (s : Shared) (pos : Pos) (Q : List LV → St → Prop) (Qc : List Value → Shared → Prop) (E : Value → Shared → Prop),
    Room n A → GoodCx hb g c nm → Rel c F T o σ s → wpRs C xs Q σ →
    (∀ F' s' vals lvs σ' T', F.le F' → Rel c F' T' o σ' s' → (∀ p ∈ T, p ∈ T') → AllHeld g F' T' vals lvs → ((vals.zip lvs).filterMap fun p => ownAddr p.1 p.2).Nodup → (∀ a ∈ (vals.zip lvs).filterMap (fun p => ownAddr p.1 p.2), ∀ p ∈ T, p.1 ≠ a) →
      vals.length = es.length → Q lvs σ' → Qc vals s') → wpAny (model prog w) A (spliced (backTo pos (starEach es c.env))) Qc E s
theorem soundRs_nil : SoundRs prog w hb g n C nm [] [] := by
  intro A c F T o σ s pos Q Qc E hr G R hw hq
  exact wpAny_items_nil (hq F s [] [] σ T (FM.le.refl F) R (fun p hp => hp) .nil List.nodup_nil (fun a ha => (nomatch ha)) rfl hw)
theorem soundRs_cons {e : Expr} {es : List Expr} {x : X} {xs : List X} (h : SoundR prog w hb g n C nm e x) (hs : SoundRs prog w hb g n C nm es xs) (hns : NoStar e) : SoundRs prog w hb g n C nm (e :: es) (x :: xs) := by
  intro A c F T o σ s pos Q Qc E hr G R hw hq
  have gg := G.g
  subst gg
  refine wpAny_items_cons (h A c F T o σ s _ _ E hr G R hw fun F' s' val lv σ' l R' Go q => ?_) (hns _ _)
  have main : ∀ (T1 : List (Addr × Obj)), (∀ p ∈ T, p ∈ T1) → Rel c F' T1 o σ' s' → Held c.g F' T1 val lv → (∀ a, ownAddr val lv = some a → (∃ ob, (a, ob) ∈ T1) ∧ ∀ p ∈ T, p.1 ≠ a) →
      wpAny (model prog w) A (spliced (backTo pos (starEach es c.env))) (fun vs s₂ => Qc (val :: vs) s₂) E s' := fun T1 hT1 R1 H hown => by
    refine hs A c F' T1 o σ' s' pos _ _ E hr G R1 q fun F2 s2 vals lvs σ2 T2 l2 R2 hT2 H2 hnd hoff hlen q2 => ?_
    refine hq F2 s2 (val :: vals) (lv :: lvs) σ2 T2 (l.trans l2) R2 (fun p hp => hT2 _ (hT1 p hp)) (.cons (H.mono l2 hT2) H2) ?_ (fun a ha p hp => ?_) (by rw [List.length_cons, List.length_cons, hlen]) q2
    · rw [List.zip_cons_cons, List.filterMap_cons]
      cases e1 : ownAddr val lv with
      | none => exact hnd
      | some a =>
        obtain ⟨⟨ob, hob⟩, _⟩ := hown a e1
        exact List.nodup_cons.mpr ⟨fun hm => hoff a hm _ hob rfl, hnd⟩
    · rw [List.zip_cons_cons, List.filterMap_cons] at ha
      cases e1 : ownAddr val lv with
      | none => rw [e1] at ha; exact hoff a ha p (hT1 p hp)
      | some b =>
        rw [e1] at ha
        rcases List.mem_cons.mp ha with rfl | ha
        · exact (hown a e1).2 p hp
        · exact hoff a ha p (hT1 p hp)
  cases Go with
  | imm r => exact main T (fun p hp => hp) R' (.imm r) fun a ha => by cases ha
  | own hg r O ho => exact main _ (fun p hp => List.mem_cons_of_mem _ hp) (R'.addT hg O ho) (.own (List.mem_cons_self ..) r) fun a ha => by cases ha; exact ⟨⟨_, List.mem_cons_self ..⟩, O.t⟩
  | dic hg O ho =>
    obtain ⟨ll, es', m, rfl, hg', nd, r⟩ := hg
    exact main _ (fun p hp => List.mem_cons_of_mem _ hp) (R'.addT hg' O ho) (.dic (List.mem_cons_self ..) nd r) fun a ha => by cases ha; exact ⟨⟨_, List.mem_cons_self ..⟩, O.t⟩

noncomputable def nameOf : Expr → Str
  | .Name x _ => x
  | _ => ""
theorem filt_names {f : Expr → Option Str} (hf : ∀ x p, f (.Name x p) = none ∨ f (.Name x p) = some x) {ts : List Expr} {ks : List Nat} (h : NmTs nm ts ks) : (ts.filterMap f).length ≤ ts.length ∧ ((ts.filterMap f).length = ts.length → ts.filterMap f = ts.map nameOf) := by
  induction h with
  | nil => exact ⟨Nat.le_refl _, fun zz => rfl⟩
  | @cons x p k es ks hx hk r ih =>
    rcases hf x p with e | e
    · rw [List.filterMap_cons, e]
      refine ⟨Nat.le_succ_of_le ih.1, fun e2 => ?_⟩
      simp only [List.length_cons] at e2
      have := ih.1
      lia
    · rw [List.filterMap_cons, e]
      refine ⟨Nat.succ_le_succ ih.1, fun e2 => ?_⟩
      simp only [List.length_cons, Nat.add_right_cancel_iff] at e2
      rw [ih.2 e2]; rfl

theorem swapped_is (ts : List Expr) (k k2 : Nat) (tp vp : Pos) (vs : List Expr) (env : Env) : ∃ (f : Expr → Option Str) (g : Expr → Bool), (∀ x p, f (.Name x p) = if (env.kindOf x == some .local && p.line == (ts.head?.map (·.pos.line)).getD 0) = true then some x else none) ∧
    swappedStores [.Tuple ts k tp] (.Tuple vs k2 vp) env = (if (!(ts.length == 2 || ts.length == 3) || vs.length != ts.length || env.blockKind != .function) = true then pure none else
      if vs.any g = true then pure none else
      if ((ts.filterMap f).length != ts.length || (ts.filterMap f).eraseDups.length != (ts.filterMap f).length) = true then pure none else
      if vs.all (foldedForSure 8) = true then pure none else
      if vs.all (constantsAlone 8) = true then unsupported "assign.tuple-of-constant-expressions:order-of-the-stores" else pure (some (ts.filterMap f))) := ⟨_, _, fun zz zz => rfl, rfl⟩
theorem swapped_cases {ts : List Expr} {ks : List Nat} {k k2 : Nat} {tp vp : Pos} {vs : List Expr} {env : Env} (h : NmTs nm ts ks) (hc : vs.all (constantsAlone 8) = false) :
    swappedStores [.Tuple ts k tp] (.Tuple vs k2 vp) env = pure none ∨ swappedStores [.Tuple ts k tp] (.Tuple vs k2 vp) env = pure (some (ts.map nameOf)) := by
  obtain ⟨f, g, hf, e⟩ := swapped_is ts k k2 tp vp vs env
  rw [e]
  by_cases h1 : (!(ts.length == 2 || ts.length == 3) || vs.length != ts.length || env.blockKind != .function) = true
  · exact .inl (if_pos h1)
  rw [if_neg h1]
  by_cases h2 : vs.any g = true
  · exact .inl (if_pos h2)
  rw [if_neg h2]
  by_cases h3 : ((ts.filterMap f).length != ts.length || (ts.filterMap f).eraseDups.length != (ts.filterMap f).length) = true
  · exact .inl (if_pos h3)
  rw [if_neg h3]
  by_cases h4 : vs.all (foldedForSure 8) = true
  · exact .inl (if_pos h4)
  rw [if_neg h4, hc]
  refine .inr (congrArg (fun l => pure (some l)) ((filt_names (fun x p => ?_) h).2 ?_))
  · rw [hf]
    by_cases q : (env.kindOf x == some .local && p.line == (ts.head?.map (·.pos.line)).getD 0) = true
    · exact .inr (if_pos q)
    · exact .inl (if_neg q)
  · have h3 := (Bool.or_eq_false_iff.mp (Bool.eq_false_iff.mpr h3)).1
    exact eq_of_beq (by rw [bne_eq_false_iff_eq] at h3; rw [h3]; exact beq_self_eq_true _)

/- stores in any order -/
theorem step_get : ∀ (l : List Tgt) (σ : St), (l.map (·.k)).Nodup → (∀ t ∈ l, (stepAll σ l).get t.k = some t.lv) ∧ (∀ k, k ∉ l.map (·.k) → (stepAll σ l).get k = σ.get k) ∧ (stepAll σ l).pot = σ.pot
  | [], σ, _ => ⟨fun t ht => (nomatch ht), fun k zz => rfl, rfl⟩
  | t :: l, σ, h => by
    rw [List.map_cons, List.nodup_cons] at h
    obtain ⟨h1, h2, h3⟩ := step_get l (σ.set t.k t.lv) h.2
    refine ⟨fun t' ht' => ?_, fun k hk => ?_, h3⟩
    · rcases List.mem_cons.mp ht' with rfl | ht'
      · show (stepAll (σ.set t'.k t'.lv) l).get t'.k = _
        rw [h2 _ h.1, St.get_set, if_pos rfl]
      · exact h1 t' ht'
    · rw [List.map_cons] at hk
      show (stepAll (σ.set t.k t.lv) l).get k = _
      rw [h2 k (fun e => hk (List.mem_cons_of_mem _ e)), St.get_set, if_neg (by rintro rfl; exact hk (List.mem_cons_self ..))]
theorem step_rev (l : List Tgt) (σ : St) (h : (l.map (·.k)).Nodup) : (∀ k, (stepAll σ l).get k = (stepAll σ l.reverse).get k) ∧ (stepAll σ l).pot = (stepAll σ l.reverse).pot := by
  have h' : (l.reverse.map (·.k)).Nodup := by rw [List.map_reverse]; exact List.pairwise_reverse.mpr (List.Pairwise.imp (fun h => Ne.symm h) h)
  obtain ⟨a1, a2, a3⟩ := step_get l σ h
  obtain ⟨b1, b2, b3⟩ := step_get l.reverse σ h'
  refine ⟨fun k => ?_, by rw [a3, b3]⟩
  by_cases hk : k ∈ l.map (·.k)
  · obtain ⟨t, ht, rfl⟩ := List.mem_map.mp hk
    rw [a1 t ht, b1 t (List.mem_reverse.mpr ht)]
  · rw [a2 k hk, b2 k (by rw [List.map_reverse]; exact fun e => hk (List.mem_reverse.mp e))]

theorem mkT_zip {ts : List Expr} {ks : List Nat} (h : NmTs nm ts ks) : ∀ {vs : List Value} {ls : List LV}, ks.length = ls.length → vs.length = ls.length →
    ((mkT ts ks vs ls).filterMap fun t => ownAddr t.v t.lv) = (vs.zip ls).filterMap (fun p => ownAddr p.1 p.2) ∧ (mkT ts ks vs ls).map (·.x) = ts.map nameOf := by
  induction h with
  | nil =>
    intro vs ls h1 h2
    cases ls with
    | nil => cases vs with
      | nil => exact ⟨rfl, rfl⟩
      | cons v vs => cases h2
    | cons l ls => cases h1
  | @cons x p k es ks hx hk r ih =>
    intro vs ls h1 h2
    cases ls with
    | nil => cases h1
    | cons l ls => cases vs with
      | nil => cases h2
      | cons v vs =>
        obtain ⟨e1, e2⟩ := ih (vs := vs) (ls := ls) (by simpa using h1) (by simpa using h2)
        refine ⟨?_, ?_⟩
        · show List.filterMap _ (⟨x, p, k, v, l⟩ :: mkT es ks vs ls) = _
          rw [List.filterMap_cons, List.zip_cons_cons, List.filterMap_cons, e1]
        · show x :: _ = _; rw [e2]; rfl

theorem sound_asgs {ts es : List Expr} {ks : List Nat} {k0 k1 : Nat} {tp pos vp : Pos} {xs : List X} (hts : NmTs nm ts ks) (he : SoundRs prog w hb g n C nm es xs) (hl : es.length ≤ 100) (hlen : ks.length = es.length) (hnd : ks.Nodup) (hc : es.all (constantsAlone 8) = false) :
    SoundS prog w hb g n C nm (.Assign [.Tuple ts k0 tp] (.Tuple es k1 vp) pos) (.asgs ks xs) := by
  intro A c F T o σ s Q Qc E hr G hwr R hw hq1 hq2
  have gg := G.g
  subst gg
  have main : ∀ (Qv : Value → Shared → Prop), (∀ F' s' vals lvs σ' T' a m, F.le F' → Rel c F' T' o σ' s' → (∀ p ∈ T, p ∈ T') → AllHeld c.g F' T' vals lvs → ((vals.zip lvs).filterMap fun p => ownAddr p.1 p.2).Nodup → (∀ a ∈ (vals.zip lvs).filterMap (fun p => ownAddr p.1 p.2), ∀ p ∈ T, p.1 ≠ a) →
      vals.length = es.length → s'.heap.get? a = some (tupO vals m) → Q .next (σ'.setAll ks lvs) → Qv (.ref a) s') → wpAny (model prog w) A (eval (.Tuple es k1 vp) c.env) Qv E s := fun Qv h => by
    refine wpAny_Tuple (he A c F T o σ s vp _ _ E hr G R hw fun F' s' vals lvs σ' T' l R' hT H hnd hoff hle q => ?_)
    refine ⟨by rw [hle]; unfold sizeLine; lia, ?_⟩
    exact h F' _ vals lvs σ' T' _ 0 l (R'.grow (t := s'.toks) fun a x e => Heap.get?_push_of_some _ e) hT H hnd hoff hle (Heap.get?_push_size _ rfl) q
  have hsw : swapsWithSole [.Tuple ts k0 tp] (.Tuple es k1 vp) pos.line c.env = pure false := by unfold swapsWithSole; rfl
  rcases swapped_cases (k := k0) (k2 := k1) (tp := tp) (vp := vp) (vs := es) (env := c.env) hts hc with hw2 | hw2
  · refine Assign_Tuple (main _ fun F' s' vals lvs σ' T' a m l R' hT H hn hoff hle hg q => ?_) hsw hw2
    have hvl := H.length
    obtain ⟨g1, g2, g3, g4, g5, g6⟩ := mkT_all hts H (by lia)
    obtain ⟨z1, z2⟩ := mkT_zip hts (vs := vals) (ls := lvs) (by lia) hvl
    obtain ⟨g7, g8⟩ := g6 c.env
    refine wpAny_assign_Tuple hr.handled (isTuple_of hg) (by simpa using g7) g8 fun h' hext => ?_
    have R2 : Rel c F' T' o σ' { s' with heap := h' } := R'.grow (t := s'.toks) fun b ob e => hext b ob (Nat.ne_of_lt (Heap.lt_size e)) e
    rw [g3 c.env]
    have e2 : vals.toArray.toList = (mkT ts ks vals lvs).map (·.v) := by rw [g2]
    rw [e2]
    refine store_all G hwr (fun t => assign (.Name t.x t.p) c.env) (fun t v Qu s h => wpAny_assign_Name h) (T0 := T) _ T' o σ' _ g1 (by rw [z1]; exact hn) (fun p hp => ⟨hT _ hp, fun t ht e => ?_⟩) R2 fun o' s2 R3 => ?_
    · exact hoff p.1 (by rw [← z1]; exact List.mem_filterMap.mpr ⟨t, ht, e⟩) p hp rfl
    · rw [g4] at R3
      exact hq1 F' o' s2 _ l R3 q
  · refine Assign_Tuple_swapped (names := ts.map nameOf) (main _ fun F' s' vals lvs σ' T' a m l R' hT H hn hoff hle hg q => ?_) hsw hw2
    have hvl := H.length
    obtain ⟨g1, g2, g3, g4, g5, g6⟩ := mkT_all hts H (by lia)
    obtain ⟨z1, z2⟩ := mkT_zip hts (vs := vals) (ls := lvs) (by lia) hvl
    have hnl : (ts.map nameOf).length = vals.toArray.size := by
      rw [← z2, List.length_map, ← List.length_map (f := (·.v)), g2]; simp
    rw [hnl]
    refine unpackItems_tuple hr.handled (isTuple_of hg) fun h' hext => ?_
    have R2 : Rel c F' T' o σ' { s' with heap := h' } := R'.grow (t := s'.toks) fun b ob e => hext b ob (Nat.ne_of_lt (Heap.lt_size e)) e
    have e2 : vals.toArray.toList.reverse = (mkT ts ks vals lvs).reverse.map (·.v) := by rw [List.map_reverse, g2]
    have e3 : ((ts.map nameOf).reverse.map fun n => bindName c.env n) = (mkT ts ks vals lvs).reverse.map fun t => bindName c.env t.x := by rw [← z2, ← List.map_reverse, List.map_map]; rfl
    rw [e2, e3]
    have hnd2 : ((mkT ts ks vals lvs).map (·.k)).Nodup := by rw [g5]; exact hnd
    refine store_all G hwr (fun t => bindName c.env t.x) (fun t v Qu s h => wpAny_bindName h) (T0 := T) _ T' o σ' _ (fun t ht => g1 t (List.mem_reverse.mp ht)) ?_ (fun p hp => ⟨hT _ hp, fun t ht e => ?_⟩) R2 fun o' s2 R3 => ?_
    · rw [List.filterMap_reverse, z1]; exact List.pairwise_reverse.mpr (List.Pairwise.imp (fun h => Ne.symm h) hn)
    · exact hoff p.1 (by rw [← z1]; exact List.mem_filterMap.mpr ⟨t, List.mem_reverse.mp ht, e⟩) p hp rfl
    · obtain ⟨s1, s2'⟩ := step_rev (mkT ts ks vals lvs) σ' hnd2
      have R4 := R3.congr (σ' := stepAll σ' (mkT ts ks vals lvs)) s1 s2'
      rw [g4] at R4
      exact hq1 F' o' s2 _ l R4 q
end
end Mine
end

section
open PySem PySem.W PyProof.Rows PyProof.Rows.LSm
set_option Elab.async false
set_option maxRecDepth 100000
set_option tactic.hygienic false
set_option genSizeOf false
set_option genInjectivity false
set_option linter.unusedVariables false
set_option linter.unusedSimpArgs false
namespace Mine

section
variable {prog : Program} {w : World} {hb : Heap} {mg mb : Str → Option Value} {g : GP} {n : Nat} {C : Calls} {nm : Names}
variable {c : Cx} {F : FM} {T : List (Addr × Obj)} {o : Nat → Addr} {σ σ' : St} {s : Shared} {A : Around} {Qc : Value → Shared → Prop} {E : Value → Shared → Prop}

/- the target of a for -/
inductive TgtIs (nm : Names) : Expr → List Nat → Bool → Prop
  | one {x : Str} {p : Pos} {k : Nat} (hx : IsV nm x) (hk : varIx x = some k) : TgtIs nm (.Name x p) [k] true
  | many {ts : List Expr} {k0 : Nat} {p : Pos} {ks : List Nat} (h : NmTs nm ts ks) : TgtIs nm (.Tuple ts k0 p) ks false

/- a plain value is stored under a target -/
theorem bind_sound {tgt : Expr} {ks : List Nat} {one : Bool} (H : TgtIs nm tgt ks one) (hh : A.handled = none) (G : GoodCx hb g c nm) (hwr : c.wr = true) (R : Rel c F T o σ s) {v : Value} {d : V} (r : Rep c.g F v d) {K : St → Prop} (hw : bindP ks one d σ K) {Qu : Unit → Shared → Prop}
    (hq : ∀ o' s' σ', Rel c F T o' σ' s' → K σ' → Qu () s') : wpAny (model prog w) A (assign tgt c.env v) Qu E s := by
  cases H with
  | one hx hk =>
    exact wpAny_assign_Name (store_var G hwr R hx hk (.imm r) fun s' R' => hq _ s' _ R' hw)
  | @many ts k0 p ks h =>
    obtain ⟨ds, rfl, hlen, hw⟩ := tup_inv (k := fun vs => vs.length = ks.length ∧ K (σ.setAll ks (vs.map .imm))) hw
    obtain ⟨a, us, m, rfl, h1, r1⟩ := r.invTup
    have H : AllHeld c.g F T us (ds.map .imm) := .of_rep r1
    obtain ⟨g1, g2, g3, g4, g5, g6⟩ := mkT_all h H (by rw [List.length_map]; exact hlen.symm)
    obtain ⟨g7, g8⟩ := g6 c.env
    refine wpAny_assign_Tuple hh (isTuple_of (R.fro _ _ h1)) (by simpa using g7) g8 fun h' hext => ?_
    have R2 : Rel c F T o σ { s with heap := h' } := R.grow (t := s.toks) fun b ob e => hext b ob (Nat.ne_of_lt (Heap.lt_size e)) e
    rw [g3 c.env]
    have e2 : us.toArray.toList = (mkT ts ks us (ds.map .imm)).map (·.v) := by rw [g2]
    rw [e2]
    refine store_all G hwr (fun t => assign (.Name t.x t.p) c.env) (fun t v Qu s h => wpAny_assign_Name h) _ T o σ _ g1 (by rw [own_imm]; exact List.nodup_nil) (fun q hq' => ⟨hq', fun t ht e => ?_⟩) R2 fun o' s2 R3 => ?_
    · have := own_imm ts ks us ds
      have hm : q.1 ∈ (mkT ts ks us (ds.map .imm)).filterMap fun t => ownAddr t.v t.lv := List.mem_filterMap.mpr ⟨t, ht, e⟩
      rw [this] at hm; cases hm
    · rw [g4] at R3
      exact hq o' s2 _ R3 hw

theorem for_wrap {R : Result → Shared → Prop} {target : Expr} {it : Value} {body : List Stmt} {env : Env} (I : Nat → Shared → Prop) (J : Nat → Value → Shared → Prop) (B : Nat → Shared → Prop)
    (next : ∀ n s (Q : Option Value → Shared → Prop) (E : Value → Shared → Prop), I n s → (∀ s', R (.ok .next) s' → Q none s') → (∀ v s', J n v s' → Q (some v) s') → wpAny (model prog w) A (pyNext it) Q E s)
    (bind : ∀ n v s (Q : Unit → Shared → Prop) (E E' : Value → Shared → Prop), J n v s → (∀ s', B n s' → Q () s') → wpAny (model prog w) A (letOwnedTupleGo target it v) (fun zz s1 => wpAny (model prog w) A (assign target env v) Q E s1) E' s)
    (run : ∀ n s (Q : Flow → Shared → Prop) (E : Value → Shared → Prop), B n s → (∀ m s', m < n → I m s' → Q .next s') → (∀ v s', R (.ok (.ret v)) s' → Q (.ret v) s') → wpAny (model prog w) A (execs body env) Q E s)
    {n : Nat} (h : I n s) : codeAny (model prog w) A (.forLoop target it body [] env) R s :=
  codeAny_forLoop_any I (fun n s hI => next n s _ _ hI (fun s' h => wpAny_execs_nil h) fun v s' hJ => bind n v s' _ _ _ hJ fun s2 hB => run n s2 _ _ hB (fun m s3 hm hI => ⟨m, hm, hI⟩) fun v s3 h => h) n h
theorem Src.keep {I : Addr} {items : List V} {P : Nat → Value → Prop} {St : Nat → Heap → Prop} {fp : List Addr} (Sr : Src prog w A g F I items P St fp) {i : Nat} {h h' : Heap} (hst : St i h) (hI : ∀ ob, h.get? I = some ob → h'.get? I = some ob) (hF : F.ins h) (hF' : F.ins h') : St i h' :=
  Sr.walk.frame _ _ _ hst fun b hb ob e => by
    rcases Sr.foot b hb with rfl | ⟨ob', hob⟩
    · exact hI _ e
    · rw [hF _ _ hob] at e; cases e; exact hF' _ _ hob
section
variable {F1 : FM} {I : Addr} {items : List V} {P : Nat → Value → Prop} {St : Nat → Heap → Prop} {fp : List Addr}
/- ahead of a turn -/
inductive FrI (c : Cx) (F1 : FM) (T : List (Addr × Obj)) (I : Addr) (items : List V) (St : Nat → Heap → Prop) (K : List V → Mine.St → Prop) : Nat → Shared → Prop
  | mk (rest done : List V) (F' : FM) (o' : Nat → Addr) (σ' : Mine.St) (oI : Obj) (s : Shared) (hi : items = done ++ rest) (R : Rel c F' ((I, oI) :: T) o' σ' s) (hle : F1.le F') (hst : St done.length s.heap) (hw : K rest σ') : FrI c F1 T I items St K rest.length s
/- an item is taken -/
inductive FrJ (c : Cx) (F1 : FM) (T : List (Addr × Obj)) (I : Addr) (items : List V) (St : Nat → Heap → Prop) (K : List V → Mine.St → Prop) : Nat → Value → Shared → Prop
  | mk (d : V) (rest done : List V) (F' : FM) (o' : Nat → Addr) (σ' : Mine.St) (oI : Obj) (v : Value) (s : Shared) (hi : items = (done ++ [d]) ++ rest) (R : Rel c F' ((I, oI) :: T) o' σ' s) (hle : F1.le F') (hst : St (done ++ [d]).length s.heap) (rv : Rep c.g F' v d) (hI : s.heap.get? I = some oI) (hp : PlainIt oI) (hw : K (d :: rest) σ') : FrJ c F1 T I items St K (rest.length + 1) v s
theorem fr_next (Sr : Src prog w A c.g F1 I items P St fp) (hTI : ∀ p ∈ T, p.1 ≠ I) {K : List V → Mine.St → Prop} {Rn : Shared → Prop} (h1 : ∀ F' o' s' σ', F1.le F' → Rel c F' T o' σ' s' → K [] σ' → Rn s')
    {n : Nat} {Q : Option Value → Shared → Prop} (h : FrI c F1 T I items St K n s) (q0 : ∀ s', Rn s' → Q none s') (q1 : ∀ v s', FrJ c F1 T I items St K n v s' → Q (some v) s') : wpAny (model prog w) A (pyNext (.ref I)) Q E s := by
  cases h with | mk rest done F' o' σ' oI _ hi R3 hle hst hw =>
  cases rest with
  | nil =>
    rw [List.append_nil] at hi
    subst hi
    exact Sr.walk.done s _ _ hst fun h' tk hk => q0 _ (h1 F' o' _ σ' hle (R3.updT (b := I) (ob := oI) (List.mem_cons_self ..) (T' := T) (fun p hp => .inr ⟨List.mem_cons_of_mem _ hp, hTI p hp⟩) (fun a x q e => hk a x (fun h => q (List.mem_singleton.mp h)) e)) hw)
  | cons d rest =>
    have hlt : done.length < items.length := by rw [hi, List.length_append, List.length_cons]; lia
    refine Sr.walk.item done.length s _ _ hlt hst fun v h' tk hP hst' hk => ?_
    obtain ⟨d', hd', rv⟩ := Sr.item _ _ hlt hP
    have hd : items[done.length]? = some d := by rw [hi, List.getElem?_append_right (Nat.le_refl _), Nat.sub_self]; rfl
    rw [hd] at hd'
    cases hd'
    obtain ⟨oI', hI', hpl⟩ := Sr.live _ _ hst'
    exact q1 _ _ (.mk d rest done F' o' σ' oI' v _ (by rw [hi, List.append_assoc]; rfl) (R3.updT (b := I) (ob := oI) (List.mem_cons_self ..) (T' := (I, oI') :: T) (h' := h') (t := tk) (fun p hp => by
      rcases List.mem_cons.mp hp with rfl | hp
      · exact .inl ⟨rfl, hI'⟩
      · exact .inr ⟨List.mem_cons_of_mem _ hp, hTI p hp⟩) (fun a x q e => hk a x (fun h => q (List.mem_singleton.mp h)) e)) hle (by rw [List.length_append]; exact hst') (rv.mono hle) hI' hpl hw)
theorem fr_bind {tgt : Expr} {ks : List Nat} {one : Bool} (H : TgtIs nm tgt ks one) (hh : A.handled = none) (G : GoodCx hb g c nm) (hwr : c.wr = true) (Sr : Src prog w A c.g F1 I items P St fp) {bd : (Fl → Mine.St → Prop) → Mine.St → Prop} {Q : Fl → Mine.St → Prop}
    {n : Nat} {v : Value} {Qu : Unit → Shared → Prop} {E' : Value → Shared → Prop} (h : FrJ c F1 T I items St (fun l σ => forL bd ks one l Q σ) n v s)
    (q : ∀ s', FrI c F1 T I items St (fun rest σ => bd (fun fl σ' => match fl with | .next => forL bd ks one rest Q σ' | .ret v => Q (.ret v) σ') σ) (n - 1) s' ∧ 0 < n → Qu () s') : wpAny (model prog w) A (letOwnedTupleGo tgt (.ref I) v) (fun zz s1 => wpAny (model prog w) A (assign tgt c.env v) Qu E s1) E' s := by
  cases h with | mk d rest done F' o' σ' oI v _ hi R hle hst rv hI hp hw =>
  refine letOwned_plain hI hp (bind_sound H hh G hwr R rv hw fun o5 s5 σ5 R5 hw5 => q _ ⟨.mk rest (done ++ [d]) F' o5 σ5 oI s5 hi R5 hle (Sr.keep hst (fun ob e => ?_) (fun b ob e => R.fro _ _ (hle _ _ e)) fun b ob e => R5.fro _ _ (hle _ _ e)) hw5, Nat.succ_pos _⟩)
  rw [hI] at e; cases e; exact R5.tmp (I, oI) (List.mem_cons_self ..)
theorem fr_run {ks : List Nat} {one : Bool} {body : List Stmt} {xb : List S} (hb' : SoundSs prog w hb g n C nm body xb) (hr : Room n A) (G : GoodCx hb g c nm) (hwr : c.wr = true) (Sr : Src prog w A c.g F1 I items P St fp) {Q : Fl → Mine.St → Prop} {Rr : Value → Shared → Prop}
    (h2 : ∀ F' o' s' σ' val v, F1.le F' → Rel c F' T o' σ' s' → Rep c.g F' val v → Q (.ret v) σ' → Rr val s') {m : Nat} {Qf : Flow → Shared → Prop}
    (h : FrI c F1 T I items St (fun rest σ => wpSs C xb (fun fl σ' => match fl with | .next => forL (fun Q σ => wpSs C xb Q σ) ks one rest Q σ' | .ret v => Q (.ret v) σ') σ) m s)
    (q1 : ∀ s', FrI c F1 T I items St (fun l σ => forL (fun Q σ => wpSs C xb Q σ) ks one l Q σ) m s' → Qf .next s') (q2 : ∀ v s', Rr v s' → Qf (.ret v) s') : wpAny (model prog w) A (execs body c.env) Qf E s := by
  have gg := G.g
  subst gg
  cases h with | mk rest done F' o' σ' oI _ hi R hle hst hw =>
  refine hb' A c F' ((I, oI) :: T) o' σ' s _ _ _ hr G hwr R hw (fun F6 o6 s6 σ6 l6 R6 q6 => q1 _ (.mk rest done F6 o6 σ6 oI s6 hi R6 (hle.trans l6) (Sr.keep hst (fun ob e => ?_) (fun b ob e => R.fro _ _ (hle _ _ e)) fun b ob e => R6.fro _ _ (hle.trans l6 _ _ e)) q6)) fun F6 o6 s6 σ6 val vv l6 R6 r6 q6 => q2 _ _ (h2 F6 o6 s6 σ6 val vv (hle.trans l6) (R6.dropT fun p hp => List.mem_cons_of_mem _ hp) r6 q6)
  rw [show s.heap.get? I = some oI from R.tmp (I, oI) (List.mem_cons_self ..)] at e; cases e; exact R6.tmp (I, oI) (List.mem_cons_self ..)
end
theorem sound_fr {tgt it : Expr} {ks : List Nat} {one : Bool} {body : List Stmt} {pos : Pos} {xit : X} {xb : List S} (H : TgtIs nm tgt ks one) (hit : SoundE prog w hb g n C nm it xit) (hb' : SoundSs prog w hb g n C nm body xb) (hfold : ∀ env v, foldedSetIterable it env v = pure v) :
    SoundS prog w hb g n C nm (.For tgt it body [] pos) (.fr ks one false xit xb) := by
  intro A c F T o σ s Q Qc E hr G hwr R hw hq1 hq2
  have gg := G.g
  subst gg
  refine wpAny_For (hit A c F T o σ s _ _ E hr G R hw fun F1 s1 va da σ1 l1 R1 r1 q1 => ?_) (hfold c.env)
  refine iter_sound hr.handled R1 r1 q1 fun s2 items I P St fp hkeep hI R2 Sr hst hK => ?_
  obtain ⟨oI, hoI, _⟩ := Sr.live _ _ hst
  have oIo := R1.offNew hI
  refine for_wrap (FrI c F1 T I items St (fun l σ => forL (fun Q σ => wpSs C xb Q σ) ks one l Q σ)) (FrJ c F1 T I items St (fun l σ => forL (fun Q σ => wpSs C xb Q σ) ks one l Q σ)) _
    (fun n s Q' E' h a b => fr_next Sr oIo.t (fun F' o' s' σ' l R q => hq1 F' o' s' σ' (l1.trans l) R q) h a b) (fun n v s Q' E1 E2 h q => fr_bind H hr.handled G hwr Sr h q)
    (fun n s Q' E' h a b => fr_run hb' hr G hwr Sr (fun F' o' s' σ' val v l R r q => hq2 F' o' s' σ' val v (l1.trans l) R r q) h.1 (fun s' i => a _ s' (Nat.sub_lt h.2 Nat.one_pos) i) b)
    (.mk items [] F1 o σ1 oI s2 rfl (R2.addT hoI ⟨oIo.f, oIo.t, oIo.l, oIo.ce, oIo.p, oIo.h⟩ fun k hk => R1.ownNe hI hk) (FM.le.refl F1) hst hK)

theorem sound_whl {t : Expr} {body : List Stmt} {pos : Pos} {xt : X} {xb : List S} (ht : SoundT prog w hb g n C nm t xt) (hb' : SoundSs prog w hb g n C nm body xb) : SoundS prog w hb g n C nm (.While t body [] pos) (.whl xt xb) := by
  intro A c F T o σ s Q Qc E hr G hwr R hw hq1 hq2
  obtain ⟨k, hw⟩ := hw
  refine wpAny_While (codeAny_whileLoop (fun k s' => ∃ (F' : FM) (o' : Nat → Addr) (σ' : Mine.St), F.le F' ∧ Rel c F' T o' σ' s' ∧ whileN (fun Q σ => wpE C xt Q σ) (fun Q σ => wpSs C xb Q σ) k Q σ') ?_ k ⟨F, o, σ, FM.le.refl _, R, hw⟩)
  clear hw
  rintro k s' ⟨F', o', σ', l', R', hw⟩
  cases k with
  | zero => exact hw.elim
  | succ k =>
    refine ht A c F' T o' σ' s' _ _ _ hr G R' hw fun F2 s2 v σ2 l2 R2 q2 => ?_
    obtain ⟨b, rfl, q2⟩ := truthP_inv q2
    refine ⟨b, rfl, ?_⟩
    cases b with
    | true =>
      refine hb' A c F2 T o' σ2 s2 _ _ _ hr G hwr R2 (q2.1 rfl) (fun F3 o3 s3 σ3 l3 R3 q3 => ?_) fun F3 o3 s3 σ3 val vv l3 R3 r3 q3 => ?_
      · exact ⟨k, Nat.lt_succ_self k, F3, o3, σ3, (l'.trans l2).trans l3, R3, q3⟩
      · exact hq2 F3 o3 s3 σ3 val vv ((l'.trans l2).trans l3) R3 r3 q3
    | false =>
      exact wpAny_execs_nil (hq1 F2 o' s2 σ2 (l'.trans l2) R2 (q2.2 rfl))
end
end Mine
end

section
open PySem PySem.W PyProof.Rows PyProof.Rows.LSm
set_option Elab.async false
set_option maxRecDepth 100000
set_option linter.unusedVariables false
set_option linter.unusedSimpArgs false
namespace Mine

section
variable {prog : Program} {w : World} {hb : Heap} {mg mb : Str → Option Value} {g : GP} {n : Nat} {C : Calls} {nm : Names}
variable {c : Cx} {F : FM} {T : List (Addr × Obj)} {o : Nat → Addr} {σ σ' : St} {s : Shared} {A : Around} {Qc : Value → Shared → Prop} {E : Value → Shared → Prop}

/- an object that is nobody's is told for good -/
theorem Rel.put (R : Rel c F T o σ s) {a : Addr} {ob : Obj} (h : s.heap.get? a = some ob) (O : Off c F T a) (ho : ∀ k, Owned σ k → o k ≠ a) : F.le (F.put a ob) ∧ Rel c (F.put a ob) T o σ s := by
  have l : F.le (F.put a ob) := FM.le_put O.f
  have ne : ∀ b, b ≠ a → F b = none → F.put a ob b = none := fun b q e => by rw [FM.put_ne _ _ q]; exact e
  refine ⟨l, { R with
    fro := fun b x e' => ?_
    f0 := R.f0.trans l
    fnew := fun b x e' => ?_
    ns := (by obtain ⟨m, hm, r⟩ := R.ns; exact ⟨m, hm, fun x k hx hk => (r x k hx hk).mono l⟩)
    cel := fun x k hx hk => (by obtain ⟨b, ov, ha, hc, r⟩ := R.cel x k hx hk; exact ⟨b, ov, ha, hc, r.mono l⟩)
    own := fun k vs e => (by obtain ⟨us, m, h, r⟩ := R.own k vs e; exact ⟨us, m, h, r.mono l⟩)
    dct := fun k ks e => (R.dct k ks e).mono l fun zz h => h
    off := fun k hk => let O' := R.off k hk; ⟨ne _ (ho k hk) O'.f, O'.t, O'.l, O'.ce, O'.p, O'.h⟩
    pot := fun p e => (R.pot p e).mono l fun zz h => h
    offP := fun e => ⟨ne _ O.p.symm (R.offP e).1, (R.offP e).2⟩
    offL := ⟨ne _ O.l.symm R.offL.1, R.offL.2⟩
    offC := fun x b hx => (by obtain ⟨h1, h2, h3⟩ := R.offC x b hx; exact ⟨h1, ne _ (O.ce x b hx) h2, h3⟩)
    offT := fun p hp => ⟨ne _ (O.t p hp) (R.offT p hp).1, (R.offT p hp).2⟩ }⟩
  · unfold FM.put at e'
    by_cases q : b = a
    · rw [if_pos q] at e'; cases e'; rw [q]; exact h
    · rw [if_neg q] at e'; exact R.fro _ _ e'
  · unfold FM.put at e'
    by_cases q : b = a
    · right; rw [q]; exact O.h
    · rw [if_neg q] at e'; exact R.fnew _ _ e'

@[reducible] noncomputable def enumO (it : Addr) (i : Int) (old : Value) : Obj := { cls := .type "enumerate", dict := none, data := .fields #[.none, .bool false, .ref it, rawInt i, .none, old], slots := #[] }

theorem Off.like {a : Addr} {T' : List (Addr × Obj)} (O : Off c F T a) (h : ∀ p ∈ T', ∃ q ∈ T, q.1 = p.1) : Off c F T' a := { O with t := fun p hp => (h p hp).elim fun q hq => hq.2 ▸ O.t q hq.1 }

section
variable {e i : Addr} {oe oi : Obj} {h' : Heap} {t : Nat}
theorem Rel.dropEI (R : Rel c F ((e, oe) :: (i, oi) :: T) o σ s) (hE : ∀ p ∈ T, p.1 ≠ e) (hI : ∀ p ∈ T, p.1 ≠ i) (keep : ∀ b x, b ≠ i → s.heap.get? b = some x → h'.get? b = some x) : Rel c F T o σ { s with heap := h', toks := t } :=
  R.updB (B := fun b => b = e ∨ b = i) (fun b hb => hb.elim (fun h => ⟨oe, h ▸ .head _⟩) fun h => ⟨oi, h ▸ .tail _ (.head _)⟩) (fun p hp => .inr ⟨.tail _ (.tail _ hp), fun h => h.elim (hE p hp) (hI p hp)⟩) fun b x q => keep b x fun h => q (.inr h)
theorem Rel.updEI (R : Rel c F ((e, oe) :: (i, oi) :: T) o σ s) (hE : ∀ p ∈ T, p.1 ≠ e) (hI : ∀ p ∈ T, p.1 ≠ i) {oe' oi' : Obj} (he : h'.get? e = some oe') (hi : h'.get? i = some oi') (keep : ∀ b x, b ≠ e → b ≠ i → s.heap.get? b = some x → h'.get? b = some x) :
    Rel c F ((e, oe') :: (i, oi') :: T) o σ { s with heap := h', toks := t } :=
  R.updB (B := fun b => b = e ∨ b = i) (fun b hb => hb.elim (fun h => ⟨oe, h ▸ .head _⟩) fun h => ⟨oi, h ▸ .tail _ (.head _)⟩) (fun p hp => by
    cases hp with
    | head => exact .inl ⟨.inl rfl, he⟩
    | tail _ hp =>
      cases hp with
      | head => exact .inl ⟨.inr rfl, hi⟩
      | tail _ hp => exact .inr ⟨.tail _ (.tail _ hp), fun h => h.elim (hE p hp) (hI p hp)⟩) fun b x q => keep b x (fun h => q (.inl h)) fun h => q (.inr h)
theorem like2 {oe' oi' : Obj} : ∀ p ∈ (e, oe') :: (i, oi') :: T, ∃ q ∈ (e, oe) :: (i, oi) :: T, q.1 = p.1 := fun p hp => by
  cases hp with
  | head => exact ⟨_, .head _, rfl⟩
  | tail _ hp =>
    cases hp with
    | head => exact ⟨_, .tail _ (.head _), rfl⟩
    | tail _ hp => exact ⟨p, .tail _ (.tail _ hp), rfl⟩
end

section
variable {F1 : FM} {eA itA a : Addr} {us : List Value} {m0 : Nat} {vs : List V}
/- ahead of a turn -/
inductive EnI (c : Cx) (F1 : FM) (T : List (Addr × Obj)) (eA itA a : Addr) (vs : List V) (K : List V → Mine.St → Prop) : Nat → Shared → Prop
  | mk (rest done : List V) (F' : FM) (o' : Nat → Addr) (σ' : Mine.St) (old : Value) (oIt : Obj) (s : Shared) (hi : vs = done ++ rest) (R : Rel c F' ((eA, enumO itA done.length old) :: (itA, oIt) :: T) o' σ' s) (hle : F1.le F')
    (hc : oIt.cls = .type "list_iterator") (hd : oIt.data = .fields #[.ref a, .int done.length 0]) (hw : K (enumV done.length rest) σ') : EnI c F1 T eA itA a vs K rest.length s
/- an item is taken -/
inductive EnJ (c : Cx) (F1 : FM) (T : List (Addr × Obj)) (eA itA a : Addr) (vs : List V) (K : List V → Mine.St → Prop) : Nat → Value → Shared → Prop
  | mk (d : V) (rest done : List V) (F' : FM) (o' : Nat → Addr) (σ' : Mine.St) (old v : Value) (oIt oIt' : Obj) (s : Shared) (h₁ : Heap) (hi : vs = done ++ d :: rest) (R : Rel c F' ((eA, enumO itA done.length old) :: (itA, oIt) :: T) o' σ' s) (hle : F1.le F')
    (heo : IsEnumOut h₁ eA itA ((done.length : Int) + 1) v s.heap.objs.size) (hI : h₁.get? itA = some oIt') (hc : oIt'.cls = .type "list_iterator") (hd : oIt'.data = .fields #[.ref a, .int ((done.length + 1 : Nat) : Int) 0])
    (ht : h₁.get? s.heap.objs.size = some (tupO [.int done.length s.toks, v] 0)) (hk : ∀ b o, b ≠ eA → b ≠ itA → s.heap.get? b = some o → h₁.get? b = some o) (rv : Rep c.g F' v d)
    (hw : K (.tup [.int done.length, d] :: enumV (done.length + 1) rest) σ') : EnJ c F1 T eA itA a vs K (rest.length + 1) (.ref s.heap.objs.size) { s with heap := h₁, toks := s.toks + 1 }
theorem en_next (hh : A.handled = none) (hTE : ∀ p ∈ T, p.1 ≠ eA) (hTI : ∀ p ∈ T, p.1 ≠ itA) (hne : eA ≠ itA) (h1 : F1 a = some (lstO us m0)) (rr : RepAll c.g F1 us vs) {K : List V → Mine.St → Prop} {Rn : Shared → Prop} (hn : ∀ F' o' s' σ', F1.le F' → Rel c F' T o' σ' s' → K [] σ' → Rn s')
    {n : Nat} {Q : Option Value → Shared → Prop} (h : EnI c F1 T eA itA a vs K n s) (q0 : ∀ s', Rn s' → Q none s') (q1 : ∀ v s', EnJ c F1 T eA itA a vs K n v s' → Q (some v) s') : wpAny (model prog w) A (pyNext (.ref eA)) Q E s := by
  cases h with | mk rest done F' o' σ' old oIt _ hi R hle hc hd hw =>
  have hE3 : s.heap.get? eA = some (enumO itA done.length old) := R.tmp _ (.head _)
  have hli : s.heap.IsListIter itA a done.length := ⟨oIt, R.tmp _ (.tail _ (.head _)), hc, hd⟩
  have hl3 : s.heap.IsList a us.toArray := isList_of (R.fro _ _ (hle _ _ h1))
  cases rest with
  | nil =>
    refine wpAny_pyNext_enum_end hh hE3 hli hl3 ?_ fun h' hext => q0 _ (hn F' o' _ σ' hle (R.dropEI (t := s.toks) hTE hTI hext) hw)
    rw [List.getElem?_toArray, List.getElem?_eq_none_iff, rr.length, hi, List.append_nil]
    exact Nat.le_refl _
  | cons d rest =>
    obtain ⟨v, hv, rv⟩ := rr.get (i := done.length) (d := d) (by rw [hi, List.getElem?_append_right (Nat.le_refl _), Nat.sub_self]; rfl)
    refine wpAny_pyNext_enum_item hE3 hli hl3 (List.getElem?_toArray.trans hv) hne fun h₁ heo hit₁ ht₁ hz₁ hk₁ => ?_
    obtain ⟨oIt', hoIt', hcIt', hdIt'⟩ := hit₁
    exact q1 _ _ (.mk d rest done F' o' σ' old v oIt oIt' s h₁ hi R hle heo hoIt' hcIt' hdIt' ht₁ hk₁ (rv.mono hle) hw)
theorem en_bind {ts : List Expr} {k0 : Nat} {tp : Pos} {ks : List Nat} (H : NmTs nm ts ks) (hh : A.handled = none) (G : GoodCx hb g c nm) (hwr : c.wr = true) (hTE : ∀ p ∈ T, p.1 ≠ eA) (hTI : ∀ p ∈ T, p.1 ≠ itA) (hne : eA ≠ itA) {bd : (Fl → Mine.St → Prop) → Mine.St → Prop} {Q : Fl → Mine.St → Prop}
    {n : Nat} {v : Value} {Qu : Unit → Shared → Prop} {E' : Value → Shared → Prop} (h : EnJ c F1 T eA itA a vs (fun l σ => forL bd ks false l Q σ) n v s)
    (q : ∀ s', EnI c F1 T eA itA a vs (fun rest σ => bd (fun fl σ' => match fl with | .next => forL bd ks false rest Q σ' | .ret v => Q (.ret v) σ') σ) (n - 1) s' ∧ 0 < n → Qu () s') : wpAny (model prog w) A (letOwnedTupleGo (.Tuple ts k0 tp) (.ref eA) v) (fun zz s1 => wpAny (model prog w) A (assign (.Tuple ts k0 tp) c.env v) Qu E s1) E' s := by
  cases h with | mk d rest done F' o' σ' old v oIt oIt' s3 h₁ hi R hle heo hI hc hd ht hk rv hw =>
  refine wpAny_letOwnedTupleGo_enum heo fun h₂ he₂ hs₂ => ?_
  replace hs₂ : Heap.SameBut eA h₁ h₂ := hs₂
  have hfr : s3.heap.get? s3.heap.objs.size = none := fresh_none (Nat.le_refl _)
  have hsE : eA < s3.heap.objs.size := Heap.lt_size (R.tmp _ (.head _))
  have R4 := R.updEI (t := s3.toks + 1) hTE hTI he₂ ((hs₂.2 _ (Ne.symm hne)).trans hI) fun b x q q' e => (hs₂.2 b q).trans (hk b x q q' e)
  obtain ⟨l5, R5⟩ := R4.put ((hs₂.2 _ (Nat.ne_of_gt hsE)).trans ht) ((R.offNew hfr).like like2) fun k hk => R.ownNe hfr hk
  refine bind_sound (.many (k0 := k0) (p := tp) H) hh G hwr R5 (.tup (FM.put_self ..) (.cons (.int _ _) (.cons (rv.mono l5) .nil))) hw fun o6 s6 σ6 R6 hw6 => q _ ⟨?_, Nat.succ_pos _⟩
  have e2 : (done ++ [d]).length = done.length + 1 := List.length_append
  refine .mk rest (done ++ [d]) _ o6 σ6 v oIt' s6 (by rw [hi, List.append_assoc]; rfl) (by rw [e2]; exact R6) (hle.trans l5) hc (by rw [e2]; exact hd) (by rw [e2]; exact hw6)
theorem en_run {ks : List Nat} {body : List Stmt} {xb : List S} (hb' : SoundSs prog w hb c.g n C nm body xb) (hr : Room n A) (G : GoodCx hb c.g c nm) (hwr : c.wr = true) {Q : Fl → Mine.St → Prop} {Rr : Value → Shared → Prop}
    (h2 : ∀ F' o' s' σ' val v, F1.le F' → Rel c F' T o' σ' s' → Rep c.g F' val v → Q (.ret v) σ' → Rr val s') {m : Nat} {Qf : Flow → Shared → Prop}
    (h : EnI c F1 T eA itA a vs (fun rest σ => wpSs C xb (fun fl σ' => match fl with | .next => forL (fun Q σ => wpSs C xb Q σ) ks false rest Q σ' | .ret v => Q (.ret v) σ') σ) m s)
    (q1 : ∀ s', EnI c F1 T eA itA a vs (fun l σ => forL (fun Q σ => wpSs C xb Q σ) ks false l Q σ) m s' → Qf .next s') (q2 : ∀ v s', Rr v s' → Qf (.ret v) s') : wpAny (model prog w) A (execs body c.env) Qf E s := by
  cases h with | mk rest done F' o' σ' old oIt _ hi R hle hc hd hw =>
  exact hb' A c F' _ o' σ' s _ _ _ hr G hwr R hw (fun F6 o6 s6 σ6 l6 R6 q6 => q1 _ (.mk rest done F6 o6 σ6 old oIt s6 hi R6 (hle.trans l6) hc hd q6)) fun F6 o6 s6 σ6 val vv l6 R6 r6 q6 => q2 _ _ (h2 F6 o6 s6 σ6 val vv (hle.trans l6) (R6.dropT fun p hp => .tail _ (.tail _ hp)) r6 q6)
end

theorem sound_enum {ts : List Expr} {k0 : Nat} {tp gp cp pos : Pos} {gn : Str} {e : Expr} {ks : List Nat} {body : List Stmt} {xe : X} {xb : List S} (B : Base mg mb g hb) (hg : nm.lookup gn = some .globalImplicit) (hgn : gn = "enumerate")
    (H : NmTs nm ts ks) (he : SoundE prog w hb g n C nm e xe) (hns : NoStar e) (hb' : SoundSs prog w hb g n C nm body xb) :
    SoundS prog w hb g n C nm (.For (.Tuple ts k0 tp) (.Call (.Name gn gp) [e] [] cp) body [] pos) (.fr ks false true xe xb) := by
  intro A c F T o σ s Q Qc E hr G hwr R hw hq1 hq2
  have gg := G.g
  subst gg
  subst hgn
  refine wpAny_For (wpAny_Call_NameR (blt_name (v := .type "enumerate") B G R hg (blt_at 10 rfl) (by decide +kernel) ?_)) (fun x => rfl)
  refine callWith_blt rfl (fun x hx => by rw [List.mem_singleton.mp hx]; exact hns) (wpAny_items_cons (he A c F T o σ s _ _ E hr G R hw fun F1 s1 va da σ1 l1 R1 r1 q1 => wpAny_items_nil ?_) (hns _ _))
  obtain ⟨vs, rfl, hsz, hK⟩ := lst_inv q1
  obtain ⟨a, us, m0, rfl, h1, rr⟩ := r1.invLst
  refine call_enumerate_list (isList_of (R1.fro _ _ h1)) fun h2 he2 hit2 hz2 hk2 => wpAny_pyIter_enum he2 ?_
  obtain ⟨oIt, hoIt, hcIt, hdIt⟩ := hit2
  have hItn : s1.heap.get? s1.heap.objs.size = none := fresh_none (Nat.le_refl _)
  have hEn : s1.heap.get? (s1.heap.objs.size + 1) = none := fresh_none (Nat.le_succ _)
  have oIt' := R1.offNew hItn
  have oE' := R1.offNew hEn
  have R2 : Rel c F1 T o σ1 { s1 with heap := h2 } := R1.grow (t := s1.toks) hk2
  have hne : s1.heap.objs.size + 1 ≠ s1.heap.objs.size := Nat.succ_ne_self _
  exact for_wrap (EnI c F1 T _ _ a vs (fun l σ => forL (fun Q σ => wpSs C xb Q σ) ks false l Q σ)) (EnJ c F1 T _ _ a vs (fun l σ => forL (fun Q σ => wpSs C xb Q σ) ks false l Q σ)) _
    (fun n s Q' E' h a b => en_next hr.handled oE'.t oIt'.t hne h1 rr (fun F' o' s' σ' l R q => hq1 F' o' s' σ' (l1.trans l) R q) h a b) (fun n v s Q' E1 E2 h q => en_bind H hr.handled G hwr oE'.t oIt'.t hne h q)
    (fun n s Q' E' h a b => en_run hb' hr G hwr (fun F' o' s' σ' val v l R r q => hq2 F' o' s' σ' val v (l1.trans l) R r q) h.1 (fun s' i => a _ s' (Nat.sub_lt h.2 Nat.one_pos) i) b)
    (.mk vs [] F1 o σ1 .none oIt _ rfl ((R2.addT hoIt oIt' fun k hk => R1.ownNe hItn hk).addT he2 ⟨oE'.f, fun p hp => by cases hp with | head => exact Ne.symm hne | tail _ hp => exact oE'.t p hp, oE'.l, oE'.ce, oE'.p, oE'.h⟩ fun k hk => R1.ownNe hEn hk) (FM.le.refl F1) hcIt hdIt hK)
end
end Mine
end

section
open PySem PySem.W PyProof.Rows PyProof.Rows.LSm
set_option Elab.async false
set_option maxRecDepth 100000
set_option tactic.hygienic false
set_option linter.unusedVariables false
namespace Mine

theorem fm_congr {α β : Type} {f f' : α → Option β} : ∀ {l : List α}, (∀ x ∈ l, f x = f' x) → l.filterMap f = l.filterMap f'
  | [], _ => rfl
  | a :: l, h => by rw [List.filterMap_cons, List.filterMap_cons, h a (List.mem_cons_self ..), fm_congr fun x hx => h x (List.mem_cons_of_mem _ hx)]
theorem zip_pick : ∀ (ns : List Str) (us : List Value), ns.Nodup → us.length = ns.length → ns.filterMap (fun n => ((ns.zip us).lookup n).map (n, ·)) = ns.zip us
  | [], _, _, _ => rfl
  | _ :: _, [], _, e => by cases e
  | a :: ns, u :: us, h, e => by
    have h' := List.nodup_cons.mp h
    rw [List.zip_cons_cons, List.filterMap_cons]
    simp only [List.lookup_cons, beq_self_eq_true, Option.map_some]
    congr 1
    refine Eq.trans (fm_congr fun n hn => ?_) (zip_pick ns us h'.2 (Nat.succ.inj e))
    have : (n == a) = false := by rw [beq_eq_false_iff_ne]; exact fun e => h'.1 (e ▸ hn)
    rw [this]
theorem zip_some : ∀ {ns : List Str} {us : List Value} {n : Str}, us.length = ns.length → n ∈ ns → ((ns.zip us).lookup n).isNone = false
  | a :: ns, u :: us, n, e, h => by
    rw [List.zip_cons_cons, List.lookup_cons]
    cases hq : n == a with
    | true => rfl
    | false => exact zip_some (by simpa using e) ((List.mem_cons.mp h).resolve_left (by simpa using hq))
  | _ :: _, [], _, e, _ => by cases e
theorem bind_fd {fd : FuncData} {ar : List Arg} {us : List Value} (hp : fd.params = ⟨[], ar, none, [], [], none, []⟩) (hd : fd.defaults = .none) (hk : fd.kwdefaults = .none) (hn : (ar.map (·.arg)).Nodup) (hl : us.length = ar.length) :
    bindArgs fd ⟨us, []⟩ = pure ((ar.map (·.arg)).zip us) := by
  have hl' : us.length = (ar.map (·.arg)).length := by rw [List.length_map]; exact hl
  have hm : (ar.map (·.arg)).filter (fun n => (((ar.map (·.arg)).zip us).lookup n).isNone) = [] := List.filter_eq_nil_iff.mpr fun n hn => by rw [zip_some hl' hn]; exact Bool.false_ne_true
  have h0 : (seqItems? Value.none : Sem _) = pure none := rfl
  delta bindArgs
  simp only [hp, hd, hk, h0, List.map_nil, List.nil_append, List.forIn_nil, pure_bind, Option.getD_none, List.toList_toArray, List.length_nil, Nat.zero_sub, Nat.sub_zero, List.drop_nil, List.zip_nil_right, List.append_nil, hl', List.take_length, hm, List.isEmpty_nil,
    Bool.not_true, Bool.false_eq_true, if_false, gt_iff_lt, Nat.lt_irrefl, decide_false, Bool.false_and, zip_pick _ _ hn hl']
theorem bind_plain {n : Str} {ar : List Arg} {body : List Stmt} {sc : Scope} {pm code doc : Value} {us : List Value} (hn : (ar.map (·.arg)).Nodup) (hl : us.length = ar.length) :
    bindArgs (Calls.docDef n ⟨[], ar, none, [], [], none, []⟩ body sc pm code doc) ⟨us, []⟩ = pure ((ar.map (·.arg)).zip us) := bind_fd rfl rfl rfl hn hl

section
variable {prog : Program} {w : World} {hb : Heap} {mg mb : Str → Option Value} {g : GP} {n : Nat} {C : Calls} {nm : Names} {F : FM}

theorem bindL_skip {K : Str → Option NameKind} {x : Str} : ∀ (bs : List (Str × Value)) (m : Str → Option Value), (∀ p ∈ bs, p.1 ≠ x) → bindL K bs m x = m x
  | [], _, _ => rfl
  | (a, v) :: r, m, h => by
    unfold bindL
    rw [bindL_skip r _ fun p hp => h p (List.mem_cons_of_mem _ hp)]
    split
    · exact if_neg fun e => h _ (List.mem_cons_self ..) e.symm
    · rfl
theorem bindC_skip {K : Str → Option NameKind} {x : Str} : ∀ (bs : List (Str × Value)) (m : Str → Option Value), (∀ p ∈ bs, p.1 ≠ x) → bindC K bs m x = m x
  | [], _, _ => rfl
  | (a, v) :: r, m, h => by
    unfold bindC
    rw [bindC_skip r _ fun p hp => h p (List.mem_cons_of_mem _ hp)]
    split
    · rfl
    · exact if_neg fun e => h _ (List.mem_cons_self ..) e.symm
theorem zip_fst {ns : List Str} {us : List Value} {p : Str × Value} (h : p ∈ ns.zip us) : p.1 ∈ ns := (List.of_mem_zip (a := p.1) (b := p.2) h).1
theorem bind_loc {K : Str → Option NameKind} {x : Str} {k : Nat} (hx : varIx x = some k) : ∀ (ns : List Str) (ps : List Nat) (us : List Value) (vs : List V) (m : Str → Option Value) {lv : LV}, ns.Nodup → ns.map varIx = ps.map some → RepAll g F us vs →
    getL k (ps.zip (vs.map .imm)) = some lv → ∃ y v, (K x = some .local → bindL K (ns.zip us) m x = some y) ∧ (K x ≠ some .local → bindC K (ns.zip us) m x = some y) ∧ lv = .imm v ∧ Rep g F y v
  | ns, [], us, vs, m, lv, _, _, _, e => by cases e
  | [], p :: ps, us, vs, m, lv, _, h, _, e => by cases h
  | a :: ns, p :: ps, us, vs, m, lv, hn, h, r, e => by
    have h1 : varIx a = some p := (List.cons.inj h).1
    have h2 : ns.map varIx = ps.map some := (List.cons.inj h).2
    have hn' := List.nodup_cons.mp hn
    cases r with
    | nil => cases e
    | @cons u v us vs hu r =>
      rw [List.map_cons, List.zip_cons_cons] at e
      cases hk : Nat.beq k p with
      | true =>
        rw [getL_hit hk] at e
        cases e
        rw [← Nat.eq_of_beq_eq_true hk] at h1
        have hax : a = x := varIx_inj h1 hx
        subst hax
        refine ⟨u, v, fun hK => ?_, fun hK => ?_, rfl, hu⟩
        · rw [List.zip_cons_cons]; unfold bindL
          rw [bindL_skip _ _ fun p hp (e : p.1 = a) => hn'.1 (e ▸ zip_fst hp), if_pos hK]
          exact if_pos rfl
        · rw [List.zip_cons_cons]; unfold bindC
          rw [bindC_skip _ _ fun p hp (e : p.1 = a) => hn'.1 (e ▸ zip_fst hp), if_neg hK]
          exact if_pos rfl
      | false =>
        rw [getL_miss hk] at e
        obtain ⟨y, v', q1, _, q3, q4⟩ := bind_loc hx ns ps us vs (if K a = some .local then fun y => if y = a then some u else m y else m) hn'.2 h2 r e
        obtain ⟨y2, v2, _, p2, p3, p4⟩ := bind_loc hx ns ps us vs (if K a = some .local then m else fun y => if y = a then some u else m y) hn'.2 h2 r e
        by_cases hK : K x = some .local
        · exact ⟨y, v', q1, fun q => absurd hK q, q3, q4⟩
        · exact ⟨y2, v2, fun q => absurd q hK, p2, p3, p4⟩
theorem getL_zip {k : Nat} {lv : LV} : ∀ {ps : List Nat} {vs : List V}, getL k (ps.zip (vs.map .imm)) = some lv → ∃ v, lv = .imm v
  | [], _, e => by cases e
  | _ :: _, [], e => by cases e
  | p :: ps, v :: vs, e => by
    rw [List.map_cons, List.zip_cons_cons] at e
    cases hk : Nat.beq k p with
    | true => rw [getL_hit hk] at e; cases e; exact ⟨v, rfl⟩
    | false => rw [getL_miss hk] at e; exact getL_zip e

/- a def is entered -/
theorem enter {a : Addr} {ob : Obj} {fn : Str} {ar : List Arg} {body : List Stmt} {sc : Scope} {pm code doc : Value} {ps : List Nat} {b : List S} (B : Base mg mb g hb) (ho : hb.get? a = some ob) (hd : ob.data = .func (Calls.docDef fn ⟨[], ar, none, [], [], none, []⟩ body sc pm code doc)) (hc : hb.CodeRec code fn)
    (hk : sc.kind = .function) (hg : sc.isGenerator = false) (hco : sc.isCoroutine = false) (hfr : ∀ x, sc.names.lookup x ≠ some .free) (hn : (ar.map (·.arg)).Nodup) (hps : (ar.map (·.arg)).map varIx = ps.map some)
    (hkd : ∀ x ∈ ar.map (·.arg), sc.names.lookup x = some .local ∨ (sc.names.lookup x = some .cell)) (hcl : ∀ L x, sc.names.lookup x = some .cell → ((cellsFrom L sc.names []).lookup x).isSome = true)
    (hs : SoundSs prog w hb g n C sc.names body b) {A : Around} {s : Shared} {us : List Value} {vs : List V} {p : Option Pot} {k : V → Option Pot → Prop} {R : Result → Shared → Prop}
    (hr : Room (n + 1) A) (hA : AtCall hb g F s p) (r : RepAll g F us vs) (hl : vs.length = ps.length) (hw : wpF C b k ⟨ps.zip (vs.map .imm), p⟩)
    (hq : ∀ F' s' val v p', Ret hb F g s p F' s' p' → Rep g F' val v → k v p' → R (.ok (.ret val)) s') : codeAny (model prog w) A (.call (.ref a) ⟨us, []⟩) R s := by
  have hkeep : ∀ b ob, hb.get? b = some ob → s.heap.get? b = some ob := fun b ob e => hA.fro _ _ (hA.base _ _ e)
  have hlen : ps.length = ar.length := by have := congrArg List.length hps; simpa using this.symm
  refine codeAny_call_cells (fd := Calls.docDef fn ⟨[], ar, none, [], [], none, []⟩ body sc pm code doc) (binds := (ar.map (·.arg)).zip us) hr.depth (hkeep _ _ ho) hd (B.nolimit.keeps hkeep) (hc.keeps hkeep) rfl
    (bind_plain hn (by rw [r.length, hl, hlen])) rfl (fun x hx => ?_) (fun s₁ X => ?_) hco hg hk
  · rcases hkd _ (zip_fst hx) with h | h
    · exact .inl h
    · exact .inr ⟨h, hcl _ _ h⟩
  · obtain ⟨h1, tk, rfl⟩ := X.toInCall.same
    let c : Cx := ⟨g, callEnvC (Calls.docDef fn ⟨[], ar, none, [], [], none, []⟩ body sc pm code doc) s.heap.objs.size a, fun a => s.heap.get? a, F, s, true, p.isSome⟩
    have noOwn : ∀ q, ¬ Owned (⟨ps.zip (vs.map .imm), p⟩ : St) q := fun q ⟨lv, e, h⟩ => by
      obtain ⟨v, rfl⟩ := getL_zip e
      cases h
    have imm : ∀ {q : Nat} {lv : LV} {α : Prop}, St.get (⟨ps.zip (vs.map .imm), p⟩ : St) q = some lv → lv.isOwn = true → α := fun e h => absurd ⟨_, e, h⟩ (noOwn _)
    have hL : s.heap.get? s.heap.objs.size = none := fresh_none (Nat.le_refl _)
    have Fnone : ∀ {a}, s.heap.get? a = none → F a = none := fun {a} e => by
      cases h : F a with
      | none => rfl
      | some ob => rw [hA.fro _ _ h] at e; cases e
    have loc : ∀ x q, varIx x = some q → ∀ K : Str → Option NameKind, (K x = some .local → LocRel g F (fun zz => 0) q (bindL K ((ar.map (·.arg)).zip us) (fun zz => none) x) (St.get ⟨ps.zip (vs.map .imm), p⟩ q)) ∧
        (K x ≠ some .local → LocRel g F (fun zz => 0) q (bindC K ((ar.map (·.arg)).zip us) (fun zz => none) x) (St.get ⟨ps.zip (vs.map .imm), p⟩ q)) := fun x q hq K => by
      cases e : St.get ⟨ps.zip (vs.map .imm), p⟩ q with
      | none => exact ⟨fun zz => trivial, fun zz => trivial⟩
      | some lv =>
        obtain ⟨y, v, q1, q2, rfl, q4⟩ := bind_loc (K := K) hq (ar.map (·.arg)) ps us vs (fun zz => none) hn hps r e
        exact ⟨fun h => ⟨y, q1 h, q4⟩, fun h => ⟨y, q2 h, q4⟩⟩
    have R0 : Rel c F [] (fun zz => 0) ⟨ps.zip (vs.map .imm), p⟩ { s with heap := h1, toks := tk } := {
      same := ⟨h1, tk, rfl⟩
      fro := fun b ob e => X.toInCall.keep _ _ (hA.fro _ _ e)
      f0 := FM.le.refl F
      fnew := fun zz zz e => .inl e
      tmp := fun zz h => nomatch h
      kept := fun zz zz e zz => X.toInCall.keep _ _ e
      ns := ⟨_, X.toInCall.ns, fun x q hx hq => (loc x q hq _).1 hx⟩
      cel := fun x q hx hq => by
        obtain ⟨b, hb'⟩ := Option.isSome_iff_exists.mp (hcl (s.heap.objs.size + 1) x hx)
        exact ⟨b, _, hb', X.cell x b hb', (loc x q hq _).2 fun h => nomatch (hx.symm.trans h)⟩
      own := fun q us e => imm e rfl
      dct := fun q us e => imm e rfl
      off := fun q h => absurd h (noOwn q)
      inj := fun q zz h => absurd h (noOwn q)
      pot := fun q e => (hA.pot q e).mono (FM.le.refl F) fun zz => X.toInCall.keep _ _
      hP := hA.hP
      offP := fun e => ⟨hA.off e, fun zz h => nomatch h⟩
      offL := ⟨Fnone hL, fun zz h => (nomatch h), hL⟩
      offC := fun x b hx => by
        have ha := X.above x b (mem_of_lookup hx)
        have hn : s.heap.get? b = none := fresh_none (Nat.le_of_lt ha)
        exact ⟨⟨_, X.cell x b hx⟩, Fnone hn, fun zz h => (nomatch h), Nat.ne_of_gt ha, fun zz => hn⟩
      injC := fun x y b hx hy => name_of_addr X.apart (mem_of_lookup hx) (mem_of_lookup hy)
      offT := fun zz h => nomatch h
      potB := rfl }
    have fin : ∀ {F' : FM} {o' : Nat → Addr} {s' : Shared} {σ' : St}, F.le F' → Rel c F' [] o' σ' s' → Ret hb F g s p F' s' σ'.pot := fun {F' o' s' σ'} l R' => by
      have hb' : σ'.pot.isSome = p.isSome := R'.potB
      have key : σ'.pot ≠ none ↔ p ≠ none := by
        cases hσ : σ'.pot <;> cases p <;> simp_all
      refine ⟨l, R'.fro, R'.fnew, fun b ob e h => R'.kept _ _ e fun h' => h (key.mp h'), R'.same, fun e => ?_, key.mpr, R'.pot⟩
      cases hσ : σ'.pot with
      | none => rfl
      | some q => exact absurd e (key.mp (by rw [hσ]; exact fun h => nomatch h))
    refine hs (A.deeper _) c F [] _ _ _ _ _ _ ⟨by have := hr.1; show A.depth + 1 + 3 * n ≤ 500; lia, by have := hr.2.1; rw [Around.deeper_units]; lia, hr.2.2⟩
      ⟨rfl, hk, rfl, rfl, rfl, nmok_all _, hA.base, hfr⟩ rfl R0 hw (fun F' o' s' σ' l R' q => hq F' s' _ .none _ (fin l R') .none q) fun F' o' s' σ' val v l R' rv q => hq F' s' _ v _ (fin l R') rv q
end
end Mine
end

section
open PySem PySem.W PyProof.Rows PyProof.Rows.LSm
set_option Elab.async false
set_option backward.match.sparseCases false
set_option genCtorIdx false
set_option maxRecDepth 100000
set_option tactic.hygienic false
set_option genSizeOf false
set_option genInjectivity false
set_option linter.unusedVariables false
namespace Mine

/- a proof, or none -/
inductive Ok (P : Prop) : Type
  | yes (h : P)
  | no
section
variable {P Q : Prop}
noncomputable def Ok.map (f : P → Q) : Ok P → Ok Q
  | .yes h => .yes (f h)
  | .no => .no
noncomputable def Ok.and : Ok P → Ok Q → Ok (P ∧ Q)
  | .yes h, .yes k => .yes ⟨h, k⟩
  | _, _ => .no
noncomputable def Ok.dec (P : Prop) [d : Decidable P] : Ok P := match d with
  | .isTrue h => .yes h
  | .isFalse _ => .no
noncomputable def Ok.ok : Ok P → Bool
  | .yes _ => true
  | .no => false
theorem Ok.get : {x : Ok P} → x.ok = true → P
  | .yes h, _ => h
end
noncomputable def allOk {α β : Type} {R : α → β → Prop} (f : ∀ a b, Ok (R a b)) : ∀ (as : List α) (bs : List β), Ok (All2 R as bs)
  | [], [] => .yes .nil
  | a :: as, b :: bs => ((f a b).and (allOk f as bs)).map fun h => .cons h.1 h.2
  | _, _ => .no
theorem All2.imp {α β : Type} {R S : α → β → Prop} (f : ∀ a b, R a b → S a b) : ∀ {as : List α} {bs : List β}, All2 R as bs → All2 S as bs := by
  intro as bs h
  induction h with
  | nil => exact .nil
  | cons h _ ih => exact .cons (f _ _ h) ih

/- what a proof of soundness goes by -/
structure Wd where
  prog : Program
  w : World
  hb : Heap
  mg : Str → Option Value
  mb : Str → Option Value
  g : GP
  n : Nat
  C : Calls
  B : Base mg mb g hb
  K : CallsOk prog w hb mg g n C
  hW : g.w = w

structure Snd (nm : Names) (e : Expr) (x : X) : Prop where
  E : ∀ W : Wd, SoundE W.prog W.w W.hb W.g W.n W.C nm e x
  T : ∀ W : Wd, SoundT W.prog W.w W.hb W.g W.n W.C nm e x
  V : ∀ k, x = .var k → VarOf nm e k
  star : NoStar e
noncomputable def SndR (nm : Names) (e : Expr) (x : X) : Prop := (∀ W : Wd, SoundR W.prog W.w W.hb W.g W.n W.C nm e x) ∧ NoStar e
noncomputable def SndS (nm : Names) (s : Stmt) (x : S) : Prop := ∀ W : Wd, SoundS W.prog W.w W.hb W.g W.n W.C nm s x

section
variable {nm : Names} {e : Expr} {es : List Expr} {x : X} {xs : List X}
theorem snd_of (h : ∀ W : Wd, SoundE W.prog W.w W.hb W.g W.n W.C nm e x) (hT : ∀ env, isTrue e env (eval e env) = (do let v ← eval e env; standAt e.pos; holding [v] (truthy v))) (hs : NoStar e) (hv : ∀ k, x = .var k → VarOf nm e k) : Snd nm e x :=
  ⟨h, fun W => soundT_of (h W) hT, hv, hs⟩
theorem snd_es (h : All2 (Snd nm) es xs) (W : Wd) : SoundEs W.prog W.w W.hb W.g W.n W.C nm es xs := by
  induction h with
  | nil => exact soundEs_nil
  | cons h _ ih => exact soundEs_cons (h.E W) ih fun env => h.star _ env
theorem snd_rs (h : All2 (SndR nm) es xs) (W : Wd) : SoundRs W.prog W.w W.hb W.g W.n W.C nm es xs := by
  induction h with
  | nil => exact soundRs_nil
  | cons h _ ih => exact soundRs_cons (h.1 W) ih h.2
theorem snd_star (h : All2 (Snd nm) es xs) : ∀ x ∈ es, NoStar x := by
  induction h with
  | nil => exact fun zz h => nomatch h
  | cons h _ ih =>
    intro y hy
    rcases List.mem_cons.mp hy with rfl | hy
    · exact h.star
    · exact ih y hy
theorem snd_ss {ss : List Stmt} {xs : List S} (h : All2 (SndS nm) ss xs) (W : Wd) : SoundSs W.prog W.w W.hb W.g W.n W.C nm ss xs := by
  induction h with
  | nil => exact soundSs_nil
  | cons h _ ih => exact soundSs_cons (h W) ih

/- names -/
theorem cd_is {x y : Str} {c : Nat} (h : cd x = c) (hy : cd y = c) (h0 : c ≠ 0) : x = y := cd_inj (h.trans hy.symm) (h ▸ h0)
theorem cd_debug : cd ("__debug__" : Str) = 6481680900276877746015 := by decide +kernel
theorem dbg_cd {x : Str} (h : cd x ≠ 6481680900276877746015) : (x == ("__debug__" : Str)) = false := by
  rw [beq_eq_false_iff_ne]
  exact fun e => h (e ▸ cd_debug)
noncomputable def globAs (nm : Names) (x : Str) (y : Str) : Prop := nm.lookup x = some .globalImplicit ∧ x = y
noncomputable def chkGlob (nm : Names) (x : Str) (y : Str) (c : Nat) (hy : cd y = c ∧ c ≠ 0) : Ok (globAs nm x y) := ((Ok.dec (nm.lookup x = some .globalImplicit)).and (Ok.dec (cd x = c))).map fun h => ⟨h.1, cd_is h.2 hy.1 hy.2⟩
noncomputable def chkVar (nm : Names) (x : Str) (k : Nat) : Ok (IsV nm x ∧ varIx x = some k) := (Ok.dec (nm.lookup x = some .local ∨ nm.lookup x = some .cell)).and (Ok.dec (varIx x = some k))

/- a built-in by its name's number -/
noncomputable def bltNm : Fn → Option (Nat × Str × Value)
  | .len => some (c_len, "len", .builtin "len")
  | .all => some (c_all, "all", .builtin "all")
  | .list => some (c_list, "list", .type "list")
  | .tuple => some (c_tuple, "tuple", .type "tuple")
  | .int => some (c_int, "int", .type "int")
  | .sum => some (c_sum, "sum", .builtin "sum")
  | .max => some (c_max, "max", .builtin "max")
  | .range => some (c_range, "range", .type "range")
  | _ => none
theorem cd_blt : cd ("len" : Str) = c_len ∧ cd ("all" : Str) = c_all ∧ cd ("list" : Str) = c_list ∧ cd ("tuple" : Str) = c_tuple ∧ cd ("int" : Str) = c_int ∧ cd ("sum" : Str) = c_sum ∧ cd ("max" : Str) = c_max ∧ cd ("range" : Str) = c_range := by decide +kernel
theorem bltNm_ok {f : Fn} {c : Nat} {s : Str} {v : Value} (h : bltNm f = some (c, s, v)) : cd s = c ∧ c ≠ 0 ∧ c ≠ 6481680900276877746015 ∧ (s, v) ∈ bltTab ∧ fnVal f = some v := by
  have q : ∀ {c' : Nat} {s' : Str} {v' : Value}, cd s' = c' → c' ≠ 0 → c' ≠ 6481680900276877746015 → (s', v') ∈ bltTab → fnVal f = some v' → some (c', s', v') = some (c, s, v) → cd s = c ∧ c ≠ 0 ∧ c ≠ 6481680900276877746015 ∧ (s, v) ∈ bltTab ∧ fnVal f = some v :=
    fun a b d e g h => by cases h; exact ⟨a, b, d, e, g⟩
  have z := cd_blt
  cases f with
  | len => exact q z.1 (by decide) (by decide) (blt_at 0 rfl) rfl h
  | all => exact q z.2.1 (by decide) (by decide) (blt_at 1 rfl) rfl h
  | list => exact q z.2.2.1 (by decide) (by decide) (blt_at 2 rfl) rfl h
  | tuple => exact q z.2.2.2.1 (by decide) (by decide) (blt_at 3 rfl) rfl h
  | int => exact q z.2.2.2.2.1 (by decide) (by decide) (blt_at 4 rfl) rfl h
  | sum => exact q z.2.2.2.2.2.1 (by decide) (by decide) (blt_at 5 rfl) rfl h
  | max => exact q z.2.2.2.2.2.2.1 (by decide) (by decide) (blt_at 6 rfl) rfl h
  | range => exact q z.2.2.2.2.2.2.2 (by decide) (by decide) (blt_at 7 rfl) rfl h
  | _ => exact nn h

/- the arms -/
/- what an expression is, in single steps -/
section
noncomputable def onCall (P : Expr → Prop) (e : Expr) (k : ∀ f es p, Ok (P (.Call f es [] p))) : Ok (P e) := match e with
  | .Call f es ks p => (match ks with
    | [] => k f es p
    | _ => .no)
  | _ => .no
noncomputable def onName (P : Expr → Prop) (e : Expr) (k : ∀ x p, Ok (P (.Name x p))) : Ok (P e) := match e with
  | .Name x p => k x p
  | _ => .no
noncomputable def onAttr (P : Expr → Prop) (e : Expr) (k : ∀ x n p, Ok (P (.Attribute x n p))) : Ok (P e) := match e with
  | .Attribute x n p => k x n p
  | _ => .no
noncomputable def onTup (P : Expr → Prop) (e : Expr) (k : ∀ es n p, Ok (P (.Tuple es n p))) : Ok (P e) := match e with
  | .Tuple es n p => k es n p
  | _ => .no
noncomputable def onLst (P : Expr → Prop) (e : Expr) (k : ∀ es p, Ok (P (.List es p))) : Ok (P e) := match e with
  | .List es p => k es p
  | _ => .no
noncomputable def onSub (P : Expr → Prop) (e : Expr) (k : ∀ x s p, Ok (P (.Subscript x s p))) : Ok (P e) := match e with
  | .Subscript x s p => k x s p
  | _ => .no
noncomputable def onCst (P : Expr → Prop) (e : Expr) (k : ∀ c kd p, Ok (P (.Constant c kd p))) : Ok (P e) := match e with
  | .Constant c kd p => k c kd p
  | _ => .no
noncomputable def onBin (P : Expr → Prop) (e : Expr) (k : ∀ l o r p, Ok (P (.BinOp l o r p))) : Ok (P e) := match e with
  | .BinOp l o r p => k l o r p
  | _ => .no
noncomputable def onUn (P : Expr → Prop) (e : Expr) (k : ∀ o x p, Ok (P (.UnaryOp o x p))) : Ok (P e) := match e with
  | .UnaryOp o x p => k o x p
  | _ => .no
noncomputable def onBool (P : Expr → Prop) (e : Expr) (k : ∀ o xs p, Ok (P (.BoolOp o xs p))) : Ok (P e) := match e with
  | .BoolOp o xs p => k o xs p
  | _ => .no
noncomputable def onIte (P : Expr → Prop) (e : Expr) (k : ∀ t a b p, Ok (P (.IfExp t a b p))) : Ok (P e) := match e with
  | .IfExp t a b p => k t a b p
  | _ => .no
noncomputable def onSl (P : Expr → Prop) (e : Expr) (k : ∀ a b c p, Ok (P (.Slice a b c p))) : Ok (P e) := match e with
  | .Slice a b c p => k a b c p
  | _ => .no
noncomputable def on1 {α : Type} (P : List α → Prop) (l : List α) (k : ∀ a, Ok (P [a])) : Ok (P l) := match l with
  | [a] => k a
  | _ => .no
noncomputable def onCons {α : Type} (P : List α → Prop) (l : List α) (k : ∀ a r, Ok (P (a :: r))) : Ok (P l) := match l with
  | a :: r => k a r
  | _ => .no
noncomputable def onNil {α : Type} (P : List α → Prop) (l : List α) (k : Ok (P [])) : Ok (P l) := match l with
  | [] => k
  | _ => .no
noncomputable def onComp (P : Expr → Prop) (e : Expr) (k : ∀ elt v vp it fs sc p, Ok (P (.ListComp elt [⟨.Name v vp, it, fs, 0⟩] sc p))) : Ok (P e) := match e with
  | .ListComp elt gs sc p => on1 (fun gs => P (.ListComp elt gs sc p)) gs fun g => match g with
    | ⟨t, it, fs, n⟩ => onName (fun t => P (.ListComp elt [⟨t, it, fs, n⟩] sc p)) t fun v vp => match n with
      | 0 => k elt v vp it fs sc p
      | _ => .no
  | _ => .no
noncomputable def onAsg (P : Stmt → Prop) (s : Stmt) (k : ∀ t e p, Ok (P (.Assign [t] e p))) : Ok (P s) := match s with
  | .Assign ts e p => on1 (fun ts => P (.Assign ts e p)) ts fun t => k t e p
  | _ => .no
noncomputable def onFor (P : Stmt → Prop) (s : Stmt) (k : ∀ t it b p, Ok (P (.For t it b [] p))) : Ok (P s) := match s with
  | .For t it b os p => onNil (fun os => P (.For t it b os p)) os (k t it b p)
  | _ => .no
end
noncomputable def cNone (nm : Names) : (e : Expr) → Ok (Snd nm e .none) :=
  fun e => onCst (Snd nm · .none) e fun v k p => match v with
    | .none => .yes (snd_of (fun W => sound_none k p) (fun zz => rfl) (fun zz zz => rfl) fun zz h => nomatch h)
    | _ => .no
noncomputable def cBool (nm : Names) (b : Bool) : (e : Expr) → Ok (Snd nm e (.bool b)) :=
  fun e => onCst (Snd nm · (.bool b)) e fun v k p => match v with
    | .bool b' => (Ok.dec (b' = b)).map fun h => by subst h; exact snd_of (fun W => sound_bool b' k p) (fun zz => rfl) (fun zz zz => rfl) fun zz h => nomatch h
    | _ => .no
noncomputable def cInt (nm : Names) (i : Int) : (e : Expr) → Ok (Snd nm e (.int i)) :=
  fun e => onCst (Snd nm · (.int i)) e fun v k p => match v with
    | .int j => (Ok.dec (j = i)).map fun h => by subst h; exact snd_of (fun W => sound_int j k p) (fun zz => rfl) (fun zz zz => rfl) fun zz h => nomatch h
    | _ => .no
noncomputable def cStr (nm : Names) (c : Nat) : (e : Expr) → Ok (Snd nm e (.str c)) :=
  fun e => onCst (Snd nm · (.str c)) e fun v k p => match v with
    | .str x => (Ok.dec (strIx x = some c)).map fun h => snd_of (fun W => sound_str h k p) (fun zz => rfl) (fun zz zz => rfl) fun zz h => nomatch h
    | _ => .no
noncomputable def cVar (nm : Names) (k : Nat) : (e : Expr) → Ok (Snd nm e (.var k)) :=
  fun e => onName (Snd nm · (.var k)) e fun x p => (chkVar nm x k).map fun h => snd_of (fun W => sound_var h.1 h.2) (fun zz => rfl) (fun zz zz => rfl) fun zz h' => by cases h'; exact ⟨x, p, rfl, h.1, h.2⟩
theorem cd_ENDS : cd ("ENDS" : Str) = c_ENDS ∧ c_ENDS ≠ 0 := by decide +kernel
theorem cd_OPERANDS : cd ("OPERANDS" : Str) = c_OPERANDS ∧ c_OPERANDS ≠ 0 := by decide +kernel
noncomputable def cEnds (nm : Names) : (e : Expr) → Ok (Snd nm e .ends) :=
  fun e => onName (Snd nm · .ends) e fun x p => (chkGlob nm x "ENDS" c_ENDS cd_ENDS).map fun h => snd_of (fun W => sound_ends W.B h.1 h.2) (fun zz => rfl) (fun zz zz => rfl) fun zz h => nomatch h
noncomputable def cOpnds (nm : Names) : (e : Expr) → Ok (Snd nm e .opnds) :=
  fun e => onName (Snd nm · .opnds) e fun x p => (chkGlob nm x "OPERANDS" c_OPERANDS cd_OPERANDS).map fun h => snd_of (fun W => sound_opnds W.B h.1 h.2) (fun zz => rfl) (fun zz zz => rfl) fun zz h => nomatch h
variable (f : ∀ e x, Ok (Snd nm e x))
noncomputable def cTup (xs : List X) : (e : Expr) → Ok (Snd nm e (.tup xs)) :=
  fun e => onTup (Snd nm · (.tup xs)) e fun es k p => ((allOk f es xs).and (Ok.dec (es.length ≤ 100))).map fun h => snd_of (fun W => sound_tup (snd_es h.1 W) h.2) (fun zz => rfl) (fun zz zz => rfl) fun zz h => nomatch h
noncomputable def cLst (xs : List X) : (e : Expr) → Ok (Snd nm e (.lst xs)) :=
  fun e => onLst (Snd nm · (.lst xs)) e fun es p => ((allOk f es xs).and (Ok.dec (es.length ≤ 100))).map fun h => snd_of (fun W => sound_lst (snd_es h.1 W) h.2) (fun zz => rfl) (fun zz zz => rfl) fun zz h => nomatch h
noncomputable def cBin (op : Operator) (a b : X) : (e : Expr) → Ok (Snd nm e (.bin op a b)) :=
  fun e => onBin (Snd nm · (.bin op a b)) e fun l o r p => (((f l a).and (f r b)).and (Ok.dec (o = op))).map fun h => by obtain ⟨⟨h1, h2⟩, rfl⟩ := h; exact snd_of (fun W => sound_bin (h1.E W) (h2.E W)) (fun zz => rfl) (fun zz zz => rfl) fun zz h => nomatch h
noncomputable def cNeg (a : X) : (e : Expr) → Ok (Snd nm e (.neg a)) :=
  fun e => onUn (Snd nm · (.neg a)) e fun o e p => ((Ok.dec (o = .USub)).and (f e a)).map fun h => by obtain ⟨rfl, h⟩ := h; exact snd_of (fun W => sound_neg (h.E W)) (fun zz => rfl) (fun zz zz => rfl) fun zz h => nomatch h
noncomputable def cNot (a : X) : (e : Expr) → Ok (Snd nm e (.not a)) :=
  fun e => onUn (Snd nm · (.not a)) e fun o e p => ((Ok.dec (o = .Not)).and (f e a)).map fun h => by obtain ⟨rfl, h⟩ := h; exact ⟨fun W => sound_not (h.E W), fun W => soundT_not (h.T W), fun zz h => (nomatch h), fun zz zz => rfl⟩
noncomputable def cAnd (xs : List X) : (e : Expr) → Ok (Snd nm e (.and xs)) :=
  fun e => onBool (Snd nm · (.and xs)) e fun o es p => ((Ok.dec (o = .And)).and (allOk f es xs)).map fun h => by obtain ⟨rfl, h⟩ := h; exact ⟨fun W => sound_and (h.imp fun zz zz h => h.E W), fun W => soundT_and (h.imp fun zz zz h => h.T W), fun zz h => (nomatch h), fun zz zz => rfl⟩
noncomputable def cOr (xs : List X) : (e : Expr) → Ok (Snd nm e (.or xs)) :=
  fun e => onBool (Snd nm · (.or xs)) e fun o es p => ((Ok.dec (o = .Or)).and (allOk f es xs)).map fun h => by obtain ⟨rfl, h⟩ := h; exact ⟨fun W => sound_or (h.imp fun zz zz h => h.E W), fun W => soundT_or (h.imp fun zz zz h => h.T W), fun zz h => (nomatch h), fun zz zz => rfl⟩
noncomputable def cCmp (op : CmpOp) (a b : X) : (e : Expr) → Ok (Snd nm e (.cmp op a b))
  | .Compare l [o] [r] p => (((f l a).and (f r b)).and (Ok.dec (o = op ∧ behindInMarks op r = false))).map fun h => by
      obtain ⟨⟨h1, h2⟩, rfl, h3⟩ := h
      exact ⟨fun W => sound_cmp W.hW W.B (h1.E W) (h2.E W) h1.V h2.V h3, fun W => soundT_cmp W.hW W.B (h1.E W) (h2.E W) h1.V h2.V h3, fun zz h => (nomatch h), fun zz zz => rfl⟩
  | _ => .no
noncomputable def cIte (t a b : X) : (e : Expr) → Ok (Snd nm e (.ite t a b)) :=
  fun e => onIte (Snd nm · (.ite t a b)) e fun et ea eb p => (((f et t).and (f ea a)).and (f eb b)).map fun h =>
      ⟨fun W => sound_ite (h.1.1.T W) (h.1.2.E W) (h.2.E W), fun W => soundT_ite (h.1.1.T W) (h.1.2.T W) (h.2.T W), fun zz h => (nomatch h), fun zz zz => rfl⟩
noncomputable def cAttr (a : X) (c : Bool) (i : Nat) : (e : Expr) → Ok (Snd nm e (.attr a c i)) :=
  fun e => onAttr (Snd nm · (.attr a c i)) e fun e n p => ((f e a).and (Ok.dec (attrIx n = some (c, i) ∧ okBase e = true))).map fun h => snd_of (fun W => sound_attr W.B (h.1.E W) h.2.1 h.2.2) (fun zz => rfl) (fun zz zz => rfl) fun zz h => nomatch h
noncomputable def cIdx (a i : X) : (e : Expr) → Ok (Snd nm e (.idx a i)) :=
  fun e => onSub (Snd nm · (.idx a i)) e fun e s p => ((f e a).and (f s i)).map fun h => snd_of (fun W => sound_idx W.hW (h.1.E W) (h.2.E W) h.1.V) (fun zz => rfl) (fun zz zz => rfl) fun zz h => nomatch h
noncomputable def cSlF (a : X) (k : Nat) : (e : Expr) → Ok (Snd nm e (.slF a k)) :=
  fun e => onSub (Snd nm · (.slF a k)) e fun e s p => onSl (fun s => Snd nm (.Subscript e s p) (.slF a k)) s fun lo hi st p2 => match lo, hi, st with
    | some lo, none, none => onCst (fun lo => Snd nm (.Subscript e (.Slice (some lo) none none p2) p) (.slF a k)) lo fun c kd p1 => match c with
      | .int i => ((f e a).and (Ok.dec (i = (k : Int)))).map fun h => snd_of (fun W => sound_slF rfl h.2 (h.1.E W)) (fun zz => rfl) (fun zz zz => rfl) fun zz h => nomatch h
      | _ => .no
    | _, _, _ => .no
noncomputable def cSlT (a t : X) : (e : Expr) → Ok (Snd nm e (.slT a t)) :=
  fun e => onSub (Snd nm · (.slT a t)) e fun e s p => onSl (fun s => Snd nm (.Subscript e s p) (.slT a t)) s fun lo hi st p2 => match lo, hi, st with
    | none, some s, none => ((f e a).and (f s t)).map fun h => snd_of (fun W => sound_slT (h.1.E W) (h.2.E W)) (fun zz => rfl) (fun zz zz => rfl) fun zz h => nomatch h
    | _, _, _ => .no
theorem cd_meth : cd ("pop" : Str) = c_pop ∧ cd ("append" : Str) = c_append ∧ cd ("extend" : Str) = c_extend := by decide +kernel
noncomputable def cPop (k : Nat) : (e : Expr) → Ok (Snd nm e (.pop k)) :=
  fun e => onCall (Snd nm · (.pop k)) e fun fe es pos => onNil (fun es => Snd nm (.Call fe es [] pos) (.pop k)) es (onAttr (fun fe => Snd nm (.Call fe [] [] pos) (.pop k)) fe fun b m ap => onName (fun b => Snd nm (.Call (.Attribute b m ap) [] [] pos) (.pop k)) b fun x p => ((chkVar nm x k).and (Ok.dec (cd m = c_pop ∧ (ap.endLine == pos.line) = true))).map fun h =>
      snd_of (fun W => sound_pop h.1.1 h.1.2 (cd_is h.2.1 cd_meth.1 (by decide)) h.2.2) (fun zz => rfl) (fun zz zz => rfl) fun zz h => nomatch h)
noncomputable def cBlt (fn : Fn) (xs : List X) : (e : Expr) → Ok (Snd nm e (.call fn xs)) :=
  fun e => onCall (Snd nm · (.call fn xs)) e fun fe es pos => onName (fun fe => Snd nm (.Call fe es [] pos) (.call fn xs)) fe fun gn p => onCons (fun es => Snd nm (.Call (.Name gn p) es [] pos) (.call fn xs)) es fun e es => match h0 : bltNm fn with
    | none => .no
    | some (c, s, v) => ((allOk f (e :: es) xs).and (Ok.dec (nm.lookup gn = some .globalImplicit ∧ cd gn = c))).map fun h => by
      obtain ⟨h1, h2, h3, h4, h5⟩ := bltNm_ok h0
      have e := cd_is h.2.2 h1 h2
      exact snd_of (fun W => sound_blt W.B h.2.1 (e ▸ h4) (dbg_cd (h.2.2 ▸ h3)) h5 (snd_es h.1 W) (snd_star h.1)) (fun zz => rfl) (fun zz zz => rfl) fun zz h => nomatch h
noncomputable def cUser (k : Nat) (xs : List X) : (e : Expr) → Ok (Snd nm e (.call (.user k) xs)) :=
  fun e => onCall (Snd nm · (.call (.user k) xs)) e fun fe es pos => onName (fun fe => Snd nm (.Call fe es [] pos) (.call (.user k) xs)) fe fun gn p => onCons (fun es => Snd nm (.Call (.Name gn p) es [] pos) (.call (.user k) xs)) es fun e es => ((allOk f (e :: es) xs).and (Ok.dec (nm.lookup gn = some .globalImplicit ∧ ixIn (cd gn) fnCodes 0 = some k ∧ cd gn ≠ 6481680900276877746015))).map fun h =>
      snd_of (fun W => sound_user W.B W.K h.2.1 h.2.2.1 (dbg_cd h.2.2.2) (snd_es h.1 W) (snd_star h.1)) (fun zz => rfl) (fun zz zz => rfl) fun zz h => nomatch h
theorem cd_isi : cd ("isinstance" : Str) = c_isinstance ∧ cd ("int" : Str) = c_int ∧ cd ("bool" : Str) = c_bool ∧ cd ("tuple" : Str) = c_tuple := by decide +kernel
noncomputable def cIsi (a : X) (t : Nat) : (e : Expr) → Ok (Snd nm e (.isi a t)) :=
  fun e => onCall (Snd nm · (.isi a t)) e fun fe es pos => onName (fun fe => Snd nm (.Call fe es [] pos) (.isi a t)) fe fun gn p => onCons (fun es => Snd nm (.Call (.Name gn p) es [] pos) (.isi a t)) es fun e es => on1 (fun es => Snd nm (.Call (.Name gn p) (e :: es) [] pos) (.isi a t)) es fun tn => onName (fun tn => Snd nm (.Call (.Name gn p) [e, tn] [] pos) (.isi a t)) tn fun tn p2 => (((f e a).and (chkGlob nm gn "isinstance" c_isinstance ⟨cd_isi.1, by decide⟩)).and (Ok.dec (nm.lookup tn = some .globalImplicit ∧ ((t = 0 ∧ cd tn = c_int) ∨ (t = 1 ∧ cd tn = c_bool) ∨ (t = 2 ∧ cd tn = c_tuple))))).map fun h =>
      snd_of (fun W => sound_isi (Tv := .none) W.B h.1.2.1 h.1.2.2 h.2.1 (h.2.2.imp (fun q => ⟨q.1, cd_is q.2 cd_isi.2.1 (by decide)⟩) fun q => q.imp (fun q => ⟨q.1, cd_is q.2 cd_isi.2.2.1 (by decide)⟩) fun q => ⟨q.1, cd_is q.2 cd_isi.2.2.2 (by decide)⟩) (h.1.1.E W) h.1.1.star) (fun zz => rfl) (fun zz zz => rfl) fun zz h => nomatch h
noncomputable def chkFold : (e : Expr) → Ok (∀ env v, foldedSetIterable e env v = pure v) := fun e => by
  cases e <;> first | exact .yes (fun zz zz => rfl) | exact .no
theorem snd_tests {fs : List Expr} {xs : List X} (h : All2 (Snd nm) fs xs) (h1 : fs.length ≤ 1) (W : Wd) : TestsOk W.prog W.w W.hb W.g W.n W.C nm fs xs := by
  cases h with
  | nil => exact .inl ⟨rfl, rfl⟩
  | cons h t => cases t with
    | nil => exact .inr ⟨_, _, rfl, rfl, h.T W⟩
    | cons _ _ => simp at h1
/- a comprehension's parts -/
noncomputable def cComp (g : ∀ nm e x, Ok (Snd nm e x)) (nm : Names) (y : X) (k : Nat) (x : X) (fx : List X) : (e : Expr) → Ok (Snd nm e (.comp y k x fx)) :=
  fun e => onComp (Snd nm · (.comp y k x fx)) e fun elt v px it fs sc p => (((g nm it x).and ((g (relab nm sc.names) elt y).and (allOk (g (relab nm sc.names)) fs fx))).and ((Ok.dec (fs.length ≤ 1 ∧ varIx v = some k ∧ sc.names.lookup v = some .local ∧ compOk nm sc v = true)).and (chkFold it))).map fun h =>
      snd_of (fun W => sound_comp (h.1.1.E W) (h.1.2.1.E W) (snd_tests h.1.2.2 h.2.1.1 W) h.2.1.2.1 h.2.1.2.2.1 (compSc_of h.2.1.2.2.2) h.2.2) (fun zz => rfl) (fun zz zz => rfl) fun zz h => nomatch h
end
end Mine
end

section
open PySem
namespace Mine
/- 0 entry_registers -/
noncomputable def f0 : FX := ⟨[37], [(.ret (.bin .Add (.bin .Add (.attr (.var 37) true 2) (.call .int [(.attr (.var 37) true 3)])) (.call .int [(.not (.attr (.var 37) true 4))])))]⟩
/- 1 operand_pairs -/
noncomputable def f1 : FX := ⟨[16], [(.ret (.lzip (.idx .opnds (.idx (.var 16) (.int 0))) (.slF (.var 16) 1)))]⟩
/- 2 registers_read -/
noncomputable def f2 : FX := ⟨[16], [(.asg 12 (.lst [])), (.fr [45, 30] false false (.call (.user 1) [(.var 16)]) [(.iff (.cmp .Eq (.var 45) (.str 15)) [(.app 12 (.var 30))] [(.iff (.cmp .Eq (.var 45) (.str 17)) [(.ext 12 (.var 30))] [(.iff (.cmp .Eq (.var 45) (.str 18)) [(.asg 32 (.comp (.idx (.var 42) (.int 0)) 42 (.var 30) [])), (.fr [42] true false (.var 30) [(.ext 12 (.comp (.var 40) 40 (.idx (.var 42) (.int 2)) [(.cmp .NotIn (.var 40) (.var 32))]))])] [])])])]), (.ret (.var 12))]⟩
/- 3 registers_written -/
noncomputable def f3 : FX := ⟨[16], [(.asg 12 (.lst [])), (.fr [45, 30] false false (.call (.user 1) [(.var 16)]) [(.iff (.cmp .Eq (.var 45) (.str 13)) [(.app 12 (.var 30))] [(.iff (.cmp .Eq (.var 45) (.str 18)) [(.ext 12 (.comp (.idx (.var 42) (.int 0)) 42 (.var 30) []))] [])])]), (.ret (.var 12))]⟩
/- 4 label_of -/
noncomputable def f4 : FX := ⟨[16], [(.fr [45, 30] false false (.call (.user 1) [(.var 16)]) [(.iff (.cmp .Eq (.var 45) (.str 20)) [(.ret (.var 30))] [])]), (.ret .none)]⟩
/- 5 places_behind -/
noncomputable def f5 : FX := ⟨[17, 33], [(.asg 16 (.idx (.var 17) (.var 33))), (.asg 12 (.ite (.cmp .In (.idx (.var 16) (.int 0)) .ends) (.lst []) (.lst [(.bin .Add (.var 33) (.int 1))]))), (.asg 21 (.call (.user 4) [(.var 16)])), (.iff (.and [(.cmp .IsNot (.var 21) .none), (.cmp .NotIn (.var 21) (.var 12))]) [(.app 12 (.var 21))] []), (.ret (.var 12))]⟩
/- 6 is_count -/
noncomputable def f6 : FX := ⟨[51], [(.ret (.and [(.isi (.var 51) 0), (.not (.isi (.var 51) 1)), (.cmp .GtE (.var 51) (.int 0))]))]⟩
/- 7 is_below -/
noncomputable def f7 : FX := ⟨[51, 4], [(.ret (.and [(.call (.user 6) [(.var 51)]), (.cmp .Lt (.var 51) (.var 4))]))]⟩
/- 8 are_registers -/
noncomputable def f8 : FX := ⟨[51, 37], [(.ret (.and [(.isi (.var 51) 2), (.call .all [(.comp (.call (.user 7) [(.var 29), (.attr (.var 37) true 5)]) 29 (.var 51) [])])]))]⟩
/- 9 is_closure_row -/
noncomputable def f9 : FX := ⟨[50, 37, 42], [(.iff (.or [(.not (.isi (.var 42) 2)), (.cmp .NotEq (.call .len [(.var 42)]) (.int 3)), (.not (.call (.user 7) [(.idx (.var 42) (.int 0)), (.attr (.var 37) true 5)]))]) [(.ret (.bool false))] []), (.iff (.or [(.not (.call (.user 7) [(.idx (.var 42) (.int 1)), (.call .len [(.attr (.var 50) false 0)])])), (.not (.call (.user 8) [(.idx (.var 42) (.int 2)), (.var 37)]))]) [(.ret (.bool false))] []), (.ret (.cmp .Eq (.call .len [(.idx (.var 42) (.int 2))]) (.attr (.idx (.attr (.var 50) false 0) (.idx (.var 42) (.int 1))) true 6)))]⟩
/- 10 are_closure_rows -/
noncomputable def f10 : FX := ⟨[50, 37, 43], [(.iff (.or [(.not (.isi (.var 43) 2)), (.cmp .Eq (.var 43) (.tup [])), (.not (.call .all [(.comp (.call (.user 9) [(.var 50), (.var 37), (.var 42)]) 42 (.var 43) [])]))]) [(.ret (.bool false))] []), (.asg 41 (.comp (.idx (.var 42) (.int 0)) 42 (.var 43) [])), (.ret (.cmp .Eq (.lenset (.var 41)) (.call .len [(.var 41)])))]⟩
/- 11 operand_fits -/
noncomputable def f11 : FX := ⟨[50, 37, 36, 45, 30], [(.iff (.cmp .In (.var 45) (.tup [(.str 13), (.str 15)])) [(.ret (.call (.user 7) [(.var 30), (.attr (.var 37) true 5)]))] []), (.iff (.cmp .Eq (.var 45) (.str 17)) [(.ret (.call (.user 8) [(.var 30), (.var 37)]))] []), (.iff (.cmp .Eq (.var 45) (.str 18)) [(.ret (.call (.user 10) [(.var 50), (.var 37), (.var 30)]))] []), (.asg 5 (.dct [14, 2, 5, 16, 19, 20] [(.call .len [(.attr (.var 50) false 1)]), (.call .len [(.attr (.var 50) false 2)]), (.attr (.var 37) true 6), (.call .len [(.attr (.var 50) false 0)]), (.var 36), (.call .len [(.attr (.var 37) true 7)])])), (.ret (.call (.user 7) [(.var 30), (.idx (.var 5) (.var 45))]))]⟩
/- 12 instruction_word -/
noncomputable def f12 : FX := ⟨[50, 37, 36, 16], [(.iff (.or [(.not (.isi (.var 16) 2)), (.cmp .Eq (.var 16) (.tup [])), (.cmp .NotIn (.idx (.var 16) (.int 0)) .opnds)]) [(.ret (.str 21))] []), (.iff (.cmp .NotEq (.call .len [(.var 16)]) (.bin .Add (.int 1) (.call .len [(.idx .opnds (.idx (.var 16) (.int 0)))]))) [(.ret (.str 22))] []), (.fr [45, 30] false false (.call (.user 1) [(.var 16)]) [(.iff (.not (.call (.user 11) [(.var 50), (.var 37), (.var 36), (.var 45), (.var 30)])) [(.ret (.var 45))] [])]), (.iff (.and [(.cmp .Eq (.idx (.var 16) (.int 0)) (.str 6)), (.not (.call (.user 9) [(.var 50), (.var 37), (.slF (.var 16) 1)]))]) [(.ret (.str 6))] []), (.ret .none)]⟩
/- 13 mask_of -/
noncomputable def f13 : FX := ⟨[41], [(.asg 12 (.int 0)), (.fr [40] true false (.var 41) [(.asg 12 (.bin .BitOr (.var 12) (.bin .LShift (.int 1) (.var 40))))]), (.ret (.var 12))]⟩
/- 14 written_ahead -/
noncomputable def f14 : FX := ⟨[37], [(.asg 17 (.attr (.var 37) true 7)), (.asg 12 (.bin .Mult (.lst [(.neg (.int 1))]) (.call .len [(.var 17)]))), (.seti 12 (.int 0) (.bin .Sub (.bin .LShift (.int 1) (.call (.user 0) [(.var 37)])) (.int 1))), (.asg 52 (.lst [(.int 0)])), (.whl (.cmp .NotEq (.var 52) (.lst [])) [(.asg 33 (.pop 52)), (.asg 0 (.bin .BitOr (.idx (.var 12) (.var 33)) (.call (.user 13) [(.call (.user 3) [(.idx (.var 17) (.var 33))])]))), (.fr [23] true false (.call (.user 5) [(.var 17), (.var 33)]) [(.asg 20 (.ite (.cmp .Eq (.idx (.var 12) (.var 23)) (.neg (.int 1))) (.var 0) (.bin .BitAnd (.idx (.var 12) (.var 23)) (.var 0)))), (.iff (.cmp .NotEq (.var 20) (.idx (.var 12) (.var 23))) [(.seti 12 (.var 23) (.var 20)), (.app 52 (.var 23))] [])])]), (.ret (.var 12))]⟩
/- 15 unread_place -/
noncomputable def f15 : FX := ⟨[37], [(.asg 1 (.call (.user 14) [(.var 37)])), (.fr [33, 16] false true (.attr (.var 37) true 7) [(.iff (.cmp .NotEq (.idx (.var 1) (.var 33)) (.neg (.int 1))) [(.asg 53 (.call (.user 13) [(.call (.user 2) [(.var 16)])])), (.iff (.cmp .NotEq (.bin .BitAnd (.var 53) (.idx (.var 1) (.var 33))) (.var 53)) [(.ret (.var 33))] [])] [])]), (.ret .none)]⟩
/- 16 head_word -/
noncomputable def f16 : FX := ⟨[50, 33], [(.asg 37 (.idx (.attr (.var 50) false 0) (.var 33))), (.asg 8 (.tup [(.attr (.var 37) true 2), (.attr (.var 37) true 5), (.attr (.var 37) true 6)])), (.iff (.cmp .NotEq (.attr (.var 37) true 0) (.var 33)) [(.ret (.str 23))] []), (.iff (.not (.call .all [(.comp (.call (.user 6) [(.var 7)]) 7 (.var 8) [])])) [(.ret (.str 24))] []), (.iff (.cmp .Lt (.attr (.var 37) true 5) (.call (.user 0) [(.var 37)])) [(.ret (.str 25))] []), (.iff (.cmp .Eq (.call .len [(.attr (.var 37) true 7)]) (.int 0)) [(.ret (.str 26))] []), (.ret .none)]⟩
/- 17 procedure_error -/
noncomputable def f17 : FX := ⟨[50, 33, 36], [(.asg 54 (.call (.user 16) [(.var 50), (.var 33)])), (.iff (.cmp .IsNot (.var 54) .none) [(.ret (.tup [(.neg (.int 1)), (.var 54)]))] []), (.asg 37 (.idx (.attr (.var 50) false 0) (.var 33))), (.fr [2, 16] false true (.attr (.var 37) true 7) [(.asg 54 (.call (.user 12) [(.var 50), (.var 37), (.var 36), (.var 16)])), (.iff (.cmp .IsNot (.var 54) .none) [(.ret (.tup [(.var 2), (.var 54)]))] [])]), (.asg 22 (.bin .Sub (.call .len [(.attr (.var 37) true 7)]) (.int 1))), (.iff (.cmp .NotIn (.idx (.idx (.attr (.var 37) true 7) (.var 22)) (.int 0)) .ends) [(.ret (.tup [(.var 22), (.str 27)]))] []), (.asg 2 (.call (.user 15) [(.var 37)])), (.ret (.ite (.cmp .Is (.var 2) .none) .none (.tup [(.var 2), (.str 28)])))]⟩
/- 18 start_word -/
noncomputable def f18 : FX := ⟨[50], [(.iff (.not (.call (.user 7) [(.attr (.var 50) false 3), (.call .len [(.attr (.var 50) false 0)])])) [(.ret (.str 29))] []), (.asg 46 (.idx (.attr (.var 50) false 0) (.attr (.var 50) false 3))), (.asg 18 (.and [(.cmp .Eq (.attr (.var 46) true 2) (.int 0)), (.not (.attr (.var 46) true 3)), (.not (.attr (.var 46) true 4)), (.cmp .Eq (.attr (.var 46) true 6) (.int 0))])), (.ret (.ite (.var 18) .none (.str 29)))]⟩
/- 19 unit_error -/
noncomputable def f19 : FX := ⟨[50, 36], [(.asg 54 (.call (.user 18) [(.var 50)])), (.iff (.cmp .IsNot (.var 54) .none) [(.ret (.tup [(.neg (.int 1)), (.neg (.int 1)), (.var 54)]))] []), (.fr [33] true false (.call .range [(.call .len [(.attr (.var 50) false 0)])]) [(.asg 12 (.call (.user 17) [(.var 50), (.var 33), (.var 36)])), (.iff (.cmp .IsNot (.var 12) .none) [(.ret (.tup [(.var 33), (.idx (.var 12) (.int 0)), (.idx (.var 12) (.int 1))]))] [])]), (.ret .none)]⟩
/- 20 _law_pot -/
noncomputable def f20 : FX := ⟨[44], [(.ret (.lst [(.call .list [(.slT (.var 44) (.int 63))]), (.int 0), (.bin .Add (.call .sum [(.comp (.bin .Mod (.call .int [(.var 29)]) (.int 1009)) 29 (.slT (.var 44) (.int 63)) [])]) (.int 3))]))]⟩
/- 21 _law_dip -/
noncomputable def f21 : FX := ⟨[35, 24], [(.asg 2 (.idx (.var 35) (.int 1))), (.seti 35 (.int 1) (.bin .Add (.var 2) (.int 1))), (.iff (.cmp .Lt (.var 2) (.call .len [(.idx (.var 35) (.int 0))])) [(.ret (.bin .Mod (.idx (.idx (.var 35) (.int 0)) (.var 2)) (.var 24)))] []), (.seti 35 (.int 2) (.bin .Mod (.bin .Add (.bin .Mult (.idx (.var 35) (.int 2)) (.int 75)) (.int 74)) (.int 65537))), (.ret (.bin .Mod (.idx (.var 35) (.int 2)) (.var 24)))]⟩
/- 22 _law_near -/
noncomputable def f22 : FX := ⟨[35, 24], [(.asg 12 (.call (.user 21) [(.var 35), (.bin .Add (.bin .Mult (.int 6) (.var 24)) (.int 1))])), (.ret (.ite (.cmp .Eq (.var 12) (.bin .Mult (.int 6) (.var 24))) (.var 24) (.bin .Mod (.var 12) (.call .max [(.var 24), (.int 1)]))))]⟩
/- 23 _law_row -/
noncomputable def f23 : FX := ⟨[35, 24, 41], [(.ret (.call .tuple [(.comp (.call (.user 22) [(.var 35), (.var 41)]) 49 (.call .range [(.var 24)]) [])]))]⟩
/- 24 _law_leaving -/
noncomputable def f24 : FX := ⟨[35, 41, 34], [(.asg 45 (.call (.user 21) [(.var 35), (.int 3)])), (.iff (.cmp .Eq (.var 45) (.int 0)) [(.ret (.tup [(.str 9), (.call (.user 22) [(.var 35), (.var 34)])]))] []), (.asg 29 (.call (.user 22) [(.var 35), (.var 41)])), (.iff (.cmp .Eq (.var 45) (.int 1)) [(.ret (.tup [(.str 12), (.var 29), (.call (.user 23) [(.var 35), (.call (.user 21) [(.var 35), (.int 3)]), (.var 41)])]))] []), (.asg 31 (.call (.user 22) [(.var 35), (.var 41)])), (.ret (.tup [(.str 11), (.var 29), (.var 31), (.call (.user 23) [(.var 35), (.call (.user 21) [(.var 35), (.int 3)]), (.var 41)])]))]⟩
/- 25 _law_step -/
noncomputable def f25 : FX := ⟨[35, 41, 34, 8], [(.asg 45 (.call (.user 21) [(.var 35), (.int 10)])), (.asg 29 (.call (.user 22) [(.var 35), (.var 41)])), (.iff (.cmp .Eq (.var 45) (.int 0)) [(.ret (.tup [(.str 0), (.var 29), (.call (.user 22) [(.var 35), (.idx (.var 8) (.int 1))])]))] []), (.iff (.cmp .Eq (.var 45) (.int 1)) [(.ret (.tup [(.str 1), (.var 29), (.call (.user 22) [(.var 35), (.var 41)])]))] []), (.iff (.cmp .Eq (.var 45) (.int 2)) [(.ret (.tup [(.str 5), (.var 29), (.call (.user 22) [(.var 35), (.idx (.var 8) (.int 0))])]))] []), (.iff (.cmp .Eq (.var 45) (.int 3)) [(.ret (.tup [(.str 2), (.var 29), (.call (.user 22) [(.var 35), (.idx (.var 8) (.int 2))])]))] []), (.iff (.cmp .Eq (.var 45) (.int 4)) [(.ret (.tup [(.str 4), (.call (.user 22) [(.var 35), (.idx (.var 8) (.int 2))]), (.var 29)]))] []), (.iff (.cmp .Eq (.var 45) (.int 5)) [(.ret (.tup [(.str 10), (.var 29), (.call (.user 22) [(.var 35), (.var 34)])]))] []), (.iff (.cmp .Eq (.var 45) (.int 6)) [(.ret (.tup [(.str 8), (.var 29), (.call (.user 22) [(.var 35), (.int 3)]), (.call (.user 23) [(.var 35), (.call (.user 21) [(.var 35), (.int 3)]), (.var 41)])]))] []), (.iff (.cmp .Eq (.var 45) (.int 7)) [(.ret (.tup [(.str 6), (.var 29), (.call (.user 22) [(.var 35), (.idx (.var 8) (.int 3))]), (.call (.user 23) [(.var 35), (.call (.user 21) [(.var 35), (.int 3)]), (.var 41)])]))] []), (.iff (.cmp .Eq (.var 45) (.int 8)) [(.asg 43 (.lst [(.tup [(.var 29), (.call (.user 22) [(.var 35), (.idx (.var 8) (.int 3))]), (.call (.user 23) [(.var 35), (.call (.user 21) [(.var 35), (.int 3)]), (.var 41)])])])), (.iff (.cmp .Eq (.call (.user 21) [(.var 35), (.int 2)]) (.int 1)) [(.app 43 (.tup [(.call (.user 22) [(.var 35), (.var 41)]), (.call (.user 22) [(.var 35), (.idx (.var 8) (.int 3))]), (.call (.user 23) [(.var 35), (.int 1), (.var 41)])]))] []), (.ret (.tup [(.str 7), (.call .tuple [(.var 43)])]))] []), (.ret (.tup [(.str 3), (.call (.user 22) [(.var 35), (.idx (.var 8) (.int 2))]), (.var 29)]))]⟩
/- 26 _law_unit -/
noncomputable def f26 : FX := ⟨[35], [(.asgs [24, 6, 26] [(.bin .Add (.int 1) (.call (.user 21) [(.var 35), (.int 2)])), (.call (.user 21) [(.var 35), (.int 2)]), (.bin .Add (.call (.user 21) [(.var 35), (.int 2)]) (.int 1))]), (.asg 38 (.lst [])), (.fr [28] true false (.call .range [(.var 24)]) [(.asg 19 (.or [(.and [(.cmp .Eq (.var 28) (.int 0)), (.cmp .Gt (.call (.user 21) [(.var 35), (.int 8)]) (.int 0))]), (.and [(.cmp .Eq (.var 28) (.int 0)), (.cmp .Lt (.call .len [(.idx (.var 35) (.int 0))]) (.int 40))])])), (.unp [27, 13] (.ite (.var 19) (.tup [(.int 0), (.int 0)]) (.tup [(.call (.user 21) [(.var 35), (.int 2)]), (.call (.user 21) [(.var 35), (.int 3)])]))), (.asgs [41, 34] [(.bin .Add (.int 1) (.call (.user 21) [(.var 35), (.int 4)])), (.bin .Add (.int 1) (.call (.user 21) [(.var 35), (.int 5)]))]), (.asg 14 (.and [(.cmp .Eq (.call (.user 21) [(.var 35), (.int 3)]) (.int 2)), (.not (.var 19))])), (.asgs [8, 3] [(.lst [(.var 13), (.var 6), (.var 26), (.var 24)]), (.lst [])]), (.fr [33] true false (.call .range [(.var 34)]) [(.iff (.and [(.cmp .Eq (.var 33) (.bin .Sub (.var 34) (.int 1))), (.cmp .Lt (.call (.user 21) [(.var 35), (.int 9)]) (.int 8))]) [(.app 3 (.call (.user 24) [(.var 35), (.var 41), (.var 34)]))] [(.app 3 (.call (.user 25) [(.var 35), (.var 41), (.var 34), (.var 8)]))])]), (.app 38 (.call .proc [(.var 28), (.str 30), (.var 27), (.var 14), (.bool false), (.var 41), (.var 13), (.var 3)]))]), (.ret (.call .unit [(.var 38), (.bin .Mult (.lst [(.int 7)]) (.var 6)), (.slT (.lst [(.int 3), (.int 5)]) (.var 26)), (.int 0)]))]⟩
/- 27 _law_sorts -/
noncomputable def f27 : FX := ⟨[47], [(.asg 54 (.idx (.var 47) (.int 0))), (.iff (.cmp .In (.var 54) (.tup [(.str 0), (.str 5), (.str 2)])) [(.ret (.tup [(.lst []), (.lst [(.idx (.var 47) (.int 1))])]))] []), (.iff (.cmp .Eq (.var 54) (.str 1)) [(.ret (.tup [(.lst [(.idx (.var 47) (.int 2))]), (.lst [(.idx (.var 47) (.int 1))])]))] []), (.iff (.cmp .In (.var 54) (.tup [(.str 8), (.str 6)])) [(.ret (.tup [(.call .list [(.idx (.var 47) (.int 3))]), (.lst [(.idx (.var 47) (.int 1))])]))] []), (.iff (.cmp .In (.var 54) (.tup [(.str 4), (.str 3)])) [(.ret (.tup [(.lst [(.idx (.var 47) (.int 2))]), (.lst [])]))] []), (.iff (.cmp .Eq (.var 54) (.str 7)) [(.asg 55 (.comp (.idx (.var 42) (.int 0)) 42 (.idx (.var 47) (.int 1)) [])), (.asg 39 (.lst [])), (.fr [42] true false (.idx (.var 47) (.int 1)) [(.asg 39 (.bin .Add (.var 39) (.comp (.var 29) 29 (.idx (.var 42) (.int 2)) [(.cmp .NotIn (.var 29) (.var 55))])))]), (.ret (.tup [(.var 39), (.var 55)]))] []), (.iff (.cmp .Eq (.var 54) (.str 9)) [(.ret (.tup [(.lst []), (.lst [])]))] []), (.iff (.cmp .Eq (.var 54) (.str 10)) [(.ret (.tup [(.lst [(.idx (.var 47) (.int 1))]), (.lst [])]))] []), (.ret (.ite (.cmp .Eq (.var 54) (.str 12)) (.tup [(.bin .Add (.lst [(.idx (.var 47) (.int 1))]) (.call .list [(.idx (.var 47) (.int 2))])), (.lst [])]) (.tup [(.bin .Add (.lst [(.idx (.var 47) (.int 1)), (.idx (.var 47) (.int 2))]) (.call .list [(.idx (.var 47) (.int 3))])), (.lst [])])))]⟩
/- 28 _law_makes -/
noncomputable def f28 : FX := ⟨[50, 43], [(.fr [40, 28, 32] false false (.var 43) [(.iff (.or [(.cmp .GtE (.var 28) (.call .len [(.attr (.var 50) false 0)])), (.cmp .NotEq (.call .len [(.var 32)]) (.attr (.idx (.attr (.var 50) false 0) (.var 28)) true 6))]) [(.ret (.bool false))] [])]), (.ret (.cmp .Eq (.lenset (.comp (.idx (.var 42) (.int 0)) 42 (.var 43) [])) (.call .len [(.var 43)])))]⟩
/- 29 _law_fits -/
noncomputable def f29 : FX := ⟨[50, 32, 47], [(.asgs [54, 39, 55] [(.idx (.var 47) (.int 0)), (.idx (.call (.user 27) [(.var 47)]) (.int 0)), (.idx (.call (.user 27) [(.var 47)]) (.int 1))]), (.asg 41 (.bin .Add (.var 39) (.var 55))), (.iff (.cmp .Eq (.var 54) (.str 7)) [(.fr [42] true false (.idx (.var 47) (.int 1)) [(.asg 41 (.bin .Add (.var 41) (.call .list [(.idx (.var 42) (.int 2))])))])] []), (.iff (.cmp .NotEq (.comp (.var 29) 29 (.var 41) [(.cmp .GtE (.var 29) (.attr (.var 32) true 5))]) (.lst [])) [(.ret (.bool false))] []), (.iff (.cmp .Eq (.var 54) (.str 0)) [(.ret (.cmp .Lt (.idx (.var 47) (.int 2)) (.call .len [(.attr (.var 50) false 1)])))] []), (.iff (.cmp .Eq (.var 54) (.str 5)) [(.ret (.cmp .Lt (.idx (.var 47) (.int 2)) (.attr (.var 32) true 6)))] []), (.iff (.cmp .Eq (.var 54) (.str 2)) [(.ret (.cmp .Lt (.idx (.var 47) (.int 2)) (.call .len [(.attr (.var 50) false 2)])))] []), (.iff (.cmp .In (.var 54) (.tup [(.str 4), (.str 3)])) [(.ret (.cmp .Lt (.idx (.var 47) (.int 1)) (.call .len [(.attr (.var 50) false 2)])))] []), (.iff (.cmp .Eq (.var 54) (.str 9)) [(.ret (.cmp .Lt (.idx (.var 47) (.int 1)) (.call .len [(.attr (.var 32) true 7)])))] []), (.iff (.cmp .Eq (.var 54) (.str 10)) [(.ret (.cmp .Lt (.idx (.var 47) (.int 2)) (.call .len [(.attr (.var 32) true 7)])))] []), (.iff (.cmp .Eq (.var 54) (.str 8)) [(.ret (.cmp .Lt (.idx (.var 47) (.int 2)) (.int 3)))] []), (.iff (.cmp .Eq (.var 54) (.str 6)) [(.ret (.call (.user 28) [(.var 50), (.lst [(.slF (.var 47) 1)])]))] []), (.ret (.or [(.cmp .NotEq (.var 54) (.str 7)), (.call (.user 28) [(.var 50), (.idx (.var 47) (.int 1))])]))]⟩
/- 30 _law_early -/
noncomputable def f30 : FX := ⟨[32, 11], [(.asgs [12, 25, 52] [(.dct [] []), (.dct [] []), (.lst [(.tup [(.int 0), (.call .tuple [(.call .range [(.var 11)])])])])]), (.whl (.cmp .NotEq (.var 52) (.lst [])) [(.unp [33, 15] (.pop 52)), (.iff (.cmp .NotIn (.tup [(.var 33), (.var 15)]) (.var 25)) [(.seti 25 (.tup [(.var 33), (.var 15)]) (.bool true)), (.asg 47 (.idx (.attr (.var 32) true 7) (.var 33))), (.unp [39, 55] (.call (.user 27) [(.var 47)])), (.iff (.cmp .NotEq (.comp (.var 29) 29 (.var 39) [(.cmp .NotIn (.var 29) (.var 15))]) (.lst [])) [(.seti 12 (.var 33) (.bool true))] []), (.asg 23 (.tss (.bin .Add (.call .list [(.var 15)]) (.var 55)))), (.iff (.cmp .NotIn (.idx (.var 47) (.int 0)) (.tup [(.str 9), (.str 11), (.str 12)])) [(.app 52 (.tup [(.bin .Add (.var 33) (.int 1)), (.var 23)]))] []), (.iff (.cmp .In (.idx (.var 47) (.int 0)) (.tup [(.str 9), (.str 10)])) [(.app 52 (.tup [(.ite (.cmp .Eq (.idx (.var 47) (.int 0)) (.str 9)) (.idx (.var 47) (.int 1)) (.idx (.var 47) (.int 2))), (.var 23)]))] [])] [])]), (.ret (.srt 12))]⟩
/- 31 _law_first -/
noncomputable def f31 : FX := ⟨[50], [(.asg 46 (.idx (.attr (.var 50) false 0) (.attr (.var 50) false 3))), (.iff (.or [(.cmp .Gt (.attr (.var 46) true 2) (.int 0)), (.attr (.var 46) true 3), (.cmp .Gt (.attr (.var 46) true 6) (.int 0))]) [(.ret (.tup [(.neg (.int 1)), (.neg (.int 1))]))] []), (.fr [28, 32] false true (.attr (.var 50) false 0) [(.asg 11 (.bin .Add (.bin .Add (.attr (.var 32) true 2) (.int 1)) (.ite (.attr (.var 32) true 3) (.int 1) (.int 0)))), (.iff (.cmp .Lt (.attr (.var 32) true 5) (.var 11)) [(.ret (.tup [(.var 28), (.neg (.int 1))]))] []), (.fr [33, 47] false true (.attr (.var 32) true 7) [(.iff (.not (.call (.user 29) [(.var 50), (.var 32), (.var 47)])) [(.ret (.tup [(.var 28), (.var 33)]))] [])]), (.iff (.cmp .NotIn (.idx (.idx (.attr (.var 32) true 7) (.neg (.int 1))) (.int 0)) (.tup [(.str 9), (.str 11), (.str 12)])) [(.ret (.tup [(.var 28), (.bin .Sub (.call .len [(.attr (.var 32) true 7)]) (.int 1))]))] []), (.asg 10 (.call (.user 30) [(.var 32), (.var 11)])), (.iff (.cmp .NotEq (.var 10) (.lst [])) [(.ret (.tup [(.var 28), (.idx (.var 10) (.int 0))]))] [])]), (.ret .none)]⟩
/- law -/
noncomputable def fLaw : FX := ⟨[44], [(.asg 35 (.call (.user 20) [(.var 44)])), (.fr [49] true false (.call .range [(.int 3)]) [(.asg 50 (.call (.user 26) [(.var 35)])), (.asgs [48, 9] [(.call (.user 19) [(.var 50), (.int 3)]), (.call (.user 31) [(.var 50)])]), (.iff (.cmp .NotEq (.cmp .Is (.var 48) .none) (.cmp .Is (.var 9) .none)) [(.ret (.bool false))] []), (.iff (.and [(.cmp .IsNot (.var 48) .none), (.cmp .NotEq (.tup [(.idx (.var 48) (.int 0)), (.idx (.var 48) (.int 1))]) (.var 9))]) [(.ret (.bool false))] [])]), (.ret (.bool true))]⟩
noncomputable def fxs : List FX := [f0, f1, f2, f3, f4, f5, f6, f7, f8, f9, f10, f11, f12, f13, f14, f15, f16, f17, f18, f19, f20, f21, f22, f23, f24, f25, f26, f27, f28, f29, f30, f31]
/- a call of a def is its body's run -/
noncomputable def SP : Nat → Calls
  | 0 => fun zz zz zz zz => False
  | n + 1 => fun k vs p Q => ∃ fx, fxs[k]? = some fx ∧ vs.length = fx.params.length ∧ wpF (SP n) fx.body Q ⟨fx.params.zip (vs.map .imm), p⟩
end Mine
end

section
open PySem PySem.W PyProof.Rows PyProof.Rows.LSm
set_option Elab.async false
set_option maxRecDepth 100000
set_option tactic.hygienic false
set_option linter.unusedVariables false
namespace Mine

section
variable {prog : Program} {w : World} {hb : Heap} {mg mb : Str → Option Value} {g : GP} {n : Nat} {C : Calls} {nm : Names}
variable {c : Cx} {F : FM} {T : List (Addr × Obj)} {o : Nat → Addr} {σ : St} {s : Shared} {A : Around} {Qc : Value → Shared → Prop} {E : Value → Shared → Prop}

/- a built-in called with one argument -/
theorem call1 {gn : Str} {p pos : Pos} {f : Value} {e : Expr} (B : Base mg mb g hb) (hg : globAs nm gn y) (hv : (y, f) ∈ bltTab) (hf : isBlt f = true) (hd : (y == ("__debug__" : Str)) = false) (hns : NoStar e) (G : GoodCx hb g c nm) (R : Rel c F T o σ s)
    (h : wpAny (model prog w) A (eval e c.env) (fun v s' => wpAny (model prog w) A (call f [v]) Qc E s') E s) : wpAny (model prog w) A (eval (.Call (.Name gn p) [e] [] pos) c.env) Qc E s := by
  obtain ⟨hg, rfl⟩ := hg
  refine wpAny_Call_NameR (blt_name B G R hg hv hd (callWith_blt hf (fun x hx => by rw [List.mem_singleton.mp hx]; exact hns) ?_))
  exact wpAny_items_cons (wpAny_mono h (fun v s' h => wpAny_items_nil h) fun zz zz x => x) (hns _ _)

theorem blt_set : (("set" : Str), Value.type "set") ∈ bltTab := blt_at 8 rfl
theorem blt_len : (("len" : Str), Value.builtin "len") ∈ bltTab := blt_at 0 rfl
theorem blt_list : (("list" : Str), Value.type "list") ∈ bltTab := blt_at 2 rfl
theorem blt_tuple : (("tuple" : Str), Value.type "tuple") ∈ bltTab := blt_at 3 rfl
theorem blt_sorted : (("sorted" : Str), Value.builtin "sorted") ∈ bltTab := blt_at 12 rfl
theorem blt_zip : (("zip" : Str), Value.type "zip") ∈ bltTab := blt_at 9 rfl
theorem cd_all : (cd ("set" : Str) = c_set ∧ c_set ≠ 0) ∧ (cd ("len" : Str) = c_len ∧ c_len ≠ 0) ∧ (cd ("list" : Str) = c_list ∧ c_list ≠ 0) ∧ (cd ("tuple" : Str) = c_tuple ∧ c_tuple ≠ 0) ∧ (cd ("sorted" : Str) = c_sorted ∧ c_sorted ≠ 0) ∧ (cd ("zip" : Str) = c_zip ∧ c_zip ≠ 0) ∧
    (cd ("Procedure" : Str) = c_Procedure ∧ c_Procedure ≠ 0) ∧ (cd ("Unit" : Str) = c_Unit ∧ c_Unit ≠ 0) := by decide +kernel
theorem dbg_all : (("set" : Str) == ("__debug__" : Str)) = false ∧ (("len" : Str) == ("__debug__" : Str)) = false ∧ (("list" : Str) == ("__debug__" : Str)) = false ∧ (("tuple" : Str) == ("__debug__" : Str)) = false ∧ (("sorted" : Str) == ("__debug__" : Str)) = false ∧ (("zip" : Str) == ("__debug__" : Str)) = false := by decide +kernel

theorem sound_lenset {g1 g2 : Str} {p1 p2 q1 q2 : Pos} {e : Expr} {a : X} (B : Base mg mb g hb) (h1 : globAs nm g1 "len") (h2 : globAs nm g2 "set") (he : SoundE prog w hb g n C nm e a) (hns : NoStar e) :
    SoundE prog w hb g n C nm (.Call (.Name g1 p1) [.Call (.Name g2 p2) [e] [] q2] [] q1) (.lenset a) := by
  intro A c F T o σ s Q Qc E hr G R hw hq
  have gg := G.g
  subst gg
  refine call1 B h1 blt_len rfl dbg_all.2.1 (fun zz zz => rfl) G R (call1 B h2 blt_set rfl dbg_all.1 hns G R (he A c F T o σ s _ _ E hr G R hw fun F' s' val v σ' l R' r q => ?_))
  obtain ⟨_, rfl, is, rfl, hl, q⟩ := lst_inv (k := fun vs => intsP vs fun is => is.length < 2 ^ 10 ∧ Q (.int (distinct is)) σ') q
  obtain ⟨b, us, m, rfl, hb, r⟩ := r.invLst
  have hlen : us.length = is.length := r.ofEq
  refine call_set_list hr.2.2 (isList_of (R'.fro _ _ hb)) r.ints (by rw [List.size_toArray, hlen]; unfold scanBound; lia) fun h' tk hS hk => ?_
  obtain ⟨ob, es, ep, t, ho, hex, hd, _, _, hbd, hf, hn⟩ := hS
  refine call_len_set (s := { s' with heap := h', toks := tk }) ho hex hd hf (by unfold scanBound at hbd; lia) ?_
  have e2 : (es.size : Int) = distinct is := by rw [hn, List.size_toArray, hlen]; rfl
  rw [e2]
  exact hq F' _ _ _ σ' l (R'.grow fun a x e => hk a x (Heap.lt_size e) e) (.int _ _) q

theorem ints_of : ∀ {vs : List Value} {ns : List Int}, vs.length = ns.length → (∀ (j : Nat) (v : Value), vs[j]? = some v → ∃ t, v = .int (ns.getD j 0) t) → IntsAre vs ns
  | [], [], _, _ => .nil
  | v :: vs, i :: ns, hl, h => by
    obtain ⟨t, e⟩ := h 0 v rfl
    have e' : v = .int i t := e
    rw [e']
    exact .cons _ _ (ints_of (Nat.succ.inj hl) fun j v e => h (j + 1) v e)
/- sorted of whatever gives ints -/
theorem sorted_src {Ty : String} {r d : Addr} {k : Nat} {P : Nat → Value → Prop} {OK : Heap → Prop} (K : KdlSrc prog w Ty r d k P OK) (hA : A.handled = none) (R : Rel c F T o σ s) (hok : OK s.heap) {ns : List Int} (hns : ns.length = k) (hk : k < 64)
    (hP : ∀ j v, P j v → ∃ t, v = .int (ns.getD j 0) t) (hq : ∀ F' s' D (l : List Int), F.le F' → Rel c F' T o σ s' → Rep c.g F' (.ref D) (.lst (l.map V.int)) → l.Perm ns → l.Pairwise (· ≤ ·) → Qc (.ref D) s') :
    wpAny (model prog w) A (call (.builtin "sorted") [.ref r]) Qc E s := by
  obtain ⟨m, fr, nw, k0, k1⟩ := R.full
  refine kdu_sorted K hA fr nw hok (by unfold sizeLine; lia) fun D h' tk vs F' N' hD hlen hP' => ?_
  refine ksk_lsort (ns := ns) (vs := vs) F' N' (fun ob => .head fun p hp => Nat.ne_of_lt (hD p hp)) rfl (ints_of (by rw [hlen, hns]) fun j v e => hP j v (hP' j v e)) (by lia) fun vs' l cc h2 F2 N2 hi hl hp hpw zz => ?_
  obtain ⟨le, R2⟩ := k1 h2 tk D _ F2 N2 hD
  exact hq _ _ D l le R2 (.lst (FM.put_self ..) (.of_ints hi)) hp hpw

theorem dicVar_inv {k : Nat} {p : List V → Prop} (h : match σ.get k with | some (.odic vs) => p vs | _ => False) : ∃ vs, σ.get k = some (.odic vs) ∧ p vs := by
  cases e : σ.get k with
  | none => rw [e] at h; exact ff h
  | some lv => rw [e] at h; cases lv with
    | odic vs => exact ⟨vs, rfl, h⟩
    | _ => exact ff h
theorem sound_srt {g1 : Str} {p1 q1 px : Pos} {x : Str} {k : Nat} (B : Base mg mb g hb) (h1 : globAs nm g1 "sorted") (hx : IsV nm x) (hk : varIx x = some k) : SoundE prog w hb g n C nm (.Call (.Name g1 p1) [.Name x px] [] q1) (.srt k) := by
  intro A c F T o σ s Q Qc E hr G R hw hq
  have gg := G.g
  subst gg
  obtain ⟨_, e, is, rfl, ⟨hl, hnd⟩, q⟩ := dicVar_inv (p := fun ks => intsP ks fun is => (is.length < 60 ∧ is.Nodup) ∧ ∀ l : List Int, l.Perm is → l.Pairwise (· ≤ ·) → Q (.lst (l.map V.int)) σ) hw
  · skip
    refine call1 B h1 blt_sorted rfl dbg_all.2.2.2.2.1 (fun zz zz => rfl) G R (load_var (fun h => LV.noConfusion h) G R hx hk e fun v hv => ?_)
    cases hv
    have hd := R.dct k _ e
    have e2 : is.map V.int = (is.map Key.i).map Key.v := by rw [List.map_map]; rfl
    rw [e2] at hd
    obtain ⟨ep, hd⟩ := (odic_int (prog := prog) (w := w) hd).dictAt
    have lo : (o k == sysModules) = false := by
      obtain ⟨ob, hb'⟩ := B.mods
      rw [beq_eq_false_iff_ne]
      intro q
      have h1 := (R.off k ⟨_, e, rfl⟩).f
      rw [q, R.baseLe G _ _ hb'] at h1; cases h1
    refine sorted_src (kdl_dict (ep := ep) lo) hr.2.2 R hd (ns := is) (by rw [List.length_map]) (by rw [List.length_map]; lia) (fun j v hP => ?_) fun F' s' D l le R' r hp hpw => hq F' s' _ _ σ le R' r (q l hp hpw)
    obtain ⟨i, x, hi, hv⟩ := hP
    obtain ⟨t, rfl⟩ := Value.isInt_shape hv
    rw [List.getElem?_map] at hi
    refine ⟨t, ?_⟩
    cases h : is[j]? with
    | none => rw [h] at hi; cases hi
    | some b => rw [h] at hi; cases hi; rw [List.getD_eq_getElem?_getD, h]; rfl
end
end Mine
end

section
open PySem PySem.W PyProof.Rows PyProof.Rows.LSm
set_option Elab.async false
set_option backward.match.sparseCases false
set_option maxRecDepth 100000
set_option tactic.hygienic false
set_option genSizeOf false
set_option genInjectivity false
set_option linter.unusedVariables false
namespace Mine

theorem bind_meth {n q : Str} {ar : List Arg} {body : List Stmt} {sc : Scope} {pm code doc : Value} {us : List Value} (hn : (ar.map (·.arg)).Nodup) (hl : us.length = ar.length) :
    bindArgs (methDef n q ⟨[], ar, none, [], [], none, []⟩ body sc pm code doc) ⟨us, []⟩ = pure ((ar.map (·.arg)).zip us) := bind_fd rfl rfl rfl hn hl

/- the rows «self.x = y» -/
inductive InitB (nm : Names) : List (Str × Str) → List Stmt → Prop
  | nil : InitB nm [] []
  | cons {x y sf : Str} {p1 p2 p3 p4 : Pos} {ps : List (Str × Str)} {ss : List Stmt} (hs : sf = "self") (h1 : nm.lookup sf = some .local) (h2 : nm.lookup y = some .local) (hd : (y == ("__debug__" : Str)) = false) (r : InitB nm ps ss) :
      InitB nm ((x, y) :: ps) (.Assign [.Attribute (.Name sf p1) x p2] (.Name y p3) p4 :: ss)
noncomputable def putA : List (Str × Value) → (Str → Option Value) → Str → Option Value
  | [], m => m
  | (x, v) :: r, m => putA r fun y => if y = x then some v else m y
theorem putA_skip {n : Str} : ∀ {l : List (Str × Value)} {m : Str → Option Value}, (∀ p ∈ l, p.1 ≠ n) → putA l m n = m n
  | [], _, _ => rfl
  | (x, v) :: r, m, h => by
    show putA r _ n = m n
    rw [putA_skip fun p hp => h p (List.mem_cons_of_mem _ hp), if_neg fun e => h _ (List.mem_cons_self ..) e.symm]
theorem putA_get : ∀ {ns : List Str} {us : List Value} {m : Str → Option Value} {i : Nat} {n : Str}, ns.Nodup → us.length = ns.length → ns[i]? = some n → putA (ns.zip us) m n = us[i]?
  | [], _, _, _, _, _, _, h => by simp at h
  | _ :: _, [], _, _, _, _, e, _ => by cases e
  | a :: ns, u :: us, m, 0, n, h, e, hi => by
    cases hi
    show putA (ns.zip us) _ a = _
    rw [putA_skip fun p hp (e : p.1 = a) => (List.nodup_cons.mp h).1 (e ▸ zip_fst hp), if_pos rfl]; rfl
  | a :: ns, u :: us, m, i + 1, n, h, e, hi => by
    show putA (ns.zip us) (fun y => if y = a then some u else m y) n = us[i]?
    exact putA_get (List.nodup_cons.mp h).2 (Nat.succ.inj e) hi
theorem look_mem {l : List (Str × Value)} {n : Str} {v : Value} (h : (l.map (·.1)).Nodup) (hm : (n, v) ∈ l) : l.lookup n = some v := by
  induction l with
  | nil => cases hm
  | cons p l ih =>
    obtain ⟨a, u⟩ := p
    have h' := List.nodup_cons.mp h
    rw [List.lookup_cons]
    rcases List.mem_cons.mp hm with e | hm'
    · cases e; rw [beq_self_eq_true]
    · have : (n == a) = false := by rw [beq_eq_false_iff_ne]; rintro rfl; exact h'.1 (List.mem_map.mpr ⟨_, hm', rfl⟩)
      rw [this]
      exact ih h'.2 hm'
theorem rev_look {ns : List Str} {us : List Value} {i : Nat} {n : Str} {v : Value} (h : ns.Nodup) (hl : us.length = ns.length) (hi : ns[i]? = some n) (hv : us[i]? = some v) : (ns.zip us).reverse.lookup n = some v := by
  refine look_mem ?_ (List.mem_reverse.mpr ?_)
  · rw [List.map_reverse, List.map_fst_zip (by lia)]
    exact List.pairwise_reverse.mpr (h.imp Ne.symm)
  · rw [List.mem_iff_getElem?]
    exact ⟨i, by rw [List.getElem?_zip_eq_some]; exact ⟨hi, hv⟩⟩
theorem self_dbg : (("self" : Str) == ("__debug__" : Str)) = false := by decide +kernel

section
variable {prog : Program} {w : World} {hb : Heap} {A : Around} {E : Value → Shared → Prop} {env : Env} {m mN : Str → Option Value} {x dx C N : Addr} {nm : Names}
theorem init_walk {Q : Flow → Shared → Prop} (hk : env.scope.kind = .function) (hnm : env.scope.names = nm) (hself : m "self" = some (.ref x)) (X : ClsAt hb C N mN) (hns : mN "__setattr__" = none) (hx0 : hb.get? x = none) (hd0 : hb.get? dx = none) (hLx : env.locals ≠ x) (hLd : env.locals ≠ dx)
    {ps : List (Str × Str)} {ss : List Stmt} (I : InitB nm ps ss) : ∀ {us : List Value} {mA : Str → Option Value} {ns : List Str} {s : Shared}, us.length = ps.length → (∀ (i : Nat) (p : Str × Str), ps[i]? = some p → m p.2 = us[i]? ∧ mN p.1 = none ∧ typeLookup (.type "object") p.1 = pure none) → (∀ b o, hb.get? b = some o → s.heap.get? b = some o) → s.heap.Ns env.locals m →
      s.heap.Inst x C mA → (∃ ox, s.heap.get? x = some ox ∧ ox.dict = some dx) → Within mA ns → ns.length + ps.length ≤ 100 →
      (∀ h' tk, h'.Inst x C (putA ((ps.map (·.1)).zip us) mA) → (∃ ox, h'.get? x = some ox ∧ ox.dict = some dx) → (∀ b o, b ≠ x → b ≠ dx → s.heap.get? b = some o → h'.get? b = some o) → Q .next { s with heap := h', toks := tk }) →
      wpAny (model prog w) A (execs ss env) Q E s := by
  induction I with
  | nil =>
    intro us mA ns s hl hm hkp hn hi hd hw hlen hq
    exact wpAny_execs_nil (hq s.heap s.toks (by cases us <;> exact hi) hd fun zz zz zz zz e => e)
  | @cons a y sf p1 p2 p3 p4 ps ss hs h1 h2 hdb r ih =>
    intro us mA ns s hl hm hkp hn hi hd hw hlen hq
    cases us with
    | nil => cases hl
    | cons u us =>
    obtain ⟨m1, m2, m3⟩ := hm 0 _ rfl
    subst hs
    have kindOf : ∀ z, env.kindOf z = nm.lookup z := fun z => by unfold Env.kindOf; rw [hnm]
    refine wpAny_execs_cons (plainObj_wpAny_Assign_Attribute (wpAny_Name (wpAny_loadName_local hk (by rw [kindOf]; exact h2) hn m1 ?_) hdb) rfl)
    refine wpAny_Name (wpAny_loadName_local hk (by rw [kindOf]; exact h1) hn hself ?_) self_dbg
    obtain ⟨nm', q, bs, sn, sub, col, dd, k0, k1, k2, k3, k5, hC₀⟩ := X.obj
    have hxC : x ≠ C := by rintro rfl; rw [hx0] at hC₀; cases hC₀
    obtain ⟨hh, g, d, t, os⟩ := s
    obtain ⟨ox, hx, hdx⟩ := hd
    refine store_attr PySem.F.store_object (hkp _ _ hC₀) (X.keeps hkp).ns hns m2 m3 hxC hi (fun h' tk' I' hk' hsame => ?_) hw (by unfold sizeLine; lia)
    have kk : ∀ b o, b ≠ x → b ≠ dx → hh.get? b = some o → h'.get? b = some o := fun b o h1 h2 e => hk' b o h1 (fun o₀ d' e₀ ed => by
      obtain rfl := Option.some.inj (hx.symm.trans e₀); obtain rfl := Option.some.inj (hdx.symm.trans ed); exact h2) e
    obtain ⟨o₁, e₁, c₁, dt₁, _, dk₁⟩ := hsame ox hx
    obtain ⟨oL, es, ep, eL, rL⟩ := hn
    refine ih (s := ⟨h', g, d, tk', os⟩) (ns := a :: ns) (us := us) (Nat.succ.inj hl) (fun i p hp => hm (i + 1) p hp) (fun b o e => kk b o (by rintro rfl; rw [hx0] at e; cases e) (by rintro rfl; rw [hd0] at e; cases e) (hkp b o e)) ⟨oL, es, ep, kk _ oL hLx hLd eL, rL⟩ I' ⟨o₁, e₁, dk₁ _ hdx⟩ ?_ (by simp only [List.length_cons] at hlen ⊢; lia) ?_
    · intro z hz
      by_cases q : z = a
      · rw [q]; exact List.mem_cons_self ..
      · have hz' : (if z = a then some u else mA z) ≠ none := hz
        rw [if_neg q] at hz'; exact List.mem_cons_of_mem _ (hw z hz')
    · intro h2 tk2 J2 d2 k2
      exact hq h2 tk2 J2 d2 fun b o q1 q2 e => k2 b o q1 q2 (kk b o q1 q2 e)

/- a class's own __init__ -/
structure InitIs (c : Bool) (d : DefOf) : Prop where
  par : ∃ ar ys, d.params = ⟨[], ar, none, [], [], none, []⟩ ∧ ar.map (·.arg) = ("self" : Str) :: ys ∧ (ar.map (·.arg)).Nodup ∧ (∀ x ∈ ar.map (·.arg), d.scope.names.lookup x = some .local) ∧ ys.length = (nmsOf c).length ∧ InitB d.scope.names ((nmsOf c).zip ys) d.body
  kind : d.scope.kind = .function ∧ d.scope.isGenerator = false ∧ d.scope.isCoroutine = false ∧ ∀ p ∈ d.scope.names, p.2 ≠ .cell
theorem initB_cons {nm : Names} {x y sf x' y' : Str} {p1 p2 p3 p4 : Pos} {ps : List (Str × Str)} {ss : List Stmt} (h : (sf = "self" ∧ nm.lookup sf = some .local ∧ nm.lookup y = some .local ∧ (y == ("__debug__" : Str)) = false ∧ x' = x ∧ y' = y) ∧ InitB nm ps ss) :
    InitB nm ((x, y) :: ps) (.Assign [.Attribute (.Name sf p1) x' p2] (.Name y' p3) p4 :: ss) := by
  obtain ⟨⟨h1, h2, h3, h4, rfl, rfl⟩, h5⟩ := h
  exact .cons h1 h2 h3 h4 h5
noncomputable def chkInitB (nm : Names) : (ps : List (Str × Str)) → (ss : List Stmt) → Ok (InitB nm ps ss)
  | [], [] => .yes .nil
  | (x, y) :: ps, s :: ss => onAsg (fun s => InitB nm ((x, y) :: ps) (s :: ss)) s fun t e p4 => onAttr (fun t => InitB nm ((x, y) :: ps) (.Assign [t] e p4 :: ss)) t fun b x' p2 => onName (fun b => InitB nm ((x, y) :: ps) (.Assign [.Attribute b x' p2] e p4 :: ss)) b fun sf p1 => onName (fun e => InitB nm ((x, y) :: ps) (.Assign [.Attribute (.Name sf p1) x' p2] e p4 :: ss)) e fun y' p3 =>
    ((Ok.dec (sf = "self" ∧ nm.lookup sf = some .local ∧ nm.lookup y = some .local ∧ (y == ("__debug__" : Str)) = false ∧ x' = x ∧ y' = y)).and (chkInitB nm ps ss)).map initB_cons
  | _, _ => .no
noncomputable def chkInit (c : Bool) : (d : DefOf) → Ok (InitIs c d)
  | ⟨_, ⟨[], a :: ar, none, [], [], none, []⟩, body, sc⟩ => ((Ok.dec (a.arg = ("self" : Str) ∧ ((a :: ar).map (·.arg)).Nodup ∧ (∀ x ∈ (a :: ar).map (·.arg), sc.names.lookup x = some .local) ∧ (ar.map (·.arg)).length = (nmsOf c).length ∧ sc.kind = .function ∧ sc.isGenerator = false ∧ sc.isCoroutine = false ∧ ∀ p ∈ sc.names, p.2 ≠ .cell)).and
      (chkInitB sc.names ((nmsOf c).zip (ar.map (·.arg))) body)).map fun ⟨⟨h1, h2, h3, h4, h5⟩, h6⟩ => ⟨⟨_, _, rfl, by rw [List.map_cons, h1], h2, h3, h4, h6⟩, h5⟩
  | _ => .no
@[reducible] noncomputable def initOf (c : Bool) : Option DefOf := metOf (if c then 3 else 4)
noncomputable def initOk (c : Bool) : Bool := match initOf c with | some d => (chkInit c d).ok | none => false
theorem initOk_t : initOk true = true := by decide +kernel
theorem initOk_f : initOk false = true := by decide +kernel
theorem init_is (c : Bool) {d : DefOf} (h : initOf c = some d) : InitIs c d := by
  have e : initOk c = true := by cases c; exact initOk_f; exact initOk_t
  unfold initOk at e
  rw [h] at e
  exact Ok.get e
end
end Mine
end

section
open PySem PySem.W PyProof.Rows PyProof.Rows.LSm
set_option Elab.async false
set_option maxRecDepth 100000
set_option tactic.hygienic false
set_option linter.unusedVariables false
namespace Mine

section
variable {c : Cx} {F F' : FM} {T : List (Addr × Obj)} {o : Nat → Addr} {σ : St} {s : Shared}
theorem Rel.new2 (R : Rel c F T o σ s) {h' : Heap} {t : Nat} {a b : Addr} {ob ob' : Obj} (hk : ∀ a ob, s.heap.get? a = some ob → h'.get? a = some ob) (ha : s.heap.get? a = none) (hb : s.heap.get? b = none) (hne : b ≠ a) (h : h'.get? a = some ob) (h2 : h'.get? b = some ob') :
    F.le ((F.put a ob).put b ob') ∧ Rel c ((F.put a ob).put b ob') T o σ { s with heap := h', toks := t } := by
  have hb' : (F.put a ob) b = none := by rw [FM.put_ne _ _ hne]; exact (R.offNew hb).f
  have l : F.le ((F.put a ob).put b ob') := (FM.le_put (R.offNew ha).f).trans (FM.le_put hb')
  have inv : ∀ y x, ((F.put a ob).put b ob') y = some x → (y = b ∧ x = ob') ∨ (y = a ∧ x = ob) ∨ F y = some x := fun y x e => by
    unfold FM.put at e
    by_cases q : y = b
    · rw [if_pos q] at e; cases e; exact .inl ⟨q, rfl⟩
    · rw [if_neg q] at e
      by_cases q' : y = a
      · rw [if_pos q'] at e; cases e; exact .inr (.inl ⟨q', rfl⟩)
      · rw [if_neg q'] at e; exact .inr (.inr e)
  refine ⟨l, R.resume (p' := σ.pot) l (fun y x e => ?_) (fun y x e => ?_) (fun a ob e zz => hk a ob e) id (fun p e => (R.pot p e).mono l fun zz => hk _ _) id⟩
  · rcases inv y x e with ⟨rfl, rfl⟩ | ⟨rfl, rfl⟩ | e
    · exact h2
    · exact h
    · exact hk _ _ (R.fro _ _ e)
  · rcases inv y x e with ⟨rfl, rfl⟩ | ⟨rfl, rfl⟩ | e
    · exact .inr hb
    · exact .inr ha
    · exact .inl e
end

noncomputable def ctor (cl : Bool) : Fn := if cl then .proc else .unit
theorem ctorP {C : Calls} {p : Option Pot} {k : V → Option Pot → Prop} : ∀ {cl : Bool} {vs : List V}, callP C (ctor cl) vs p k → vs.length = (nmsOf cl).length ∧ k (.obj cl vs) p
  | true, [_, _, _, _, _, _, _, _], h => ⟨rfl, h⟩
  | false, [_, _, _, _], h => ⟨rfl, h⟩
  | true, [], h => False.elim h
  | true, [_], h => False.elim h
  | true, [_, _], h => False.elim h
  | true, [_, _, _], h => False.elim h
  | true, [_, _, _, _], h => False.elim h
  | true, [_, _, _, _, _], h => False.elim h
  | true, [_, _, _, _, _, _], h => False.elim h
  | true, [_, _, _, _, _, _, _], h => False.elim h
  | true, _ :: _ :: _ :: _ :: _ :: _ :: _ :: _ :: _ :: _, h => False.elim h
  | false, [], h => False.elim h
  | false, [_], h => False.elim h
  | false, [_, _], h => False.elim h
  | false, [_, _, _], h => False.elim h
  | false, _ :: _ :: _ :: _ :: _ :: _, h => False.elim h

theorem nms_nodup (cl : Bool) : (nmsOf cl).Nodup := by cases cl <;> decide +kernel
theorem nms_obj : ∀ (cl : Bool) (x : Str), x ∈ nmsOf cl → typeLookup (.type "object") x = pure none := by
  have h : ∀ x ∈ nmsOf true ++ nmsOf false, (match builtinLookup "object" x with | some r => r.isNone | none => false) = true := by decide +kernel
  intro cl x hx
  have h' := h x (by cases cl; exact List.mem_append_right _ hx; exact List.mem_append_left _ hx)
  rw [typeLookup_type]
  cases e : builtinLookup "object" x with
  | none => rw [e] at h'; cases h'
  | some r => rw [e] at h'; cases r with
    | none => rfl
    | some _ => cases h'

section
variable {prog : Program} {w : World} {hb : Heap} {mg mb : Str → Option Value} {g : GP} {n : Nat} {C : Calls} {nm : Names}
theorem sound_ctor {cl : Bool} {gn : Str} {p pos : Pos} {e : Expr} {es : List Expr} {xs : List X} (B : Base mg mb g hb) (hg : nm.lookup gn = some .globalImplicit) (hgn : gn = clsNm cl) (hd : (gn == ("__debug__" : Str)) = false)
    (hs : SoundEs prog w hb g n C nm (e :: es) xs) (hns : ∀ x ∈ e :: es, NoStar x) : SoundE prog w hb g n C nm (.Call (.Name gn p) (e :: es) [] pos) (.call (ctor cl) xs) := by
  intro A c F T o σ s Q Qc E hr G R hw hq
  have gg := G.g
  subst gg
  obtain ⟨N, mN, fI, oI, pm, cdv, doc, hv, X, hmN, hga, hsa, hi, ho, hfc, d, hd0, hdat, hcd⟩ := B.cls cl
  have I := init_is cl (d := d) hd0
  obtain ⟨⟨ar, ys, h1, h2, h3, h4, h5, h6⟩, h7, h8, h9, h10⟩ := I
  refine wpAny_Call_NameR (glob_name B G R hg (by rw [hgn]; exact hv) hd (callWith_cls X (hs A c F T o σ s pos _ _ E hr G R hw fun F' s' vals vs σ' l R' r hlen q => ?_) (hns _ (List.mem_cons_self ..) _ _) (plain_args (fun x hx => hns x (List.mem_cons_of_mem _ hx)) _ _)))
  have hkp : ∀ b ob, hb.get? b = some ob → s'.heap.get? b = some ob := fun b ob e => R'.fro _ _ (R'.baseLe G _ _ e)
  refine ⟨hkp, ?_⟩
  obtain ⟨hl, q⟩ := ctorP q
  have hsz : vals.length = ys.length := by rw [r.length, hl, h5]
  obtain ⟨hh, gs, dr, t, os⟩ := s'
  obtain ⟨nm', q', bs, sn, sub, col, dd, k0, k1, k2, k3, k5, hC⟩ := (X.keeps hkp).obj
  refine wpAny_call_obj_init PySem.F.objNew hC (X.keeps hkp).ns hi (hkp _ _ ho) hfc fun h' x dx Mk => ?_
  have kk : ∀ b o, hb.get? b = some o → h'.get? b = some o := fun b o e => Mk.keeps _ _ (hkp b o e)
  have hlen2 : (Value.ref x :: vals).length = ar.length := by rw [List.length_cons, hsz, ← List.length_map (as := ar) (f := (·.arg)), h2]; rfl
  rw [h1] at hdat
  refine wpAny_call (codeAny_call_def (fd := methDef d.name _ _ d.body d.scope pm cdv doc) (body := d.body) (binds := (ar.map (·.arg)).zip (.ref x :: vals)) ?_ (kk _ _ ho) hdat (B.nolimit.keeps kk) (hcd.keeps kk) rfl
    (.of_eq (bind_meth h3 hlen2)) h10 (fun y hy => h4 _ (zip_fst hy)) (fun h₁ hns₁ hk₁ => ?_) h9 h8 h7)
  · have := hr.1; show A.depth + 1 < recursionLimit; unfold recursionLimit; lia
  obtain ⟨ox, hx, hcx, hncx, hdx⟩ := Mk.inst
  have hdd := Mk.dict ox hx
  have hb0 : ∀ a, hh.get? a = none → hb.get? a = none := fun a e => by
    cases q : hb.get? a with
    | none => rfl
    | some ob => rw [hkp _ _ q] at e; cases e
  have hdxl : ∃ od, h'.get? dx = some od := by
    rcases hdx with ⟨hn0, _⟩ | ⟨d', hd', _, hns'⟩
    · rw [hn0] at hdd; cases hdd
    · obtain rfl := Option.some.inj (hd'.symm.trans hdd); obtain ⟨od, _, _, e, _⟩ := hns'; exact ⟨od, e⟩
  obtain ⟨od, hod⟩ := hdxl
  have szip : ((nmsOf cl).zip ys).length = vals.length := by rw [List.length_zip, hsz, h5]; exact Nat.min_self _
  have hnl : (nmsOf cl).length ≤ 8 := by cases cl <;> decide
  refine init_walk (env := callEnv (methDef d.name _ _ d.body d.scope pm cdv doc) h'.objs.size fI) (m := fun y => List.lookup y ((ar.map (fun z : Arg => z.arg)).zip (Value.ref x :: vals)).reverse) (ns := []) (mA := fun zz => none) (us := vals) h7 rfl
    (rev_look (i := 0) h3 (by rw [hlen2, List.length_map]) (by rw [h2]; rfl) rfl) X hsa (hb0 _ Mk.newX) (hb0 _ Mk.newD) (Nat.ne_of_gt (Heap.lt_size hx)) (Nat.ne_of_gt (Heap.lt_size hod)) h6 szip.symm (fun i pr hpr => ?_) (fun b o e => hk₁ _ _ (kk _ _ e)) hns₁
    ⟨ox, hk₁ _ _ hx, hcx, hncx, ?_⟩ ⟨ox, hk₁ _ _ hx, hdd⟩ (fun zz h => absurd rfl h) (by rw [szip, hsz, h5]; show 0 + _ ≤ 100; lia) fun h2 tk2 J2 d2 hk2 => ?_
  · obtain ⟨a1, a2⟩ := List.getElem?_zip_eq_some.mp hpr
    have hmem : pr.1 ∈ nmsOf cl := List.mem_of_getElem? a1
    have hv : ∃ v, vals[i]? = some v := by
      have : i < vals.length := by have := (List.getElem?_eq_some_iff.mp a2).1; lia
      exact ⟨_, List.getElem?_eq_getElem this⟩
    obtain ⟨v, hv⟩ := hv
    refine ⟨?_, hmN _ hmem, nms_obj cl _ hmem⟩
    rw [hv]
    exact rev_look (i := i + 1) h3 (by rw [hlen2, List.length_map]) (by rw [h2]; exact a2) hv
  · rcases hdx with h | ⟨d', h1, h2, h3⟩
    · exact .inl h
    · exact .inr ⟨d', h1, h2, h3.keeps hk₁⟩
  · refine ⟨rfl, ?_⟩
    have hall : ∀ b ob, hh.get? b = some ob → h2.get? b = some ob := fun b ob e => hk2 b ob (by rintro rfl; rw [Mk.newX] at e; cases e) (by rintro rfl; rw [Mk.newD] at e; cases e) (hk₁ _ _ (Mk.keeps _ _ e))
    obtain ⟨o2, e2, e3⟩ := d2
    obtain ⟨o2', e2', c2, n2, dd2⟩ := J2
    obtain rfl := Option.some.inj (e2.symm.trans e2')
    rcases dd2 with ⟨hn0, _⟩ | ⟨d', hd', hne, hns2⟩
    · rw [e3] at hn0; cases hn0
    obtain rfl := Option.some.inj (e3.symm.trans hd')
    obtain ⟨od2, es2, ep2, f1, f2, f3, f4, f5⟩ := hns2
    obtain ⟨lF, RF⟩ := R'.new2 (t := tk2) hall Mk.newX Mk.newD hne e2 f1
    refine hq _ _ _ _ σ' (l.trans lF) RF (.obj (vs := vals) (by rw [FM.put_ne _ _ hne.symm]; exact FM.put_self ..) c2 n2 e3 hne (FM.put_self ..) f2 f3 f4 (by rw [r.length, hl]) (fun i nmv hi => ?_) (r.mono lF)) q
    rw [f5, List.map_fst_zip (by rw [h5]; exact Nat.le_refl _)]
    exact putA_get (nms_nodup cl) (by rw [r.length, hl]) hi
end
end Mine
end

section
open PySem PySem.W PyProof.Rows PyProof.Rows.LSm
set_option Elab.async false
set_option maxRecDepth 100000
set_option tactic.hygienic false
set_option genSizeOf false
set_option genInjectivity false
set_option linter.unusedVariables false
namespace Mine

inductive KeyIs : Option Expr → Nat → Prop
  | mk {x : Str} {c k : Nat} {p : Pos} (h : strIx x = some c) : KeyIs (some (.Constant (.str x) k p)) c
inductive PairsR (g : GP) (F : FM) : List (Value × Value) → List Nat → List V → Prop
  | nil : PairsR g F [] [] []
  | cons {x : Str} {t : Tok} {v : Value} {d : V} {c : Nat} {r : List (Value × Value)} {ks : List Nat} {ds : List V} (hk : strIx x = some c) (hv : Rep g F v d) (hr : PairsR g F r ks ds) : PairsR g F ((.str x t, v) :: r) (c :: ks) (d :: ds)
theorem PairsR.all {g : GP} {F : FM} {r : List (Value × Value)} {ks : List Nat} {ds : List V} (h : PairsR g F r ks ds) : allStrKeys r = true := by
  induction h with
  | nil => rfl
  | cons _ _ _ ih => exact ih
theorem PairsR.keys {g : GP} {F : FM} {r : List (Value × Value)} {ks : List Nat} {ds : List V} (h : PairsR g F r ks ds) : (strPairs r).map (fun p => strIx p.1) = ks.map some := by
  induction h with
  | nil => rfl
  | cons hk _ _ ih =>
    unfold strPairs
    rw [List.map_cons, List.map_cons, ih, hk]
theorem PairsR.nodup {g : GP} {F : FM} {r : List (Value × Value)} {ks : List Nat} {ds : List V} (h : PairsR g F r ks ds) (hn : ks.Nodup) : ((strPairs r).map (·.1)).Nodup := by
  have h1 : ((strPairs r).map (fun p => strIx p.1)).Nodup := by rw [h.keys]; exact (nodup_map fun a b e => by injection e).mpr hn
  have e : (strPairs r).map (fun p => strIx p.1) = ((strPairs r).map (·.1)).map strIx := by rw [List.map_map]; rfl
  rw [e] at h1
  refine (List.pairwise_map.mp h1).imp fun hne q => hne (by rw [q])
theorem PairsR.ent {g : GP} {F : FM} {prog : Program} {w : World} (hW : g.w = w) {r : List (Value × Value)} {ks : List Nat} {ds : List V} (h : PairsR g F r ks ds) : ∀ {es : List DictEntry}, (∀ e ∈ es, ∃ k, (strKind prog w).is k e.key = true ∧ e.hash = (strKind prog w).hash k) → Pairs (strKind prog w) es (strPairs r) → RepEnt g F es ks ds := by
  induction h with
  | nil => intro es _ p; cases p; exact .nil
  | @cons x t v d c r ks ds hk hv hr ih =>
    intro es he p
    unfold strPairs at p
    cases p with | @cons e _ es _ h1 h2 p =>
    have ih' := ih (es := es) (fun e' h' => he e' (List.mem_cons_of_mem _ h')) p
    obtain ⟨k, h3, h4⟩ := he e (List.mem_cons_self ..)
    obtain rfl := (strKind prog w).inj _ _ _ h1 h3
    obtain ⟨u, hu⟩ := Value.isStrOf_shape h1
    obtain ⟨eh, ek, ev⟩ := e
    have hu' : ek = .str x u := hu
    have h2' : ev = v := h2
    have h4' : eh = hashStr w x := h4
    subst hu'
    subst h2'
    exact .cons (by rw [h4', hW]) hk hv ih'

section
variable {prog : Program} {w : World} {hb : Heap} {mg mb : Str → Option Value} {g : GP} {n : Nat} {C : Calls} {nm : Names}
theorem pairs_walk {keys : List (Option Expr)} {ks : List Nat} (hk : All2 KeyIs keys ks) : ∀ {vals : List Expr} {xs : List X}, keys.length = vals.length → All2 (SoundE prog w hb g n C nm) vals xs →
    ∀ {A : Around} {c : Cx} {F : FM} {T : List (Addr × Obj)} {o : Nat → Addr} {σ : St} {s : Shared} {pos : Pos} {Q : List V → St → Prop} {Qc : List (Value × Value) → Shared → Prop} {E : Value → Shared → Prop}, Room n A → GoodCx hb g c nm → Rel c F T o σ s → wpEs C xs Q σ →
      (∀ F' s' r vs σ', F.le F' → Rel c F' T o σ' s' → PairsR g F' r ks vs → Q vs σ' → Qc r s') → wpAny (model prog w) A (evalPairs (pairTrees keys vals c.env pos)) Qc E s := by
  induction hk with
  | nil =>
    intro vals xs hl hv A c F T o σ s pos Q Qc E hr G R hw hq
    cases hv with
    | nil => exact pairTrees_nil_walk (hq F s [] [] σ (FM.le.refl F) R .nil hw)
    | cons _ _ => cases hl
  | cons h1 _ ih =>
    intro vals xs hl hv A c F T o σ s pos Q Qc E hr G R hw hq
    cases hv with
    | nil => cases hl
    | cons hv1 hv =>
      cases h1 with | mk h1 =>
      refine pairTrees_cons_walk (wpAny_Constant_str ?_)
      refine hv1 A c F T o σ _ _ _ E hr G (R.tok _) hw fun F' s' v d σ' l R' rv q => ?_
      exact ih (Nat.succ.inj hl) hv hr G R' q fun F2 s2 r vs σ2 l2 R2 hp q2 => hq F2 s2 _ _ σ2 (l.trans l2) R2 (.cons h1 (rv.mono l2) hp) q2
theorem sound_dct (hW : g.w = w) (B : Base mg mb g hb) {keys : List (Option Expr)} {vals : List Expr} {ks : List Nat} {xs : List X} {pos : Pos} (hk : All2 KeyIs keys ks) (hv : All2 (SoundE prog w hb g n C nm) vals xs) (hl : keys.length = vals.length) (h0 : keys ≠ []) (hlen : keys.length ≤ 15) (hnd : ks.Nodup) :
    SoundE prog w hb g n C nm (.Dict keys vals pos) (.dct ks xs) := by
  intro A c F T o σ s Q Qc E hr G R hw hq
  have gg := G.g
  subst gg
  have hall : keys.all (·.isSome) = true := by
    clear hl h0 hlen hnd hw hq
    induction hk with
    | nil => rfl
    | cons h _ ih => cases h; exact ih
  have hfr : s.heap.get? s.heap.objs.size = none := fresh_none (Nat.le_refl _)
  have hO := R.offNew hfr
  have hTD : ∀ p ∈ T, p.1 ≠ s.heap.objs.size := hO.t
  have R0 : Rel c F T o σ { s with heap := s.heap.push (dicO [] 0) } := R.grow (t := s.toks) fun a x e => Heap.get?_push_of_some _ e
  have R1 := R0.addT (a := s.heap.objs.size) (ob := dicO [] 0) (Heap.get?_push_size _ rfl) ⟨hO.f, hO.t, hO.l, hO.ce, hO.p, hO.h⟩ fun k hk => R.ownNe hfr hk
  refine wpAny_Dict_walk (knd := strKind prog w) hall hl h0 hlen (pairs_walk hk hl hv hr G R1 hw fun F' s' r vs σ' l R' hp q => ?_)
  refine ⟨strPairs r, carries_strPairs _ _ _ hp.all, ⟨_, #[], 0, R'.tmp _ (List.mem_cons_self ..), ⟨rfl, rfl, rfl⟩, rfl, ?_, .nil, List.nodup_nil⟩, fun h' hd hs => ?_⟩
  · intro e he; exact absurd he (by simp)
  · rw [merged_nil_of_nodup _ (hp.nodup hnd)] at hd
    obtain ⟨ob, es, m, hg, ⟨x1, x2, x3⟩, hd, hks, hpr, nd⟩ := hd
    obtain ⟨oc, od, oda, osl⟩ := ob
    cases x1; cases x2; cases x3; cases hd
    have hent := hp.ent (prog := prog) hW (es := es.toList) (fun e he => hks e (Array.mem_toList_iff.mp he)) hpr
    have R2 := R'.updT (b := s.heap.objs.size) (ob := dicO [] 0) (List.mem_cons_self ..) (T' := (s.heap.objs.size, dicO es.toList m) :: T) (h' := h') (t := s'.toks + r.length) (fun p hp => by
      rcases List.mem_cons.mp hp with rfl | hp
      · exact .inl ⟨rfl, hg⟩
      · exact .inr ⟨List.mem_cons_of_mem _ hp, hTD p hp⟩) fun a x q e => (hs.2 a q).trans e
    obtain ⟨O, ho⟩ := R2.offT' (List.mem_cons_self ..) hTD
    obtain ⟨l3, R3⟩ := (R2.dropT (T' := T) fun p hp => List.mem_cons_of_mem _ hp).put hg O ho
    refine hq _ _ _ _ σ' (l.trans l3) R3 (.dic (FM.put_self ..) ?_ (RepEnt.mono l3 hent)) q
    obtain ⟨ob, hb'⟩ := B.mods
    rw [beq_eq_false_iff_ne]
    intro q
    have h1 := hO.f
    rw [q, R.baseLe G _ _ hb'] at h1; cases h1
end
end Mine
end

section
open PySem PySem.W PyProof.Rows PyProof.Rows.LSm
set_option Elab.async false
set_option maxRecDepth 100000
set_option tactic.hygienic false
set_option genSizeOf false
set_option genInjectivity false
set_option linter.unusedVariables false
namespace Mine

/- an iterator whose items lie in the heap -/
structure Grow (prog : Program) (w : World) (A : Around) (I n : Nat) (wr : List Addr) (Inv : Nat → List Value → Heap → Prop) : Prop where
  item : ∀ (i : Nat) (vs : List Value) (s : Shared) (Q : Option Value → Shared → Prop) (E : Value → Shared → Prop), i < n → Inv i vs s.heap →
    (∀ v h' tk, Inv (i + 1) (vs ++ [v]) h' → (∀ b o, b ∉ wr → s.heap.get? b = some o → h'.get? b = some o) → Q (some v) { s with heap := h', toks := tk }) → wpAny (model prog w) A (pyNext (.ref I)) Q E s
  done : ∀ (vs : List Value) (s : Shared) (Q : Option Value → Shared → Prop) (E : Value → Shared → Prop), Inv n vs s.heap →
    (∀ h' tk, (∀ b o, b ∉ wr → s.heap.get? b = some o → h'.get? b = some o) → Q none { s with heap := h', toks := tk }) → wpAny (model prog w) A (pyNext (.ref I)) Q E s
  frame : ∀ (i : Nat) (vs : List Value) (h h' : Heap), (∀ b x, x.cls ≠ .type "list" → h.get? b = some x → h'.get? b = some x) → Inv i vs h → Inv i vs h'

theorem push_lst (vs : List Value) (c : Nat) (v : Value) : some (Obj.mapSeq (·.push v) (lstO vs c)) = some (lstO (vs ++ [v]) (c + 1)) := by
  have h : ((vs.toArray.push v).size == vs.toArray.size) = false := by simp
  show some (Obj.mk _ _ (Data.seq _ (if ((vs.toArray.push v).size == vs.toArray.size) = true then c else c + 1)) _) = _
  rw [h]
  simp
theorem lst_off {h h' : Heap} {S : Addr} {vs : List Value} {c : Nat} (hS : h.get? S = some (lstO vs c)) (k : ∀ b o, b ≠ S → h.get? b = some o → h'.get? b = some o) : ∀ b x, x.cls ≠ .type "list" → h.get? b = some x → h'.get? b = some x :=
  fun b x hx e => k b x (fun q => by rw [q, hS] at e; cases e; exact hx rfl) e

section
variable {prog : Program} {w : World} {A : Around} {s : Shared} {R : Result → Shared → Prop} {I n : Nat} {wr : List Addr} {Inv : Nat → List Value → Heap → Prop}
theorem grow_loop (G : Grow prog w A.in1 I n wr Inv) {S : Addr} (hSw : S ∉ wr) (hn : n ≤ sizeLine) (res : Value) {h₁ : Heap}
    (hR : ∀ h₂ h' tk vs c, (∀ b o, b ≠ S → b ∉ wr → h₁.get? b = some o → h₂.get? b = some o) → (∀ b o, b ∉ wr → h₂.get? b = some o → h'.get? b = some o) → h₂.get? S = some (lstO vs c) → vs.length = n → Inv n vs h₂ → R (.ok (.ret res)) { s with heap := h', toks := tk }) :
    ∀ (k i : Nat) (h : Heap) (tk : Nat) (vs : List Value), n - i = k → i ≤ n → Inv i vs h → (∀ b o, b ≠ S → b ∉ wr → h₁.get? b = some o → h.get? b = some o) → (∃ c, h.get? S = some (lstO vs c)) → vs.length = i →
      codeAny (model prog w) A (.builtin "list.extend.loop" ⟨[.ref S, .ref I, res], []⟩) R { s with heap := h, toks := tk } := by
  intro k
  induction k with
  | zero =>
    intro i h tk vs hk hi hI hkp ⟨c, hS⟩ hl
    obtain rfl : i = n := by lia
    refine codeAny_builtin PySem.F.entry_extend_loop ?_
    rw [Around.under_plainId PySem.F.plain_extend_loop _]
    show wpAny _ A.in1 (pyNext (.ref I) >>= _) _ _ _
    exact wpAny_bind (G.done vs _ _ _ hI fun h' tk' he => wpAny_pure (hR h h' tk' vs c hkp he hS hl hI))
  | succ k ih =>
    intro i h tk vs hk hi hI hkp ⟨c, hS⟩ hl
    refine codeAny_builtin PySem.F.entry_extend_loop ?_
    rw [Around.under_plainId PySem.F.plain_extend_loop _]
    show wpAny _ A.in1 (pyNext (.ref I) >>= _) _ _ _
    refine wpAny_bind (G.item i vs _ _ _ (by lia) hI fun v h' tk' hI' he => ?_)
    have hS' : h'.get? S = some (lstO vs c) := he S _ hSw hS
    have up : ∀ b o, b ≠ S → h'.get? b = some o → (h'.update S (Obj.mapSeq (·.push v))).get? b = some o := fun b o hb e => (Heap.get?_update_other _ _ (Ne.symm hb)).trans e
    show wpAny _ A.in1 (updateSeq S (·.push v) >>= _) _ _ _
    refine wpAny_bind ?_
    have hself := Heap.get?_update_self (Obj.mapSeq (·.push v)) hS' rfl
    refine wpAny_updateSeq hS' rfl (wpAny_pure ⟨plainId_quiet PySem.F.plain_extend_loop _, ih (i + 1) _ tk' (vs ++ [v]) (by lia) (by lia) (G.frame _ _ _ _ (lst_off hS' up) hI') (fun b o h1 h2 e => up b o h1 (he b o h2 (hkp b o h1 h2 e))) ⟨_, hself.trans (push_lst ..)⟩ (by rw [List.length_append, hl]; rfl)⟩) ?_ ?_
    · rw [List.size_toArray, hl]; lia
    · simp [hl]; unfold sizeLine at *; lia

theorem zip_no_len : typeLookup (.type "zip") "__len__" = pure none := by rw [typeLookup_type, builtinLookup_eq_fast]; kernel_rfl
theorem zip_no_hint : typeLookup (.type "zip") "__length_hint__" = pure none := by rw [typeLookup_type, builtinLookup_eq_fast]; kernel_rfl
theorem hint_zip {E : Value → Shared → Prop} {r : Addr} {Q : Bool → Shared → Prop} (hT : s.TypeIs (.ref r) "zip") (h : Q true s) : wpAny (model prog w) A (Builtin.List.listLengthHint (.ref r)) Q E s := by
  unfold Builtin.List.listLengthHint
  refine wpAny_bind (wpAny_specialOf hT zip_no_len ?_)
  refine wpAny_bind (wpAny_specialOf hT zip_no_hint ?_)
  exact wpAny_pure h

theorem zip_extend {z TI TO : Addr} (hz : IsZip s.heap z TI TO .none) (G : Grow prog w A.in1 z n wr Inv) {S : Addr} (hSz : S ≠ z) (hSw : S ∉ wr) (hn : n ≤ sizeLine) (res : Value) (I0 : Inv 0 [] s.heap) {c₀ : Nat} (hS : s.heap.get? S = some (lstO [] c₀))
    (hR : ∀ h₂ h' tk vs c, (∀ b o, b ≠ S → b ∉ wr → s.heap.get? b = some o → h₂.get? b = some o) → (∀ b o, b ∉ wr → h₂.get? b = some o → h'.get? b = some o) → h₂.get? S = some (lstO vs c) → vs.length = n → Inv n vs h₂ → R (.ok (.ret res)) { s with heap := h', toks := tk }) :
    wpAny (model prog w) A.in1 (Builtin.List.listExtendWith (.ref S) (.ref z) res)
      (fun fin s' => match fin with | .done f => R (.ok f) s' | .again c' => c'.quiet = true ∧ codeAny (model prog w) A c' R s') (fun e s' => R (.error e) s') s := by
  have hT : s.TypeIs (.ref z) "zip" := ⟨_, hz, rfl⟩
  unfold Builtin.List.listExtendWith
  refine wpAny_bind (wpAny_typeOf hT ?_)
  have h1 : Builtin.List.listSameRef (.ref S) (.ref z) = false := by simp [Builtin.List.listSameRef, hSz]
  have h2 : (Value.type "zip" == Value.type "list") = false := by decide
  have h3 : (Value.type "zip" == Value.type "tuple") = false := by decide
  simp only [h1, h2, h3, Bool.or_false, Bool.false_eq_true, if_false]
  refine wpAny_bind (wpAny_pyIter_zip hz ?_)
  refine wpAny_bind (wpAny_holding (hint_zip hT ?_))
  refine wpAny_ite_split (fun zz => ?_) (fun hab => absurd rfl hab)
  refine wpAny_bind (wpAny_rule ?_)
  refine wpAny_bind ?_
  show wpAny _ _ (updateSeq S (·.push .none) >>= fun zz => updateSeq S (·.pop)) _ _ _
  refine wpAny_bind (wpAny_updateSeq hS rfl ?_)
  have hS₂ := Heap.get?_update_self (Obj.mapSeq (·.push Value.none)) hS rfl
  refine wpAny_updateSeq (hz := by seq_fits) hS₂ rfl ?_
  have hS₃ := Heap.get?_update_self (Obj.mapSeq (·.pop)) hS₂ rfl
  have up : ∀ b o, b ≠ S → s.heap.get? b = some o → ((s.heap.update S (Obj.mapSeq (·.push Value.none))).update S (Obj.mapSeq (·.pop))).get? b = some o := fun b o hb e =>
    (Heap.get?_update_other _ _ (Ne.symm hb)).trans ((Heap.get?_update_other _ _ (Ne.symm hb)).trans e)
  exact wpAny_pure ⟨plainId_quiet PySem.F.plain_extend_loop _, grow_loop G hSw hn res (h₁ := s.heap) hR n 0 _ s.toks [] (Nat.sub_zero _) (Nat.zero_le _) (G.frame _ _ _ _ (lst_off hS up) I0) (fun b o hb zz e => up b o hb e) ⟨_, hS₃.trans rfl⟩ rfl⟩

theorem zip_list {Q : Value → Shared → Prop} {E : Value → Shared → Prop} {z TI TO : Addr} (hz : IsZip s.heap z TI TO .none) (G : Grow prog w A.in1.in1 z n wr Inv) (hwr : ∀ b ∈ wr, b < s.heap.objs.size) (hn : n ≤ sizeLine) (I0 : Inv 0 [] s.heap)
    (hQ : ∀ h₂ h' tk vs c, (∀ b o, b ∉ wr → s.heap.get? b = some o → h'.get? b = some o) → (∀ b o, b ∉ wr → h₂.get? b = some o → h'.get? b = some o) → h'.get? s.heap.objs.size = some (lstO vs c) → vs.length = n → Inv n vs h₂ → Q (.ref s.heap.objs.size) { s with heap := h', toks := tk }) :
    wpAny (model prog w) A (call (.type "list") [.ref z]) Q E s := by
  refine callType_codes (Q₁ := fun obj s₁ => obj = .ref s.heap.objs.size ∧ s₁ = { s with heap := s.heap.push { cls := .type "list", data := .seq #[] } }) PySem.F.called_list (PySem.F.typeCall_list_1 _) PySem.F.entry_list_init
    (code_list_new _ ⟨rfl, rfl⟩) fun obj s₁ h₁ => ?_
  obtain ⟨rfl, rfl⟩ := h₁
  have hS : (s.heap.push (lstO [] 0)).get? s.heap.objs.size = some (lstO [] 0) := Heap.get?_push_size _ rfl
  have hSz : s.heap.objs.size ≠ z := Nat.ne_of_gt (Heap.lt_size hz)
  have hSw : s.heap.objs.size ∉ wr := fun h => Nat.lt_irrefl _ (hwr _ h)
  refine ⟨⟨_, hS, rfl⟩, PySem.F.args_list_init_2 _ _, ?_⟩
  show wpAny _ _ (do let old ← Builtin.List.listItems (.ref s.heap.objs.size); Builtin.List.listUpdate (.ref s.heap.objs.size) (fun zz => #[]); letGo old.toList.reverse; Builtin.List.listExtendWith (.ref s.heap.objs.size) (.ref z) .none) _ _ _
  refine wpAny_bind ?_
  unfold Builtin.List.listItems
  refine wpAny_bind (wpAny_seqItems hS rfl (wpAny_pure ?_))
  show wpAny _ _ (updateSeq s.heap.objs.size (fun zz => #[]) >>= fun zz => letGo (#[] : Array Value).toList.reverse >>= fun zz => Builtin.List.listExtendWith (.ref s.heap.objs.size) (.ref z) .none) _ _ _
  refine wpAny_bind (wpAny_updateSeq hS rfl ?_)
  have hS₂ := Heap.get?_update_self (Obj.mapSeq (fun zz => (#[] : Array Value))) hS rfl
  have oth : ∀ b o, b ≠ s.heap.objs.size → s.heap.get? b = some o → ((s.heap.push (lstO [] 0)).update s.heap.objs.size (Obj.mapSeq (fun zz => (#[] : Array Value)))).get? b = some o :=
    fun b o hb e => (Heap.get?_update_other _ _ (Ne.symm hb)).trans (Heap.get?_push_of_some _ e)
  have lt : ∀ {b o}, s.heap.get? b = some o → b ≠ s.heap.objs.size := fun e => Nat.ne_of_lt (Heap.lt_size e)
  refine wpAny_bind (wpAny_letGo ?_)
  refine zip_extend (A := A.in1) (oth _ _ hSz.symm hz) G hSz hSw hn .none (G.frame _ _ _ _ (fun b x zz e => oth b x (lt e) e) I0) (hS₂.trans rfl) fun h₂ h' tk vs c hk1 hk2 hl1 hl2 hI => ?_
  exact ⟨rfl, hQ h₂ h' tk vs c (fun b o hb e => hk2 b o hb (hk1 b o (lt e) hb (oth b o (lt e) e))) hk2 (hk2 _ _ hSw hl1) hl2 hI⟩
end
end Mine
end

section
open PySem PySem.W PyProof.Rows PyProof.Rows.LSm
set_option Elab.async false
set_option maxRecDepth 100000
set_option tactic.hygienic false
set_option genSizeOf false
set_option genInjectivity false
set_option linter.unusedVariables false
namespace Mine

section
variable {prog : Program} {w : World} {A : Around} {E : Value → Shared → Prop} {s : Shared}

theorem nextOf_tup {it t : Addr} {i : Nat} {items : Array Value} {x : Value} {Q : Value → Shared → Prop} (hit : s.heap.IsTupleIter it t i) (ht : s.heap.IsTuple t items) (hx : items[i]? = some x)
    (hQ : ∀ h', h'.IsTupleIter it t (i + 1) → Heap.SameBut it s.heap h' → Q x { s with heap := h' }) : wpAny (model prog w) A (Builtin.SmallTypes.nextOf (.ref it)) Q E s := by
  obtain ⟨o, ho, hc, hd⟩ := id hit
  obtain ⟨ol, hol, _, nl, hdl⟩ := ht
  unfold Builtin.SmallTypes.nextOf
  refine wpAny_bind (wpAny_callSpecial?_slot (name := Str.ofString "__next__") hit.typeIs PySem.F.slot_tuple_iterator_next
    (wpAny_call_entry PySem.F.slot_tuple_iterator_next hit.typeIs PySem.F.entry_tuple_iterator_next ?_ (PySem.F.args_tuple_iterator_next_1 _)))
  show wpAny _ _ (field (.ref it) 0 >>= _) _ _ s
  refine wpAny_bind (wpAny_field ho hd (x := .ref t) rfl ?_)
  show wpAny _ _ (if (Value.ref t == Value.none) = true then _ else _) _ _ s
  rw [if_neg (show ¬ ((Value.ref t == Value.none) = true) from Bool.false_ne_true)]
  show wpAny _ _ (field (.ref it) 1 >>= _) _ _ s
  refine wpAny_bind (wpAny_field ho hd (x := .int i 0) rfl ?_)
  show wpAny _ _ (seqItems? (.ref t) >>= _) _ _ s
  refine wpAny_bind (wpAny_seqItems hol hdl ?_)
  simp only [Int.toNat_natCast, hx]
  refine wpAny_bind (wpAny_setField ho hd (by simp) (wpAny_pure ⟨x, rfl, wpAny_pure (hQ _ ?_ (Heap.SameBut.update ..))⟩))
  exact ⟨_, Heap.get?_update_self _ ho (Obj.isFreed_of_fields (Obj.data_mapFields hd _)), (Obj.cls_mapFields ..).trans hc, by
    rw [Obj.data_mapFields hd]; simp [rawInt]⟩
theorem nextOf_tup_end {it t : Addr} {i : Nat} {items : Array Value} {Q : Value → Shared → Prop} (hh : A.handled = none) (hit : s.heap.IsTupleIter it t i) (ht : s.heap.IsTuple t items) (hx : items[i]? = none)
    (hE : ∀ h' e, Heap.ExtBut it s.heap h' → (∃ o, h'.get? e = some o ∧ o.cls = .type "StopIteration") → E (.ref e) { s with heap := h' }) : wpAny (model prog w) A (Builtin.SmallTypes.nextOf (.ref it)) Q E s := by
  obtain ⟨o, ho, hc, hd⟩ := id hit
  obtain ⟨ol, hol, _, nl, hdl⟩ := ht
  unfold Builtin.SmallTypes.nextOf
  refine wpAny_bind (wpAny_callSpecial?_slot (name := Str.ofString "__next__") hit.typeIs PySem.F.slot_tuple_iterator_next
    (wpAny_call_entry PySem.F.slot_tuple_iterator_next hit.typeIs PySem.F.entry_tuple_iterator_next ?_ (PySem.F.args_tuple_iterator_next_1 _)))
  show wpAny _ _ (field (.ref it) 0 >>= _) _ _ s
  refine wpAny_bind (wpAny_field ho hd (x := .ref t) rfl ?_)
  show wpAny _ _ (if (Value.ref t == Value.none) = true then _ else _) _ _ s
  rw [if_neg (show ¬ ((Value.ref t == Value.none) = true) from Bool.false_ne_true)]
  show wpAny _ _ (field (.ref it) 1 >>= _) _ _ s
  refine wpAny_bind (wpAny_field ho hd (x := .int i 0) rfl ?_)
  show wpAny _ _ (seqItems? (.ref t) >>= _) _ _ s
  refine wpAny_bind (wpAny_seqItems hol hdl ?_)
  simp only [Int.toNat_natCast, hx]
  refine wpAny_bind (wpAny_rule (wpAny_bind (wpAny_setField ho hd (by simp) ?_)))
  show wpAny _ _ (newExc (.type "StopIteration") [] >>= _) _ _ _
  refine wpAny_bind ?_
  simp only [newExc, newTuple]
  refine wpAny_bind (wpAny_newObj_type ?_ (by size_fits))
  refine wpAny_bind (m := firstArgMember _ _) (wpAny_of_eq (a := Value.none) (by first | rfl | (simp only [firstArgMember]; rfl)) ?_)
  refine wpAny_newObj_type ?_ (by size_fits)
  refine wpAny_bind (wpAny_handled ?_)
  rw [show A.in1.handled = none from hh]
  refine wpAny_bind (wpAny_pure (wpAny_throw (hE _ _ ?_ ?_)))
  · exact ((Heap.SameBut.update ..).extBut.push _).push _
  · exact ⟨_, Heap.get?_push_size _ rfl, rfl⟩

/- zip's second and later items -/
@[reducible] noncomputable def IsZipOut (h : Heap) (z TI TO : Addr) (T : Nat) (f : Bool) : Prop :=
  h.get? z = some { cls := .type "zip", dict := none, data := .fields #[rawInt T, .bool f, .bool false, .ref TI, .ref TO], slots := #[] }
theorem owned_not {z TI TO T : Addr} {f : Bool} {oT : Obj} {Q : Bool → Shared → Prop} (hz : IsZipOut s.heap z TI TO T f) (hT : s.heap.get? T = some oT)
    (h : ∀ h', IsZipOut h' z TI TO T true → Heap.SameBut z s.heap h' → Q false { s with heap := h' }) : wpAny (model prog w) A (Builtin.SmallTypes.ownedTupleIsFree (.ref z)) Q E s := by
  unfold Builtin.SmallTypes.ownedTupleIsFree
  refine wpAny_bind (wpAny_field hz rfl (x := rawInt T) rfl ?_)
  show wpAny _ _ (loadIfAlive ((T : Int).toNat) >>= _) _ _ _
  rw [Int.toNat_natCast]
  refine wpAny_bind (kdx_alive hT ?_)
  refine wpAny_bind (wpAny_field hz rfl (x := .bool f) rfl ?_)
  cases f with
  | true =>
    rw [if_neg (show ¬ ((Value.bool true != Value.bool true) = true) from Bool.false_ne_true)]
    exact wpAny_pure (h s.heap hz (Heap.SameBut.refl _ _))
  | false =>
    rw [if_pos (show (Value.bool false != Value.bool true) = true from rfl)]
    exact wpAny_bind (wpAny_setField_rec hz (by simp) fun h₃ he₃ hs₃ => wpAny_pure (h h₃ he₃ hs₃))

structure ZAp (z TI TO i1 i2 l1 l2 : Addr) : Prop where
  TIz : TI ≠ z
  TOz : TO ≠ z
  i1z : i1 ≠ z
  i2z : i2 ≠ z
  TITO : TI ≠ TO
  TIi1 : TI ≠ i1
  TIi2 : TI ≠ i2
  TOi1 : TO ≠ i1
  TOi2 : TO ≠ i2
  i12 : i1 ≠ i2
  l1z : l1 ≠ z
  l1TO : l1 ≠ TO
  l1i1 : l1 ≠ i1
  l1i2 : l1 ≠ i2
  l2z : l2 ≠ z
  l2TO : l2 ≠ TO
  l2i1 : l2 ≠ i1
  l2i2 : l2 ≠ i2

theorem zt_later {z TI TO i1 i2 l1 l2 T : Addr} {f : Bool} {oT : Obj} {k : Nat} {xs ys : Array Value} {x y : Value} {Q : Option Value → Shared → Prop} (D : ZAp z TI TO i1 i2 l1 l2) (hz : IsZipOut s.heap z TI TO T f) (hT : s.heap.get? T = some oT)
    (hTI : IsPair s.heap TI (.ref i1) (.ref i2)) (h1 : s.heap.IsTupleIter i1 l1 k) (h2 : s.heap.IsTupleIter i2 l2 k) (hl1 : s.heap.IsTuple l1 xs) (hl2 : s.heap.IsTuple l2 ys) (hx : xs[k]? = some x) (hy : ys[k]? = some y)
    (hQ : ∀ h', IsZipOut h' z TI TO T true → h'.IsTupleIter i1 l1 (k + 1) → h'.IsTupleIter i2 l2 (k + 1) → IsPair h' s.heap.objs.size x y → (∀ c o, c ≠ z → c ≠ i1 → c ≠ i2 → s.heap.get? c = some o → h'.get? c = some o) → Q (some (.ref s.heap.objs.size)) { s with heap := h' }) :
    wpAny (model prog w) A (pyNext (.ref z)) Q E s := by
  have hTy : s.TypeIs (.ref z) "zip" := ⟨_, hz, rfl⟩
  unfold pyNext
  refine wpAny_bind (wpAny_attempt (wpAny_callSpecial?_slot (name := Str.ofString "__next__") hTy PySem.F.slot_zip_next (wpAny_call_entry PySem.F.slot_zip_next hTy PySem.F.entry_zip_next ?_ (PySem.F.args_zip_next_1 _))))
  show wpAny _ _ (field (.ref z) 2 >>= _) _ _ _
  refine wpAny_bind (wpAny_field hz rfl (x := .bool false) rfl ?_)
  show wpAny _ _ (field (.ref z) 3 >>= _) _ _ _
  refine wpAny_bind (wpAny_field hz rfl (x := .ref TI) rfl ?_)
  refine wpAny_bind (wpAny_seqItems hTI rfl ?_)
  show wpAny _ _ (Builtin.SmallTypes.ownedTupleIsFree (.ref z) >>= _) _ _ _
  refine wpAny_bind (owned_not hz hT fun h₁ hz₁ hs₁ => ?_)
  refine wpAny_bind ?_
  simp only [← Array.forIn_toList, List.forIn_cons, List.forIn_nil]
  refine wpAny_bind (wpAny_bind (wpAny_holding ?_))
  show wpAny _ _ (Builtin.SmallTypes.nextOf (.ref i1) >>= _) _ _ _
  refine wpAny_bind (nextOf_tup (h1.extBut hs₁.extBut D.i1z) (hl1.extBut hs₁.extBut D.l1z) hx fun h₂ h1₂ hs₂ => wpAny_pure (wpAny_pure ?_))
  refine wpAny_bind (wpAny_bind (wpAny_holding ?_))
  show wpAny _ _ (Builtin.SmallTypes.nextOf (.ref i2) >>= _) _ _ _
  refine wpAny_bind (nextOf_tup ((h2.extBut hs₁.extBut D.i2z).extBut hs₂.extBut D.i12.symm) ((hl2.extBut hs₁.extBut D.l2z).extBut hs₂.extBut D.l2i1) hy fun h₃ h2₃ hs₃ => wpAny_pure (wpAny_pure ?_))
  refine wpAny_pure ?_
  show wpAny _ _ (newTuple [x, y] >>= _) _ _ _
  refine wpAny_bind (wpAny_newTuple ?_)
  have hsz : h₃.objs.size = s.heap.objs.size := by rw [hs₃.1, hs₂.1, hs₁.1]
  have hz₃ : IsZipOut h₃ z TI TO T true := hs₃.extBut _ _ D.i2z.symm (hs₂.extBut _ _ D.i1z.symm hz₁)
  have hk : ∀ c o, c ≠ z → c ≠ i1 → c ≠ i2 → s.heap.get? c = some o → h₃.get? c = some o := fun c o c1 c3 c4 e => hs₃.extBut _ _ c4 (hs₂.extBut _ _ c3 (hs₁.extBut _ _ c1 e))
  have h1₃ : h₃.IsTupleIter i1 l1 (k + 1) := h1₂.extBut hs₃.extBut D.i12
  refine wpAny_pure ⟨_, rfl, wpAny_pure ?_⟩
  show Q (some (.ref h₃.objs.size)) _
  rw [hsz]
  have up : ∀ c o, h₃.get? c = some o → (h₃.push { cls := .type "tuple", data := .seq #[x, y] }).get? c = some o := fun c o e => Heap.get?_push_of_some _ e
  refine hQ _ (up _ _ hz₃) ((by obtain ⟨o, ho, r⟩ := h1₃; exact ⟨o, up _ _ ho, r⟩)) ((by obtain ⟨o, ho, r⟩ := h2₃; exact ⟨o, up _ _ ho, r⟩)) ?_ fun c o c1 c3 c4 e => up _ _ (hk c o c1 c3 c4 e)
  rw [← hsz]
  exact Heap.get?_push_size _ rfl
end
end Mine
end

section
open PySem PySem.W PyProof.Rows PyProof.Rows.LSm
set_option Elab.async false
set_option maxRecDepth 100000
set_option tactic.hygienic false
set_option linter.unusedVariables false
namespace Mine

section
variable {prog : Program} {w : World} {A : Around} {E : Value → Shared → Prop} {s : Shared}

theorem zt_first {z TI TO i1 i2 l1 l2 : Addr} {k : Nat} {xs ys : Array Value} {x y a b : Value} {Q : Option Value → Shared → Prop} (D : ZAp z TI TO i1 i2 l1 l2) (hz : IsZip s.heap z TI TO .none) (hTI : IsPair s.heap TI (.ref i1) (.ref i2)) (hTO : IsPair s.heap TO a b)
    (h1 : s.heap.IsTupleIter i1 l1 k) (h2 : s.heap.IsTupleIter i2 l2 k) (hl1 : s.heap.IsTuple l1 xs) (hl2 : s.heap.IsTuple l2 ys) (hx : xs[k]? = some x) (hy : ys[k]? = some y)
    (hQ : ∀ h', IsZipOut h' z TI TO s.heap.objs.size false → h'.IsTupleIter i1 l1 (k + 1) → h'.IsTupleIter i2 l2 (k + 1) → IsPair h' s.heap.objs.size x y →
      (∀ c o, c ≠ z → c ≠ TO → c ≠ i1 → c ≠ i2 → s.heap.get? c = some o → h'.get? c = some o) → Q (some (.ref s.heap.objs.size)) { s with heap := h' }) :
    wpAny (model prog w) A (pyNext (.ref z)) Q E s := by
  have hTy : s.TypeIs (.ref z) "zip" := ⟨_, hz, rfl⟩
  unfold pyNext
  refine wpAny_bind (wpAny_attempt (wpAny_callSpecial?_slot (name := Str.ofString "__next__") hTy PySem.F.slot_zip_next (wpAny_call_entry PySem.F.slot_zip_next hTy PySem.F.entry_zip_next ?_ (PySem.F.args_zip_next_1 _))))
  show wpAny _ _ (field (.ref z) 2 >>= _) _ _ _
  refine wpAny_bind (wpAny_field hz rfl (x := .bool false) rfl ?_)
  show wpAny _ _ (field (.ref z) 3 >>= _) _ _ _
  refine wpAny_bind (wpAny_field hz rfl (x := .ref TI) rfl ?_)
  refine wpAny_bind (wpAny_seqItems hTI rfl ?_)
  show wpAny _ _ (Builtin.SmallTypes.ownedTupleIsFree (.ref z) >>= _) _ _ _
  refine wpAny_bind ?_
  unfold Builtin.SmallTypes.ownedTupleIsFree
  refine wpAny_bind (wpAny_field hz rfl (x := .none) rfl (wpAny_pure ?_))
  refine wpAny_bind (wpAny_rule ?_)
  refine wpAny_bind (wpAny_field hz rfl (x := .ref TO) rfl ?_)
  refine wpAny_bind (wpAny_setField_rec hz (by simp) fun h₁ hz₁ hs₁ => ?_)
  replace hz₁ : IsZip h₁ z TI TO .ellipsis := hz₁
  refine wpAny_bind ?_
  simp only [List.zipIdx_cons, List.zipIdx_nil, List.forIn_cons, List.forIn_nil]
  refine wpAny_bind (wpAny_bind (wpAny_onRaise ?_))
  show wpAny _ _ (Builtin.SmallTypes.nextOf (.ref i1) >>= _) _ _ _
  refine wpAny_bind (nextOf_tup (h1.extBut hs₁.extBut D.i1z) (hl1.extBut hs₁.extBut D.l1z) hx fun h₂ h1₂ hs₂ => wpAny_pure ?_)
  have hTO₂ : IsPair h₂ TO a b := hs₂.extBut _ _ D.TOi1 (hs₁.extBut _ _ D.TOz hTO)
  refine wpAny_bind (wpAny_seqItems hTO₂ rfl ?_)
  refine wpAny_bind (wpAny_updateSeq_pair hTO₂ fun h₃ hTO₃ hs₃ => ?_)
  replace hTO₃ : IsPair h₃ TO x b := hTO₃
  refine wpAny_bind (wpAny_letGo (wpAny_pure ?_))
  refine wpAny_bind (wpAny_bind (wpAny_onRaise ?_))
  show wpAny _ _ (Builtin.SmallTypes.nextOf (.ref i2) >>= _) _ _ _
  refine wpAny_bind (nextOf_tup (((h2.extBut hs₁.extBut D.i2z).extBut hs₂.extBut D.i12.symm).extBut hs₃.extBut D.TOi2.symm)
    (((hl2.extBut hs₁.extBut D.l2z).extBut hs₂.extBut D.l2i1).extBut hs₃.extBut D.l2TO) hy fun h₄ h2₄ hs₄ => wpAny_pure ?_)
  have hTO₄ : IsPair h₄ TO x b := hs₄.extBut _ _ D.TOi2 hTO₃
  refine wpAny_bind (wpAny_seqItems hTO₄ rfl ?_)
  refine wpAny_bind (wpAny_updateSeq_pair hTO₄ fun h₅ hTO₅ hs₅ => ?_)
  replace hTO₅ : IsPair h₅ TO x y := hTO₅
  refine wpAny_bind (wpAny_letGo (wpAny_pure (wpAny_pure ?_)))
  refine wpAny_bind (wpAny_seqItems hTO₅ rfl ?_)
  refine wpAny_bind (wpAny_newTuple ?_)
  have hsz : h₅.objs.size = s.heap.objs.size := by rw [hs₅.1, hs₄.1, hs₃.1, hs₂.1, hs₁.1]
  have hz₅ : IsZip h₅ z TI TO .ellipsis := hs₅.extBut _ _ D.TOz.symm (hs₄.extBut _ _ D.i2z.symm (hs₃.extBut _ _ D.TOz.symm (hs₂.extBut _ _ D.i1z.symm hz₁)))
  have hk₅ : ∀ c o, c ≠ z → c ≠ TO → c ≠ i1 → c ≠ i2 → s.heap.get? c = some o → h₅.get? c = some o := fun c o c1 c2 c3 c4 e =>
    hs₅.extBut _ _ c2 (hs₄.extBut _ _ c4 (hs₃.extBut _ _ c2 (hs₂.extBut _ _ c3 (hs₁.extBut _ _ c1 e))))
  have h1₅ : h₅.IsTupleIter i1 l1 (k + 1) := ((h1₂.extBut hs₃.extBut D.TOi1.symm).extBut hs₄.extBut D.i12).extBut hs₅.extBut D.TOi1.symm
  have h2₅ : h₅.IsTupleIter i2 l2 (k + 1) := h2₄.extBut hs₅.extBut D.TOi2.symm
  have hzlt : z < h₅.objs.size := Heap.lt_size hz₅
  show wpAny _ _ (Builtin.SmallTypes.ownedTupleHandOut (.ref z) (.ref h₅.objs.size) >>= _) _ _ _
  refine wpAny_bind ?_
  unfold Builtin.SmallTypes.ownedTupleHandOut
  have hz₆ : IsZip (h₅.push { cls := .type "tuple", data := .seq #[x, y] }) z TI TO .ellipsis := Heap.get?_push_of_some _ hz₅
  refine wpAny_bind (wpAny_setField_rec hz₆ (by simp) fun h₇ hz₇ hs₇ => ?_)
  replace hz₇ : IsZip h₇ z TI TO (rawInt h₅.objs.size) := hz₇
  refine wpAny_setField_rec hz₇ (by simp) fun h₈ hz₈ hs₈ => ?_
  replace hz₈ : IsZipOut h₈ z TI TO h₅.objs.size false := hz₈
  have up : ∀ c o, c ≠ z → h₅.get? c = some o → h₈.get? c = some o := fun c o c1 e => hs₈.extBut _ _ c1 (hs₇.extBut _ _ c1 (Heap.get?_push_of_some _ e))
  have hT₈ : IsPair h₈ h₅.objs.size x y := hs₈.extBut _ _ (Nat.ne_of_gt hzlt) (hs₇.extBut _ _ (Nat.ne_of_gt hzlt) (Heap.get?_push_size _ rfl))
  rw [hsz] at hz₈ hT₈
  refine wpAny_pure ⟨_, rfl, wpAny_pure ?_⟩
  show Q (some (.ref h₅.objs.size)) _
  rw [hsz]
  exact hQ h₈ hz₈ ((by obtain ⟨o, ho, r⟩ := h1₅; exact ⟨o, up _ _ D.i1z ho, r⟩)) ((by obtain ⟨o, ho, r⟩ := h2₅; exact ⟨o, up _ _ D.i2z ho, r⟩)) hT₈ fun c o c1 c2 c3 c4 e => up c o c1 (hk₅ c o c1 c2 c3 c4 e)

theorem zt_done {z TI TO i1 i2 l1 l2 T : Addr} {f : Bool} {oT : Obj} {k : Nat} {xs : Array Value} {Q : Option Value → Shared → Prop} (hh : A.handled = none) (D : ZAp z TI TO i1 i2 l1 l2) (hz : IsZipOut s.heap z TI TO T f) (hT : s.heap.get? T = some oT)
    (hTI : IsPair s.heap TI (.ref i1) (.ref i2)) (h1 : s.heap.IsTupleIter i1 l1 k) (hl1 : s.heap.IsTuple l1 xs) (hx : xs[k]? = none)
    (hQ : ∀ h', (∀ c o, c ≠ z → c ≠ i1 → s.heap.get? c = some o → h'.get? c = some o) → Q none { s with heap := h' }) : wpAny (model prog w) A (pyNext (.ref z)) Q E s := by
  have hTy : s.TypeIs (.ref z) "zip" := ⟨_, hz, rfl⟩
  unfold pyNext
  refine wpAny_bind (wpAny_attempt (wpAny_callSpecial?_slot (name := Str.ofString "__next__") hTy PySem.F.slot_zip_next (wpAny_call_entry PySem.F.slot_zip_next hTy PySem.F.entry_zip_next ?_ (PySem.F.args_zip_next_1 _))))
  show wpAny _ _ (field (.ref z) 2 >>= _) _ _ _
  refine wpAny_bind (wpAny_field hz rfl (x := .bool false) rfl ?_)
  show wpAny _ _ (field (.ref z) 3 >>= _) _ _ _
  refine wpAny_bind (wpAny_field hz rfl (x := .ref TI) rfl ?_)
  refine wpAny_bind (wpAny_seqItems hTI rfl ?_)
  show wpAny _ _ (Builtin.SmallTypes.ownedTupleIsFree (.ref z) >>= _) _ _ _
  refine wpAny_bind (owned_not hz hT fun h₁ hz₁ hs₁ => ?_)
  refine wpAny_bind ?_
  simp only [← Array.forIn_toList, List.forIn_cons, List.forIn_nil]
  refine wpAny_bind (wpAny_bind (wpAny_holding ?_))
  show wpAny _ _ (Builtin.SmallTypes.nextOf (.ref i1) >>= _) _ _ _
  refine wpAny_bind (nextOf_tup_end hh (h1.extBut hs₁.extBut D.i1z) (hl1.extBut hs₁.extBut D.l1z) hx fun h₂ e hs₂ ⟨o, ho, hc⟩ => ?_)
  refine wpAny_bind (wpAny_isInstance (T := "StopIteration") (b := true) ⟨o, ho, hc⟩ isSubtype_stop ?_)
  exact wpAny_pure (hQ _ fun c o c1 c2 e => hs₂ _ _ c2 (hs₁.extBut _ _ c1 e))

@[reducible] noncomputable def zt1 (h : Heap) (l1 : Addr) : Heap := h.push { cls := .type "tuple_iterator", data := .fields #[.ref l1, .int 0 0] }
@[reducible] noncomputable def zt2 (h : Heap) (l1 l2 : Addr) : Heap := (zt1 h l1).push { cls := .type "tuple_iterator", data := .fields #[.ref l2, .int 0 0] }
@[reducible] noncomputable def zt3 (h : Heap) (l1 l2 : Addr) : Heap := (zt2 h l1 l2).push { cls := .type "tuple", data := .seq #[.ref h.objs.size, .ref (zt1 h l1).objs.size] }
@[reducible] noncomputable def zt4 (h : Heap) (l1 l2 : Addr) : Heap := (zt3 h l1 l2).push { cls := .type "tuple", data := .seq #[.none, .none] }
@[reducible] noncomputable def zt5 (h : Heap) (l1 l2 : Addr) : Heap := (zt4 h l1 l2).push { cls := .type "zip", data := .fields #[.none, .bool false, .bool false, .ref (zt2 h l1 l2).objs.size, .ref (zt3 h l1 l2).objs.size] }

theorem meets_zt (l1 l2 : Addr) (xs ys : Array Value) :
    Meets (Builtin.«zip.__new__» ⟨[.type "zip", .ref l1, .ref l2], []⟩) (fun zz R s => s.heap.IsTuple l1 xs ∧ s.heap.IsTuple l2 ys ∧ R (.ok (.ret (.ref (zt4 s.heap l1 l2).objs.size))) { s with heap := zt5 s.heap l1 l2 }) :=
  .of_wp fun prog w A R s h => by
    obtain ⟨hp, g, d, tk, os⟩ := s; obtain ⟨hl1, hl2, h⟩ := h
    have hsub := sub_zip
    have hL1 : Heap.IsTuple (Shared.heap ⟨hp, g, d, tk, os⟩) l1 xs := hl1
    have hL2 : Heap.IsTuple (Shared.heap ⟨hp.push { cls := .type "tuple_iterator", data := .fields #[.ref l1, .int 0 0] }, g, d, tk, os⟩) l2 ys := Heap.IsTuple.push hl2 _
    wp_walk using wpAny_pyIter_tuple hL1, wpAny_pyIter_tuple hL2
    exact ⟨_, rfl, h⟩

theorem call_zt {l1 l2 : Addr} {xs ys : Array Value} {Q : Value → Shared → Prop} (hl1 : s.heap.IsTuple l1 xs) (hl2 : s.heap.IsTuple l2 ys)
    (h : ∀ h', IsZip h' (s.heap.objs.size + 4) (s.heap.objs.size + 2) (s.heap.objs.size + 3) .none → IsPair h' (s.heap.objs.size + 2) (.ref s.heap.objs.size) (.ref (s.heap.objs.size + 1)) →
      IsPair h' (s.heap.objs.size + 3) .none .none → h'.IsTupleIter s.heap.objs.size l1 0 → h'.IsTupleIter (s.heap.objs.size + 1) l2 0 → (∀ c o, s.heap.get? c = some o → h'.get? c = some o) → Q (.ref (s.heap.objs.size + 4)) { s with heap := h' }) :
    wpAny (model prog w) A (call (.type "zip") [.ref l1, .ref l2]) Q E s := by
  refine callType_new PySem.F.called_zip (by decide) (PySem.F.typeCall_zip_2 _ _) (PySem.F.newCall_zip_2 _ _) (fun obj => PySem.F.args_object_init_3 obj _ _) PySem.F.entry_zip_new (meets_zt l1 l2 xs ys) ⟨hl1, hl2, ?_⟩
  have z1 : (zt1 s.heap l1).objs.size = s.heap.objs.size + 1 := Heap.size_push ..
  have z2 : (zt2 s.heap l1 l2).objs.size = s.heap.objs.size + 2 := by rw [Heap.size_push, z1]
  have z3 : (zt3 s.heap l1 l2).objs.size = s.heap.objs.size + 3 := by rw [Heap.size_push, z2]
  have z4 : (zt4 s.heap l1 l2).objs.size = s.heap.objs.size + 4 := by rw [Heap.size_push, z3]
  have g5 : (zt5 s.heap l1 l2).get? (zt4 s.heap l1 l2).objs.size = some _ := Heap.get?_push_size _ rfl
  have g4 : (zt5 s.heap l1 l2).get? (zt3 s.heap l1 l2).objs.size = some _ := Heap.get?_push_of_some _ (Heap.get?_push_size _ rfl)
  have g3 : (zt5 s.heap l1 l2).get? (zt2 s.heap l1 l2).objs.size = some _ := Heap.get?_push_of_some _ (Heap.get?_push_of_some _ (Heap.get?_push_size _ rfl))
  have g2 : (zt5 s.heap l1 l2).get? (zt1 s.heap l1).objs.size = some _ := Heap.get?_push_of_some _ (Heap.get?_push_of_some _ (Heap.get?_push_of_some _ (Heap.get?_push_size _ rfl)))
  have g1 : (zt5 s.heap l1 l2).get? s.heap.objs.size = some _ := Heap.get?_push_of_some _ (Heap.get?_push_of_some _ (Heap.get?_push_of_some _ (Heap.get?_push_of_some _ (Heap.get?_push_size _ rfl))))
  show _ ∧ _
  rw [z2, z3, z4] at g5
  rw [z1, z2] at g3
  rw [z3] at g4
  rw [z1] at g2
  rw [z4]
  exact ⟨⟨_, g5, rfl⟩, h _ g5 g3 g4 ⟨_, g1, rfl, rfl⟩ ⟨_, g2, rfl, rfl⟩ fun c o x =>
    Heap.get?_push_of_some _ (Heap.get?_push_of_some _ (Heap.get?_push_of_some _ (Heap.get?_push_of_some _ (Heap.get?_push_of_some _ x))))⟩
end
end Mine
end

section
open PySem PySem.W PyProof.Rows PyProof.Rows.LSm
set_option Elab.async false
set_option maxRecDepth 100000
set_option tactic.hygienic false
set_option genSizeOf false
set_option genInjectivity false
set_option linter.unusedVariables false
namespace Mine

theorem zlt (N : Nat) : N + 3 < N + 4 ∧ N < N + 4 ∧ N + 1 < N + 4 := by lia
theorem four_lt {N M c : Nat} (h : N + 4 < M) (hc : c ∈ [N + 4, N + 3, N, N + 1]) : c < M := by
  simp only [List.mem_cons, List.not_mem_nil, or_false] at hc; lia
theorem four_off {N c : Nat} (h : c < N) : c ∉ [N + 4, N + 3, N, N + 1] := by
  simp only [List.mem_cons, List.not_mem_nil, or_false]; lia
theorem zap_at {N a b : Nat} (la : a < N) (lb : b < N) : ZAp (N + 4) (N + 2) (N + 3) N (N + 1) a b := by constructor <;> first | exact Nat.ne_of_gt (by lia) | exact Nat.ne_of_lt (by lia)
structure ZInv (z TI TO i1 i2 l1 l2 : Addr) (xs ys : List Value) (i : Nat) (vs : List Value) (h : Heap) : Prop where
  ti : IsPair h TI (.ref i1) (.ref i2)
  h1 : h.IsTupleIter i1 l1 i
  h2 : h.IsTupleIter i2 l2 i
  t1 : h.IsTuple l1 xs.toArray
  t2 : h.IsTuple l2 ys.toArray
  zz : (i = 0 ∧ IsZip h z TI TO .none ∧ IsPair h TO .none .none) ∨ (i ≠ 0 ∧ ∃ T f oT, IsZipOut h z TI TO T f ∧ h.get? T = some oT ∧ oT.cls = .type "tuple" ∧ T ≠ z ∧ T ≠ i1 ∧ T ≠ i2)
  len : vs.length = i
  out : ∀ (j : Nat) (v : Value), vs[j]? = some v → ∃ a x y, v = .ref a ∧ xs[j]? = some x ∧ ys[j]? = some y ∧ h.get? a = some (tupO [x, y] 0) ∧ z < a

theorem ty_ne {a b : String} (h : a ≠ b) : Value.type a ≠ Value.type b := fun q => h (by injection q)
theorem off4 {z a b c q : Nat} (h : a < z ∧ b < z ∧ c < z) (hq : z < q) : q ∉ [z, a, b, c] := by
  simp only [List.mem_cons, List.not_mem_nil, or_false]; lia
noncomputable def allNew (F : FM) (h h' : Heap) : FM := fun b => match h.get? b with
  | none => h'.get? b
  | some _ => F b
theorem Rel.newAll {c : Cx} {F : FM} {T : List (Addr × Obj)} {o : Nat → Addr} {σ : St} {s : Shared} (R : Rel c F T o σ s) {h' : Heap} {t : Nat} (hk : ∀ a ob, s.heap.get? a = some ob → h'.get? a = some ob) :
    F.le (allNew F s.heap h') ∧ Rel c (allNew F s.heap h') T o σ { s with heap := h', toks := t } := by
  have l : F.le (allNew F s.heap h') := fun a ob e => by unfold allNew; rw [R.fro _ _ e]; exact e
  refine ⟨l, R.resume (p' := σ.pot) l (fun a ob e => ?_) (fun a ob e => ?_) (fun a ob e zz => hk a ob e) id (fun p e => (R.pot p e).mono l fun zz => hk _ _) id⟩
  · unfold allNew at e
    cases q : s.heap.get? a with
    | none => rw [q] at e; exact e
    | some x => rw [q] at e; exact hk _ _ (R.fro _ _ e)
  · cases q : s.heap.get? a with
    | none => exact .inr rfl
    | some x => unfold allNew at e; rw [q] at e; exact .inl e
theorem RepAll.of_get {g : GP} {F : FM} : ∀ {vs : List Value} {ds : List V}, vs.length = ds.length → (∀ (j : Nat) (v : Value) (d : V), vs[j]? = some v → ds[j]? = some d → Rep g F v d) → RepAll g F vs ds
  | [], [], _, _ => .nil
  | v :: vs, d :: ds, hl, h => .cons (h 0 v d rfl rfl) (RepAll.of_get (Nat.succ.inj hl) fun j v d e1 e2 => h (j + 1) v d e1 e2)

section
variable {prog : Program} {w : World} {A : Around} {E : Value → Shared → Prop} {s : Shared}
theorem zgrow {z TI TO i1 i2 l1 l2 : Addr} {xs ys : List Value} (hh : A.handled = none) (D : ZAp z TI TO i1 i2 l1 l2) (hlt : TO < z ∧ i1 < z ∧ i2 < z) (hl : xs.length = ys.length) (h0 : 0 < xs.length) : Grow prog w A z xs.length [z, TO, i1, i2] (ZInv z TI TO i1 i2 l1 l2 xs ys) where
  frame := fun i vs h h' k I => {
    ti := k _ _ (ty_ne (by decide)) I.ti
    h1 := (by obtain ⟨o, ho, hc, r⟩ := I.h1; exact ⟨o, k _ _ (by rw [hc]; exact ty_ne (by decide)) ho, hc, r⟩)
    h2 := (by obtain ⟨o, ho, hc, r⟩ := I.h2; exact ⟨o, k _ _ (by rw [hc]; exact ty_ne (by decide)) ho, hc, r⟩)
    t1 := (by obtain ⟨o, ho, hc, r⟩ := I.t1; exact ⟨o, k _ _ (by rw [hc]; exact ty_ne (by decide)) ho, hc, r⟩)
    t2 := (by obtain ⟨o, ho, hc, r⟩ := I.t2; exact ⟨o, k _ _ (by rw [hc]; exact ty_ne (by decide)) ho, hc, r⟩)
    zz := I.zz.imp (fun ⟨e, h1, h2⟩ => ⟨e, k _ _ (ty_ne (by decide)) h1, k _ _ (ty_ne (by decide)) h2⟩) fun ⟨e, T, f, oT, h1, h2, h3, h4⟩ => ⟨e, T, f, oT, k _ _ (ty_ne (by decide)) h1, k _ _ (by rw [h3]; exact ty_ne (by decide)) h2, h3, h4⟩
    len := I.len
    out := fun j v e => (by obtain ⟨a, x, y, e1, e2, e3, e4, e5⟩ := I.out j v e; exact ⟨a, x, y, e1, e2, e3, k _ _ (ty_ne (by decide)) e4, e5⟩)}
  item := fun i vs s Q E hi I hq => by
    have hx : xs.toArray[i]? = some xs[i] := by rw [List.getElem?_toArray]; exact List.getElem?_eq_getElem hi
    have hi2 : i < ys.length := hl ▸ hi
    have hy : ys.toArray[i]? = some ys[i] := by rw [List.getElem?_toArray]; exact List.getElem?_eq_getElem hi2
    have fin : ∀ h' (f : Bool) T (oT : Obj), IsZipOut h' z TI TO T f → h'.get? T = some oT → oT.cls = .type "tuple" → T ≠ z → T ≠ i1 → T ≠ i2 → h'.IsTupleIter i1 l1 (i + 1) → h'.IsTupleIter i2 l2 (i + 1) → IsPair h' s.heap.objs.size xs[i] ys[i] →
        (∀ c o, c ∉ [z, TO, i1, i2] → s.heap.get? c = some o → h'.get? c = some o) → Q (some (.ref s.heap.objs.size)) { s with heap := h' } := fun h' f T oT a1 a2 a3 a4 a5 a6 b1 b2 b3 k => by
      have lt : ∀ {b o}, s.heap.get? b = some o → s.heap.objs.size ≠ b := fun e => Nat.ne_of_gt (Heap.lt_size e)
      have zl : ∃ o, s.heap.get? z = some o := by rcases I.zz with ⟨_, h, _⟩ | ⟨_, _, _, _, h, _⟩ <;> exact ⟨_, h⟩
      obtain ⟨oz, zl⟩ := zl
      refine hq (.ref s.heap.objs.size) h' s.toks {
        ti := k _ _ (by simp [D.TIz, D.TITO, D.TIi1, D.TIi2]) I.ti
        h1 := b1
        h2 := b2
        t1 := (by obtain ⟨o, ho, r⟩ := I.t1; exact ⟨o, k _ _ (by simp [D.l1z, D.l1TO, D.l1i1, D.l1i2]) ho, r⟩)
        t2 := (by obtain ⟨o, ho, r⟩ := I.t2; exact ⟨o, k _ _ (by simp [D.l2z, D.l2TO, D.l2i1, D.l2i2]) ho, r⟩)
        zz := .inr ⟨Nat.succ_ne_zero i, T, f, oT, a1, a2, a3, a4, a5, a6⟩
        len := by rw [List.length_append, I.len]; rfl
        out := fun j v e => ?_ } k
      rcases Nat.lt_or_ge j vs.length with hj | hj
      · rw [List.getElem?_append_left hj] at e
        obtain ⟨a, x, y, e1, e2, e3, e4, e5⟩ := I.out j v e
        exact ⟨a, x, y, e1, e2, e3, k _ _ (off4 hlt e5) e4, e5⟩
      · rw [List.getElem?_append_right hj] at e
        have hj' : j = i := by
          rcases Nat.lt_or_ge j (vs.length + 1) with q | q
          · have := I.len; lia
          · rw [List.getElem?_eq_none (by simp; lia)] at e; cases e
        subst hj'
        rw [I.len, Nat.sub_self] at e
        cases e
        refine ⟨_, _, _, rfl, List.getElem?_eq_getElem hi, List.getElem?_eq_getElem hi2, b3, ?_⟩
        exact Heap.lt_size zl
    rcases I.zz with ⟨e, h1, h2⟩ | ⟨_, T, f, oT, h1, h2, h3, h4, h5, h6⟩
    · subst e
      have lt : ∀ {b o}, s.heap.get? b = some o → s.heap.objs.size ≠ b := fun e => Nat.ne_of_gt (Heap.lt_size e)
      obtain ⟨o1, e1, _⟩ := id I.h1
      obtain ⟨o2, e2, _⟩ := id I.h2
      exact zt_first D h1 I.ti h2 I.h1 I.h2 I.t1 I.t2 hx hy fun h' b1 b2 b3 b4 k => fin h' false _ _ b1 b4 rfl (lt h1) (lt e1) (lt e2) b2 b3 b4 fun c o hc e => k c o (fun q => hc (by simp [q])) (fun q => hc (by simp [q])) (fun q => hc (by simp [q])) (fun q => hc (by simp [q])) e
    · exact zt_later D h1 h2 I.ti I.h1 I.h2 I.t1 I.t2 hx hy fun h' b1 b2 b3 b4 k => fin h' true T oT b1 (k _ _ h4 h5 h6 h2) h3 h4 h5 h6 b2 b3 b4 fun c o hc e => k c o (fun q => hc (by simp [q])) (fun q => hc (by simp [q])) (fun q => hc (by simp [q])) e
  done := fun vs s Q E I hq => by
    rcases I.zz with ⟨e, _⟩ | ⟨_, T, f, oT, h1, h2, h3, h4, h5, h6⟩
    · lia
    · exact zt_done hh D h1 h2 I.ti I.h1 I.t1 (by rw [List.getElem?_toArray]; exact List.getElem?_eq_none (Nat.le_refl _)) fun h' k => hq h' s.toks fun c o hc e => k c o (fun q => hc (by simp [q])) (fun q => hc (by simp [q])) e

/- the zip as a list -/
theorem zip_all {hb : Heap} {c : Cx} {F : FM} {T : List (Addr × Obj)} {o : Nat → Addr} {σ : St} {Qc : Value → Shared → Prop} (hA : A.handled = none) (R : Rel c F T o σ s) {a b : Addr} {us vs : List V} (ra : Rep c.g F (.ref a) (.tup us)) (rb : Rep c.g F (.ref b) (.tup vs)) (hl : us.length = vs.length) (h0 : 0 < us.length) (hn : us.length < 2 ^ 10)
    (hq : ∀ F' s' val, F.le F' → Rel c F' T o σ s' → Rep c.g F' val (.lst ((us.zip vs).map fun p => .tup [p.1, p.2])) → Qc val s') :
    wpAny (model prog w) A (call (.type "zip") [.ref a, .ref b]) (fun v s' => wpAny (model prog w) A (call (.type "list") [v]) Qc E s') E s := by
  obtain ⟨xs, m, ha, ra⟩ := ra.invTupR
  obtain ⟨ys, m', hb, rb⟩ := rb.invTupR
  have t1 : s.heap.IsTuple a xs.toArray := ⟨_, R.fro _ _ ha, rfl, m, rfl⟩
  have t2 : s.heap.IsTuple b ys.toArray := ⟨_, R.fro _ _ hb, rfl, m', rfl⟩
  have la : a < s.heap.objs.size := Heap.lt_size (R.fro _ _ ha)
  have lb : b < s.heap.objs.size := Heap.lt_size (R.fro _ _ hb)
  have hxy : xs.length = ys.length := by rw [ra.length, rb.length, hl]
  have hx0 : 0 < xs.length := by rw [ra.length]; exact h0
  refine call_zt t1 t2 fun h1 a1 a2 a3 a4 a5 k1 => ?_
  generalize hN : s.heap.objs.size = N at *
  have D : ZAp (N + 4) (N + 2) (N + 3) N (N + 1) a b := zap_at la lb
  have hz1 := Heap.lt_size a1
  have hsz : ∀ c ∈ [N + 4, N + 3, N, N + 1], c < h1.objs.size := fun c hc => four_lt hz1 hc
  refine zip_list (s := { s with heap := h1 }) a1 (zgrow hA D (zlt N) hxy hx0) hsz (by rw [ra.length]; unfold sizeLine; lia) ⟨a2, a4, a5, ((by obtain ⟨o, ho, r⟩ := t1; exact ⟨o, k1 _ _ ho, r⟩)), ((by obtain ⟨o, ho, r⟩ := t2; exact ⟨o, k1 _ _ ho, r⟩)), .inl ⟨rfl, a1, a3⟩, rfl, fun j v e => by simp at e⟩ fun h2 h3 tk ws cc kp k23 hS hlen I => ?_
  have kall : ∀ b o, s.heap.get? b = some o → h3.get? b = some o := fun b o e => by
    have hb' : b < N := hN ▸ Heap.lt_size e
    exact kp b o (four_off hb') (k1 b o e)
  have hnone : ∀ b, N ≤ b → s.heap.get? b = none := fun b hb' => fresh_none (by rw [hN]; exact hb')
  obtain ⟨l, R2⟩ := R.newAll (t := tk) kall
  have pick : ∀ b ob, N ≤ b → h3.get? b = some ob → allNew F s.heap h3 b = some ob := fun b ob hb' e => by unfold allNew; rw [hnone b hb']; exact e
  refine hq _ _ _ l R2 (.lst (pick _ _ (Nat.le_of_lt (Nat.lt_of_le_of_lt (Nat.le_add_right N 4) hz1)) hS) (.of_get (by rw [hlen, ra.length, List.length_map, List.length_zip, hl, Nat.min_self]) fun j v d e1 e2 => ?_))
  obtain ⟨q, x, y, rfl, x1, y1, e3, e4⟩ := I.out j v e1
  rw [List.getElem?_map] at e2
  cases hp : (us.zip vs)[j]? with
  | none => rw [hp] at e2; cases e2
  | some p =>
    rw [hp] at e2
    cases e2
    obtain ⟨p1, p2⟩ := List.getElem?_zip_eq_some.mp hp
    obtain ⟨x', x2, rx⟩ := ra.get p1
    obtain ⟨y', y2, ry⟩ := rb.get p2
    rw [x1] at x2; cases x2
    rw [y1] at y2; cases y2
    exact .tup (pick _ _ (Nat.le_of_lt (Nat.lt_of_le_of_lt (Nat.le_add_right N 4) e4)) (k23 _ _ (off4 (zlt N) e4) e3)) (.cons (rx.mono l) (.cons (ry.mono l) .nil))
end
end Mine
end

section
open PySem PySem.W PyProof.Rows PyProof.Rows.LSm
set_option Elab.async false
set_option maxRecDepth 100000
set_option tactic.hygienic false
set_option linter.unusedVariables false
namespace Mine

section
variable {prog : Program} {w : World} {hb : Heap} {mg mb : Str → Option Value} {g : GP} {n : Nat} {C : Calls} {nm : Names}
noncomputable def ZipP (Q : V → St → Prop) (vs : List V) (σ₂ : St) : Prop := match vs with
  | [va, vb] => (match va, vb with
    | .tup vs, .tup us => (vs.length = us.length ∧ 0 < vs.length ∧ vs.length < 2 ^ 10) ∧ Q (.lst ((vs.zip us).map fun p => .tup [p.1, p.2])) σ₂
    | _, _ => False)
  | _ => False
theorem zipP_inv {Q : V → St → Prop} {vs : List V} {σ₂ : St} (h : ZipP Q vs σ₂) : ∃ us ws, vs = [.tup us, .tup ws] ∧ (us.length = ws.length ∧ 0 < us.length ∧ us.length < 2 ^ 10) ∧ Q (.lst ((us.zip ws).map fun p => .tup [p.1, p.2])) σ₂ := by
  cases vs with
  | nil => exact ff h
  | cons v1 vs => cases vs with
    | nil => exact ff h
    | cons v2 vs => cases vs with
      | cons _ _ => exact ff h
      | nil => cases v1 with
        | tup us => cases v2 with
          | tup ws => exact ⟨us, ws, rfl, h.1, h.2⟩
          | _ => exact ff h
        | _ => exact ff h
theorem sound_lzip {g1 g2 : Str} {p1 p2 q1 q2 : Pos} {ea eb : Expr} {a b : X} (B : Base mg mb g hb) (h1 : globAs nm g1 "list") (h2 : globAs nm g2 "zip") (hs : SoundEs prog w hb g n C nm [ea, eb] [a, b]) (hns : ∀ x ∈ [ea, eb], NoStar x) :
    SoundE prog w hb g n C nm (.Call (.Name g1 p1) [.Call (.Name g2 p2) [ea, eb] [] q2] [] q1) (.lzip a b) := by
  intro A c F T o σ s Q Qc E hr G R hw hq
  have gg := G.g
  subst gg
  obtain ⟨h2, rfl⟩ := h2
  refine call1 B h1 blt_list rfl dbg_all.2.2.1 (fun zz zz => rfl) G R (call_core B h2 blt_zip dbg_all.2.2.2.2.2 rfl hs hns hr G R (Q := ZipP Q) hw fun F' s' vals vs σ' l R' r q => ?_)
  obtain ⟨us, ws, rfl, ⟨e1, e2, e3⟩, q⟩ := zipP_inv q
  obtain ⟨x1, x2, rfl, r1, r2⟩ := r.inv2
  obtain ⟨_, _, _, rfl, _⟩ := r1.invTup
  obtain ⟨_, _, _, rfl, _⟩ := r2.invTup
  exact zip_all (hb := hb) hr.2.2 R' r1 r2 e1 e2 e3 fun F2 s2 val l2 R2 rv => hq F2 s2 val _ σ' (l.trans l2) R2 rv q
end
end Mine
end

section
open PySem PySem.W PyProof.Rows PyProof.Rows.LSm
set_option Elab.async false
set_option maxRecDepth 100000
set_option tactic.hygienic false
set_option linter.unusedVariables false
namespace Mine

theorem slot_sit_next : Slot "set_iterator" "__next__" "set_iterator.__next__" :=
  .of (owner := "set_iterator") (n := "__next__") (by rw [typeLookup_type, builtinLookup_eq_fast]; kernel_rfl) (by decide +kernel) (by decide +kernel) (by decide +kernel)
    (by first | exact .inl (by decide +kernel) | exact .inr (by decide +kernel)) (by rw [isSubtype_type]; kernel_rfl)
theorem slot_sit_iter : Slot "set_iterator" "__iter__" "set_iterator.__iter__" :=
  .of (owner := "set_iterator") (n := "__iter__") (by rw [typeLookup_type, builtinLookup_eq_fast]; kernel_rfl) (by decide +kernel) (by decide +kernel) (by decide +kernel)
    (by first | exact .inl (by decide +kernel) | exact .inr (by decide +kernel)) (by rw [isSubtype_type]; kernel_rfl)
theorem entry_sit_next : entryFor table "set_iterator.__next__" = some Builtin.«set_iterator.__next__» := entryFor_of_tree (by kernel_rfl)
theorem entry_sit_iter : entryFor table "set_iterator.__iter__" = some Builtin.«dict_keyiterator.__iter__» :=
  entryFor_alias (id' := "dict_keyiterator.__iter__") (by rw [fastTable_eq_tree]; kernel_rfl) (by first | rfl | decide +kernel) (by decide +kernel) (by rw [fastTable_eq_tree]; kernel_rfl)
theorem entry_set_iter : entryFor table "set.__iter__" = some Builtin.«frozenset.__iter__» :=
  entryFor_alias (id' := "frozenset.__iter__") (by rw [fastTable_eq_tree]; kernel_rfl) (by first | rfl | decide +kernel) (by decide +kernel) (by rw [fastTable_eq_tree]; kernel_rfl)
theorem owner_sit : Manifest.owners.lookup (String.ofList ['r', 'o', 't', 'a', 'r', 'e', 't', 'i', '_', 't', 'e', 's'].reverse) = some Manifest.sig_set_iterator := by kernel_rfl
theorem args_sit_next (a : Value) : argsOk "set_iterator.__next__" ⟨[a], []⟩ := by
  unfold argsOk; rw [signature?_of (id := "set_iterator.__next__") (n := ['_', '_', 't', 'x', 'e', 'n', '_', '_']) (o := ['r', 'o', 't', 'a', 'r', 'e', 't', 'i', '_', 't', 'e', 's']) (by kernel_rfl) owner_sit]; kernel_rfl
theorem args_sit_iter (a : Value) : argsOk "set_iterator.__iter__" ⟨[a], []⟩ := by
  unfold argsOk; rw [signature?_of (id := "set_iterator.__iter__") (n := ['_', '_', 'r', 'e', 't', 'i', '_', '_']) (o := ['r', 'o', 't', 'a', 'r', 'e', 't', 'i', '_', 't', 'e', 's']) (by kernel_rfl) owner_sit]; kernel_rfl

/- sets of 0 … 3 -/
noncomputable def bitsL (b : Nat → Bool) : List Nat := ([0, 1, 2, 3] : List Nat).filter b
noncomputable def ents (l : List Nat) (tk : Nat → Tok) : Array (Int × Value) := (l.map fun (i : Nat) => ((i : Int), Value.int (i : Int) (tk i))).toArray
noncomputable def tabOf (l : List Nat) (led : Bool) : SetTable := { mask := 7, place := l.toArray, dummies := #[], finger := 0, led, moves := 0, plain := true }
noncomputable def updB (b : Nat → Bool) (k : Nat) : Nat → Bool := fun i => b i || i == k

noncomputable def pick4 (a b c d : Bool) : List Nat := (if a then [0] else []) ++ (if b then [1] else []) ++ (if c then [2] else []) ++ (if d then [3] else [])
theorem lay4 (b : Nat → Bool) (k : Nat) (hk : k < 4) (hb : b k = false) (led : Bool) (tk : Nat → Tok) :
    layNew (tabOf (bitsL b) led) (ents (bitsL b) tk) (k : Int) (.int (k : Int) (tk k)) = (ents (bitsL (updB b k)) tk, tabOf (bitsL (updB b k)) led, false, false) := by
  have h4 : k = 0 ∨ k = 1 ∨ k = 2 ∨ k = 3 := by lia
  have e : ∀ c : Nat → Bool, bitsL c = pick4 (c 0) (c 1) (c 2) (c 3) := fun c => by
    unfold bitsL pick4
    simp only [List.filter]
    cases c 0 <;> cases c 1 <;> cases c 2 <;> cases c 3 <;> rfl
  rw [e, e]
  unfold updB
  rcases h4 with rfl | rfl | rfl | rfl
  all_goals
    rw [hb]
    clear hb e hk
  · generalize b 1 = b1; generalize b 2 = b2; generalize b 3 = b3
    cases b1 <;> cases b2 <;> cases b3 <;> kernel_rfl
  · generalize b 0 = b1; generalize b 2 = b2; generalize b 3 = b3
    cases b1 <;> cases b2 <;> cases b3 <;> kernel_rfl
  · generalize b 1 = b1; generalize b 0 = b2; generalize b 3 = b3
    cases b1 <;> cases b2 <;> cases b3 <;> kernel_rfl
  · generalize b 1 = b1; generalize b 2 = b2; generalize b 0 = b3
    cases b1 <;> cases b2 <;> cases b3 <;> kernel_rfl
end Mine
end

section
open PySem PySem.W PyProof.Rows PyProof.Rows.LSm
set_option Elab.async false
set_option maxRecDepth 100000
set_option tactic.hygienic false
set_option linter.unusedVariables false
namespace Mine

noncomputable def setO (b : Nat → Bool) (tk : Nat → Tok) (led : Bool) (ep : Nat) : Obj := { cls := .type "set", dict := none, data := .set (ents (bitsL b) tk) ep (tabOf (bitsL b) led), slots := #[] }
theorem bitsL_mem {b : Nat → Bool} {i : Nat} : i ∈ bitsL b ↔ i < 4 ∧ b i = true := by
  unfold bitsL
  rw [List.mem_filter]
  simp only [List.mem_cons, List.not_mem_nil, or_false]
  constructor
  · rintro ⟨h, e⟩; exact ⟨by lia, e⟩
  · rintro ⟨h, e⟩; exact ⟨by lia, e⟩
theorem bitsL_len (b : Nat → Bool) : (bitsL b).length ≤ 4 := List.length_filter_le b [0, 1, 2, 3]
theorem ents_list (l : List Nat) (tk : Nat → Tok) : (ents l tk).toList = l.map fun (i : Nat) => ((i : Int), Value.int (i : Int) (tk i)) := rfl
theorem ents_size (l : List Nat) (tk : Nat → Tok) : (ents l tk).size = l.length := by rw [← Array.length_toList, ents_list, List.length_map]
theorem tab_fits (b : Nat → Bool) (led : Bool) (tk : Nat → Tok) : (tabOf (bitsL b) led).fits (ents (bitsL b) tk).size = true := by
  have := bitsL_len b
  rw [ents_size]
  simp [SetTable.fits, SetTable.fill, tabOf]
  lia
theorem tab_notFull (b : Nat → Bool) (led : Bool) : (tabOf (bitsL b) led).tooFull = false := by
  have := bitsL_len b
  delta SetTable.tooFull SetTable.fill
  simp [tabOf]
  omega

section
variable {prog : Program} {w : World} {A : Around} {E : Value → Shared → Prop} {s : Shared}
theorem hash4 {k : Nat} (hk : k < 4) : (intKind prog w).hash (k : Int) = (k : Int) := by
  have h4 : k = 0 ∨ k = 1 ∨ k = 2 ∨ k = 3 := by lia
  show hashInt (k : Int) = k
  rcases h4 with rfl | rfl | rfl | rfl <;> decide +kernel
theorem ents_elems (b : Nat → Bool) (tk : Nat → Tok) : ElemsOf (intKind prog w) (ents (bitsL b) tk).toList := by
  intro e he
  rw [ents_list] at he
  obtain ⟨i, hi, rfl⟩ := List.mem_map.mp he
  exact ⟨⟨(i : Int), intKind_is _ _ _ _, (hash4 (bitsL_mem.mp hi).1).symm⟩, rfl⟩
theorem find4 {b : Nat → Bool} {tk : Nat → Tok} {k : Nat} (hk : k < 4) : ((ents (bitsL b) tk).toList.findIdx? fun e => (intKind prog w).is (k : Int) e.2).isSome = b k := by
  rw [List.findIdx?_isSome, Bool.eq_iff_iff, List.any_eq_true]
  constructor
  · rintro ⟨e, he, q⟩
    rw [ents_list] at he
    obtain ⟨i, hi, rfl⟩ := List.mem_map.mp he
    have : (i : Int) = (k : Int) := (intKind prog w).inj _ _ _ (intKind_is _ _ _ _) q
    obtain rfl : i = k := Int.ofNat.inj this
    exact (bitsL_mem.mp hi).2
  · intro hb
    refine ⟨((k : Int), Value.int (k : Int) (tk k)), ?_, intKind_is _ _ _ _⟩
    rw [ents_list]
    exact List.mem_map.mpr ⟨k, bitsL_mem.mpr ⟨hk, hb⟩, rfl⟩

theorem add4 {a : Addr} {b : Nat → Bool} {tk : Nat → Tok} {led : Bool} {ep k : Nat} {t : Tok} {Q : Bool → Shared → Prop} (hk : k < 4) (hS : s.heap.get? a = some (setO b tk led ep))
    (h : ∀ h' tk' ep' r, Heap.SameBut a s.heap h' → h'.get? a = some (setO (updB b k) tk' led ep') → Q r { s with heap := h' }) : wpAny (model prog w) A (setAddHashed a (.int (k : Int) t) ((intKind prog w).hash (k : Int))) Q E s := by
  have hf := tab_fits b led tk
  have hel := ents_elems (prog := prog) (w := w) b tk
  have hsc : (Value.int (k : Int) t).scannable = true := rfl
  have hlen := bitsL_len b
  unfold setAddHashed setAddHashedIn
  refine wpAny_holding (wpAny_bind (wpAny_setState_of hS rfl hf ?_))
  dsimp only
  rw [byScan_of hsc (by rw [ents_size]; unfold scanBound; lia) hel]
  simp only [↓reduceIte]
  unfold setAddByScan
  refine wpAny_bind ?_
  refine wpAny_bind (wpAny_rule ?_)
  refine wpAny_bind (wpAny_setScan_of (intKind_is _ _ _ _) hS rfl hf hel ?_)
  have hfind := find4 (prog := prog) (w := w) (b := b) (tk := tk) hk
  cases hr : List.findIdx? (fun e => (intKind prog w).is (k : Int) e.2) (ents (bitsL b) tk).toList with
  | some j =>
    rw [hr] at hfind
    have hbk : b k = true := hfind.symm
    have e : updB b k = b := funext fun i => by
      unfold updB
      by_cases q : i = k
      · rw [q, hbk]; rfl
      · have : (i == k) = false := by simpa using q
        rw [this, Bool.or_false]
    dsimp only
    refine wpAny_pure (wpAny_pure ?_)
    have := h s.heap tk ep false (Heap.SameBut.refl a s.heap) (by rw [e]; exact hS)
    exact this
  | none =>
    rw [hr] at hfind
    have hbk : b k = false := hfind.symm
    dsimp only
    have etk : ents (bitsL b) tk = ents (bitsL b) fun i => if i = k then t else tk i := by
      unfold ents
      congr 1
      refine List.map_congr_left fun i hi => ?_
      have hne : i ≠ k := fun q => by have := (bitsL_mem.mp hi).2; rw [q, hbk] at this; cases this
      show _ = ((i : Int), Value.int (i : Int) (if i = k then t else tk i))
      rw [if_neg hne]
    have hL : layNew (tabOf (bitsL b) led) (ents (bitsL b) tk) ((intKind prog w).hash (k : Int)) (.int (k : Int) t) = (ents (bitsL (updB b k)) (fun i => if i = k then t else tk i), tabOf (bitsL (updB b k)) led, false, false) := by
      rw [hash4 hk, etk]
      have := lay4 b k hk hbk led fun i => if i = k then t else tk i
      simp only [if_true] at this
      exact this
    rw [hL]
    dsimp only
    have hp : (tabOf (bitsL (updB b k)) led).plain = true := rfl
    refine wpAny_bind (wpAny_pure ?_)
    rw [hp]
    simp only [↓reduceIte]
    refine wpAny_bind ?_
    rw [hashByValue_scannable 8 hsc]
    refine wpAny_pure ?_
    rw [show plainKind (Value.int (k : Int) t) = true from rfl, if_pos rfl]
    refine wpAny_bind (wpAny_storeSet_of hS rfl ?_ (fits_of_scanBound (by rw [ents_size]; have := bitsL_len (updB b k); unfold scanBound; lia)))
    rw [tab_notFull]
    simp only [Bool.not_false, Bool.and_false, Bool.false_eq_true, ↓reduceIte]
    refine wpAny_pure (wpAny_pure ?_)
    refine h _ (fun i => if i = k then t else tk i) (ep + 1) true (Heap.SameBut.update ..) ?_
    have := Heap.get?_update_self (Obj.putSet (ents (bitsL (updB b k)) fun i => if i = k then t else tk i) (tabOf (bitsL (updB b k)) led)) hS rfl
    exact this
end
end Mine
end

section
open PySem PySem.W PyProof.Rows PyProof.Rows.LSm
set_option Elab.async false
set_option maxRecDepth 100000
set_option tactic.hygienic false
set_option linter.unusedVariables false
namespace Mine

noncomputable def bOf (val : Nat → Nat) (i : Nat) : Nat → Bool := fun k => (List.range i).any fun j => k == val j
theorem bOf_succ (val : Nat → Nat) (i : Nat) : updB (bOf val i) (val i) = bOf val (i + 1) := funext fun k => by
  unfold updB bOf
  rw [List.range_succ, List.any_append, List.any_cons, List.any_nil, Bool.or_false]

section
variable {prog : Program} {w : World} {A : Around} {s : Shared} {R : Result → Shared → Prop} {I : Addr} {fp wr : List Addr} {G : Array GenState → Array GenState → Prop} {n : Nat} {P : Nat → Value → Prop} {St : Nat → Shared → Prop}
theorem loop4 (W : WalksS prog w A.in1 I fp wr G n P St) (S : Addr) (hSf : S ∉ fp) (val : Nat → Nat) (hval : ∀ i v, P i v → val i < 4 ∧ ∃ t, v = .int (val i : Int) t) (led : Bool) :
    ∀ (k i : Nat) (s : Shared), n - i = k → i ≤ n → St i s → (∃ tk ep, s.heap.get? S = some (setO (bOf val i) tk led ep)) →
      (∀ s', Moved (S :: wr) G s s' → (∃ tk ep, s'.heap.get? S = some (setO (bOf val n) tk led ep)) → R (.ok (.ret .none)) s') →
      codeAny (model prog w) A (.builtin "set.update.loop" ⟨[.ref S, .ref I], []⟩) R s := by
  have hSw : S ∉ wr := fun h => hSf (W.sub _ h)
  have hsub : ∀ b ∈ wr, b ∈ S :: wr := fun b hb => List.mem_cons_of_mem _ hb
  intro k
  induction k with
  | zero =>
    intro i s hk hi hst ⟨tk, ep, hS⟩ hR
    obtain rfl : i = n := by omega
    refine codeAny_builtin PyProof.Rows.F.entry_set_update_loop ?_
    rw [Around.under_plainId PyProof.Rows.F.plain_set_update_loop _]
    show wpAny _ A.in1 (pyNext (.ref I) >>= _) _ _ s
    refine wpAny_bind (W.done s _ _ hst fun s' hm => ?_)
    show wpAny _ A.in1 (ret Value.none) _ _ s'
    exact wpAny_pure (hR s' (hm.mono hsub) ⟨tk, ep, hm.heap S _ hSw hS⟩)
  | succ k ih =>
    intro i s hk hi hst ⟨tk, ep, hS⟩ hR
    have hlt : i < n := by omega
    refine codeAny_builtin PyProof.Rows.F.entry_set_update_loop ?_
    rw [Around.under_plainId PyProof.Rows.F.plain_set_update_loop _]
    show wpAny _ A.in1 (pyNext (.ref I) >>= _) _ _ s
    refine wpAny_bind (W.item i s _ _ hlt hst fun v s' hP hst' hm => ?_)
    obtain ⟨h4, t, rfl⟩ := hval i v hP
    have hS' := hm.heap S _ hSw hS
    show wpAny _ A.in1 (holding [Value.int (val i : Int) t] (setAdd S (.int (val i : Int) t)) >>= _) _ _ s'
    refine wpAny_bind (wpAny_holding ?_)
    unfold setAdd
    refine wpAny_holding ?_
    refine wpAny_bind ((intKind prog w).pyHash (k := (val i : Int)) (intKind_is _ _ _ _) ?_)
    refine add4 (s := { s' with toks := s'.toks + 1 }) h4 hS' fun h' tk' ep' r hsb hS2 => ?_
    rw [bOf_succ] at hS2
    refine wpAny_pure ⟨plainId_quiet PyProof.Rows.F.plain_set_update_loop _, ih (i + 1) _ (by omega) hlt (W.frame _ s' _ _ hst' (Nat.le_succ _) fun b hb o e => ?_) ⟨tk', ep', hS2⟩ fun s'' hm'' hS'' => ?_⟩
    · rw [hsb.2 b (fun h : b = S => hSf (by rw [← h]; exact hb))]; exact e
    · refine hR s'' (Moved.trans W.gtrans ((hm.mono hsub).then_heap (Nat.le_succ _) fun b o hb e => ?_) hm'') hS''
      rw [hsb.2 b (fun h : b = S => hb (by rw [h]; exact List.mem_cons_self))]; exact e
end

noncomputable def ledOf (w : World) : Bool := !w.params.followText "set-order"
section
variable {prog : Program} {w : World} {A : Around} {E : Value → Shared → Prop} {s : Shared}
theorem set_new (a : Value) {Q₁ : Value → Shared → Prop} (h : Q₁ (.ref s.heap.objs.size) { s with heap := s.heap.push { cls := .type "set", dict := none, data := .set #[] 0 (.fresh 0 0 (ledOf w)) } }) :
    codeAny (model prog w) A (.call (.builtin "set.__new__") ⟨[.type "set", a], []⟩) (wants Q₁ E) s := by
  refine codeAny_of_tree ?_
  show wpAny _ A.in1 (do checkBuiltinCall "set.__new__" ⟨[.type "set", a], []⟩; again (.builtin "set.__new__" ⟨[.type "set", a], []⟩)) _ _ s
  refine wpAny_bind (wpAny_of_eq (PySem.F.newCall_set_1 a) (wpAny_pure ⟨plainId_quiet PySem.F.plain_set_new _, codeAny_builtin PySem.F.entry_set_new ?_⟩))
  rw [Around.under_plainId PySem.F.plain_set_new _]
  unfold Builtin.«set.__new__» Builtin.Frozenset.newClass
  have hsub := sub_set_self
  obtain ⟨hp, g, d, tk, os⟩ := s
  dsimp only
  wp_walk
  refine wpAny_askSetting (wpAny_pure ?_)
  dsimp only
  simp only [newObj]
  refine wpAny_bind (wpAny_alloc (wpAny_pure ?_))
  exact wpAny_pure h

set_option maxHeartbeats 3200000 in
theorem call_set4 {l : Addr} {items : Array Value} {val : Nat → Nat} {Q : Value → Shared → Prop} (hh : A.handled = none) (hl : s.heap.IsList l items) (hi : ∀ i v, items[i]? = some v → val i < 4 ∧ ∃ t, v = .int (val i : Int) t)
    (h : ∀ (h' : Heap) (tok : Nat) tk ep, h'.get? s.heap.objs.size = some (setO (bOf val items.size) tk (ledOf w) ep) → (∀ b o, b < s.heap.objs.size → s.heap.get? b = some o → h'.get? b = some o) → Q (.ref s.heap.objs.size) { s with heap := h', toks := tok }) :
    wpAny (model prog w) A (call (.type "set") [.ref l]) Q E s := by
  obtain ⟨c, tl, hmro⟩ := PySem.F.called_set.mro
  have hmade := PySem.F.called_set.made
  have hsub := PySem.F.called_set.sub
  refine wpAny_call (codeAny_of_tree ?_)
  show wpAny _ _ (callAny (.type "set") _) _ _ _
  refine wpAny_pure ⟨Code.quiet_builtin _ (by decide +kernel), codeAny_builtin PySem.F.entry_type_call ?_⟩
  rw [Around.under_plain (weight_type_call_type "set" [.ref l] []) rfl]
  have h1 := PySem.F.called_set.notType
  have h2 := PySem.F.called_set.canCreate
  have hct := PySem.F.typeCall_set_1 (.ref l)
  repeat (any_goals (first | assumption | wp_step))
  refine codeAny_mono (set_new (.ref l) (E := E) (Q₁ := fun obj s₁ => obj = .ref s.heap.objs.size ∧ s₁ = { s with heap := s.heap.push { cls := .type "set", dict := none, data := .set #[] 0 (.fresh 0 0 (ledOf w)) } }) ⟨rfl, rfl⟩) fun r s₁ hr => ?_
  cases r with
  | error e => exact hr
  | ok fl =>
    cases fl with
    | ret obj =>
      obtain ⟨rfl, rfl⟩ := hr
      have hS : (s.heap.push { cls := .type "set", dict := none, data := .set #[] 0 (.fresh 0 0 (ledOf w)) }).get? s.heap.objs.size = some { cls := .type "set", dict := none, data := .set #[] 0 (.fresh 0 0 (ledOf w)) } := Heap.get?_push_size _ rfl
      have hT : Shared.TypeIs { s with heap := s.heap.push { cls := .type "set", dict := none, data := .set #[] 0 (.fresh 0 0 (ledOf w)) } } (.ref s.heap.objs.size) "set" := ⟨_, hS, rfl⟩
      have hli := PySem.F.called_set.init.lookup
      have hbi := PySem.F.called_set.init.bind (.ref s.heap.objs.size)
      repeat (any_goals (first | assumption | wp_step))
      refine codeAny_mono (codeAny_call_builtin (R := wants (fun r s₂ => r = .none ∧ ∃ h' tok tk ep, s₂ = { s with heap := h', toks := tok } ∧ h'.get? s.heap.objs.size = some (setO (bOf val items.size) tk (ledOf w) ep) ∧
          (∀ b o, b < s.heap.objs.size → s.heap.get? b = some o → h'.get? b = some o)) E) PySem.F.called_set.init.plain PySem.F.entry_set_init (check_set_init_1 hT ?_)) fun r₂ s₂ hr₂ => ?_
      · obtain ⟨ol, hol, hcl, nl, hdl⟩ := hl
        obtain ⟨ocls, odict, odata, oslots⟩ := ol
        simp only at hcl hdl
        subst hcl; subst hdl
        have hol' : (s.heap.push { cls := .type "set", dict := none, data := .set #[] 0 (.fresh 0 0 (ledOf w)) }).get? l = some { cls := .type "list", dict := odict, data := .seq items nl, slots := oslots } := Heap.get?_push_of_some _ hol
        have hsls := PySem.F.sub_list_set
        have hslf := PySem.F.sub_list_frozenset
        have hne : (Value.type "list" == Value.type "dict") = false := by decide
        have hl1 : (s.heap.push { cls := .type "set", dict := none, data := .set #[] 0 (.fresh 0 0 (ledOf w)) }).IsList l items := ⟨_, hol', rfl, nl, rfl⟩
        unfold Builtin.«set.__init__» noKeywords Builtin.Frozenset.updateFrom
        generalize hPI : pyIter = PI
        wp_walk
        subst hPI
        refine wpAny_pyIter_list hl1 ?_
        refine wpAny_bind (wpAny_runValue ?_)
        have hlS : l < s.heap.objs.size := Heap.lt_size hol
        have hh3 : A.in1.in1.in1.handled = none := by simp [hh]
        have hneI : l ≠ (s.heap.push { cls := .type "set", dict := none, data := .set #[] 0 (.fresh 0 0 (ledOf w)) }).objs.size := by
          rw [Heap.size_push]; exact Nat.ne_of_lt (Nat.lt_succ_of_lt hlS)
        have hSf : s.heap.objs.size ∉ [(s.heap.push { cls := .type "set", dict := none, data := .set #[] 0 (.fresh 0 0 (ledOf w)) }).objs.size, l] := by
          rw [Heap.size_push]; simp only [List.mem_cons, List.mem_singleton, List.not_mem_nil, or_false, not_or]
          exact ⟨Nat.ne_of_lt (Nat.lt_succ_self _), Nat.ne_of_gt hlS⟩
        refine loop4 ((Walks.list hh3 _ l hneI items).toS) s.heap.objs.size hSf val hi (ledOf w) (items.size - 0) 0 _ (by omega) (Nat.zero_le _) ⟨⟨_, Heap.get?_push_size _ rfl, rfl, rfl⟩, (hl1.push _)⟩ ?hS0 ?hR
        case hS0 => exact ⟨fun zz => 0, 0, Heap.get?_push_of_some _ hS⟩
        case hR =>
          intro s' hm hS'
          obtain ⟨h', g', d', tk', os'⟩ := s'
          have eg : g' = s.gens := hm.gens
          have ed : d' = s.drawn := hm.drawn
          have eo : os' = s.os := hm.os
          subst eg; subst ed; subst eo
          show wpAny _ _ _ _ _ _
          refine wpAny_pure ?_
          show wpAny _ _ (ret Value.none) _ _ _
          obtain ⟨tk, ep, hS'⟩ := hS'
          refine wpAny_pure ⟨rfl, h', tk', tk, ep, rfl, hS', fun b o hb e => ?_⟩
          have hb1 : b ≠ s.heap.objs.size := Nat.ne_of_lt hb
          have hb2 : b ≠ (s.heap.push { cls := .type "set", dict := none, data := .set #[] 0 (.fresh 0 0 (ledOf w)) }).objs.size := by
            rw [Heap.size_push]; exact Nat.ne_of_lt (Nat.lt_succ_of_lt hb)
          exact hm.heap b o (by simp only [List.mem_cons, List.mem_singleton, List.not_mem_nil, or_false, not_or]; exact ⟨hb1, hb2⟩) (Heap.get?_push_of_some _ (Heap.get?_push_of_some _ e))
      · cases r₂ with
        | error e => exact hr₂
        | ok fl₂ =>
          cases fl₂ with
          | ret r =>
            obtain ⟨rfl, h', tok, tk, ep, rfl, hS', hk'⟩ := hr₂
            repeat (any_goals (first | assumption | wp_step))
            exact h _ _ _ _ hS' hk'
          | _ => exact hr₂.elim
    | _ => exact hr.elim
end
end Mine
end

section
open PySem PySem.W PyProof.Rows PyProof.Rows.LSm
set_option Elab.async false
set_option maxRecDepth 100000
set_option tactic.hygienic false
set_option linter.unusedVariables false
namespace Mine

theorem erase_perm {α : Type} {x : α} : ∀ (l : List α) (n : Nat), l[n]? = some x → (x :: l.eraseIdx n).Perm l
  | [], n, h => by simp at h
  | a :: l, 0, h => by cases h; exact List.Perm.refl _
  | a :: l, n + 1, h => by
    rw [List.eraseIdx_cons_succ]
    exact (List.Perm.swap a x _).trans ((erase_perm l n (by simpa using h)).cons a)
theorem pick_none {α : Type} {next : Nat → Nat} {fuel k : Nat} {left : List α} {out : Array α} (h : left[next k % left.length]? = none) : pickOrder.go next (fuel + 1) k left out = out := by
  show (match left[next k % left.length]? with | some x => pickOrder.go next fuel (k + 1) (left.eraseIdx (next k % left.length)) (out.push x) | none => out) = out
  rw [h]
theorem pick_some {α : Type} {next : Nat → Nat} {fuel k : Nat} {left : List α} {out : Array α} {x : α} (h : left[next k % left.length]? = some x) : pickOrder.go next (fuel + 1) k left out = pickOrder.go next fuel (k + 1) (left.eraseIdx (next k % left.length)) (out.push x) := by
  show (match left[next k % left.length]? with | some x => pickOrder.go next fuel (k + 1) (left.eraseIdx (next k % left.length)) (out.push x) | none => out) = _
  rw [h]
theorem pick_go {α : Type} (next : Nat → Nat) : ∀ (fuel k : Nat) (left : List α) (out : Array α), left.length ≤ fuel → (pickOrder.go next fuel k left out).toList.Perm (out.toList ++ left)
  | 0, k, left, out, h => by
    have : left = [] := List.length_eq_zero_iff.mp (Nat.le_zero.mp h)
    subst this
    show out.toList.Perm _
    rw [List.append_nil]
  | fuel + 1, k, left, out, h => by
    cases hl : left[next k % left.length]? with
    | none =>
      rw [pick_none hl]
      have : left = [] := by
        cases left with
        | nil => rfl
        | cons a l =>
          have := Nat.mod_lt (next k) (show 0 < (a :: l).length from Nat.succ_pos _)
          rw [List.getElem?_eq_getElem this] at hl; cases hl
      subst this
      rw [List.append_nil]
    | some x =>
      rw [pick_some hl]
      obtain ⟨hlt, hx⟩ := List.getElem?_eq_some_iff.mp hl
      have hp := erase_perm left _ hl
      have hle : (left.eraseIdx (next k % left.length)).length ≤ fuel := by rw [List.length_eraseIdx_of_lt hlt]; omega
      refine (pick_go next fuel (k + 1) _ (out.push x) hle).trans ?_
      rw [Array.toList_push, List.append_assoc]
      exact List.Perm.append_left _ hp
theorem pick_perm {α : Type} (next : Nat → Nat) (xs : Array α) : (pickOrder next xs).toList.Perm xs.toList := by
  exact pick_go next xs.size 0 xs.toList #[] (by rw [Array.length_toList]; exact Nat.le_refl _)

/- the order in which a set's elements are met -/
noncomputable def ordOf (w : World) (a ep : Nat) (es : Array (Int × Value)) : Array (Int × Value) := if w.params.followText "set-order" = true then pickOrder (w.params.setOrder a ep) es else es
theorem ord_perm (w : World) (a ep : Nat) (es : Array (Int × Value)) : (ordOf w a ep es).toList.Perm es.toList := by
  unfold ordOf
  split
  · exact pick_perm _ _
  · exact List.Perm.refl _
noncomputable def slotAt (l : List Nat) : Nat → Nat
  | 0 => 0
  | j + 1 => l.getD j 0 + 1
noncomputable def slotW (w : World) (l : List Nat) (i : Nat) : Nat := if w.params.followText "set-order" = true then 0 else slotAt l i
theorem below4 (b : Nat → Bool) (i : Nat) (hi : i ≤ (bitsL b).length) : SetTable.below (bitsL b).toArray (slotAt (bitsL b) i) = i := by
  have e : bitsL b = pick4 (b 0) (b 1) (b 2) (b 3) := by
    unfold bitsL pick4
    simp only [List.filter]
    cases b 0 <;> cases b 1 <;> cases b 2 <;> cases b 3 <;> rfl
  rw [e] at hi ⊢
  have h : ∀ b0 b1 b2 b3 : Bool, ∀ i ≤ (pick4 b0 b1 b2 b3).length, SetTable.below (pick4 b0 b1 b2 b3).toArray (slotAt (pick4 b0 b1 b2 b3) i) = i := by decide +kernel
  exact h _ _ _ _ i hi

@[reducible] noncomputable def setItO (a slot i n ep : Nat) : Obj := { cls := .type "set_iterator", data := .fields #[rawInt slot, rawInt i, .ref a, rawInt n, rawInt ep] }

section
variable {prog : Program} {w : World} {A : Around} {E : Value → Shared → Prop} {s : Shared} {a ep i : Nat} {b : Nat → Bool} {tk : Nat → Tok}
theorem setsByText_w {Q : Bool → Shared → Prop} (h : Q (w.params.followText "set-order") s) : wpAny (model prog w) A setsByText Q E s := by
  unfold setsByText
  exact wpAny_bind (wpAny_askSetting (wpAny_pure h))
theorem setState4 {Q : (Array (Int × Value) × Nat × SetTable) → Shared → Prop} (hS : s.heap.get? a = some (setO b tk (ledOf w) ep)) (h : Q (ents (bitsL b) tk, ep, tabOf (bitsL b) (ledOf w)) s) : wpAny (model prog w) A (setState a) Q E s :=
  wpAny_setState_of hS rfl (tab_fits _ _ _) h
theorem ents_get (l : List Nat) (tk : Nat → Tok) (i : Nat) : (ents l tk)[i]? = l[i]?.map fun (i : Nat) => ((i : Int), Value.int (i : Int) (tk i)) := by
  rw [← Array.getElem?_toList, ents_list, List.getElem?_map]
theorem setNext4 {Q : Option (Value × Nat) → Shared → Prop} (hS : s.heap.get? a = some (setO b tk (ledOf w) ep)) (hi : i ≤ (bitsL b).length)
    (h : Q (((ordOf w a ep (ents (bitsL b) tk))[i]?).map fun e => (e.2, slotW w (bitsL b) (i + 1))) s) : wpAny (model prog w) A (setNext a (slotW w (bitsL b) i) i ep) Q E s := by
  unfold setNext
  refine wpAny_bind (setState4 hS ?_)
  dsimp only
  refine wpAny_bind (setsByText_w ?_)
  unfold ordOf slotW at h
  cases hT : w.params.followText "set-order" with
  | true =>
    rw [hT, if_pos rfl, if_pos rfl] at h
    rw [if_pos rfl]
    refine wpAny_ite_split (fun hab => absurd hab (by simp)) (fun zz => ?_)
    unfold setWalk
    refine wpAny_bind (wpAny_bind (setState4 hS ?_))
    dsimp only
    refine wpAny_bind (setsByText_w ?_)
    rw [hT]
    refine wpAny_bind (wpAny_askSetting (wpAny_pure ?_))
    have e : slotW w (bitsL b) i = 0 := by unfold slotW; rw [hT]; rfl
    rw [e]
    exact wpAny_pure h
  | false =>
    rw [hT, if_neg Bool.false_ne_true, if_neg Bool.false_ne_true] at h
    rw [if_neg Bool.false_ne_true]
    have e : slotW w (bitsL b) i = slotAt (bitsL b) i := by unfold slotW; rw [hT]; rfl
    have hled : ledOf w = true := by unfold ledOf; rw [hT]; rfl
    refine wpAny_ite_split (fun hab => absurd hab Bool.false_ne_true) (fun zz => ?_)
    refine wpAny_bind (wpAny_ite_split (fun hab => absurd hab (by rw [hled]; exact Bool.false_ne_true)) (fun zz => wpAny_pure ?_))
    rw [e]
    have hb : SetTable.below (tabOf (bitsL b) (ledOf w)).place (slotAt (bitsL b) i) = i := below4 b i hi
    rw [hb]
    refine wpAny_pure ?_
    rw [ents_get] at h ⊢
    have hp : (tabOf (bitsL b) (ledOf w)).place[i]? = (bitsL b)[i]? := by unfold tabOf; simp
    rw [hp]
    cases hg : (bitsL b)[i]? with
    | none => rw [hg] at h; exact h
    | some x =>
      rw [hg] at h
      have ex : slotAt (bitsL b) (i + 1) = x + 1 := by show (bitsL b).getD i 0 + 1 = x + 1; rw [List.getD_eq_getElem?_getD, hg]; rfl
      rw [ex] at h
      exact h

theorem ord_size (w : World) (a ep : Nat) (es : Array (Int × Value)) : (ordOf w a ep es).size = es.size := by
  rw [← Array.length_toList, (ord_perm w a ep es).length_eq, Array.length_toList]
theorem sit_item {I : Nat} {e : Int × Value} {Q : Option Value → Shared → Prop} (hI : s.heap.get? I = some (setItO a (slotW w (bitsL b) i) i (bitsL b).length ep)) (hS : s.heap.get? a = some (setO b tk (ledOf w) ep)) (haI : a ≠ I) (hi : i ≤ (bitsL b).length) (he : (ordOf w a ep (ents (bitsL b) tk))[i]? = some e)
    (hQ : ∀ h', h'.get? I = some (setItO a (slotW w (bitsL b) (i + 1)) (i + 1) (bitsL b).length ep) → Heap.SameBut I s.heap h' → Q (some e.2) { s with heap := h' }) : wpAny (model prog w) A (pyNext (.ref I)) Q E s := by
  have hTy : s.TypeIs (.ref I) "set_iterator" := ⟨_, hI, rfl⟩
  unfold pyNext
  refine wpAny_bind (wpAny_attempt (wpAny_callSpecial?_slot (name := Str.ofString "__next__") hTy slot_sit_next (wpAny_call_entry slot_sit_next hTy entry_sit_next ?_ (args_sit_next _))))
  show wpAny _ _ (fieldsOf (.ref I) >>= _) _ _ _
  refine wpAny_bind (wpAny_fieldsOf hI rfl ?_)
  show wpAny _ _ (setEntries a >>= _) _ _ _
  unfold setEntries
  refine wpAny_bind (wpAny_bind (setState4 hS (wpAny_pure ?_)))
  dsimp only
  rw [ents_size]
  refine wpAny_ite_split (fun hab => absurd hab (by simp)) (fun zz => ?_)
  show wpAny _ _ (setNext a (slotW w (bitsL b) i : Int).toNat (i : Int).toNat (ep : Int).toNat >>= _) _ _ _
  rw [Int.toNat_natCast, Int.toNat_natCast, Int.toNat_natCast]
  refine wpAny_bind (setNext4 hS hi ?_)
  rw [he]
  dsimp only [Option.map]
  refine wpAny_bind (wpAny_setField_rec hI (by simp) fun h₁ hI₁ hs₁ => ?_)
  refine wpAny_bind (wpAny_setField_rec hI₁ (by simp) fun h₂ hI₂ hs₂ => ?_)
  exact wpAny_pure ⟨_, rfl, wpAny_pure (hQ h₂ hI₂ (hs₁.trans hs₂))⟩
theorem sit_done {I : Nat} {Q : Option Value → Shared → Prop} (hh : A.handled = none) (hI : s.heap.get? I = some (setItO a (slotW w (bitsL b) i) i (bitsL b).length ep)) (hS : s.heap.get? a = some (setO b tk (ledOf w) ep)) (hi : i ≤ (bitsL b).length) (he : (ordOf w a ep (ents (bitsL b) tk))[i]? = none)
    (hQ : ∀ h', Heap.ExtBut I s.heap h' → Q none { s with heap := h' }) : wpAny (model prog w) A (pyNext (.ref I)) Q E s := by
  have hTy : s.TypeIs (.ref I) "set_iterator" := ⟨_, hI, rfl⟩
  unfold pyNext
  refine wpAny_bind (wpAny_attempt (wpAny_callSpecial?_slot (name := Str.ofString "__next__") hTy slot_sit_next (wpAny_call_entry slot_sit_next hTy entry_sit_next ?_ (args_sit_next _))))
  show wpAny _ _ (fieldsOf (.ref I) >>= _) _ _ _
  refine wpAny_bind (wpAny_fieldsOf hI rfl ?_)
  show wpAny _ _ (setEntries a >>= _) _ _ _
  unfold setEntries
  refine wpAny_bind (wpAny_bind (setState4 hS (wpAny_pure ?_)))
  dsimp only
  rw [ents_size]
  refine wpAny_ite_split (fun hab => absurd hab (by simp)) (fun zz => ?_)
  show wpAny _ _ (setNext a (slotW w (bitsL b) i : Int).toNat (i : Int).toNat (ep : Int).toNat >>= _) _ _ _
  rw [Int.toNat_natCast, Int.toNat_natCast, Int.toNat_natCast]
  refine wpAny_bind (setNext4 hS hi ?_)
  rw [he]
  dsimp only [Option.map]
  refine wpAny_bind (wpAny_setField hI rfl (by simp) ?_)
  show wpAny _ _ (newExc (.type "StopIteration") [] >>= _) _ _ _
  refine wpAny_bind ?_
  simp only [newExc, newTuple]
  refine wpAny_bind (wpAny_newObj_type ?_ (by size_fits))
  refine wpAny_bind (m := firstArgMember _ _) (wpAny_of_eq (a := Value.none) (by first | rfl | (simp only [firstArgMember]; rfl)) ?_)
  refine wpAny_newObj_type ?_ (by size_fits)
  refine wpAny_bind (wpAny_handled ?_)
  rw [show A.in1.handled = none from hh]
  refine wpAny_bind (wpAny_pure (wpAny_throw ?_))
  refine wpAny_bind (wpAny_isInstance (T := "StopIteration") (b := true) ⟨_, Heap.get?_push_size _ rfl, rfl⟩ isSubtype_stop ?_)
  exact wpAny_pure (hQ _ (((Heap.SameBut.update ..).extBut.push _).push _))
end
end Mine
end

section
open PySem PySem.W PyProof.Rows PyProof.Rows.LSm
set_option Elab.async false
set_option maxRecDepth 100000
set_option tactic.hygienic false
set_option linter.unusedVariables false
namespace Mine

section
variable {prog : Program} {w : World} {A : Around} {E : Value → Shared → Prop} {s : Shared} {a ep : Nat} {b : Nat → Bool} {tk : Nat → Tok}
theorem hint_set {r : Addr} {Q : Bool → Shared → Prop} (hT : s.TypeIs (.ref r) "set") (h : Q false s) : wpAny (model prog w) A (Builtin.List.listLengthHint (.ref r)) Q E s := by
  unfold Builtin.List.listLengthHint
  refine wpAny_bind (wpAny_specialOf hT PySem.F.slot_set_len.lookup ?_)
  generalize hid : ("set.__len__" : String) = id0
  wp_delta
  rw [show splitId id0 = some ("set", "__len__") from by subst hid; decide +kernel]
  subst hid
  refine wpAny_bind (wpAny_isInstance (T := "set") (b := true) hT sub_set_self ?_)
  refine wpAny_ite_split (fun hab => absurd hab (by decide)) (fun zz => ?_)
  refine wpAny_ite_split (fun zz => ?_) (fun hab => absurd (by decide +kernel) hab)
  refine wpAny_bind (wpAny_typeOf hT ?_)
  exact wpAny_pure h
theorem pyIter_set {Q : Value → Shared → Prop} (hS : s.heap.get? a = some (setO b tk (ledOf w) ep)) (hQ : Q (.ref s.heap.objs.size) { s with heap := s.heap.push (setItO a (slotW w (bitsL b) 0) 0 (bitsL b).length ep) }) :
    wpAny (model prog w) A (pyIter (.ref a)) Q E s := by
  have hTy : s.TypeIs (.ref a) "set" := ⟨_, hS, rfl⟩
  have e0 : slotW w (bitsL b) 0 = 0 := by unfold slotW slotAt; split <;> rfl
  rw [e0] at hQ
  refine wpAny_pyIter_slot hTy PySem.F.slot_set_iter (wpAny_call_entry PySem.F.slot_set_iter hTy entry_set_iter ?_ (PySem.F.args_set_iter_1 _))
  show wpAny _ _ (Builtin.Frozenset.sizeOf a >>= _) _ _ _
  unfold Builtin.Frozenset.sizeOf setEntries
  refine wpAny_bind (wpAny_bind (wpAny_bind (setState4 hS (wpAny_pure (wpAny_pure ?_)))))
  dsimp only
  rw [ents_size]
  unfold setDrawn
  refine wpAny_bind (wpAny_bind (setState4 hS ?_))
  dsimp only
  refine wpAny_bind (setsByText_w (wpAny_pure ?_))
  refine wpAny_ite_split (fun hab => absurd hab (by
    intro h
    have h2 := (Bool.and_eq_true_iff.mp h).2
    exact Bool.false_ne_true h2)) (fun zz => wpAny_bind (wpAny_pure ?_))
  unfold setEpoch
  refine wpAny_bind (wpAny_bind (setState4 hS (wpAny_pure ?_)))
  dsimp only
  refine wpAny_bind ?_
  exact wpAny_newObj_type (wpAny_pure ⟨_, rfl, "set_iterator", _, ⟨_, Heap.get?_push_size _ rfl, rfl⟩, slot_sit_next.lookup, hQ⟩)
theorem walks_set (hh : A.handled = none) (I : Nat) (haI : a ≠ I) : Walks prog w A I [I, a] [I] (bitsL b).length (fun i v => ∃ e, (ordOf w a ep (ents (bitsL b) tk))[i]? = some e ∧ v = e.2)
    (fun i h => h.get? I = some (setItO a (slotW w (bitsL b) i) i (bitsL b).length ep) ∧ h.get? a = some (setO b tk (ledOf w) ep)) where
  sub := fun x hx => by simp at hx; simp [hx]
  frame := fun i h h' st hk => ⟨hk I (by simp) _ st.1, hk a (by simp) _ st.2⟩
  item := fun i s Q E hi st hQ => by
    have hsz := ord_size w a ep (ents (bitsL b) tk)
    rw [ents_size] at hsz
    obtain ⟨e, he⟩ : ∃ e, (ordOf w a ep (ents (bitsL b) tk))[i]? = some e := ⟨_, Array.getElem?_eq_getElem (by rw [hsz]; exact hi)⟩
    exact sit_item st.1 st.2 haI (Nat.le_of_lt hi) he fun h' hI' hs => hQ _ h' s.toks ⟨e, he, rfl⟩ ⟨hI', hs.extBut _ _ haI st.2⟩ fun x o hx e => hs.extBut _ _ (fun q => hx (by simp [q])) e
  done := fun s Q E st hQ => by
    have hsz := ord_size w a ep (ents (bitsL b) tk)
    rw [ents_size] at hsz
    exact sit_done hh st.1 st.2 (Nat.le_refl _) (Array.getElem?_eq_none (by rw [hsz]; exact Nat.le_refl _)) fun h' hs => hQ h' s.toks fun x o hx e => hs _ _ (fun q => hx (by simp [q])) e
  self := fun i s Q E st hQ => by
    have hTy : s.TypeIs (.ref I) "set_iterator" := ⟨_, st.1, rfl⟩
    refine wpAny_pyIter_slot hTy slot_sit_iter (wpAny_call_entry slot_sit_iter hTy entry_sit_iter ?_ (args_sit_iter _))
    show wpAny _ _ (ret (.ref I)) _ _ s
    exact wpAny_pure ⟨_, rfl, "set_iterator", _, hTy, slot_sit_next.lookup, hQ⟩
theorem kdl_set4 : KdlSrc prog w "set" a a (bitsL b).length (fun i v => ∃ e, (ordOf w a ep (ents (bitsL b) tk))[i]? = some e ∧ v = e.2) (fun h => h.get? a = some (setO b tk (ledOf w) ep)) where
  type := fun zz hm => ⟨_, hm, rfl⟩
  there := fun zz hm => ⟨Heap.lt_size hm, Heap.lt_size hm⟩
  keep := fun zz zz hm hk => hk a (.inl rfl) _ hm
  notList := by decide
  notTuple := by decide
  hint := fun zz zz zz zz hm hq => hint_set ⟨_, hm, rfl⟩ hq
  iter := fun zz zz hh hm => ⟨_, _, (fun zz zz hq => pyIter_set hm hq), walks_set hh _ (Nat.ne_of_lt (Heap.lt_size hm)), Heap.get?_push_size _ rfl, Heap.get?_push_of_some _ hm⟩
end
end Mine
end

section
open PySem PySem.W PyProof.Rows PyProof.Rows.LSm
set_option Elab.async false
set_option maxRecDepth 100000
set_option tactic.hygienic false
set_option linter.unusedVariables false
namespace Mine

theorem sorted_unique {l l' : List Int} (p : l.Perm l') (h : l.Pairwise (· ≤ ·)) (h' : l'.Pairwise (· ≤ ·)) : l = l' :=
  List.Perm.eq_of_pairwise (fun a b zz zz h1 h2 => Int.le_antisymm h1 h2) h h' p
noncomputable def ints4 (b : Nat → Bool) : List Int := (bitsL b).map fun (i : Nat) => (i : Int)
theorem ints4_four {b : Nat → Bool} {is : List Int} (h : ∀ k < 4, b k = decide ((k : Int) ∈ is)) : ints4 b = fourOf is := by
  have h0 : b 0 = decide ((0 : Int) ∈ is) := h 0 (by lia)
  have h1 : b 1 = decide ((1 : Int) ∈ is) := h 1 (by lia)
  have h2 : b 2 = decide ((2 : Int) ∈ is) := h 2 (by lia)
  have h3 : b 3 = decide ((3 : Int) ∈ is) := h 3 (by lia)
  unfold ints4 fourOf bitsL
  simp only [List.filter, ← h0, ← h1, ← h2, ← h3]
  cases b 0 <;> cases b 1 <;> cases b 2 <;> cases b 3 <;> rfl
theorem ints4_sorted (b : Nat → Bool) : (ints4 b).Pairwise (· ≤ ·) := by
  unfold ints4 bitsL
  simp only [List.filter]
  cases b 0 <;> cases b 1 <;> cases b 2 <;> cases b 3 <;> decide
theorem bOf_four {is : List Int} (h : ∀ i ∈ is, 0 ≤ i ∧ i < 4) (k : Nat) : bOf (fun j => (is.getD j 0).toNat) is.length k = decide ((k : Int) ∈ is) := by
  unfold bOf
  rw [Bool.eq_iff_iff, List.any_eq_true, decide_eq_true_eq]
  constructor
  · rintro ⟨j, hj, e⟩
    have hlt := List.mem_range.mp hj
    have hg : is.getD j 0 = is[j] := by rw [List.getD_eq_getElem?_getD, List.getElem?_eq_getElem hlt]; rfl
    replace e : (k == (is.getD j 0).toNat) = true := e
    rw [hg] at e
    have hm : is[j] ∈ is := List.getElem_mem hlt
    have := h _ hm
    have e' : k = (is[j]).toNat := by simpa using e
    have : (k : Int) = is[j] := by lia
    rw [this]; exact hm
  · intro hm
    obtain ⟨j, hlt, e⟩ := List.mem_iff_getElem.mp hm
    refine ⟨j, List.mem_range.mpr hlt, ?_⟩
    have hg : is.getD j 0 = is[j] := by rw [List.getD_eq_getElem?_getD, List.getElem?_eq_getElem hlt]; rfl
    show (k == (is.getD j 0).toNat) = true
    rw [hg, e]
    simp
theorem fourOf_len (is : List Int) : (fourOf is).length ≤ 4 := List.length_filter_le _ [0, 1, 2, 3]

section
variable {prog : Program} {w : World} {hb : Heap} {mg mb : Str → Option Value} {g : GP} {n : Nat} {C : Calls} {nm : Names}
theorem sound_tss {g1 g2 g3 : Str} {p1 p2 p3 q1 q2 q3 : Pos} {e : Expr} {a : X} (B : Base mg mb g hb) (h1 : globAs nm g1 "tuple") (h2 : globAs nm g2 "sorted") (h3 : globAs nm g3 "set") (he : SoundE prog w hb g n C nm e a) (hns : NoStar e) :
    SoundE prog w hb g n C nm (.Call (.Name g1 p1) [.Call (.Name g2 p2) [.Call (.Name g3 p3) [e] [] q3] [] q2] [] q1) (.tss a) := by
  intro A c F T o σ s Q Qc E hr G R hw hq
  have gg := G.g
  subst gg
  refine call1 B h1 blt_tuple rfl dbg_all.2.2.2.1 (fun zz zz => rfl) G R (call1 B h2 blt_sorted rfl dbg_all.2.2.2.2.1 (fun zz zz => rfl) G R (call1 B h3 blt_set rfl dbg_all.1 hns G R (he A c F T o σ s _ _ E hr G R hw fun F' s' val v σ' l R' r q => ?_)))
  obtain ⟨_, rfl, is, rfl, ⟨hl, h4⟩, q⟩ := lst_inv (k := fun vs => intsP vs fun is => (is.length < 60 ∧ ∀ i ∈ is, 0 ≤ i ∧ i < 4) ∧ Q (.tup ((fourOf is).map V.int)) σ') q
  obtain ⟨b, us, m, rfl, hb, r⟩ := r.invLst
  have hlen : us.length = is.length := r.ofEq
  refine call_set4 (val := fun j => (is.getD j 0).toNat) hr.2.2 (isList_of (R'.fro _ _ hb)) (fun i v hv => ?_) fun h' tok tk ep hS hk => ?_
  · rw [List.getElem?_toArray] at hv
    obtain ⟨t, e⟩ := IntsAre.int_at r.ints i v hv
    have hi : i < is.length := by rw [← hlen]; exact (List.getElem?_eq_some_iff.mp hv).1
    have hg : is.getD i 0 = is[i] := by rw [List.getD_eq_getElem?_getD, List.getElem?_eq_getElem hi]; rfl
    have hb4 := h4 _ (List.getElem_mem hi)
    rw [hg] at e ⊢
    refine ⟨by lia, t, ?_⟩
    rw [e]
    congr 1
    lia
  · rw [show us.toArray.size = is.length from by rw [List.size_toArray]; exact hlen] at hS
    generalize hbb : bOf (fun j => (is.getD j 0).toNat) is.length = bb at hS
    have hfour : ints4 bb = fourOf is := ints4_four fun k zz => by rw [← hbb]; exact bOf_four h4 k
    have R2 := R'.grow (h' := h') (t := tok) fun a x e => hk a x (Heap.lt_size e) e
    have hperm := ord_perm w s'.heap.objs.size ep (ents (bitsL bb) tk)
    refine sorted_src (ns := (ordOf w s'.heap.objs.size ep (ents (bitsL bb) tk)).toList.map (·.1)) (kdl_set4 (a := s'.heap.objs.size) (ep := ep) (b := bb) (tk := tk)) hr.2.2 R2 hS (by rw [List.length_map, hperm.length_eq, ents_list, List.length_map]) (by have := bitsL_len bb; lia) (fun j v hP => ?_) fun F2 s2 D l2 le2 R3 r3 hp hpw => ?_
    · obtain ⟨en, e1, rfl⟩ := hP
      have e2 : (ordOf w s'.heap.objs.size ep (ents (bitsL bb) tk)).toList[j]? = some en := by rw [Array.getElem?_toList]; exact e1
      have hm := hperm.mem_iff.mp (List.mem_of_getElem? e2)
      rw [ents_list] at hm
      obtain ⟨i, hi, rfl⟩ := List.mem_map.mp hm
      refine ⟨tk i, ?_⟩
      rw [List.getD_eq_getElem?_getD, List.getElem?_map, e2]
      rfl
    · have hp2 : l2.Perm (ints4 bb) := by
        refine hp.trans ?_
        have := hperm.map (·.1)
        rw [ents_list, List.map_map] at this
        exact this
      have el : l2 = fourOf is := by rw [← hfour]; exact sorted_unique hp2 hpw (ints4_sorted bb)
      rw [el] at r3
      have hlen4 := fourOf_len is
      exact blt_sound (f := .tuple) (K := fun v zz => Q v σ') (p := none) hr.2.2 R3 (RepAll.one r3) rfl (fun n h => by cases h) (.tupL _ (by rw [List.length_map]; lia) q) fun F4 s4 val v l4 R4 rv qv => hq F4 s4 val v σ' ((l.trans le2).trans l4) R4 rv qv
end
end Mine
end

section
open PySem PySem.W PyProof.Rows PyProof.Rows.LSm
set_option Elab.async false
set_option backward.match.sparseCases false
set_option maxRecDepth 100000
set_option tactic.hygienic false
set_option genSizeOf false
set_option genInjectivity false
set_option linter.unusedVariables false
namespace Mine

section
variable {nm : Names} (f : ∀ e x, Ok (Snd nm e x))
noncomputable def chkKey (k : Option Expr) (c : Nat) : Ok (KeyIs k c) := match k with
  | some e => onCst (fun e => KeyIs (some e) c) e fun v k p => match v with
    | .str x => (Ok.dec (strIx x = some c)).map fun h => .mk h
    | _ => .no
  | none => .no
noncomputable def cDct (ks : List Nat) (xs : List X) : (e : Expr) → Ok (Snd nm e (.dct ks xs))
  | .Dict keys vals p => (((allOk chkKey keys ks).and (allOk f vals xs)).and (Ok.dec (keys.length = vals.length ∧ 0 < keys.length ∧ keys.length ≤ 15 ∧ ks.Nodup))).map fun h =>
      snd_of (fun W => sound_dct W.hW W.B h.1.1 (h.1.2.imp fun zz zz h => h.E W) h.2.1 (List.ne_nil_of_length_pos h.2.2.1) h.2.2.2.1 h.2.2.2.2) (fun zz => rfl) (fun zz zz => rfl) fun zz h => nomatch h
  | _ => .no
noncomputable def cLenset (a : X) : (e : Expr) → Ok (Snd nm e (.lenset a)) :=
  fun e => onCall (Snd nm · (.lenset a)) e fun fe es q1 => onName (fun fe => Snd nm (.Call fe es [] q1) (.lenset a)) fe fun g1 p1 => on1 (fun es => Snd nm (.Call (.Name g1 p1) es [] q1) (.lenset a)) es fun e => onCall (fun e => Snd nm (.Call (.Name g1 p1) [e] [] q1) (.lenset a)) e fun fe es q2 => onName (fun fe => Snd nm (.Call (.Name g1 p1) [.Call fe es [] q2] [] q1) (.lenset a)) fe fun g2 p2 => on1 (fun es => Snd nm (.Call (.Name g1 p1) [.Call (.Name g2 p2) es [] q2] [] q1) (.lenset a)) es fun e => ((f e a).and ((chkGlob nm g1 "len" c_len cd_all.2.1).and (chkGlob nm g2 "set" c_set cd_all.1))).map fun h =>
      snd_of (fun W => sound_lenset W.B h.2.1 h.2.2 (h.1.E W) h.1.star) (fun zz => rfl) (fun zz zz => rfl) fun zz h => nomatch h
noncomputable def cSrt (k : Nat) : (e : Expr) → Ok (Snd nm e (.srt k)) :=
  fun e => onCall (Snd nm · (.srt k)) e fun fe es q1 => onName (fun fe => Snd nm (.Call fe es [] q1) (.srt k)) fe fun g1 p1 => on1 (fun es => Snd nm (.Call (.Name g1 p1) es [] q1) (.srt k)) es fun e => onName (fun e => Snd nm (.Call (.Name g1 p1) [e] [] q1) (.srt k)) e fun x px => ((chkVar nm x k).and (chkGlob nm g1 "sorted" c_sorted cd_all.2.2.2.2.1)).map fun h =>
      snd_of (fun W => sound_srt W.B h.2 h.1.1 h.1.2) (fun zz => rfl) (fun zz zz => rfl) fun zz h => nomatch h
noncomputable def cLzip (a b : X) : (e : Expr) → Ok (Snd nm e (.lzip a b)) :=
  fun e => onCall (Snd nm · (.lzip a b)) e fun fe es q1 => onName (fun fe => Snd nm (.Call fe es [] q1) (.lzip a b)) fe fun g1 p1 => on1 (fun es => Snd nm (.Call (.Name g1 p1) es [] q1) (.lzip a b)) es fun e => onCall (fun e => Snd nm (.Call (.Name g1 p1) [e] [] q1) (.lzip a b)) e fun fe es q2 => onName (fun fe => Snd nm (.Call (.Name g1 p1) [.Call fe es [] q2] [] q1) (.lzip a b)) fe fun g2 p2 => onCons (fun es => Snd nm (.Call (.Name g1 p1) [.Call (.Name g2 p2) es [] q2] [] q1) (.lzip a b)) es fun ea es => on1 (fun es => Snd nm (.Call (.Name g1 p1) [.Call (.Name g2 p2) (ea :: es) [] q2] [] q1) (.lzip a b)) es fun eb => ((allOk f [ea, eb] [a, b]).and ((chkGlob nm g1 "list" c_list cd_all.2.2.1).and (chkGlob nm g2 "zip" c_zip cd_all.2.2.2.2.2.1))).map fun h =>
      snd_of (fun W => sound_lzip W.B h.2.1 h.2.2 (snd_es h.1 W) (snd_star h.1)) (fun zz => rfl) (fun zz zz => rfl) fun zz h => nomatch h
noncomputable def cTss (a : X) : (e : Expr) → Ok (Snd nm e (.tss a)) :=
  fun e => onCall (Snd nm · (.tss a)) e fun fe es q1 => onName (fun fe => Snd nm (.Call fe es [] q1) (.tss a)) fe fun g1 p1 => on1 (fun es => Snd nm (.Call (.Name g1 p1) es [] q1) (.tss a)) es fun e => onCall (fun e => Snd nm (.Call (.Name g1 p1) [e] [] q1) (.tss a)) e fun fe es q2 => onName (fun fe => Snd nm (.Call (.Name g1 p1) [.Call fe es [] q2] [] q1) (.tss a)) fe fun g2 p2 => on1 (fun es => Snd nm (.Call (.Name g1 p1) [.Call (.Name g2 p2) es [] q2] [] q1) (.tss a)) es fun e => onCall (fun e => Snd nm (.Call (.Name g1 p1) [.Call (.Name g2 p2) [e] [] q2] [] q1) (.tss a)) e fun fe es q3 => onName (fun fe => Snd nm (.Call (.Name g1 p1) [.Call (.Name g2 p2) [.Call fe es [] q3] [] q2] [] q1) (.tss a)) fe fun g3 p3 => on1 (fun es => Snd nm (.Call (.Name g1 p1) [.Call (.Name g2 p2) [.Call (.Name g3 p3) es [] q3] [] q2] [] q1) (.tss a)) es fun e => ((f e a).and ((chkGlob nm g1 "tuple" c_tuple cd_all.2.2.2.1).and ((chkGlob nm g2 "sorted" c_sorted cd_all.2.2.2.2.1).and (chkGlob nm g3 "set" c_set cd_all.1)))).map fun h =>
      snd_of (fun W => sound_tss W.B h.2.1 h.2.2.1 h.2.2.2 (h.1.E W) h.1.star) (fun zz => rfl) (fun zz zz => rfl) fun zz h => nomatch h
noncomputable def cCtor (cl : Bool) (c : Nat) (hc : cd (clsNm cl) = c ∧ c ≠ 0 ∧ c ≠ 6481680900276877746015) (xs : List X) : (e : Expr) → Ok (Snd nm e (.call (ctor cl) xs)) :=
  fun e => onCall (Snd nm · (.call (ctor cl) xs)) e fun fe es pos => onName (fun fe => Snd nm (.Call fe es [] pos) (.call (ctor cl) xs)) fe fun gn p => onCons (fun es => Snd nm (.Call (.Name gn p) es [] pos) (.call (ctor cl) xs)) es fun e es => ((allOk f (e :: es) xs).and (Ok.dec (nm.lookup gn = some .globalImplicit ∧ cd gn = c))).map fun (h : All2 (Snd nm) (e :: es) xs ∧ nm.lookup gn = some .globalImplicit ∧ cd gn = c) =>
      snd_of (fun W => sound_ctor W.B h.2.1 (cd_is h.2.2 hc.1 hc.2.1) (dbg_cd (h.2.2 ▸ hc.2.2)) (snd_es h.1 W) (snd_star h.1)) (fun zz => rfl) (fun zz zz => rfl) fun zz h => nomatch h
end
theorem cd_ctor : (cd (clsNm true) = c_Procedure ∧ c_Procedure ≠ 0 ∧ c_Procedure ≠ 6481680900276877746015) ∧ (cd (clsNm false) = c_Unit ∧ c_Unit ≠ 0 ∧ c_Unit ≠ 6481680900276877746015) := by decide +kernel

noncomputable def chk : Nat → (nm : Names) → (e : Expr) → (x : X) → Ok (Snd nm e x)
  | 0, _, _, _ => .no
  | n + 1, nm, e, x => match x with
    | .none => cNone nm e
    | .bool b => cBool nm b e
    | .int i => cInt nm i e
    | .str c => cStr nm c e
    | .var k => cVar nm k e
    | .ends => cEnds nm e
    | .opnds => cOpnds nm e
    | .tup xs => cTup (chk n nm) xs e
    | .lst xs => cLst (chk n nm) xs e
    | .dct ks xs => cDct (chk n nm) ks xs e
    | .bin op a b => cBin (chk n nm) op a b e
    | .neg a => cNeg (chk n nm) a e
    | .not a => cNot (chk n nm) a e
    | .and xs => cAnd (chk n nm) xs e
    | .or xs => cOr (chk n nm) xs e
    | .cmp op a b => cCmp (chk n nm) op a b e
    | .ite t a b => cIte (chk n nm) t a b e
    | .attr a c i => cAttr (chk n nm) a c i e
    | .idx a i => cIdx (chk n nm) a i e
    | .slF a k => cSlF (chk n nm) a k e
    | .slT a t => cSlT (chk n nm) a t e
    | .call f xs => match f with
      | .user k => cUser (chk n nm) k xs e
      | .proc => cCtor (chk n nm) true c_Procedure cd_ctor.1 xs e
      | .unit => cCtor (chk n nm) false c_Unit cd_ctor.2 xs e
      | f => cBlt (chk n nm) f xs e
    | .pop k => cPop k e
    | .isi a t => cIsi (chk n nm) a t e
    | .lenset a => cLenset (chk n nm) a e
    | .tss a => cTss (chk n nm) a e
    | .lzip a b => cLzip (chk n nm) a b e
    | .srt k => cSrt k e
    | .comp y k x fx => cComp (chk n) nm y k x fx e

/- what goes over as it is -/
noncomputable def chkPlain : (x : X) → Ok (∀ (C : Calls) (Q : LV → St → Prop) (σ : St), wpR C x Q σ → wpE C x (fun v σ' => Q (.imm v) σ') σ) := fun x => by
  cases x with
  | bin op a b => cases op <;> first | exact .yes (fun zz zz zz h => h) | exact .no
  | dct ks xs => cases ks <;> first | exact .yes (fun zz zz zz h => h) | exact .no
  | _ => first | exact .yes (fun zz zz zz h => h) | exact .no

section
variable {nm : Names} (f : ∀ e x, Ok (Snd nm e x))
noncomputable def rLst (xs : List X) : (e : Expr) → Ok (SndR nm e (.lst xs)) :=
  fun e => onLst (SndR nm · (.lst xs)) e fun es p => ((allOk f es xs).and (Ok.dec (es.length ≤ 100))).map fun h => ⟨fun W => soundR_lst (snd_es h.1 W) h.2, fun zz zz => rfl⟩
noncomputable def rDct : (e : Expr) → Ok (SndR nm e (.dct [] []))
  | .Dict [] [] p => .yes ⟨fun W => soundR_dct, fun zz zz => rfl⟩
  | _ => .no
noncomputable def rMul (x b : X) : (e : Expr) → Ok (SndR nm e (.bin .Mult (.lst [x]) b)) :=
  fun e => onBin (SndR nm · (.bin .Mult (.lst [x]) b)) e fun l o r p => onLst (fun l => SndR nm (.BinOp l o r p) (.bin .Mult (.lst [x]) b)) l fun es p1 => on1 (fun es => SndR nm (.BinOp (.List es p1) o r p) (.bin .Mult (.lst [x]) b)) es fun e1 => ((Ok.dec (o = .Mult)).and ((f e1 x).and (f r b))).map fun h => by obtain ⟨rfl, h⟩ := h; exact ⟨fun W => soundR_mul (h.1.E W) h.1.star (h.2.E W), fun zz zz => rfl⟩
noncomputable def rIte (g : ∀ e x, Ok (SndR nm e x)) (t a b : X) : (e : Expr) → Ok (SndR nm e (.ite t a b)) :=
  fun e => onIte (SndR nm · (.ite t a b)) e fun et ea eb p => (((f et t).and (g ea a)).and (g eb b)).map fun h => ⟨fun W => soundR_ite (h.1.1.T W) (h.1.2.1 W) (h.2.1 W), fun zz zz => rfl⟩
end
noncomputable def chkR : Nat → (nm : Names) → (e : Expr) → (x : X) → Ok (SndR nm e x)
  | 0, _, _, _ => .no
  | n + 1, nm, e, x => match x with
    | .lst xs => rLst (chk n nm) xs e
    | .dct [] [] => rDct e
    | .bin .Mult (.lst [x]) b => rMul (chk n nm) x b e
    | .ite t a b => rIte (chk n nm) (chkR n nm) t a b e
    | x => ((chk n nm e x).and (chkPlain x)).map fun h => ⟨fun W => soundR_of (h.1.E W) (h.2 _), h.1.star⟩

noncomputable def chkNotComp : (e : Expr) → Ok (NotComp e) := fun e => by
  cases e <;> first | exact .yes trivial | exact .no
noncomputable def chkNotTup : (e : Expr) → Ok (NotTup e) := fun e => by
  cases e <;> first | exact .yes trivial | exact .no
noncomputable def chkTs (nm : Names) : (ts : List Expr) → (ks : List Nat) → Ok (NmTs nm ts ks)
  | [], [] => .yes .nil
  | e :: ts, k :: ks => onName (fun e => NmTs nm (e :: ts) (k :: ks)) e fun x p => ((chkVar nm x k).and (chkTs nm ts ks)).map fun h => .cons h.1.1 h.1.2 h.2
  | _, _ => .no
noncomputable def chkTgt (nm : Names) (ks : List Nat) (one : Bool) : (e : Expr) → Ok (TgtIs nm e ks one) := match one, ks with
  | true, [k] => fun e => onName (TgtIs nm · [k] true) e fun x p => (chkVar nm x k).map fun h => .one h.1 h.2
  | false, ks => fun e => onTup (TgtIs nm · ks false) e fun ts k0 p => (chkTs nm ts ks).map fun h => .many h
  | _, _ => fun zz => .no

section
variable {nm : Names} (f : ∀ e x, Ok (Snd nm e x)) (r : ∀ e x, Ok (SndR nm e x)) (b : ∀ s x, Ok (SndS nm s x))
noncomputable def sAsgC (g : ∀ nm e x, Ok (Snd nm e x)) (nm : Names) (ky : Nat) (y : X) (k : Nat) (x : X) (fx : List X) : (s : Stmt) → Ok (SndS nm s (.asg ky (.comp y k x fx))) :=
  fun s => onAsg (SndS nm · (.asg ky (.comp y k x fx))) s fun t e sp => onName (fun t => SndS nm (.Assign [t] e sp) (.asg ky (.comp y k x fx))) t fun yn py => onComp (fun e => SndS nm (.Assign [.Name yn py] e sp) (.asg ky (.comp y k x fx))) e fun elt v px it fs sc p => ((chkVar nm yn ky).and ((((g nm it x).and ((g (relab nm sc.names) elt y).and (allOk (g (relab nm sc.names)) fs fx))).and ((Ok.dec (fs.length ≤ 1 ∧ varIx v = some k ∧ sc.names.lookup v = some .local ∧ compOk nm sc v = true)).and (chkFold it))))).map fun h W =>
      sound_asg_comp h.1.1 h.1.2 (h.2.1.1.E W) (h.2.1.2.1.E W) (snd_tests h.2.1.2.2 h.2.2.1.1 W) h.2.2.1.2.1 h.2.2.1.2.2.1 (compSc_of h.2.2.1.2.2.2) h.2.2.2
noncomputable def sAsg (k : Nat) (x : X) : (s : Stmt) → Ok (SndS nm s (.asg k x)) :=
  fun s => onAsg (SndS nm · (.asg k x)) s fun t e sp => onName (fun t => SndS nm (.Assign [t] e sp) (.asg k x)) t fun y p => (((chkVar nm y k).and (r e x)).and (chkNotComp e)).map fun h W => sound_asg h.1.1.1 h.1.1.2 (h.1.2.1 W) h.2
noncomputable def sAsgs (ks : List Nat) (xs : List X) : (s : Stmt) → Ok (SndS nm s (.asgs ks xs)) :=
  fun s => onAsg (SndS nm · (.asgs ks xs)) s fun t e p => onTup (fun t => SndS nm (.Assign [t] e p) (.asgs ks xs)) t fun ts k0 tp => onTup (fun e => SndS nm (.Assign [.Tuple ts k0 tp] e p) (.asgs ks xs)) e fun es k1 vp => (((chkTs nm ts ks).and (allOk r es xs)).and (Ok.dec (es.length ≤ 100 ∧ ks.length = es.length ∧ ks.Nodup ∧ es.all (constantsAlone 8) = false))).map fun h W => sound_asgs h.1.1 (snd_rs h.1.2 W) h.2.1 h.2.2.1 h.2.2.2.1 h.2.2.2.2
noncomputable def sUnp (ks : List Nat) (x : X) : (s : Stmt) → Ok (SndS nm s (.unp ks x)) :=
  fun s => onAsg (SndS nm · (.unp ks x)) s fun t e p => onTup (fun t => SndS nm (.Assign [t] e p) (.unp ks x)) t fun ts k0 tp => (((chkTs nm ts ks).and (f e x)).and ((chkNotComp e).and (chkNotTup e))).map fun h W => sound_unp h.1.1 (h.1.2.E W) h.2.1 h.2.2
noncomputable def sSeti (k : Nat) (i x : X) : (s : Stmt) → Ok (SndS nm s (.seti k i x)) :=
  fun s => onAsg (SndS nm · (.seti k i x)) s fun t e sp => onSub (fun t => SndS nm (.Assign [t] e sp) (.seti k i x)) t fun b ei p2 => onName (fun b => SndS nm (.Assign [.Subscript b ei p2] e sp) (.seti k i x)) b fun y p => (((chkVar nm y k).and ((f ei i).and (f e x))).and (chkNotComp e)).map fun h W => sound_seti h.1.1.1 h.1.1.2 (h.1.2.1.E W) (h.1.2.2.E W) h.2
noncomputable def onMeth (P : Stmt → Prop) (s : Stmt) (k : ∀ y p m ap e pos sp, Ok (P (.Expr (.Call (.Attribute (.Name y p) m ap) [e] [] pos) sp))) : Ok (P s) := match s with
  | .Expr c sp => onCall (fun c => P (.Expr c sp)) c fun fe es pos => onAttr (fun fe => P (.Expr (.Call fe es [] pos) sp)) fe fun b m ap => onName (fun b => P (.Expr (.Call (.Attribute b m ap) es [] pos) sp)) b fun y p => on1 (fun es => P (.Expr (.Call (.Attribute (.Name y p) m ap) es [] pos) sp)) es fun e => k y p m ap e pos sp
  | _ => .no
noncomputable def sApp (k : Nat) (x : X) : (s : Stmt) → Ok (SndS nm s (.app k x)) :=
  fun s => onMeth (SndS nm · (.app k x)) s fun y p m ap e pos sp => (((chkVar nm y k).and (f e x)).and (Ok.dec (cd m = c_append ∧ (ap.endLine == pos.line) = true))).map fun h W => sound_app h.1.1.1 h.1.1.2 (cd_is h.2.1 cd_meth.2.1 (by decide)) h.2.2 h.1.2.star (h.1.2.E W)
noncomputable def sExt (k : Nat) (x : X) : (s : Stmt) → Ok (SndS nm s (.ext k x)) :=
  fun s => onMeth (SndS nm · (.ext k x)) s fun y p m ap e pos sp => (((chkVar nm y k).and (f e x)).and (Ok.dec (cd m = c_extend ∧ (ap.endLine == pos.line) = true))).map fun h W => sound_ext h.1.1.1 h.1.1.2 (cd_is h.2.1 cd_meth.2.2 (by decide)) h.2.2 h.1.2.star (h.1.2.E W)
noncomputable def sFr (ks : List Nat) (one : Bool) (x : X) (ss : List S) : (s : Stmt) → Ok (SndS nm s (.fr ks one false x ss)) :=
  fun s => onFor (SndS nm · (.fr ks one false x ss)) s fun tgt it body p => (((chkTgt nm ks one tgt).and (f it x)).and ((allOk b body ss).and (chkFold it))).map fun h W => sound_fr h.1.1 (h.1.2.E W) (snd_ss h.2.1 W) h.2.2
theorem cd_enum : cd ("enumerate" : Str) = c_enumerate ∧ c_enumerate ≠ 0 := by decide +kernel
noncomputable def sEnum (ks : List Nat) (x : X) (ss : List S) : (s : Stmt) → Ok (SndS nm s (.fr ks false true x ss)) :=
  fun s => onFor (SndS nm · (.fr ks false true x ss)) s fun tgt it body p => onTup (fun tgt => SndS nm (.For tgt it body [] p) (.fr ks false true x ss)) tgt fun ts k0 tp => onCall (fun it => SndS nm (.For (.Tuple ts k0 tp) it body [] p) (.fr ks false true x ss)) it fun fe es cp => onName (fun fe => SndS nm (.For (.Tuple ts k0 tp) (.Call fe es [] cp) body [] p) (.fr ks false true x ss)) fe fun gn gp => on1 (fun es => SndS nm (.For (.Tuple ts k0 tp) (.Call (.Name gn gp) es [] cp) body [] p) (.fr ks false true x ss)) es fun e => (((chkTs nm ts ks).and (f e x)).and ((allOk b body ss).and (chkGlob nm gn "enumerate" c_enumerate cd_enum))).map fun h W => sound_enum W.B h.2.2.1 h.2.2.2 h.1.1 (h.1.2.E W) h.1.2.star (snd_ss h.2.1 W)
noncomputable def sWhl (x : X) (ss : List S) : (s : Stmt) → Ok (SndS nm s (.whl x ss))
  | .While t body [] p => ((f t x).and (allOk b body ss)).map fun h W => sound_whl (h.1.T W) (snd_ss h.2 W)
  | _ => .no
noncomputable def sIff (x : X) (bs os : List S) : (s : Stmt) → Ok (SndS nm s (.iff x bs os))
  | .If t body oe p => ((f t x).and ((allOk b body bs).and (allOk b oe os))).map fun h W => sound_iff (h.1.T W) (snd_ss h.2.1 W) (snd_ss h.2.2 W)
  | _ => .no
noncomputable def sRet (x : X) : (s : Stmt) → Ok (SndS nm s (.ret x))
  | .Return (some e) p => (f e x).map fun h W => sound_ret (h.E W)
  | _ => .no
end
noncomputable def chkS : Nat → (nm : Names) → (s : Stmt) → (x : S) → Ok (SndS nm s x)
  | 0, _, _, _ => .no
  | n + 1, nm, s, x => match x with
    | .asg k (.comp y j x fx) => sAsgC (chk n) nm k y j x fx s
    | .asg k x => sAsg (chkR n nm) k x s
    | .asgs ks xs => sAsgs (chkR n nm) ks xs s
    | .unp ks x => sUnp (chk n nm) ks x s
    | .seti k i x => sSeti (chk n nm) k i x s
    | .app k x => sApp (chk n nm) k x s
    | .ext k x => sExt (chk n nm) k x s
    | .fr ks one false x ss => sFr (chk n nm) (chkS n nm) ks one x ss s
    | .fr ks false true x ss => sEnum (chk n nm) (chkS n nm) ks x ss s
    | .whl x ss => sWhl (chk n nm) (chkS n nm) x ss s
    | .iff x bs os => sIff (chk n nm) (chkS n nm) x bs os s
    | .ret x => sRet (chk n nm) x s
    | _ => .no

/- a def of the program stands for a body -/
structure Stands (d : DefOf) (fx : FX) : Prop where
  ar : ∃ ar, d.params = ⟨[], ar, none, [], [], none, []⟩ ∧ (ar.map (·.arg)).Nodup ∧ (ar.map (·.arg)).map varIx = fx.params.map some ∧ ∀ x ∈ ar.map (·.arg), d.scope.names.lookup x = some .local ∨ d.scope.names.lookup x = some .cell
  kind : d.scope.kind = .function ∧ d.scope.isGenerator = false ∧ d.scope.isCoroutine = false ∧ ∀ p ∈ d.scope.names, p.2 ≠ .free
  body : All2 (SndS d.scope.names) d.body fx.body
noncomputable def chkF (d : DefOf) (fx : FX) : Ok (Stands d fx) := match d with
  | ⟨_, ⟨[], ar, none, [], [], none, []⟩, body, sc⟩ => ((Ok.dec ((ar.map (·.arg)).Nodup ∧ (ar.map (·.arg)).map varIx = fx.params.map some ∧ (∀ x ∈ ar.map (·.arg), sc.names.lookup x = some .local ∨ sc.names.lookup x = some .cell) ∧
      (sc.kind = .function ∧ sc.isGenerator = false ∧ sc.isCoroutine = false ∧ ∀ p ∈ sc.names, p.2 ≠ .free))).and (allOk (chkS 40 sc.names) body fx.body)).map fun h => ⟨⟨ar, rfl, h.1.1, h.1.2.1, h.1.2.2.1⟩, h.1.2.2.2, h.2⟩
  | _ => .no
noncomputable def chkAt (i : Nat) (fx : FX) : Bool := match defOf? (st i) with
  | some d => (chkF d fx).ok
  | none => false
end Mine
end

section
open PySem PySem.W PyProof.Rows PyProof.Rows.LSm
set_option Elab.async false
set_option maxRecDepth 100000
set_option tactic.hygienic false
set_option linter.unusedVariables false
namespace Mine

theorem cells_acc {x : Str} {a : Addr} : ∀ (ns : List (Str × NameKind)) (n : Nat) (acc : List (Str × Addr)), (x, a) ∈ acc → (x, a) ∈ cellsFrom n ns acc
  | [], _, _, h => h
  | (y, k) :: r, n, acc, h => by
    unfold cellsFrom
    split
    · exact cells_acc r _ _ (List.mem_cons_of_mem _ h)
    · exact cells_acc r _ _ h
theorem cells_has {x : Str} : ∀ (ns : List (Str × NameKind)) (n : Nat) (acc : List (Str × Addr)), (x, NameKind.cell) ∈ ns → ∃ a, (x, a) ∈ cellsFrom n ns acc
  | (y, k) :: r, n, acc, h => by
    unfold cellsFrom
    rcases List.mem_cons.mp h with e | h
    · cases e
      exact ⟨n, cells_acc r _ _ (List.mem_cons_self ..)⟩
    · split
      · exact cells_has r _ _ h
      · exact cells_has r _ _ h
theorem look_has {x : Str} {a : Addr} : ∀ {l : List (Str × Addr)}, (x, a) ∈ l → (l.lookup x).isSome = true
  | (y, b) :: r, h => by
    rw [List.lookup_cons]
    cases e : x == y with
    | true => rfl
    | false =>
      rcases List.mem_cons.mp h with q | q
      · cases q; rw [beq_self_eq_true] at e; cases e
      · exact look_has q

theorem chkAt_ok {i : Nat} {fx : FX} (h : chkAt i fx = true) : ∃ d, defOf? (st i) = some d ∧ Stands d fx := by
  unfold chkAt at h
  cases e : defOf? (st i) with
  | none => rw [e] at h; cases h
  | some d => rw [e] at h; exact ⟨d, rfl, Ok.get h⟩
/- a def that stands for a body is called -/
theorem stands_call {prog : Program} {w : World} {hb : Heap} {mg mb : Str → Option Value} {g : GP} {n : Nat} {C : Calls} (B : Base mg mb g hb) (K : CallsOk prog w hb mg g n C) (hW : g.w = w) {i : Nat} {d : DefOf} {fx : FX} (hi : 5 ≤ i ∧ i < 40) (hd : defOf? (st i) = some d) (hs : Stands d fx) :
    ∃ (a : Addr) (ob : Obj) (fd : FuncData), mg d.name = some (.ref a) ∧ hb.get? a = some ob ∧ ob.data = .func fd ∧
      ∀ (A : Around) (F : FM) (s : Shared) (us : List Value) (vs : List V) (p : Option Pot) (k : V → Option Pot → Prop) (R : Result → Shared → Prop), Room (n + 1) A → AtCall hb g F s p → RepAll g F us vs → vs.length = fx.params.length →
        wpF C fx.body k ⟨fx.params.zip (vs.map .imm), p⟩ → (∀ F' s' val v p', Ret hb F g s p F' s' p' → Rep g F' val v → k v p' → R (.ok (.ret val)) s') → codeAny (model prog w) A (.call (.ref a) ⟨us, []⟩) R s := by
  obtain ⟨a, ob, pm, code, doc, e1, e2, e3, e4⟩ := B.fn i d hi.1 hi.2 hd
  obtain ⟨⟨ar, h1, h2, h3, h4⟩, ⟨h5, h6, h7, h8⟩, h9⟩ := hs
  rw [h1] at e3
  refine ⟨a, ob, _, e1, e2, e3, fun A F s us vs p k R hr hA r hl hw hq => ?_⟩
  exact enter B e2 e3 e4 h5 h6 h7 (fun x e => h8 _ (mem_of_lookup e) rfl) h2 h3 h4 (fun L x e => (by obtain ⟨a, ha⟩ := cells_has _ L [] (mem_of_lookup e); exact look_has ha)) (snd_ss h9 ⟨prog, w, hb, mg, mb, g, n, C, B, K, hW⟩) hr hA r hl hw hq
end Mine
end

section
open PySem PySem.W PyProof.Rows PyProof.Rows.LSm
set_option Elab.async false
set_option maxRecDepth 100000
set_option tactic.hygienic false
set_option linter.unusedVariables false
namespace Mine
theorem fxs_ok : (List.range 32).all (fun k => match fxs[k]? with | some fx => chkAt (stOf k) fx | none => false) = true := by decide +kernel
theorem calls_ok {prog : Program} {w : World} {hb : Heap} {mg mb : Str → Option Value} {g : GP} (B : Base mg mb g hb) (hW : g.w = w) : ∀ n, CallsOk prog w hb mg g n (SP n)
  | 0 => fun zz zz zz zz h => h.elim
  | n + 1 => fun k vs p Q h => by
    obtain ⟨fx, hf, hl, hw⟩ := h
    have hk : k < 32 := by have := (List.getElem?_eq_some_iff.mp hf).1; exact this
    have h0 := List.all_eq_true.mp fxs_ok k (List.mem_range.mpr hk)
    rw [hf] at h0
    obtain ⟨d, hd, hs⟩ := chkAt_ok h0
    have h1 := List.all_eq_true.mp stOk_all k (List.mem_range.mpr hk)
    unfold stOk at h1
    rw [hd] at h1
    have hi : 5 ≤ stOf k ∧ stOf k < 40 := by unfold stOf; split <;> (try split) <;> lia
    obtain ⟨a, ob, fd, e1, e2, e3, e4⟩ := stands_call B (calls_ok B hW n) hW hi hd hs
    exact ⟨d.name, a, ob, fd, by simpa using h1, e1, e2, e3, fun A F s us R hr hA r hq => e4 A F s us vs p Q R hr hA r hl hw hq⟩
end Mine
end

section
open PySem
set_option Elab.async false
set_option maxRecDepth 100000
set_option tactic.hygienic false
set_option linter.unusedVariables false
set_option linter.unusedSimpArgs false
namespace Mine

section
variable {C : Calls} {Q : V → St → Prop} {Qs : List V → St → Prop} {Qf : Fl → St → Prop} {QT : Bool → St → Prop} {σ : St}
theorem it_nat {vs : List V} {i : Nat} : itemAt vs (i : Int) = vs[i]? := by
  unfold itemAt
  rw [if_pos (Int.natCast_nonneg i)]
  rfl
/- a call -/
theorem sp_of {n k : Nat} {vs : List V} {p : Option Pot} {Q : V → Option Pot → Prop} {ps : List Nat} {body : List S} (h1 : fxs[k]? = some ⟨ps, body⟩) (h2 : vs.length = ps.length)
    (h : wpSs (SP n) body (fun fl σ' => match fl with | .ret v => Q v σ'.pot | .next => Q .none σ'.pot) ⟨ps.zip (vs.map .imm), p⟩) : SP (n + 1) k vs p Q := ⟨_, h1, h2, h⟩
end

theorem sp6 {n : Nat} {p : Option Pot} {Q : V → Option Pot → Prop} {v : Int} (h : Q (.bool (decide (0 ≤ v))) p) : SP (n + 1) 6 [.int v] p Q := by
  refine sp_of rfl rfl ?_
  refine ⟨fun zz => ⟨fun zz => ?_, fun h => nomatch h⟩, fun h => nomatch h⟩
  exact h
theorem sp7 {n : Nat} {p : Option Pot} {Q : V → Option Pot → Prop} {v b : Int} (h : Q (.bool (decide (0 ≤ v) && decide (v < b))) p) : SP (n + 2) 7 [.int v, .int b] p Q := by
  refine sp_of rfl rfl ?_
  refine sp6 ?_
  refine ⟨fun e => ?_, fun e => ?_⟩
  · rw [e] at h; exact h
  · rw [e] at h; rw [e]; exact h
end Mine
end

section
open PySem
set_option Elab.async false
set_option backward.match.sparseCases false
set_option maxRecDepth 100000
set_option tactic.hygienic false
set_option genSizeOf false
set_option genInjectivity false
set_option linter.unusedVariables false
set_option linter.unusedSimpArgs false
namespace Mine

/- an instruction -/
inductive I
  | const (t k : Nat) | move (t s : Nat) | glob (t k : Nat) | setg (k s : Nat) | defi (k s : Nat) | free (t k : Nat) | clos (t k : Nat) (r : List Nat) | fix (rs : List (Nat × Nat × List Nat)) | prim (t k : Nat) (r : List Nat)
  | jump (l : Nat) | brf (s l : Nat) | call (a b : Nat) (r : List Nat) | give (s : Nat) (r : List Nat)
@[reducible] noncomputable def Row := Nat × Nat × List Nat
noncomputable def iv (n : Nat) : V := .int (n : Int)
noncomputable def nts (l : List Nat) : List V := l.map iv
noncomputable def rowV (x : Row) : V := .tup [iv x.1, iv x.2.1, .tup (nts x.2.2)]
noncomputable def I.code : I → Nat
  | const .. => 0 | move .. => 1 | glob .. => 2 | setg .. => 3 | defi .. => 4 | free .. => 5 | clos .. => 6 | fix .. => 7 | prim .. => 8 | jump .. => 9 | brf .. => 10 | call .. => 11 | give .. => 12
noncomputable def I.ops : I → List (Nat × V)
  | const t k => [(13, iv t), (14, iv k)]
  | move t s => [(13, iv t), (15, iv s)]
  | glob t k => [(13, iv t), (2, iv k)]
  | setg k s => [(2, iv k), (15, iv s)]
  | defi k s => [(2, iv k), (15, iv s)]
  | free t k => [(13, iv t), (5, iv k)]
  | clos t k r => [(13, iv t), (16, iv k), (17, .tup (nts r))]
  | fix rs => [(18, .tup (rs.map rowV))]
  | prim t k r => [(13, iv t), (19, iv k), (17, .tup (nts r))]
  | jump l => [(20, iv l)]
  | brf s l => [(15, iv s), (20, iv l)]
  | call a b r => [(15, iv a), (15, iv b), (17, .tup (nts r))]
  | give s r => [(15, iv s), (17, .tup (nts r))]
noncomputable def I.v (i : I) : V := .tup (.str i.code :: i.ops.map (·.2))
noncomputable def pairV (p : Nat × V) : V := .tup [.str p.1, p.2]
noncomputable def regsOf (rs : List Row) : List Nat := rs.map (·.1)
noncomputable def fixReads (own : List Nat) (rs : List Row) : List Nat := rs.flatMap fun x => x.2.2.filter fun y => !decide (y ∈ own)
noncomputable def I.reads : I → List Nat
  | move _ s => [s] | setg _ s => [s] | clos _ _ r => r | fix rs => fixReads (regsOf rs) rs | prim _ _ r => r | brf s _ => [s] | call a b r => a :: b :: r | give s r => s :: r
  | const .. => [] | glob .. => [] | free .. => [] | jump _ => [] | defi _ s => [s]
noncomputable def I.writes : I → List Nat
  | const t _ => [t] | move t _ => [t] | glob t _ => [t] | free t _ => [t] | clos t _ _ => [t] | prim t _ _ => [t] | fix rs => regsOf rs
  | setg .. => [] | defi .. => [] | jump _ => [] | brf .. => [] | call .. => [] | give .. => []
noncomputable def I.label : I → Option Nat
  | jump l => some l | brf _ l => some l | const .. => none | move .. => none | glob .. => none | setg .. => none | defi .. => none | free .. => none | clos .. => none | fix _ => none | prim .. => none | call .. => none | give .. => none
noncomputable def I.ends : I → Bool
  | jump .. => true | call .. => true | give .. => true | _ => false
/- rows are short -/
noncomputable def I.wf : I → Prop
  | clos _ _ r => r.length ≤ 2 | prim _ _ r => r.length ≤ 2 | call _ _ r => r.length ≤ 2 | give _ r => r.length ≤ 2
  | fix rs => (∃ x, rs = [x] ∧ x.2.2.length ≤ 2) ∨ (∃ x y, rs = [x, y] ∧ x.2.2.length ≤ 2 ∧ y.2.2.length ≤ 2)
  | _ => True

theorem nle {a b : Nat} (h : Nat.ble a b = true) : a ≤ b := Nat.le_of_ble_eq_true h
theorem sm {n : Nat} (h : n < 1000) : small (n : Int) := ⟨by lia, by lia⟩
theorem sm0 : small 0 := ⟨by decide, by decide⟩
theorem sm1 : small 1 := ⟨by decide, by decide⟩
theorem sm2 : small 2 := ⟨by decide, by decide⟩
theorem sm3 : small 3 := ⟨by decide, by decide⟩
theorem nts_len (l : List Nat) : (nts l).length = l.length := List.length_map ..
theorem nts_app (l l' : List Nat) : nts (l ++ l') = nts l ++ nts l' := List.map_append ..
theorem nts_is (l : List Nat) : nts l = (l.map fun (n : Nat) => (n : Int)).map V.int := by rw [List.map_map]; rfl
theorem mem_cast {l : List Nat} {n : Nat} : ((n : Int) ∈ l.map fun (n : Nat) => (n : Int)) ↔ n ∈ l := by
  rw [List.mem_map]
  exact ⟨fun ⟨m, h, e⟩ => by rw [← Int.ofNat.inj e]; exact h, fun h => ⟨n, h, rfl⟩⟩
theorem brt {t e : Prop} (h : t) : brP true t e := ⟨fun zz => h, fun h => nomatch h⟩
theorem brf {t e : Prop} (h : e) : brP false t e := ⟨(fun h => nomatch h), fun zz => h⟩
theorem brd {c : Prop} [Decidable c] {t e : Prop} (h : c → t) (h' : ¬ c → e) : brP (decide c) t e := ⟨fun q => h (of_decide_eq_true q), fun q => h' (of_decide_eq_false q)⟩
theorem brb {b : Bool} {t e : Prop} (h : b = true → t) (h' : b = false → e) : brP b t e := ⟨h, h'⟩

/- a comprehension over what is mapped -/
theorem comp_fm {α : Type} {elt : (V → St → Prop) → St → Prop} {test : (Bool → St → Prop) → St → Prop} {x : Nat} {loc : List (Nat × LV)} {p : Option Pot} {k : List V → Option Pot → Prop} (g f : α → V) (b : α → Bool) : ∀ (l : List α) (acc : List V),
    (∀ a ∈ l, ∀ Q : Bool → St → Prop, Q (b a) ⟨(x, .imm (g a)) :: loc, p⟩ → test Q ⟨(x, .imm (g a)) :: loc, p⟩) → (∀ a ∈ l, b a = true → ∀ Q : V → St → Prop, Q (f a) ⟨(x, .imm (g a)) :: loc, p⟩ → elt Q ⟨(x, .imm (g a)) :: loc, p⟩) →
    k (acc ++ (l.filter b).map f) p → compL elt test x loc (l.map g) acc p k
  | [], acc, _, _, h => by
    rw [List.filter_nil, List.map_nil, List.append_nil] at h; exact h
  | a :: l, acc, ht, he, h => by
    refine ht a (List.mem_cons_self ..) _ ?_
    have ht' := fun a' (m : a' ∈ l) => ht a' (List.mem_cons_of_mem _ m)
    have he' := fun a' (m : a' ∈ l) => he a' (List.mem_cons_of_mem _ m)
    rw [List.filter_cons] at h
    refine brb (fun q => ?_) fun q => ?_
    · rw [if_pos q] at h
      refine he a (List.mem_cons_self ..) q _ ?_
      exact comp_fm g f b l (acc ++ [f a]) ht' he' (by rw [List.append_assoc]; exact h)
    · rw [if_neg (by rw [q]; exact Bool.false_ne_true)] at h
      exact comp_fm g f b l acc ht' he' h
section
variable {n : Nat} {p : Option Pot} {Q : V → Option Pot → Prop}
theorem sp1 {i : I} (h : Q (.lst (i.ops.map pairV)) p) : SP (n + 1) 1 [i.v] p Q := by
  cases i <;> exact sp_of rfl rfl ⟨sm0, _, rfl, ⟨nle rfl, nle rfl, nle rfl⟩, ⟨rfl, nle rfl, nle rfl⟩, h⟩

theorem sp4 {i : I} (h : Q (match i.label with | some l => iv l | none => .none) p) : SP (n + 2) 4 [i.v] p Q := by
  refine sp_of rfl rfl (sp1 ?_)
  cases i
  case jump => exact ⟨rfl, brt h⟩
  case brf => exact ⟨rfl, brf ⟨rfl, brt h⟩⟩
  case fix => exact ⟨rfl, brf h⟩
  case const => exact ⟨rfl, brf (⟨rfl, brf h⟩)⟩
  case move => exact ⟨rfl, brf (⟨rfl, brf h⟩)⟩
  case glob => exact ⟨rfl, brf (⟨rfl, brf h⟩)⟩
  case setg => exact ⟨rfl, brf (⟨rfl, brf h⟩)⟩
  case defi => exact ⟨rfl, brf (⟨rfl, brf h⟩)⟩
  case free => exact ⟨rfl, brf (⟨rfl, brf h⟩)⟩
  case clos => exact ⟨rfl, brf (⟨rfl, brf (⟨rfl, brf h⟩)⟩)⟩
  case prim => exact ⟨rfl, brf (⟨rfl, brf (⟨rfl, brf h⟩)⟩)⟩
  case call => exact ⟨rfl, brf (⟨rfl, brf (⟨rfl, brf h⟩)⟩)⟩
  case give => exact ⟨rfl, brf (⟨rfl, brf h⟩)⟩
end
end Mine
end

section
open PySem
set_option Elab.async false
set_option genCtorIdx false
set_option maxRecDepth 100000
set_option genSizeOf false
set_option genInjectivity false
set_option linter.unusedVariables false
set_option linter.unusedSimpArgs false
set_option maxHeartbeats 4000000
namespace Mine

structure P where
  needed : Nat
  free : Nat
  regs : Nat
  rest : Bool
  body : List I
noncomputable def P.v (num : Nat) (q : P) : V := .obj true [iv num, .str 30, iv q.needed, .bool q.rest, .bool false, iv q.regs, iv q.free, .lst (q.body.map I.v)]
noncomputable def P.entry (q : P) : Nat := q.needed + (if q.rest then 1 else 0) + 1

theorem lenr {r : List Nat} {k : Nat} (h : r.length ≤ 2) (hk : k ≤ 10) : k + (nts r).length < 2 ^ 20 := by rw [nts_len]; lia
theorem lenf {α β : Type} {l : List α} {b : α → Bool} {f : α → β} {k : Nat} (h : l.length ≤ 2) (hk : k ≤ 10) : k + ((l.filter b).map f).length < 2 ^ 20 := by
  rw [List.length_map]
  have := List.length_filter_le b l
  lia
theorem dmem (y : Nat) (own : List Nat) : decide ((y : Int) ∈ own.map fun (n : Nat) => (n : Int)) = decide (y ∈ own) := by
  rw [Bool.eq_iff_iff, decide_eq_true_eq, decide_eq_true_eq]; exact mem_cast

section
variable {n : Nat} {p : Option Pot} {Q : V → Option Pot → Prop}
theorem sp0 {num : Nat} {q : P} (h : Q (iv q.entry) p) : SP (n + 1) 0 [q.v num] p Q := by
  have e : ((q.needed : Int) + (if q.rest = true then 1 else 0) + (if (!false) = true then 1 else 0)) = (q.entry : Int) := by
    unfold P.entry; cases q.rest <;> simp <;> lia
  have h' : Q (.int ((q.needed : Int) + (if q.rest = true then 1 else 0) + (if (!false) = true then 1 else 0))) p := by rw [e]; exact h
  exact sp_of rfl rfl ⟨rfl, ⟨rfl, ⟨rfl, h'⟩⟩⟩

theorem sp3 {i : I} (w : i.wf) (h : Q (.lst (nts i.writes)) p) : SP (n + 2) 3 [i.v] p Q := by
  refine sp_of rfl rfl (sp1 ?_)
  cases i
  case const => exact ⟨rfl, brt ⟨nle rfl, ⟨rfl, brf (brf h)⟩⟩⟩
  case move => exact ⟨rfl, brt ⟨nle rfl, ⟨rfl, brf (brf h)⟩⟩⟩
  case glob => exact ⟨rfl, brt ⟨nle rfl, ⟨rfl, brf (brf h)⟩⟩⟩
  case setg => exact ⟨rfl, brf (brf (⟨rfl, brf (brf h)⟩))⟩
  case defi => exact ⟨rfl, brf (brf (⟨rfl, brf (brf h)⟩))⟩
  case free => exact ⟨rfl, brt ⟨nle rfl, ⟨rfl, brf (brf h)⟩⟩⟩
  case clos => exact ⟨rfl, brt ⟨nle rfl, ⟨rfl, brf (brf (⟨rfl, brf (brf h)⟩))⟩⟩⟩
  case prim => exact ⟨rfl, brt ⟨nle rfl, ⟨rfl, brf (brf (⟨rfl, brf (brf h)⟩))⟩⟩⟩
  case jump => exact ⟨rfl, brf (brf h)⟩
  case brf => exact ⟨rfl, brf (brf (⟨rfl, brf (brf h)⟩))⟩
  case call => exact ⟨rfl, brf (brf (⟨rfl, brf (brf (⟨rfl, brf (brf h)⟩))⟩))⟩
  case give => exact ⟨rfl, brf (brf (⟨rfl, brf (brf h)⟩))⟩
  case fix rs =>
    rcases w with ⟨x, rfl, _⟩ | ⟨x, y, rfl, _⟩
    · exact ⟨rfl, brf (brt ⟨nle rfl, brt ⟨sm0, _, rfl, nle rfl, h⟩⟩)⟩
    · exact ⟨rfl, brf (brt ⟨nle rfl, brt ⟨sm0, _, rfl, brt ⟨sm0, _, rfl, nle rfl, h⟩⟩⟩)⟩

noncomputable def bI (own : List Nat) (y : Nat) : Bool := !decide ((y : Int) ∈ own.map fun (n : Nat) => (n : Int))
theorem filter_bI (own l : List Nat) : l.filter (bI own) = l.filter fun y => !decide (y ∈ own) := by
  congr 1; funext y; unfold bI; rw [dmem]
/- the reading of rows -/
theorem rows_reads {C : Calls} {own : List Nat} {v16 v45 v30 : V} {Qf : Fl → St → Prop} : ∀ (rs : List Row) (acc : List Nat) (o : Option V), acc.length + 2 * rs.length ≤ 10 → (∀ x ∈ rs, x.2.2.length ≤ 2) →
    (∀ o, Qf .next ⟨[(16, .imm v16), (12, .own (nts (acc ++ fixReads own rs))), (45, .imm v45), (30, .imm v30), (32, .imm (.lst (nts own)))] ++ (match o with | none => [] | some x => [(42, .imm x)]), p⟩) →
    forL (fun Q σ => wpSs C [(.ext 12 (.comp (.var 40) 40 (.idx (.var 42) (.int 2)) [(.cmp .NotIn (.var 40) (.var 32))]))] Q σ) [42] true (rs.map rowV) Qf
      ⟨[(16, .imm v16), (12, .own (nts acc)), (45, .imm v45), (30, .imm v30), (32, .imm (.lst (nts own)))] ++ (match o with | none => [] | some x => [(42, .imm x)]), p⟩
  | [], acc, o, _, _, h => by
    have h' := h o
    rw [show acc ++ fixReads own [] = acc from List.append_nil acc] at h'
    exact h'
  | x :: rs, acc, o, hl, hw, h => by
    have w := hw x (List.mem_cons_self ..)
    have hl' : acc.length + 2 * (rs.length + 1) ≤ 10 := hl
    have hf := List.length_filter_le (bI own) x.2.2
    have e1 : nts acc ++ ([] ++ (x.2.2.filter (bI own)).map iv) = nts (acc ++ x.2.2.filter (bI own)) := by rw [List.nil_append]; exact (nts_app _ _).symm
    have e2 : (acc ++ x.2.2.filter (bI own)) ++ fixReads own rs = acc ++ fixReads own (x :: rs) := by
      rw [List.append_assoc]; congr 1
      rw [filter_bI]; rfl
    have go := rows_reads (C := C) (v16 := v16) (v45 := v45) (v30 := v30) (Qf := Qf) rs (acc ++ x.2.2.filter (bI own)) (some (rowV x)) (by rw [List.length_append]; lia) (fun y hy => hw y (List.mem_cons_of_mem _ hy)) (fun o => by rw [e2]; exact h o)
    rw [← e1] at go
    cases o with
    | none => exact ⟨sm2, _, rfl, by rw [nts_len]; lia, comp_fm iv iv (bI own) x.2.2 [] (fun a zz Q h => ⟨own.map fun (n : Nat) => (n : Int), nts_is own, h⟩) (fun a zz zz Q h => h) ⟨by rw [nts_len, List.nil_append, List.length_map]; lia, go⟩⟩
    | some y => exact ⟨sm2, _, rfl, by rw [nts_len]; lia, comp_fm iv iv (bI own) x.2.2 [] (fun a zz Q h => ⟨own.map fun (n : Nat) => (n : Int), nts_is own, h⟩) (fun a zz zz Q h => h) ⟨by rw [nts_len, List.nil_append, List.length_map]; lia, go⟩⟩

theorem sp2 {i : I} (w : i.wf) (h : Q (.lst (nts i.reads)) p) : SP (n + 2) 2 [i.v] p Q := by
  refine sp_of rfl rfl (sp1 ?_)
  cases i
  case const => exact ⟨rfl, brf (brf (brf (⟨rfl, brf (brf (brf h))⟩)))⟩
  case move => exact ⟨rfl, brf (brf (brf (⟨rfl, brt ⟨nle rfl, h⟩⟩)))⟩
  case glob => exact ⟨rfl, brf (brf (brf (⟨rfl, brf (brf (brf h))⟩)))⟩
  case setg => exact ⟨rfl, brf (brf (brf (⟨rfl, brt ⟨nle rfl, h⟩⟩)))⟩
  case defi => exact ⟨rfl, brf (brf (brf (⟨rfl, brt ⟨nle rfl, h⟩⟩)))⟩
  case free => exact ⟨rfl, brf (brf (brf (⟨rfl, brf (brf (brf h))⟩)))⟩
  case clos => exact ⟨rfl, brf (brf (brf (⟨rfl, brf (brf (brf (⟨rfl, brf (brt ⟨lenr w (nle rfl), h⟩)⟩)))⟩)))⟩
  case prim => exact ⟨rfl, brf (brf (brf (⟨rfl, brf (brf (brf (⟨rfl, brf (brt ⟨lenr w (nle rfl), h⟩)⟩)))⟩)))⟩
  case jump => exact ⟨rfl, brf (brf (brf h))⟩
  case brf => exact ⟨rfl, brt ⟨nle rfl, ⟨rfl, brf (brf (brf h))⟩⟩⟩
  case call => exact ⟨rfl, brt ⟨nle rfl, ⟨rfl, brt ⟨nle rfl, ⟨rfl, brf (brt ⟨lenr w (nle rfl), h⟩)⟩⟩⟩⟩⟩
  case give => exact ⟨rfl, brt ⟨nle rfl, ⟨rfl, brf (brt ⟨lenr w (nle rfl), h⟩)⟩⟩⟩
  case fix rs =>
    rcases w with ⟨x, rfl, w⟩ | ⟨x, y, rfl, w, w2⟩
    · refine ⟨rfl, brf (brf (brt ⟨nle rfl, brt ⟨sm0, _, rfl, ?_⟩⟩))⟩
      refine rows_reads (own := [x.1]) [x] [] none (nle rfl) (fun z hz => by rw [List.mem_singleton.mp hz]; exact w) (fun o => ?_)
      exact h
    · refine ⟨rfl, brf (brf (brt ⟨nle rfl, brt ⟨sm0, _, rfl, brt ⟨sm0, _, rfl, ?_⟩⟩⟩))⟩
      refine rows_reads (own := [x.1, y.1]) [x, y] [] none (nle rfl) (fun z hz => by
        rcases List.mem_cons.mp hz with rfl | hz
        · exact w
        · rw [List.mem_singleton.mp hz]; exact w2) (fun o => ?_)
      exact h
end
end Mine
end

section
open PySem
set_option Elab.async false
set_option maxRecDepth 100000
set_option tactic.hygienic false
set_option linter.unusedVariables false
set_option linter.unusedSimpArgs false
set_option maxHeartbeats 4000000
namespace Mine

/- a comprehension without a test -/
theorem comp_m {α : Type} {elt : (V → St → Prop) → St → Prop} {x : Nat} {loc : List (Nat × LV)} {p : Option Pot} {k : List V → Option Pot → Prop} (g f : α → V) : ∀ (l : List α) (acc : List V),
    (∀ a ∈ l, ∀ Q : V → St → Prop, Q (f a) ⟨(x, .imm (g a)) :: loc, p⟩ → elt Q ⟨(x, .imm (g a)) :: loc, p⟩) →
    k (acc ++ l.map f) p → compL elt (fun Q σ => Q true σ) x loc (l.map g) acc p k
  | [], acc, _, h => by rw [List.map_nil, List.append_nil] at h; exact h
  | a :: l, acc, he, h => brt (he a (List.mem_cons_self ..) _ (comp_m g f l (acc ++ [f a]) (fun a' m => he a' (List.mem_cons_of_mem _ m)) (by rw [List.append_assoc]; exact h)))

noncomputable def behind (i : I) (place : Nat) : List Nat :=
  let f := if i.ends then [] else [place + 1]
  match i.label with
  | none => f
  | some l => if l ∈ f then f else f ++ [l]
theorem ends_code (i : I) : hasN i.code [9, 11, 12] = i.ends := by cases i <;> rfl
theorem item_map {α : Type} {l : List α} {f : α → V} {k : Nat} {a : α} (h : l[k]? = some a) : itemAt (l.map f) (k : Int) = some (f a) := by
  rw [it_nat, List.getElem?_map, h]; rfl

noncomputable def maskOf (l : List Nat) : Nat := l.foldl (fun m r => m ||| 2 ^ r) 0
theorem bit_pow (r j : Nat) : (2 ^ r).testBit j = decide (r = j) := Nat.testBit_two_pow
theorem mask_bit (j : Nat) : ∀ (l : List Nat) (m : Nat), (l.foldl (fun m r => m ||| 2 ^ r) m).testBit j = (m.testBit j || decide (j ∈ l))
  | [], m => by simp
  | r :: l, m => by
    rw [List.foldl_cons, mask_bit j l, Nat.testBit_or, bit_pow, Bool.or_assoc]
    congr 1
    rw [Bool.eq_iff_iff]
    simp only [Bool.or_eq_true, decide_eq_true_eq, List.mem_cons]
    exact ⟨fun h => h.imp Eq.symm id, fun h => h.imp Eq.symm id⟩
theorem maskOf_bit (l : List Nat) (j : Nat) : (maskOf l).testBit j = decide (j ∈ l) := by
  unfold maskOf; rw [mask_bit, Nat.zero_testBit, Bool.false_or]

noncomputable def pvs : Nat → List P → List V
  | _, [] => []
  | i, q :: ps => q.v i :: pvs (i + 1) ps
theorem pvs_len : ∀ (ps : List P) (i : Nat), (pvs i ps).length = ps.length
  | [], _ => rfl
  | q :: ps, i => congrArg Nat.succ (pvs_len ps (i + 1))
theorem pvs_get : ∀ (ps : List P) (i j : Nat), (pvs i ps)[j]? = ps[j]?.map (P.v (i + j))
  | [], i, j => rfl
  | q :: ps, i, 0 => rfl
  | q :: ps, i, j + 1 => by
    show (pvs (i + 1) ps)[j]? = ps[j]?.map (P.v (i + j + 1))
    rw [pvs_get ps (i + 1) j, Nat.add_right_comm i 1 j]
noncomputable def uv (ps : List P) (cs ns : List V) : V := .obj false [.lst (pvs 0 ps), .lst cs, .lst ns, iv 0]
noncomputable def freeOf (ps : List P) (k : Nat) : Nat := match ps[k]? with | some q => q.free | none => 0
noncomputable def allLt (r : List Nat) (b : Nat) : Bool := r.all fun x => decide (x < b)
noncomputable def closRow (ps : List P) (regs : Nat) (x : Row) : Bool := decide (x.1 < regs) && (decide (x.2.1 < ps.length) && (allLt x.2.2 regs && decide (x.2.2.length = freeOf ps x.2.1)))
noncomputable def casts (l : List Nat) : List Int := l.map fun (n : Nat) => (n : Int)
noncomputable def closRows (ps : List P) (regs : Nat) (rs : List Row) : Bool := rs.all (closRow ps regs) && decide (distinct (casts (regsOf rs)) = rs.length)
theorem dlt (a b : Nat) : decide ((a : Int) < (b : Int)) = decide (a < b) := by
  rw [Bool.eq_iff_iff, decide_eq_true_eq, decide_eq_true_eq]; exact Int.ofNat_lt
theorem deq (a b : Nat) : decide ((a : Int) = (b : Int)) = decide (a = b) := by
  rw [Bool.eq_iff_iff, decide_eq_true_eq, decide_eq_true_eq]; exact Int.ofNat_inj
theorem all_bool {α : Type} (l : List α) (f : α → Bool) : (l.map f).all id = l.all f := by rw [List.all_map]; rfl

section
variable {n : Nat} {p : Option Pot} {Q : V → Option Pot → Prop}
theorem sp7n {v b : Nat} (h : Q (.bool (decide (v < b))) p) : SP (n + 2) 7 [iv v, iv b] p Q := by
  refine sp7 ?_
  rw [show decide ((0 : Int) ≤ (v : Int)) = true from decide_eq_true (Int.natCast_nonneg v), Bool.true_and, dlt]
  exact h

theorem sp5 {is : List I} {place : Nat} {i : I} (hi : is[place]? = some i) (hp : place < 1000) (h : Q (.lst (nts (behind i place))) p) : SP (n + 3) 5 [.lst (is.map I.v), iv place] p Q := by
  refine sp_of rfl rfl ⟨sm hp, i.v, item_map hi, ⟨sm0, _, rfl, ?_⟩⟩
  have hE := ends_code i
  unfold behind at h
  refine brb (fun q => ?_) fun q => ?_
  · have e : i.ends = true := hE.symm.trans q
    rw [e, if_pos rfl] at h
    refine sp4 ?_
    cases hl : i.label with
    | none => rw [hl] at h; exact brf (brf h)
    | some l =>
      rw [hl] at h
      exact brt ⟨[], rfl, brt ⟨nle rfl, h⟩⟩
  · have e : i.ends = false := hE.symm.trans q
    rw [e, if_neg Bool.false_ne_true] at h
    refine sp4 ?_
    cases hl : i.label with
    | none => rw [hl] at h; exact brf (brf h)
    | some l =>
      rw [hl] at h
      refine brt ⟨[((place + 1 : Nat) : Int)], rfl, ?_⟩
      have ed : decide ((l : Int) ∈ [((place + 1 : Nat) : Int)]) = decide (l ∈ [place + 1]) := dmem l [place + 1]
      replace h : Q (.lst (nts (if l ∈ [place + 1] then [place + 1] else [place + 1] ++ [l]))) p := h
      show brP (!decide ((l : Int) ∈ [((place + 1 : Nat) : Int)])) _ _
      by_cases hm : l ∈ [place + 1]
      · rw [if_pos hm] at h
        rw [decide_eq_true hm] at ed
        rw [ed]
        exact brf h
      · rw [if_neg hm] at h
        rw [decide_eq_false hm] at ed
        rw [ed]
        exact brt ⟨nle rfl, h⟩

theorem mask_loop {C : Calls} {v : V} {Qf : Fl → St → Prop} : ∀ (l : List Nat) (m : Nat) (o : Option V), (∀ x ∈ l, x ≤ 60) → (∀ o, Qf .next ⟨[(41, .imm v), (12, .imm (iv (l.foldl (fun m r => m ||| 2 ^ r) m)))] ++ (match o with | none => [] | some x => [(40, .imm x)]), p⟩) →
    forL (fun Q σ => wpSs C [(.asg 12 (.bin .BitOr (.var 12) (.bin .LShift (.int 1) (.var 40))))] Q σ) [40] true (nts l) Qf ⟨[(41, .imm v), (12, .imm (iv m))] ++ (match o with | none => [] | some x => [(40, .imm x)]), p⟩
  | [], m, o, _, h => h o
  | r :: l, m, o, hl, h => by
    have hr := hl r (List.mem_cons_self ..)
    have e0 : (1 * 2 ^ ((r : Int)).toNat : Int) = ((2 ^ r : Nat) : Int) := by rw [Int.toNat_natCast, Int.one_mul]; simp
    have e3 : V.int (((m : Int).toNat ||| (1 * 2 ^ ((r : Int)).toNat : Int).toNat : Nat) : Int) = iv (m ||| 2 ^ r) := by rw [e0]; rfl
    have go := mask_loop (C := C) (v := v) (Qf := Qf) l (m ||| 2 ^ r) (some (iv r)) (fun x hx => hl x (List.mem_cons_of_mem _ hx)) h
    rw [← e3] at go
    cases o with
    | none => exact ⟨⟨sm1, Int.natCast_nonneg r, Int.ofNat_le.mpr hr⟩, ⟨Int.natCast_nonneg m, by rw [e0]; exact Int.natCast_nonneg _⟩, go⟩
    | some x => exact ⟨⟨sm1, Int.natCast_nonneg r, Int.ofNat_le.mpr hr⟩, ⟨Int.natCast_nonneg m, by rw [e0]; exact Int.natCast_nonneg _⟩, go⟩
theorem sp13 {l : List Nat} (hl : ∀ x ∈ l, x ≤ 60) (h : Q (iv (maskOf l)) p) : SP (n + 1) 13 [.lst (nts l)] p Q := by
  refine sp_of rfl rfl (mask_loop l 0 none hl fun o => ?_)
  exact h

theorem sp8 {r : List Nat} {num : Nat} {q : P} (hr : r.length ≤ 2) (h : Q (.bool (allLt r q.regs)) p) : SP (n + 3) 8 [.tup (nts r), q.v num] p Q := by
  refine sp_of rfl rfl (brt ⟨by rw [nts_len]; omega, comp_m iv (fun x => .bool (decide (x < q.regs))) r [] (fun a zz Q h => ⟨rfl, sp7n h⟩) ⟨r.map fun x => decide (x < q.regs), by rw [List.nil_append, List.map_map]; rfl, ?_⟩⟩)
  rw [all_bool]
  exact h
end
end Mine
end

section
open PySem
set_option Elab.async false
set_option maxRecDepth 100000
set_option tactic.hygienic false
set_option linter.unusedVariables false
set_option linter.unusedSimpArgs false
set_option maxHeartbeats 4000000
namespace Mine

theorem brn {c : Prop} [Decidable c] {t e : Prop} (h : ¬ c → t) (h' : c → e) : brP (!decide c) t e := by
  by_cases q : c
  · rw [decide_eq_true q]; exact brf (h' q)
  · rw [decide_eq_false q]; exact brt (h q)
theorem brnb {b : Bool} {t e : Prop} (h : b = false → t) (h' : b = true → e) : brP (!b) t e := by
  cases b
  · exact brt (h rfl)
  · exact brf (h' rfl)

section
variable {n : Nat} {p : Option Pot} {Q : V → Option Pot → Prop} {ps : List P} {cs ns : List V} {q : P} {num : Nat}
theorem sp9 {x : Row} (hps : ps.length ≤ 2) (w : x.2.2.length ≤ 2) (h : Q (.bool (closRow ps q.regs x)) p) : SP (n + 4) 9 [uv ps cs ns, q.v num, rowV x] p Q := by
  have hl : (pvs 0 ps).length < 2 ^ 20 := by rw [pvs_len]; lia
  refine sp_of rfl rfl (brf ⟨nle rfl, brf ⟨sm0, _, rfl, ⟨rfl, sp7n ?_⟩⟩⟩)
  refine brn (fun e => ?_) fun e => ?_
  · rw [show closRow ps q.regs x = false by simp [closRow, e]] at h; exact h
  refine ⟨sm1, _, rfl, ⟨rfl, ⟨hl, sp7n ?_⟩⟩⟩
  refine brn (fun e1 => ?_) fun e1 => ?_
  · rw [pvs_len] at e1
    rw [show closRow ps q.regs x = false by simp [closRow, e1]] at h
    exact brn (fun zz => h) fun e2 => absurd (by rw [pvs_len] at e2; exact e2) e1
  rw [pvs_len] at e1
  refine ⟨sm2, _, rfl, sp8 w ?_⟩
  refine brnb (fun e2 => ?_) fun e2 => ?_
  · rw [show closRow ps q.regs x = false by simp [closRow, e2]] at h; exact h
  have hx : ps[x.2.1]? = some ps[x.2.1] := List.getElem?_eq_getElem e1
  have hg : itemAt (pvs 0 ps) (x.2.1 : Int) = some (ps[x.2.1].v (0 + x.2.1)) := by rw [it_nat, pvs_get, hx]; rfl
  refine ⟨sm2, _, rfl, ⟨by rw [nts_len]; lia, ⟨rfl, ⟨sm1, _, rfl, ⟨sm (by lia), _, hg, ⟨rfl, ?_⟩⟩⟩⟩⟩⟩
  have hf : freeOf ps x.2.1 = ps[x.2.1].free := by unfold freeOf; rw [hx]
  rw [show closRow ps q.regs x = decide (((nts x.2.2).length : Int) = (ps[x.2.1].free : Int)) by rw [deq, nts_len]; simp [closRow, e, e1, e2, hf]] at h
  exact h

theorem sp10 {x : Row} {rs : List Row} (hps : ps.length ≤ 2) (hl : rs.length ≤ 1) (w : ∀ y ∈ x :: rs, y.2.2.length ≤ 2) (h : Q (.bool (closRows ps q.regs (x :: rs))) p) : SP (n + 5) 10 [uv ps cs ns, q.v num, .tup ((x :: rs).map rowV)] p Q := by
  have hl2 : (x :: rs).length ≤ 2 := by rw [List.length_cons]; lia
  have lm : ((x :: rs).map rowV).length < 2 ^ 20 := by rw [List.length_map]; lia
  refine sp_of rfl rfl (brf (brf ⟨lm, comp_m rowV (fun y => .bool (closRow ps q.regs y)) (x :: rs) [] (fun a m Q h => sp9 hps (w a m) h) ⟨(x :: rs).map (closRow ps q.regs), by rw [List.nil_append, List.map_map]; rfl, ?_⟩⟩))
  rw [all_bool]
  refine brnb (fun e => ?_) fun e => ?_
  · rw [show closRows ps q.regs (x :: rs) = false by unfold closRows; rw [e]; rfl] at h; exact h
  refine ⟨lm, comp_m rowV (fun y => iv y.1) (x :: rs) [] (fun a zz Q h => ⟨sm0, _, rfl, h⟩) ?_⟩
  have e2 : ([] ++ (x :: rs).map fun y => iv y.1) = (casts (regsOf (x :: rs))).map V.int := by rw [List.nil_append]; unfold casts regsOf; rw [List.map_map, List.map_map]; rfl
  refine ⟨casts (regsOf (x :: rs)), e2, by unfold casts regsOf; rw [List.length_map, List.length_map]; lia, ⟨by rw [List.nil_append, List.length_map]; lia, ?_⟩⟩
  have e3 : (([] ++ (x :: rs).map fun y => iv y.1 : List V).length : Int) = ((x :: rs).length : Int) := by rw [List.nil_append, List.length_map]
  rw [show closRows ps q.regs (x :: rs) = decide (distinct (casts (regsOf (x :: rs))) = (([] ++ (x :: rs).map fun y => iv y.1 : List V).length : Int)) by unfold closRows; rw [e, e3, Bool.true_and]] at h
  exact h

noncomputable def OpFit (ps : List P) (cs ns : List V) (q : P) (num : Nat) (p : Option Pot) (n : Nat) (op : Nat × V) (b : Bool) : Prop := ∀ Q : V → Option Pot → Prop, Q (.bool b) p → SP (n + 6) 11 [uv ps cs ns, q.v num, iv 3, .str op.1, op.2] p Q
theorem fit_reg {s : Nat} (hs : s = 13 ∨ s = 15) (x : Nat) : OpFit ps cs ns q num p n (s, iv x) (decide (x < q.regs)) := fun Q h => by
  rcases hs with rfl | rfl
  · exact sp_of rfl rfl (brt ⟨rfl, sp7n h⟩)
  · exact sp_of rfl rfl (brt ⟨rfl, sp7n h⟩)
theorem fit_regs {r : List Nat} (hr : r.length ≤ 2) : OpFit ps cs ns q num p n (17, .tup (nts r)) (allLt r q.regs) := fun Q h => sp_of rfl rfl (brf (brt (sp8 hr h)))
theorem fit_rows {x : Row} {rs : List Row} (hps : ps.length ≤ 2) (hl : rs.length ≤ 1) (w : ∀ y ∈ x :: rs, y.2.2.length ≤ 2) : OpFit ps cs ns q num p n (18, .tup ((x :: rs).map rowV)) (closRows ps q.regs (x :: rs)) := fun Q h => sp_of rfl rfl (brf (brf (brt (sp10 hps hl w h))))
theorem fit_tab (hps : ps.length ≤ 2) (hcs : cs.length ≤ 2) (hns : ns.length ≤ 2) (hb : q.body.length ≤ 5) (x : Nat) :
    OpFit ps cs ns q num p n (14, iv x) (decide (x < cs.length)) ∧ OpFit ps cs ns q num p n (2, iv x) (decide (x < ns.length)) ∧ OpFit ps cs ns q num p n (5, iv x) (decide (x < q.free)) ∧
    OpFit ps cs ns q num p n (16, iv x) (decide (x < ps.length)) ∧ OpFit ps cs ns q num p n (19, iv x) (decide (x < 3)) ∧ OpFit ps cs ns q num p n (20, iv x) (decide (x < q.body.length)) := by
  have l1 : cs.length < 2 ^ 20 := by lia
  have l2 : ns.length < 2 ^ 20 := by lia
  have l3 : (pvs 0 ps).length < 2 ^ 20 := by rw [pvs_len]; lia
  have l4 : (q.body.map I.v).length < 2 ^ 20 := by rw [List.length_map]; lia
  rw [show ps.length = (pvs 0 ps).length from (pvs_len ps 0).symm, show q.body.length = (q.body.map I.v).length from (List.length_map (f := I.v) (as := q.body)).symm]
  refine ⟨fun Q h => ?_, fun Q h => ?_, fun Q h => ?_, fun Q h => ?_, fun Q h => ?_, fun Q h => ?_⟩
  all_goals exact sp_of rfl rfl (brf (brf (brf ⟨rfl, ⟨l1, ⟨rfl, ⟨l2, ⟨rfl, ⟨rfl, ⟨l3, ⟨rfl, ⟨l4, sp7n h⟩⟩⟩⟩⟩⟩⟩⟩⟩)))
end
end Mine
end

section
open PySem
set_option Elab.async false
set_option backward.match.sparseCases false
set_option maxRecDepth 100000
set_option tactic.hygienic false
set_option genSizeOf false
set_option genInjectivity false
set_option linter.unusedVariables false
set_option linter.unusedSimpArgs false
set_option maxHeartbeats 4000000
namespace Mine

noncomputable def fitL (ps : List P) (cs ns : List V) (q : P) : I → List Bool
  | .const t k => [decide (t < q.regs), decide (k < cs.length)]
  | .move t s => [decide (t < q.regs), decide (s < q.regs)]
  | .glob t k => [decide (t < q.regs), decide (k < ns.length)]
  | .setg k s => [decide (k < ns.length), decide (s < q.regs)]
  | .defi k s => [decide (k < ns.length), decide (s < q.regs)]
  | .free t k => [decide (t < q.regs), decide (k < q.free)]
  | .clos t k r => [decide (t < q.regs), decide (k < ps.length), allLt r q.regs]
  | .fix rs => [closRows ps q.regs rs]
  | .prim t k r => [decide (t < q.regs), decide (k < 3), allLt r q.regs]
  | .jump l => [decide (l < q.body.length)]
  | .brf s l => [decide (s < q.regs), decide (l < q.body.length)]
  | .call a b r => [decide (a < q.regs), decide (b < q.regs), allLt r q.regs]
  | .give s r => [decide (s < q.regs), allLt r q.regs]
noncomputable def closOk (ps : List P) (q : P) : I → Bool
  | .clos t k r => closRow ps q.regs (t, k, r)
  | .const .. => true | .move .. => true | .glob .. => true | .setg .. => true | .defi .. => true | .free .. => true | .fix _ => true | .prim .. => true | .jump _ => true | .brf .. => true | .call .. => true | .give .. => true
noncomputable def fits (ps : List P) (cs ns : List V) (q : P) (i : I) : Bool := (fitL ps cs ns q i).all id && closOk ps q i

/- a unit's parts are small -/
structure Lim (ps : List P) (cs ns : List V) (q : P) : Prop where
  ps : ps.length ≤ 2
  cs : cs.length ≤ 2
  ns : ns.length ≤ 2
  body : q.body.length ≤ 5
section
variable {n : Nat} {p : Option Pot} {Q : V → Option Pot → Prop} {ps : List P} {cs ns : List V} {q : P} {num : Nat}
noncomputable def FitAll (ps : List P) (cs ns : List V) (q : P) (num : Nat) (p : Option Pot) (n : Nat) : List (Nat × V) → List Bool → Prop
  | [], [] => True
  | o :: os, b :: bs => OpFit ps cs ns q num p n o b ∧ FitAll ps cs ns q num p n os bs
  | _, _ => False
theorem fit_all {i : I} (L : Lim ps cs ns q) (w : i.wf) : FitAll ps cs ns q num p n i.ops (fitL ps cs ns q i) := by
  have T := fit_tab (num := num) (p := p) (n := n) L.ps L.cs L.ns L.body
  cases i with
  | const t k => exact ⟨fit_reg (.inl rfl) t, (T k).1, trivial⟩
  | move t s => exact ⟨fit_reg (.inl rfl) t, fit_reg (.inr rfl) s, trivial⟩
  | glob t k => exact ⟨fit_reg (.inl rfl) t, (T k).2.1, trivial⟩
  | setg k s => exact ⟨(T k).2.1, fit_reg (.inr rfl) s, trivial⟩
  | defi k s => exact ⟨(T k).2.1, fit_reg (.inr rfl) s, trivial⟩
  | free t k => exact ⟨fit_reg (.inl rfl) t, (T k).2.2.1, trivial⟩
  | clos t k r => exact ⟨fit_reg (.inl rfl) t, (T k).2.2.2.1, fit_regs w, trivial⟩
  | fix rs =>
    rcases w with ⟨x, rfl, w⟩ | ⟨x, y, rfl, w, w2⟩
    · exact ⟨fit_rows L.ps (nle rfl) fun z hz => by rw [List.mem_singleton.mp hz]; exact w, trivial⟩
    · exact ⟨fit_rows L.ps (nle rfl) fun z hz => by
        rcases List.mem_cons.mp hz with rfl | hz
        · exact w
        · rw [List.mem_singleton.mp hz]; exact w2, trivial⟩
  | prim t k r => exact ⟨fit_reg (.inl rfl) t, (T k).2.2.2.2.1, fit_regs w, trivial⟩
  | jump l => exact ⟨(T l).2.2.2.2.2, trivial⟩
  | brf s l => exact ⟨fit_reg (.inr rfl) s, (T l).2.2.2.2.2, trivial⟩
  | call a b r => exact ⟨fit_reg (.inr rfl) a, fit_reg (.inr rfl) b, fit_regs w, trivial⟩
  | give s r => exact ⟨fit_reg (.inr rfl) s, fit_regs w, trivial⟩
theorem ops_loop {v16 : V} {Qf : Fl → St → Prop} : ∀ (l : List (Nat × V)) (bs : List Bool) (o : Option (V × V)), FitAll ps cs ns q num p n l bs →
    (bs.all id = true → ∀ o : Option (V × V), Qf .next ⟨[(50, .imm (uv ps cs ns)), (37, .imm (q.v num)), (36, .imm (iv 3)), (16, .imm v16)] ++ (match o with | none => [] | some x => [(45, .imm x.1), (30, .imm x.2)]), p⟩) →
    (bs.all id = false → ∀ σ c, σ.pot = p → Qf (.ret (.str c)) σ) →
    forL (fun Q σ => wpSs (SP (n + 6)) [(.iff (.not (.call (.user 11) [(.var 50), (.var 37), (.var 36), (.var 45), (.var 30)])) [(.ret (.var 45))] [])] Q σ) [45, 30] false (l.map pairV) Qf
      ⟨[(50, .imm (uv ps cs ns)), (37, .imm (q.v num)), (36, .imm (iv 3)), (16, .imm v16)] ++ (match o with | none => [] | some x => [(45, .imm x.1), (30, .imm x.2)]), p⟩
  | [], [], o, _, h, _ => h rfl o
  | [], _ :: _, _, f, _, _ => f.elim
  | _ :: _, [], _, f, _, _ => f.elim
  | op :: l, b :: bs, o, f, h, h' => by
    have go := ops_loop (v16 := v16) (Qf := Qf) l bs (some (.str op.1, op.2)) f.2
    have step : brP (!b) (Qf (.ret (.str op.1)) ⟨[(50, .imm (uv ps cs ns)), (37, .imm (q.v num)), (36, .imm (iv 3)), (16, .imm v16), (45, .imm (.str op.1)), (30, .imm op.2)], p⟩)
        (forL (fun Q σ => wpSs (SP (n + 6)) [(.iff (.not (.call (.user 11) [(.var 50), (.var 37), (.var 36), (.var 45), (.var 30)])) [(.ret (.var 45))] [])] Q σ) [45, 30] false (l.map pairV) Qf
          ⟨[(50, .imm (uv ps cs ns)), (37, .imm (q.v num)), (36, .imm (iv 3)), (16, .imm v16), (45, .imm (.str op.1)), (30, .imm op.2)], p⟩) := by
      refine brnb (fun e => ?_) fun e => ?_
      · exact h' (by rw [List.all_cons, e]; rfl) _ _ rfl
      · refine go (fun ha => h (by rw [List.all_cons, e, ha]; rfl)) fun ha => h' (by rw [List.all_cons, ha, Bool.and_false])
    cases o with
    | none => exact ⟨rfl, f.1 _ step⟩
    | some x => exact ⟨rfl, f.1 _ step⟩

theorem tail12 {i : I} (L : Lim ps cs ns q) (w : i.wf) (h : ∀ v, (fits ps cs ns q i = true → v = .none) → (fits ps cs ns q i = false → ∃ c, v = .str c) → Q v p) :
    wpSs (SP (n + 6)) [(.fr [45, 30] false false (.call (.user 1) [(.var 16)]) [(.iff (.not (.call (.user 11) [(.var 50), (.var 37), (.var 36), (.var 45), (.var 30)])) [(.ret (.var 45))] [])]), (.iff (.and [(.cmp .Eq (.idx (.var 16) (.int 0)) (.str 6)), (.not (.call (.user 9) [(.var 50), (.var 37), (.slF (.var 16) 1)]))]) [(.ret (.str 6))] []), (.ret .none)]
      (fun fl σ' => match fl with | .ret v => Q v σ'.pot | .next => Q .none σ'.pot) ⟨[(50, .imm (uv ps cs ns)), (37, .imm (q.v num)), (36, .imm (iv 3)), (16, .imm i.v)], p⟩ := by
  refine sp1 (n := n + 5) (ops_loop i.ops (fitL ps cs ns q i) none (fit_all L w) (fun ha o => ?_) fun ha σ c hσ => ?_)
  · have hn : closOk ps q i = true → Q .none p := fun e => h _ (fun zz => rfl) fun e' => by unfold fits at e'; rw [ha, e] at e'; cases e'
    cases i with
    | clos t k r =>
      have hs : closOk ps q (.clos t k r) = false → Q (.str 6) p := fun e => h _ (fun e' => by unfold fits at e'; rw [ha, e] at e'; cases e') fun zz => ⟨6, rfl⟩
      exact ⟨sm0, _, rfl, brt ⟨⟨nle rfl, nle rfl, nle rfl⟩, sp9 (x := (t, k, r)) L.ps w (brnb hs hn)⟩⟩
    | _ => exact ⟨sm0, _, rfl, brf (brf (hn rfl))⟩
  · show Q (.str c) σ.pot
    rw [show σ.pot = p from hσ]
    exact h _ (fun e => by unfold fits at e; rw [ha] at e; cases e) fun zz => ⟨c, rfl⟩
theorem sp12 {i : I} (L : Lim ps cs ns q) (w : i.wf) (h : ∀ v, (fits ps cs ns q i = true → v = .none) → (fits ps cs ns q i = false → ∃ c, v = .str c) → Q v p) : SP (n + 7) 12 [uv ps cs ns, q.v num, iv 3, i.v] p Q := by
  have t := tail12 (n := n) (num := num) L w h
  cases i <;> exact sp_of rfl rfl (brf (brf ⟨sm0, _, rfl, brf ⟨nle rfl, ⟨sm0, _, rfl, ⟨nle rfl, brf t⟩⟩⟩⟩))
end
end Mine
end

section
open PySem
set_option Elab.async false
set_option backward.match.sparseCases false
set_option maxRecDepth 100000
set_option tactic.hygienic false
set_option genSizeOf false
set_option genInjectivity false
set_option linter.unusedVariables false
set_option linter.unusedSimpArgs false
set_option maxHeartbeats 4000000
namespace Mine

/- a place is reached with these registers written -/
inductive Reach (body : List I) (e0 : List Int) : Nat → List Int → Prop
  | init : Reach body e0 0 e0
  | step {pl : Nat} {h : List Int} {i : I} {q : Nat} (r : Reach body e0 pl h) (hi : body[pl]? = some i) (hq : q ∈ behind i pl) : Reach body e0 q (fourOf (h ++ casts i.writes))
theorem four_mem {r : Nat} {l : List Int} : (r : Int) ∈ fourOf l ↔ r < 4 ∧ (r : Int) ∈ l := by
  unfold fourOf
  rw [List.mem_filter, decide_eq_true_eq]
  simp only [List.mem_cons, List.not_mem_nil, or_false]
  constructor
  · rintro ⟨h, e⟩; exact ⟨by lia, e⟩
  · rintro ⟨h, e⟩; exact ⟨by lia, e⟩
theorem bit_lt {m r : Nat} (h : m < 16) (hb : m.testBit r = true) : r < 4 := by
  rcases Nat.lt_or_ge r 4 with q | q
  · exact q
  · have : m < 2 ^ r := Nat.lt_of_lt_of_le h (Nat.pow_le_pow_right (by lia) q : 2 ^ 4 ≤ 2 ^ r)
    rw [Nat.testBit_lt_two_pow this] at hb; cases hb

@[reducible] noncomputable def Found := List (Option Nat)
noncomputable def fv : Option Nat → V
  | none => .int (-1)
  | some m => iv m
noncomputable def wgt : Option Nat → Nat
  | none => 16
  | some m => m
noncomputable def mu (f : Found) (w : List Nat) : Nat := (f.map wgt).sum + w.length
noncomputable def updW (after : Nat) (s : Found × List Nat) (q : Nat) : Found × List Nat := match s.1[q]? with
  | some (some m) => if m &&& after = m then s else (s.1.set q (some (m &&& after)), s.2 ++ [q])
  | _ => (s.1.set q (some after), s.2 ++ [q])
theorem sum_set : ∀ {l : List Nat} {q a b : Nat}, l[q]? = some b → a < b → (l.set q a).sum + 1 ≤ l.sum
  | [], q, a, b, h, _ => by simp at h
  | x :: l, 0, a, b, h, hl => by cases h; simp; lia
  | x :: l, q + 1, a, b, h, hl => by
    have := sum_set (l := l) (by simpa using h) hl
    simp only [List.set_cons_succ, List.sum_cons]; lia

/- the state of the walk: all but what is behind pl -/
structure WInv (body : List I) (e0 : List Int) (en : Nat) (f : Found) (w : List Nat) : Prop where
  len : f.length = body.length
  bnd : ∀ (p m : Nat), f[p]? = some (some m) → m < 16
  up : ∀ (p m : Nat), f[p]? = some (some m) → (∃ h, Reach body e0 p h) ∧ ∀ r : Nat, r < 4 → (∀ h, Reach body e0 p h → (r : Int) ∈ h) → m.testBit r = true
  wt : ∀ p ∈ w, ∃ m : Nat, f[p]? = some (some m)
  st : ∃ m : Nat, f[0]? = some (some m) ∧ ∀ r, m.testBit r = true → r < en
noncomputable def Closed (body : List I) (f : Found) (p m : Nat) : Prop := ∀ i, body[p]? = some i → ∀ q ∈ behind i p, ∃ m' : Nat, f[q]? = some (some m') ∧ ∀ r, m'.testBit r = true → m.testBit r = true ∨ r ∈ i.writes
structure LInv (body : List I) (e0 : List Int) (en pl m0 after : Nat) (don : List Nat) (f : Found) (w : List Nat) : Prop where
  W : WInv body e0 en f w
  B : ∀ (p m : Nat), p ≠ pl → f[p]? = some (some m) → p ∉ w → Closed body f p m
  D : ∀ q ∈ don, ∃ m' : Nat, f[q]? = some (some m') ∧ ∀ r, m'.testBit r = true → after.testBit r = true
  P : pl ∈ w ∨ f[pl]? = some (some m0)

section
variable {body : List I} {e0 : List Int} {en pl m0 after : Nat} {don : List Nat} {f : Found} {w : List Nat}
/- found[q] shrinks to m -/
theorem LInv.change (L : LInv body e0 en pl m0 after don f w) {q m : Nat} (hq : q < body.length) (hm : m < 16) (ho : ∀ m' : Nat, f[q]? = some (some m') → ∀ r, m.testBit r = true → m'.testBit r = true) (ha : ∀ r, m.testBit r = true → after.testBit r = true)
    (hu : (∃ h, Reach body e0 q h) ∧ ∀ r : Nat, r < 4 → (∀ h, Reach body e0 q h → (r : Int) ∈ h) → m.testBit r = true) : LInv body e0 en pl m0 after (don ++ [q]) (f.set q (some m)) (w ++ [q]) := by
  have hlen : q < f.length := by rw [L.W.len]; exact hq
  have hself : (f.set q (some m))[q]? = some (some m) := by rw [List.getElem?_set_self hlen]
  have hoth : ∀ p : Nat, p ≠ q → (f.set q (some m))[p]? = f[p]? := fun p hp => List.getElem?_set_ne (Ne.symm hp)
  have keep : ∀ (p m1 : Nat), f[p]? = some (some m1) → ∃ m2 : Nat, (f.set q (some m))[p]? = some (some m2) ∧ ∀ r, m2.testBit r = true → m1.testBit r = true := fun p m1 e => by
    by_cases hp : p = q
    · subst hp; exact ⟨m, hself, ho m1 e⟩
    · exact ⟨m1, (hoth p hp).trans e, fun zz h => h⟩
  refine ⟨⟨by rw [List.length_set]; exact L.W.len, fun p m1 e => ?_, fun p m1 e => ?_, fun p hp => ?_, ?_⟩, fun p m1 hne e hnw => ?_, fun q' hq' => ?_, ?_⟩
  · by_cases hp : p = q
    · subst hp; rw [hself] at e; cases e; exact hm
    · rw [hoth p hp] at e; exact L.W.bnd p m1 e
  · by_cases hp : p = q
    · subst hp; rw [hself] at e; cases e; exact hu
    · rw [hoth p hp] at e; exact L.W.up p m1 e
  · rcases List.mem_append.mp hp with hp | hp
    · obtain ⟨m1, e⟩ := L.W.wt p hp
      obtain ⟨m2, e2, _⟩ := keep p m1 e
      exact ⟨m2, e2⟩
    · rw [List.mem_singleton.mp hp]; exact ⟨m, hself⟩
  · obtain ⟨m1, e, h1⟩ := L.W.st
    obtain ⟨m2, e2, h2⟩ := keep 0 m1 e
    exact ⟨m2, e2, fun r h => h1 r (h2 r h)⟩
  · have hpq : p ≠ q := fun h => hnw (by rw [h]; exact List.mem_append_right _ (List.mem_singleton.mpr rfl))
    rw [hoth p hpq] at e
    intro i hi q' hq'
    obtain ⟨m1', e1, h1⟩ := L.B p m1 hne e (fun h => hnw (List.mem_append_left _ h)) i hi q' hq'
    obtain ⟨m2, e2, h2⟩ := keep q' m1' e1
    exact ⟨m2, e2, fun r h => h1 r (h2 r h)⟩
  · rcases List.mem_append.mp hq' with hq' | hq'
    · obtain ⟨m1, e, h1⟩ := L.D q' hq'
      obtain ⟨m2, e2, h2⟩ := keep q' m1 e
      exact ⟨m2, e2, fun r h => h1 r (h2 r h)⟩
    · rw [List.mem_singleton.mp hq']; exact ⟨m, hself, ha⟩
  · by_cases hp : pl = q
    · left; rw [hp]; exact List.mem_append_right _ (List.mem_singleton.mpr rfl)
    · rcases L.P with h | h
      · exact .inl (List.mem_append_left _ h)
      · exact .inr ((hoth pl hp).trans h)
/- one later place -/
theorem LInv.upd (L : LInv body e0 en pl m0 after don f w) {q : Nat} (hq : q < body.length) (ha : after < 16) (hu : (∃ h, Reach body e0 q h) ∧ ∀ r : Nat, r < 4 → (∀ h, Reach body e0 q h → (r : Int) ∈ h) → after.testBit r = true) :
    LInv body e0 en pl m0 after (don ++ [q]) (updW after (f, w) q).1 (updW after (f, w) q).2 ∧ mu (updW after (f, w) q).1 (updW after (f, w) q).2 ≤ mu f w := by
  have hlen : q < f.length := by rw [L.W.len]; exact hq
  have mu_set : ∀ (o : Option Nat) (m : Nat), f[q]? = some o → m < wgt o → mu (f.set q (some m)) (w ++ [q]) ≤ mu f w := fun o m e hm => by
    have e1 : (f.map wgt)[q]? = some (wgt o) := by rw [List.getElem?_map, e]; rfl
    have := sum_set e1 hm
    unfold mu
    rw [List.map_set, List.length_append, List.length_singleton]
    show ((f.map wgt).set q m).sum + _ ≤ _
    lia
  have main : ∀ o, f[q]? = some o → LInv body e0 en pl m0 after (don ++ [q]) (updW after (f, w) q).1 (updW after (f, w) q).2 ∧ mu (updW after (f, w) q).1 (updW after (f, w) q).2 ≤ mu f w := fun o e => by
    cases o with
    | none =>
      have e' : updW after (f, w) q = (f.set q (some after), w ++ [q]) := by unfold updW; rw [e]
      rw [e']
      exact ⟨L.change hq ha (fun m' h => by rw [e] at h; cases h) (fun zz h => h) hu, mu_set none after e ha⟩
    | some m =>
      by_cases hm : m &&& after = m
      · have e' : updW after (f, w) q = (f, w) := by unfold updW; rw [e]; exact if_pos hm
        rw [e']
        refine ⟨⟨L.W, L.B, fun q' hq' => ?_, L.P⟩, Nat.le_refl _⟩
        rcases List.mem_append.mp hq' with hq' | hq'
        · exact L.D q' hq'
        · rw [List.mem_singleton.mp hq']
          refine ⟨m, e, fun r h => ?_⟩
          rw [← hm, Nat.testBit_and] at h
          exact (Bool.and_eq_true_iff.mp h).2
      · have e' : updW after (f, w) q = (f.set q (some (m &&& after)), w ++ [q]) := by unfold updW; rw [e]; exact if_neg hm
        rw [e']
        have hle : m &&& after ≤ m := Nat.and_le_left
        have hlt : m &&& after < m := Nat.lt_of_le_of_ne hle hm
        refine ⟨L.change hq (Nat.lt_trans hlt (L.W.bnd q m e)) (fun m' h r hr => ?_) (fun r hr => ?_) ⟨hu.1, fun r hr h => ?_⟩, mu_set (some m) _ e hlt⟩
        · rw [e] at h; cases h
          rw [Nat.testBit_and] at hr
          exact (Bool.and_eq_true_iff.mp hr).1
        · rw [Nat.testBit_and] at hr
          exact (Bool.and_eq_true_iff.mp hr).2
        · rw [Nat.testBit_and, (L.W.up q m e).2 r hr h, hu.2 r hr h]; rfl
  exact main _ (List.getElem?_eq_getElem hlen)
/- what stands at the end -/
theorem WInv.last (W : WInv body e0 en f []) (B : ∀ (p m : Nat), f[p]? = some (some m) → Closed body f p m) (h0 : ∀ r, r < en → (r : Int) ∈ e0) : ∀ {p h}, Reach body e0 p h → ∃ m : Nat, f[p]? = some (some m) ∧ ∀ r, m.testBit r = true → (r : Int) ∈ h := by
  intro p h R
  induction R with
  | init => obtain ⟨m, e, h1⟩ := W.st; exact ⟨m, e, fun r hr => h0 r (h1 r hr)⟩
  | @step pl h i q R hi hq ih =>
    obtain ⟨m, e, h1⟩ := ih
    obtain ⟨m', e', h2⟩ := B pl m e i hi q hq
    refine ⟨m', e', fun r hr => four_mem.mpr ⟨bit_lt (W.bnd q m' e') hr, ?_⟩⟩
    rcases h2 r hr with h3 | h3
    · exact List.mem_append_left _ (h1 r h3)
    · exact List.mem_append_right _ (mem_cast.mpr h3)
end
end Mine
end

section
open PySem
set_option Elab.async false
set_option maxRecDepth 100000
set_option tactic.hygienic false
set_option genSizeOf false
set_option genInjectivity false
set_option linter.unusedVariables false
set_option linter.unusedSimpArgs false
set_option maxHeartbeats 4000000
namespace Mine

/- a procedure whose parts fit -/
structure GoodB (body : List I) : Prop where
  len : body.length ≤ 5
  wf : ∀ i ∈ body, i.wf
  wr : ∀ i ∈ body, ∀ r ∈ i.writes, r < 4
  rd : ∀ i ∈ body, ∀ r ∈ i.reads, r < 4
  nxt : ∀ (pl : Nat) (i : I), body[pl]? = some i → ∀ q ∈ behind i pl, q < body.length

theorem upd_len (after : Nat) (s : Found × List Nat) (q : Nat) : (updW after s q).1.length = s.1.length := by
  unfold updW
  split
  · split
    · rfl
    · exact List.length_set
  · exact List.length_set
theorem upd_wlen (after : Nat) (s : Found × List Nat) (q : Nat) : (updW after s q).2.length ≤ s.2.length + 1 := by
  unfold updW
  split
  · split
    · exact Nat.le_succ _
    · rw [List.length_append]; exact Nat.le_refl _
  · rw [List.length_append]; exact Nat.le_refl _
theorem map_set_fv (f : Found) (q : Nat) (o : Option Nat) : (f.map fv).set q (fv o) = (f.set q o).map fv := (List.map_set ..).symm

section
variable {C : Calls} {p : Option Pot} {pv bv v33 : V} {after : Nat} {Qf : Fl → St → Prop}
theorem inner14 (ha : after < 16) : ∀ (l : List Nat) (f : Found) (w : List Nat) (o : Option (V × V)), (∀ q ∈ l, q < f.length) → f.length ≤ 5 → w.length + l.length < 1000 →
    (∀ o : Option (V × V), Qf .next ⟨[(37, .imm pv), (17, .imm bv), (12, .own ((l.foldl (updW after) (f, w)).1.map fv)), (52, .own (nts (l.foldl (updW after) (f, w)).2)), (33, .imm v33), (0, .imm (iv after))] ++ (match o with | none => [] | some x => [(23, .imm x.1), (20, .imm x.2)]), p⟩) →
    forL (fun Q σ => wpSs C [(.asg 20 (.ite (.cmp .Eq (.idx (.var 12) (.var 23)) (.neg (.int 1))) (.var 0) (.bin .BitAnd (.idx (.var 12) (.var 23)) (.var 0)))), (.iff (.cmp .NotEq (.var 20) (.idx (.var 12) (.var 23))) [(.seti 12 (.var 23) (.var 20)), (.app 52 (.var 23))] [])] Q σ) [23] true (nts l) Qf
      ⟨[(37, .imm pv), (17, .imm bv), (12, .own (f.map fv)), (52, .own (nts w)), (33, .imm v33), (0, .imm (iv after))] ++ (match o with | none => [] | some x => [(23, .imm x.1), (20, .imm x.2)]), p⟩
  | [], f, w, o, _, _, _, h => h o
  | q :: l, f, w, o, hq, h5, hw, h => by
    have hqf := hq q (List.mem_cons_self ..)
    have hs : small (q : Int) := sm (by lia)
    have hlw : w.length + (l.length + 1) < 1000 := hw
    have hlen := upd_len after (f, w) q
    have hwl := upd_wlen after (f, w) q
    have go := fun v => inner14 ha l (updW after (f, w) q).1 (updW after (f, w) q).2 (some (iv q, v)) (fun x hx => by rw [hlen]; exact hq x (List.mem_cons_of_mem _ hx)) (by rw [hlen]; exact h5) (by simp only at hwl; lia) h
    have hg : f[q]? = some f[q] := List.getElem?_eq_getElem hqf
    have it : itemAt (f.map fv) (q : Int) = some (fv f[q]) := item_map hg
    have hlm : q < (f.map fv).length := by rw [List.length_map]; exact hqf
    have hnw : (nts w).length < 2 ^ 20 := by rw [nts_len]; lia
    have key : ∀ v, (updW after (f, w) q = (f.set q (some v), w ++ [q])) → forL (fun Q σ => wpSs C [(.asg 20 (.ite (.cmp .Eq (.idx (.var 12) (.var 23)) (.neg (.int 1))) (.var 0) (.bin .BitAnd (.idx (.var 12) (.var 23)) (.var 0)))), (.iff (.cmp .NotEq (.var 20) (.idx (.var 12) (.var 23))) [(.seti 12 (.var 23) (.var 20)), (.app 52 (.var 23))] [])] Q σ) [23] true (nts l) Qf
        ⟨[(37, .imm pv), (17, .imm bv), (12, .own ((f.map fv).set q (iv v))), (52, .own (nts w ++ [iv q])), (33, .imm v33), (0, .imm (iv after)), (23, .imm (iv q)), (20, .imm (iv v))], p⟩ := fun v e => by
      have g := go (iv v)
      rw [e] at g
      rw [show (f.map fv).set q (iv v) = (f.set q (some v)).map fv from map_set_fv f q (some v), show nts w ++ [iv q] = nts (w ++ [q]) from (nts_app w [q]).symm]
      exact g
    cases hx : f[q] with
    | none =>
      rw [hx] at hg it
      have e : updW after (f, w) q = (f.set q (some after), w ++ [q]) := by unfold updW; rw [hg]
      have fin := key after e
      have step : brP (!decide ((after : Int) = -1)) ((0 ≤ (q : Int) ∧ (q : Int) < ((f.map fv).length : Int) ∧ small (q : Int)) ∧ ((nts w).length < 2 ^ 20 ∧ forL (fun Q σ => wpSs C [(.asg 20 (.ite (.cmp .Eq (.idx (.var 12) (.var 23)) (.neg (.int 1))) (.var 0) (.bin .BitAnd (.idx (.var 12) (.var 23)) (.var 0)))), (.iff (.cmp .NotEq (.var 20) (.idx (.var 12) (.var 23))) [(.seti 12 (.var 23) (.var 20)), (.app 52 (.var 23))] [])] Q σ) [23] true (nts l) Qf
        ⟨[(37, .imm pv), (17, .imm bv), (12, .own ((f.map fv).set q (iv after))), (52, .own (nts w ++ [iv q])), (33, .imm v33), (0, .imm (iv after)), (23, .imm (iv q)), (20, .imm (iv after))], p⟩)) (forL (fun Q σ => wpSs C [(.asg 20 (.ite (.cmp .Eq (.idx (.var 12) (.var 23)) (.neg (.int 1))) (.var 0) (.bin .BitAnd (.idx (.var 12) (.var 23)) (.var 0)))), (.iff (.cmp .NotEq (.var 20) (.idx (.var 12) (.var 23))) [(.seti 12 (.var 23) (.var 20)), (.app 52 (.var 23))] [])] Q σ) [23] true (nts l) Qf
        ⟨[(37, .imm pv), (17, .imm bv), (12, .own (f.map fv)), (52, .own (nts w)), (33, .imm v33), (0, .imm (iv after)), (23, .imm (iv q)), (20, .imm (iv after))], p⟩) :=
        brn (fun zz => ⟨⟨Int.natCast_nonneg q, Int.ofNat_lt.mpr hlm, hs⟩, hnw, fin⟩) fun e => by lia
      cases o with
      | none => exact ⟨hs, _, it, brt ⟨hs, _, it, step⟩⟩
      | some x => exact ⟨hs, _, it, brt ⟨hs, _, it, step⟩⟩
    | some m =>
      rw [hx] at hg it
      have step : brP (!decide (((m &&& after : Nat) : Int) = (m : Int))) ((0 ≤ (q : Int) ∧ (q : Int) < ((f.map fv).length : Int) ∧ small (q : Int)) ∧ ((nts w).length < 2 ^ 20 ∧ forL (fun Q σ => wpSs C [(.asg 20 (.ite (.cmp .Eq (.idx (.var 12) (.var 23)) (.neg (.int 1))) (.var 0) (.bin .BitAnd (.idx (.var 12) (.var 23)) (.var 0)))), (.iff (.cmp .NotEq (.var 20) (.idx (.var 12) (.var 23))) [(.seti 12 (.var 23) (.var 20)), (.app 52 (.var 23))] [])] Q σ) [23] true (nts l) Qf
        ⟨[(37, .imm pv), (17, .imm bv), (12, .own ((f.map fv).set q (iv (m &&& after)))), (52, .own (nts w ++ [iv q])), (33, .imm v33), (0, .imm (iv after)), (23, .imm (iv q)), (20, .imm (iv (m &&& after)))], p⟩)) (forL (fun Q σ => wpSs C [(.asg 20 (.ite (.cmp .Eq (.idx (.var 12) (.var 23)) (.neg (.int 1))) (.var 0) (.bin .BitAnd (.idx (.var 12) (.var 23)) (.var 0)))), (.iff (.cmp .NotEq (.var 20) (.idx (.var 12) (.var 23))) [(.seti 12 (.var 23) (.var 20)), (.app 52 (.var 23))] [])] Q σ) [23] true (nts l) Qf
        ⟨[(37, .imm pv), (17, .imm bv), (12, .own (f.map fv)), (52, .own (nts w)), (33, .imm v33), (0, .imm (iv after)), (23, .imm (iv q)), (20, .imm (iv (m &&& after)))], p⟩) := by
        refine brn (fun hm => ?_) fun hm => ?_
        · have hm' : ¬ m &&& after = m := fun e => hm (congrArg Int.ofNat e)
          exact ⟨⟨Int.natCast_nonneg q, Int.ofNat_lt.mpr hlm, hs⟩, hnw, key (m &&& after) (by unfold updW; rw [hg]; exact if_neg hm')⟩
        · have hm' : m &&& after = m := Int.ofNat.inj hm
          have e : updW after (f, w) q = (f, w) := by unfold updW; rw [hg]; exact if_pos hm'
          have g := go (iv (m &&& after))
          rw [e] at g
          exact g
      cases o with
      | none => exact ⟨hs, _, it, brd (fun e => by lia) fun zz => ⟨hs, _, it, ⟨Int.natCast_nonneg m, Int.natCast_nonneg after⟩, ⟨hs, _, it, step⟩⟩⟩
      | some x => exact ⟨hs, _, it, brd (fun e => by lia) fun zz => ⟨hs, _, it, ⟨Int.natCast_nonneg m, Int.natCast_nonneg after⟩, ⟨hs, _, it, step⟩⟩⟩
end
end Mine
end

section
open PySem
set_option Elab.async false
set_option maxRecDepth 100000
set_option tactic.hygienic false
set_option linter.unusedVariables false
set_option linter.unusedSimpArgs false
set_option maxHeartbeats 4000000
namespace Mine

@[reducible] noncomputable def Ex := Option (V × V × Option (V × V))
noncomputable def ex14 : Ex → List (Nat × LV)
  | none => []
  | some (a, b, none) => [(33, .imm a), (0, .imm b)]
  | some (a, b, some (c, d)) => [(33, .imm a), (0, .imm b), (23, .imm c), (20, .imm d)]
theorem fold_lt : ∀ (l : List Nat) (m : Nat), m < 16 → (∀ r ∈ l, r < 4) → l.foldl (fun m r => m ||| 2 ^ r) m < 16
  | [], m, h, _ => h
  | r :: l, m, h, hl => by
    have hr := hl r (List.mem_cons_self ..)
    have h2 : 2 ^ r < 2 ^ 4 := Nat.pow_lt_pow_right (by lia) hr
    exact fold_lt l _ (Nat.or_lt_two_pow (n := 4) h h2) fun x hx => hl x (List.mem_cons_of_mem _ hx)
theorem maskOf_lt {l : List Nat} (h : ∀ r ∈ l, r < 4) : maskOf l < 16 := fold_lt l 0 (by lia) h
theorem get_mem {i : I} {body : List I} {pl : Nat} (h : body[pl]? = some i) : i ∈ body := List.mem_of_getElem? h
/- the fold over what is behind -/
theorem LInv.fold {body : List I} {e0 : List Int} {en pl m0 after : Nat} (ha : after < 16) : ∀ (l don : List Nat) (f : Found) (w : List Nat), LInv body e0 en pl m0 after don f w → (∀ q ∈ l, q < body.length) →
    (∀ q ∈ l, (∃ h, Reach body e0 q h) ∧ ∀ r : Nat, r < 4 → (∀ h, Reach body e0 q h → (r : Int) ∈ h) → after.testBit r = true) →
    LInv body e0 en pl m0 after (don ++ l) (l.foldl (updW after) (f, w)).1 (l.foldl (updW after) (f, w)).2 ∧ mu (l.foldl (updW after) (f, w)).1 (l.foldl (updW after) (f, w)).2 ≤ mu f w
  | [], don, f, w, L, _, _ => by rw [List.append_nil]; exact ⟨L, Nat.le_refl _⟩
  | q :: l, don, f, w, L, hq, hu => by
    obtain ⟨L1, h1⟩ := L.upd (hq q (List.mem_cons_self ..)) ha (hu q (List.mem_cons_self ..))
    obtain ⟨L2, h2⟩ := LInv.fold ha l (don ++ [q]) _ _ L1 (fun x hx => hq x (List.mem_cons_of_mem _ hx)) fun x hx => hu x (List.mem_cons_of_mem _ hx)
    rw [List.append_assoc] at L2
    exact ⟨L2, Nat.le_trans h2 h1⟩
/- one turn of the walk -/
theorem turn14 {body : List I} {e0 : List Int} {en pl m0 : Nat} {i : I} {f : Found} {ini : List Nat} (G : GoodB body) (W : WInv body e0 en f (ini ++ [pl])) (B : ∀ (p m : Nat), f[p]? = some (some m) → p ∉ ini ++ [pl] → Closed body f p m) (hm : f[pl]? = some (some m0)) (hi : body[pl]? = some i) :
    let s := (behind i pl).foldl (updW (m0 ||| maskOf i.writes)) (f, ini)
    WInv body e0 en s.1 s.2 ∧ (∀ (p m : Nat), s.1[p]? = some (some m) → p ∉ s.2 → Closed body s.1 p m) ∧ mu s.1 s.2 ≤ mu f ini := by
  have hmem := get_mem hi
  have haft : m0 ||| maskOf i.writes < 16 := Nat.or_lt_two_pow (n := 4) (W.bnd pl m0 hm) (maskOf_lt (G.wr i hmem))
  have bitA : ∀ r, (m0 ||| maskOf i.writes).testBit r = true ↔ m0.testBit r = true ∨ r ∈ i.writes := fun r => by rw [Nat.testBit_or, Bool.or_eq_true, maskOf_bit, decide_eq_true_eq]
  have L0 : LInv body e0 en pl m0 (m0 ||| maskOf i.writes) [] f ini := ⟨⟨W.len, W.bnd, W.up, fun p hp => W.wt p (List.mem_append_left _ hp), W.st⟩,
    fun p m hne e hp => B p m e fun h => by
      rcases List.mem_append.mp h with h | h
      · exact hp h
      · exact hne (List.mem_singleton.mp h), fun zz h => (nomatch h), .inr hm⟩
  obtain ⟨L1, h1⟩ := L0.fold haft (behind i pl) [] f ini (G.nxt pl i hi) fun q hq => by
    obtain ⟨⟨h, R⟩, hu⟩ := W.up pl m0 hm
    refine ⟨⟨_, R.step hi hq⟩, fun r hr hall => ?_⟩
    rw [bitA]
    by_cases hw : r ∈ i.writes
    · exact .inr hw
    · refine .inl (hu r hr fun h' R' => ?_)
      have := (four_mem.mp (hall _ (R'.step hi hq))).2
      rcases List.mem_append.mp this with q | q
      · exact q
      · exact absurd (mem_cast.mp q) hw
  rw [List.nil_append] at L1
  refine ⟨L1.W, fun p m e hp => ?_, h1⟩
  by_cases hne : p = pl
  · subst hne
    rcases L1.P with h | h
    · exact absurd h hp
    · rw [e] at h; cases h
      intro i' hi' q hq
      rw [hi] at hi'; cases hi'
      obtain ⟨m', e', h2⟩ := L1.D q hq
      exact ⟨m', e', fun r hr => (bitA r).mp (h2 r hr)⟩
  · exact L1.B p m hne e hp
theorem mu_app (f : Found) (w : List Nat) (q : Nat) : mu f (w ++ [q]) = mu f w + 1 := by unfold mu; rw [List.length_append]; rfl
theorem mu_len (f : Found) (w : List Nat) : w.length ≤ mu f w := Nat.le_add_left ..

section
variable {n : Nat} {p : Option Pot} {pv : V} {Qf : Fl → St → Prop} {body : List I} {e0 : List Int} {en : Nat}
theorem outer14 (G : GoodB body) (hfin : ∀ (f : Found) (w : V) (ex : Ex), WInv body e0 en f [] → (∀ (p m : Nat), f[p]? = some (some m) → Closed body f p m) → Qf .next ⟨[(37, .imm pv), (17, .imm (.lst (body.map I.v))), (12, .own (f.map fv)), (52, .own [])] ++ ex14 ex, p⟩) :
    ∀ (k : Nat) (f : Found) (w : List Nat) (ex : Ex), k < 900 → mu f w ≤ k → WInv body e0 en f w → (∀ (p m : Nat), f[p]? = some (some m) → p ∉ w → Closed body f p m) →
      whileN (fun Q σ => wpE (SP (n + 3)) (.cmp .NotEq (.var 52) (.lst [])) Q σ)
        (fun Q σ => wpSs (SP (n + 3)) [(.asg 33 (.pop 52)), (.asg 0 (.bin .BitOr (.idx (.var 12) (.var 33)) (.call (.user 13) [(.call (.user 3) [(.idx (.var 17) (.var 33))])]))), (.fr [23] true false (.call (.user 5) [(.var 17), (.var 33)]) [(.asg 20 (.ite (.cmp .Eq (.idx (.var 12) (.var 23)) (.neg (.int 1))) (.var 0) (.bin .BitAnd (.idx (.var 12) (.var 23)) (.var 0)))), (.iff (.cmp .NotEq (.var 20) (.idx (.var 12) (.var 23))) [(.seti 12 (.var 23) (.var 20)), (.app 52 (.var 23))] [])])] Q σ)
        (k + 1) Qf ⟨[(37, .imm pv), (17, .imm (.lst (body.map I.v))), (12, .own (f.map fv)), (52, .own (nts w))] ++ ex14 ex, p⟩ := by
  intro k
  induction k with
  | zero =>
    intro f w ex _ hk W B
    have hw : w = [] := List.length_eq_zero_iff.mp (Nat.le_zero.mp (Nat.le_trans (mu_len f w) hk))
    subst hw
    have fin := hfin f .none ex W fun p m e => B p m e fun h => nomatch h
    rcases ex with _ | ⟨a, b, _ | ⟨c, d⟩⟩ <;> exact brf fin
  | succ k ih =>
    intro f w ex hk9 hk W B
    rcases List.eq_nil_or_concat w with rfl | ⟨ini, pl, rfl⟩
    · have fin := hfin f .none ex W fun p m e => B p m e fun h => nomatch h
      rcases ex with _ | ⟨a, b, _ | ⟨c, d⟩⟩ <;> exact brf fin
    · rw [List.concat_eq_append] at W B hk ⊢
      obtain ⟨m0, hm⟩ := W.wt pl (List.mem_append_right _ (List.mem_singleton.mpr rfl))
      have hpl : pl < body.length := by rw [← W.len]; exact (List.getElem?_eq_some_iff.mp hm).1
      have hi : body[pl]? = some body[pl] := List.getElem?_eq_getElem hpl
      have hb5 := G.len
      have hwr := G.wr _ (get_mem hi)
      have T := turn14 G W B hm hi
      have haft : m0 ||| maskOf body[pl].writes < 16 := Nat.or_lt_two_pow (n := 4) (W.bnd pl m0 hm) (maskOf_lt hwr)
      rw [mu_app] at hk
      have hil := mu_len f ini
      have hs : small (pl : Int) := sm (by lia)
      have it1 : itemAt (f.map fv) (pl : Int) = some (iv m0) := item_map (f := fv) hm
      have it2 : itemAt (body.map I.v) (pl : Int) = some body[pl].v := item_map hi
      have hne : (nts (ini ++ [pl])).isEmpty = false := by rw [nts_app]; cases nts ini <;> rfl
      have hlen : (nts (ini ++ [pl])).length < 2 ^ 20 := by rw [nts_len, List.length_append, List.length_singleton]; lia
      have hbl : (behind body[pl] pl).length ≤ 2 := by
        unfold behind
        cases body[pl].label with
        | none => simp only; split <;> simp
        | some l => simp only; split <;> split <;> simp
      have inner := fun Qf' : Fl → St → Prop => inner14 (C := SP (n + 3)) (p := p) (Qf := Qf') (pv := pv) (bv := .lst (body.map I.v)) (v33 := iv pl) haft (behind body[pl] pl) f ini
      have cont : ∀ o : Option (V × V), whileN (fun Q σ => wpE (SP (n + 3)) (.cmp .NotEq (.var 52) (.lst [])) Q σ)
        (fun Q σ => wpSs (SP (n + 3)) [(.asg 33 (.pop 52)), (.asg 0 (.bin .BitOr (.idx (.var 12) (.var 33)) (.call (.user 13) [(.call (.user 3) [(.idx (.var 17) (.var 33))])]))), (.fr [23] true false (.call (.user 5) [(.var 17), (.var 33)]) [(.asg 20 (.ite (.cmp .Eq (.idx (.var 12) (.var 23)) (.neg (.int 1))) (.var 0) (.bin .BitAnd (.idx (.var 12) (.var 23)) (.var 0)))), (.iff (.cmp .NotEq (.var 20) (.idx (.var 12) (.var 23))) [(.seti 12 (.var 23) (.var 20)), (.app 52 (.var 23))] [])])] Q σ)
        (k + 1) Qf ⟨[(37, .imm pv), (17, .imm (.lst (body.map I.v))), (12, .own (((behind body[pl] pl).foldl (updW (m0 ||| maskOf body[pl].writes)) (f, ini)).1.map fv)), (52, .own (nts ((behind body[pl] pl).foldl (updW (m0 ||| maskOf body[pl].writes)) (f, ini)).2)), (33, .imm (iv pl)), (0, .imm (iv (m0 ||| maskOf body[pl].writes)))] ++ (match o with | none => [] | some x => [(23, .imm x.1), (20, .imm x.2)]), p⟩ := fun o => by
        have g := ih _ _ (some (iv pl, iv (m0 ||| maskOf body[pl].writes), o)) (by lia) (Nat.le_trans T.2.2 (by lia)) T.1 T.2.1
        cases o <;> exact g
      refine brnb (fun zz => ?_) fun e => by rw [hne] at e; cases e
      refine ⟨hlen, nts ini, iv pl, nts_app ini [pl], ?_⟩
      rcases ex with _ | ⟨a, b, _ | ⟨c, d⟩⟩
      · exact ⟨hs, _, it1, ⟨hs, _, it2, sp3 (G.wf _ (get_mem hi)) (sp13 (fun x hx => by have := hwr x hx; lia) ⟨⟨Int.natCast_nonneg m0, Int.natCast_nonneg _⟩, sp5 hi (by lia) (inner _ none (fun q hq => by rw [W.len]; exact G.nxt pl _ hi q hq) (by rw [W.len]; exact hb5) (by lia) cont)⟩)⟩⟩
      · exact ⟨hs, _, it1, ⟨hs, _, it2, sp3 (G.wf _ (get_mem hi)) (sp13 (fun x hx => by have := hwr x hx; lia) ⟨⟨Int.natCast_nonneg m0, Int.natCast_nonneg _⟩, sp5 hi (by lia) (inner _ none (fun q hq => by rw [W.len]; exact G.nxt pl _ hi q hq) (by rw [W.len]; exact hb5) (by lia) cont)⟩)⟩⟩
      · exact ⟨hs, _, it1, ⟨hs, _, it2, sp3 (G.wf _ (get_mem hi)) (sp13 (fun x hx => by have := hwr x hx; lia) ⟨⟨Int.natCast_nonneg m0, Int.natCast_nonneg _⟩, sp5 hi (by lia) (inner _ (some (c, d)) (fun q hq => by rw [W.len]; exact G.nxt pl _ hi q hq) (by rw [W.len]; exact hb5) (by lia) cont)⟩)⟩⟩
end
end Mine
end

section
open PySem
set_option Elab.async false
set_option maxRecDepth 100000
set_option tactic.hygienic false
set_option genSizeOf false
set_option genInjectivity false
set_option linter.unusedVariables false
set_option linter.unusedSimpArgs false
set_option maxHeartbeats 4000000
namespace Mine

structure Masks (body : List I) (e0 : List Int) (f : Found) : Prop where
  len : f.length = body.length
  has : ∀ (p m : Nat), f[p]? = some (some m) → (∃ h, Reach body e0 p h) ∧ ∀ r : Nat, r < 4 → (m.testBit r = true ↔ ∀ h, Reach body e0 p h → (r : Int) ∈ h)
  non : ∀ p : Nat, f[p]? = some none → ∀ h, ¬ Reach body e0 p h
noncomputable def e0Of (en : Nat) : List Int := casts (List.range en)
noncomputable def f0Of (N en : Nat) : Found := (List.replicate N none).set 0 (some (2 ^ en - 1))
theorem masks_of {body : List I} {e0 : List Int} {en : Nat} {f : Found} (W : WInv body e0 en f []) (B : ∀ (p m : Nat), f[p]? = some (some m) → Closed body f p m) (h0 : ∀ r, r < en → (r : Int) ∈ e0) : Masks body e0 f where
  len := W.len
  has := fun p m e => by
    obtain ⟨R, hu⟩ := W.up p m e
    refine ⟨R, fun r hr => ⟨fun hb h R' => ?_, hu r hr⟩⟩
    obtain ⟨m', e', h1⟩ := W.last B h0 R'
    rw [e] at e'; cases e'
    exact h1 r hb
  non := fun p e h R => by
    obtain ⟨m', e', _⟩ := W.last B h0 R
    rw [e] at e'; cases e'
theorem f0_inv {body : List I} {en : Nat} (h0 : 0 < body.length) (hen : en ≤ 4) : WInv body (e0Of en) en (f0Of body.length en) [0] ∧ ∀ (p m : Nat), (f0Of body.length en)[p]? = some (some m) → p ∉ [0] → Closed body (f0Of body.length en) p m := by
  have hlen : (List.replicate body.length (none : Option Nat)).length = body.length := List.length_replicate
  have hself : (f0Of body.length en)[0]? = some (some (2 ^ en - 1)) := List.getElem?_set_self (by rw [hlen]; exact h0)
  have hlt : 2 ^ en - 1 < 16 := by have := Nat.pow_le_pow_right (n := 2) (by omega) hen; have := Nat.two_pow_pos en; omega
  have only : ∀ (p m : Nat), (f0Of body.length en)[p]? = some (some m) → p = 0 ∧ m = 2 ^ en - 1 := fun p m e => by
    by_cases hp : p = 0
    · subst hp; rw [hself] at e; cases e; exact ⟨rfl, rfl⟩
    · have : (f0Of body.length en)[p]? = (List.replicate body.length (none : Option Nat))[p]? := List.getElem?_set_ne (Ne.symm hp)
      rw [this, List.getElem?_replicate] at e
      split at e <;> cases e
  refine ⟨⟨by unfold f0Of; rw [List.length_set]; exact hlen, fun p m e => ?_, fun p m e => ?_, fun p hp => ?_, ⟨_, hself, fun r hr => ?_⟩⟩, fun p m e hp => absurd (List.mem_singleton.mpr (only p m e).1) hp⟩
  · rw [(only p m e).2]; exact hlt
  · obtain ⟨rfl, rfl⟩ := only p m e
    refine ⟨⟨_, .init⟩, fun r zz h => ?_⟩
    have := mem_cast.mp (h _ .init)
    rw [Nat.testBit_two_pow_sub_one]
    exact decide_eq_true (List.mem_range.mp this)
  · rw [List.mem_singleton.mp hp]; exact ⟨_, hself⟩
  · rw [Nat.testBit_two_pow_sub_one] at hr
    exact of_decide_eq_true hr
theorem f0_map (N en : Nat) : (f0Of N en).map fv = (List.replicate N (V.int (-1))).set 0 (iv (2 ^ en - 1)) := by
  unfold f0Of; rw [List.map_set, List.map_replicate]; rfl
theorem mu_f0 {N en : Nat} (hN : N ≤ 5) (h0 : 0 < N) (hen : en ≤ 4) : mu (f0Of N en) [0] ≤ 800 := by
  have h : ∀ N ≤ 5, 0 < N → ∀ en ≤ 4, ((f0Of N en).map wgt).sum ≤ 100 := by
    intro N hN h0 en hen
    unfold f0Of
    rw [List.map_set, List.map_replicate]
    have h1 : N = 1 ∨ N = 2 ∨ N = 3 ∨ N = 4 ∨ N = 5 := by lia
    have h2 : en = 0 ∨ en = 1 ∨ en = 2 ∨ en = 3 ∨ en = 4 := by lia
    rcases h1 with rfl | rfl | rfl | rfl | rfl <;> rcases h2 with rfl | rfl | rfl | rfl | rfl <;> decide
  have := h N hN h0 en hen
  unfold mu; simp; lia

section
variable {n : Nat} {p : Option Pot} {Q : V → Option Pot → Prop} {q : P} {num : Nat}
theorem outer14' {pv : V} {Qf : Fl → St → Prop} {body : List I} {e0 : List Int} {en : Nat} {L : List V} {f : Found} {w : List Nat} {ex : Ex} (hL : L = f.map fv) (G : GoodB body) (hfin : ∀ (f : Found) (w : V) (ex : Ex), WInv body e0 en f [] → (∀ (p m : Nat), f[p]? = some (some m) → Closed body f p m) → Qf .next ⟨[(37, .imm pv), (17, .imm (.lst (body.map I.v))), (12, .own (f.map fv)), (52, .own [])] ++ ex14 ex, p⟩) (k : Nat) (hk : k < 900) (hm : mu f w ≤ k) (W : WInv body e0 en f w) (B : ∀ (p m : Nat), f[p]? = some (some m) → p ∉ w → Closed body f p m) :
      whileN (fun Q σ => wpE (SP (n + 3)) (.cmp .NotEq (.var 52) (.lst [])) Q σ)
        (fun Q σ => wpSs (SP (n + 3)) [(.asg 33 (.pop 52)), (.asg 0 (.bin .BitOr (.idx (.var 12) (.var 33)) (.call (.user 13) [(.call (.user 3) [(.idx (.var 17) (.var 33))])]))), (.fr [23] true false (.call (.user 5) [(.var 17), (.var 33)]) [(.asg 20 (.ite (.cmp .Eq (.idx (.var 12) (.var 23)) (.neg (.int 1))) (.var 0) (.bin .BitAnd (.idx (.var 12) (.var 23)) (.var 0)))), (.iff (.cmp .NotEq (.var 20) (.idx (.var 12) (.var 23))) [(.seti 12 (.var 23) (.var 20)), (.app 52 (.var 23))] [])])] Q σ)
        (k + 1) Qf ⟨[(37, .imm pv), (17, .imm (.lst (body.map I.v))), (12, .own L), (52, .own (nts w))] ++ ex14 ex, p⟩ := by
  subst hL
  exact outer14 G hfin k f w ex hk hm W B
theorem sp14 (G : GoodB q.body) (h0 : 0 < q.body.length) (hen : q.entry ≤ 4) (h : ∀ f : Found, Masks q.body (e0Of q.entry) f → Q (.lst (f.map fv)) p) : SP (n + 4) 14 [q.v num] p Q := by
  have h5 := G.len
  have hl : (q.body.map I.v).length < 2 ^ 20 := by rw [List.length_map]; lia
  have e1 : (((q.body.map I.v).length : Int)).toNat = q.body.length := by rw [Int.toNat_natCast, List.length_map]
  obtain ⟨W, B⟩ := f0_inv (en := q.entry) h0 hen
  have e2 : V.int (1 * 2 ^ ((q.entry : Int)).toNat - 1 : Int) = iv (2 ^ q.entry - 1) := by
    unfold iv
    congr 1
    rw [Int.toNat_natCast, Int.one_mul, Int.natCast_sub (Nat.two_pow_pos _)]; simp
  have e3 : (List.replicate (((q.body.map I.v).length : Int)).toNat (V.int (-(1 : Int)))).set ((0 : Int)).toNat (V.int (1 * 2 ^ ((q.entry : Int)).toNat - 1 : Int)) = (f0Of q.body.length q.entry).map fv := by
    rw [f0_map, e1, e2]; rfl
  refine sp_of rfl rfl ⟨rfl, ⟨hl, ⟨⟨sm (by rw [List.length_map]; lia), by rw [List.length_map]; lia⟩, ?_⟩⟩⟩
  refine sp0 ⟨⟨sm1, Int.natCast_nonneg _, by lia⟩, ⟨⟨Int.le_refl _, ?_, sm0⟩, ?_⟩⟩
  · rw [List.length_replicate, e1]; lia
  · refine ⟨801, ?_⟩
    refine outer14' (w := [0]) (ex := .none) e3 G (fun f w ex W' B' => ?_) 800 (by lia) (mu_f0 h5 h0 hen) W B
    have := h f (masks_of W' B' fun r hr => mem_cast.mpr (List.mem_range.mpr hr))
    rcases ex with _ | ⟨a, b, _ | ⟨c, d⟩⟩ <;> exact this
end
end Mine
end

section
open PySem
set_option Elab.async false
set_option maxRecDepth 100000
set_option tactic.hygienic false
set_option linter.unusedVariables false
set_option linter.unusedSimpArgs false
set_option maxHeartbeats 4000000
namespace Mine

/- a place reads what may be unwritten -/
noncomputable def Bad (body : List I) (e0 : List Int) (pl : Nat) : Prop := ∃ h, Reach body e0 pl h ∧ ∃ i, body[pl]? = some i ∧ ∃ r ∈ i.reads, (r : Int) ∉ h
/- the first place at which b holds, if any -/
noncomputable def First (N : Nat) (b : Nat → Prop) : Option Nat → Prop
  | none => ∀ k < N, ¬ b k
  | some k => k < N ∧ b k ∧ ∀ j < k, ¬ b j
theorem First.unique {N : Nat} {b : Nat → Prop} : ∀ {o o' : Option Nat}, First N b o → First N b o' → o = o'
  | none, none, _, _ => rfl
  | none, some k, h, h' => absurd h'.2.1 (h k h'.1)
  | some k, none, h, h' => absurd h.2.1 (h' k h.1)
  | some k, some k', h, h' => by
    rcases Nat.lt_trichotomy k k' with q | q | q
    · exact absurd h.2.1 (h'.2.2 k q)
    · rw [q]
    · exact absurd h'.2.1 (h.2.2 k' q)
theorem bad_mask {body : List I} {e0 : List Int} {f : Found} {pl m : Nat} {i : I} (M : Masks body e0 f) (hm : f[pl]? = some (some m)) (hi : body[pl]? = some i) (hr : ∀ r ∈ i.reads, r < 4) : (maskOf i.reads &&& m = maskOf i.reads) ↔ ¬ Bad body e0 pl := by
  obtain ⟨_, hb⟩ := M.has pl m hm
  constructor
  · rintro e ⟨h, R, i', hi', r, hr', hn⟩
    rw [hi] at hi'; cases hi'
    have h1 : (maskOf i.reads).testBit r = true := by rw [maskOf_bit]; exact decide_eq_true hr'
    rw [← e, Nat.testBit_and, Bool.and_eq_true] at h1
    exact hn ((hb r (hr r hr')).mp h1.2 h R)
  · intro hnb
    refine Nat.eq_of_testBit_eq fun r => ?_
    rw [Nat.testBit_and, maskOf_bit]
    by_cases hr' : r ∈ i.reads
    · rw [decide_eq_true hr', Bool.true_and]
      refine (hb r (hr r hr')).mpr fun h R => ?_
      by_cases hn : (r : Int) ∈ h
      · exact hn
      · exact absurd ⟨h, R, i, hi, r, hr', hn⟩ hnb
    · rw [decide_eq_false hr', Bool.false_and]

@[reducible] noncomputable def Ex2 := Option (V × V × Option V)
noncomputable def ex15 : Ex2 → List (Nat × LV)
  | none => []
  | some (a, b, none) => [(33, .imm a), (16, .imm b)]
  | some (a, b, some c) => [(33, .imm a), (16, .imm b), (53, .imm c)]
section
variable {n : Nat} {p : Option Pot} {Q : V → Option Pot → Prop} {q : P} {num : Nat}
theorem loop15 {pv : V} {Qf : Fl → St → Prop} {body : List I} {e0 : List Int} {f : Found} (G : GoodB body) (M : Masks body e0 f) : ∀ (rest : List I) (k : Nat) (ex : Ex2), body.drop k = rest → (∀ j < k, ¬ Bad body e0 j) →
    ((∀ j < body.length, ¬ Bad body e0 j) → ∀ ex : Ex2, Qf .next ⟨[(37, .imm pv), (1, .imm (.lst (f.map fv)))] ++ ex15 ex, p⟩) →
    (∀ (j : Nat) (σ : St), First body.length (Bad body e0) (some j) → σ.pot = p → Qf (.ret (iv j)) σ) →
    forL (fun Q σ => wpSs (SP (n + 4)) [(.iff (.cmp .NotEq (.idx (.var 1) (.var 33)) (.neg (.int 1))) [(.asg 53 (.call (.user 13) [(.call (.user 2) [(.var 16)])])), (.iff (.cmp .NotEq (.bin .BitAnd (.var 53) (.idx (.var 1) (.var 33))) (.var 53)) [(.ret (.var 33))] [])] [])] Q σ) [33, 16] false (enumV k (rest.map I.v)) Qf
      ⟨[(37, .imm pv), (1, .imm (.lst (f.map fv)))] ++ ex15 ex, p⟩
  | [], k, ex, hd, hk, h1, _ => by
    refine h1 (fun j hj => hk j (Nat.lt_of_lt_of_le hj ?_)) ex
    exact List.drop_eq_nil_iff.mp hd
  | i :: rest, k, ex, hd, hk, h1, h2 => by
    have hi : body[k]? = some i := by
      have := List.getElem?_drop (xs := body) (i := k) (j := 0)
      rw [hd] at this; simpa using this.symm
    have hkl : k < body.length := (List.getElem?_eq_some_iff.mp hi).1
    have h5 := G.len
    have hs : small (k : Int) := sm (by omega)
    have hd' : body.drop (k + 1) = rest := by rw [← List.drop_drop, hd]; rfl
    have hf : k < f.length := by rw [M.len]; exact hkl
    have hg : f[k]? = some f[k] := List.getElem?_eq_getElem hf
    have it : itemAt (f.map fv) (k : Int) = some (fv f[k]) := item_map hg
    have hrd := G.rd i (get_mem hi)
    have go := fun (hb : ¬ Bad body e0 k) => fun ex => loop15 G M rest (k + 1) ex hd' (fun j hj => by
      rcases Nat.lt_succ_iff_lt_or_eq.mp hj with h | h
      · exact hk j h
      · rw [h]; exact hb) h1 h2
    cases hx : f[k] with
    | none =>
      rw [hx] at hg it
      have hb : ¬ Bad body e0 k := fun ⟨h, R, _⟩ => M.non k hg h R
      rcases ex with _ | ⟨a, b, _ | c⟩
      · exact ⟨rfl, ⟨hs, _, it, brf (go hb (.some (iv k, i.v, .none)))⟩⟩
      · exact ⟨rfl, ⟨hs, _, it, brf (go hb (.some (iv k, i.v, .none)))⟩⟩
      · exact ⟨rfl, ⟨hs, _, it, brf (go hb (.some (iv k, i.v, .some c)))⟩⟩
    | some m =>
      rw [hx] at hg it
      have hbm := bad_mask M hg hi hrd
      have step : brP (!decide (((maskOf i.reads &&& m : Nat) : Int) = (maskOf i.reads : Int))) (Qf (.ret (iv k)) ⟨[(37, .imm pv), (1, .imm (.lst (f.map fv)))] ++ ex15 (.some (iv k, i.v, .some (iv (maskOf i.reads)))), p⟩)
          (forL (fun Q σ => wpSs (SP (n + 4)) [(.iff (.cmp .NotEq (.idx (.var 1) (.var 33)) (.neg (.int 1))) [(.asg 53 (.call (.user 13) [(.call (.user 2) [(.var 16)])])), (.iff (.cmp .NotEq (.bin .BitAnd (.var 53) (.idx (.var 1) (.var 33))) (.var 53)) [(.ret (.var 33))] [])] [])] Q σ) [33, 16] false (enumV (k + 1) (rest.map I.v)) Qf
            ⟨[(37, .imm pv), (1, .imm (.lst (f.map fv)))] ++ ex15 (.some (iv k, i.v, .some (iv (maskOf i.reads)))), p⟩) := by
        refine brn (fun e => ?_) fun e => ?_
        · have hb : Bad body e0 k := by
            by_cases hb : Bad body e0 k
            · exact hb
            · exact absurd (congrArg Int.ofNat (hbm.mpr hb)) e
          exact h2 k _ ⟨hkl, hb, hk⟩ rfl
        · exact go (hbm.mp (Int.ofNat.inj e)) _
      rcases ex with _ | ⟨a, b, _ | c⟩
      all_goals exact ⟨rfl, ⟨hs, _, it, brn (fun zz => sp2 (G.wf i (get_mem hi)) (sp13 (fun x hx => by have := hrd x hx; omega) ⟨hs, _, it, ⟨⟨Int.natCast_nonneg _, Int.natCast_nonneg m⟩, step⟩⟩)) fun e => by omega⟩⟩
theorem sp15 (G : GoodB q.body) (h0 : 0 < q.body.length) (hen : q.entry ≤ 4) (h : ∀ o, First q.body.length (Bad q.body (e0Of q.entry)) o → Q (match o with | none => .none | some k => iv k) p) : SP (n + 5) 15 [q.v num] p Q := by
  have h5 := G.len
  refine sp_of rfl rfl (sp14 G h0 hen fun f M => ⟨rfl, ⟨by rw [List.length_map]; omega, ?_⟩⟩)
  refine loop15 G M q.body 0 none rfl (fun j hj => absurd hj (Nat.not_lt_zero j)) (fun ha ex => ?_) fun j σ hf hσ => ?_
  · exact h none ha
  · show Q (iv j) σ.pot
    rw [show σ.pot = p from hσ]
    exact h (some j) hf
end
end Mine
end

section
open PySem
set_option Elab.async false
set_option maxRecDepth 100000
set_option tactic.hygienic false
set_option linter.unusedVariables false
set_option linter.unusedSimpArgs false
set_option maxHeartbeats 4000000
namespace Mine

noncomputable def makes (ps : List P) (rs : List Row) : Bool := rs.all (fun x => decide (x.2.1 < ps.length) && decide (x.2.2.length = freeOf ps x.2.1)) && decide (distinct (casts (regsOf rs)) = rs.length)
noncomputable def tailB (ps : List P) (cs ns : List V) (q : P) : I → Bool
  | .const _ k => decide (k < cs.length)
  | .free _ k => decide (k < q.free)
  | .glob _ k => decide (k < ns.length)
  | .defi k _ => decide (k < ns.length)
  | .setg k _ => decide (k < ns.length)
  | .jump l => decide (l < q.body.length)
  | .brf _ l => decide (l < q.body.length)
  | .prim _ k _ => decide (k < 3)
  | .clos t k r => makes ps [(t, k, r)]
  | .fix rs => makes ps rs
  | .move .. => true | .call .. => true | .give .. => true
noncomputable def rowRegs : I → List Nat
  | .fix rs => rs.flatMap (·.2.2)
  | .const .. => [] | .move .. => [] | .glob .. => [] | .setg .. => [] | .defi .. => [] | .free .. => [] | .clos .. => [] | .prim .. => [] | .jump _ => [] | .brf .. => [] | .call .. => [] | .give .. => []
noncomputable def regsAll (i : I) : List Nat := (i.reads ++ i.writes) ++ rowRegs i
theorem allLt_app (a b : List Nat) (k : Nat) : allLt (a ++ b) k = (allLt a k && allLt b k) := List.all_append
theorem dist1 (a : Nat) : distinct (casts [a]) = 1 := rfl
theorem b1 : ∀ a b : Bool, (((true && (a && true)) && true) && b) = ((a && (b && true)) && true) := by decide
theorem b2 : ∀ a b : Bool, ((((b && true) && (a && true)) && true) && true) = ((a && (b && true)) && true) := by decide
theorem b3 : ∀ a b : Bool, ((((b && true) && true) && true) && a) = ((a && (b && true)) && true) := by decide
theorem b4 : ∀ a : Bool, (((true && true) && true) && a) = ((a && true) && true) := by decide
theorem b5 : ∀ a b : Bool, ((((a && true) && true) && true) && b) = ((a && (b && true)) && true) := by decide
theorem b6 : ∀ a b c : Bool, ((((a && (b && c)) && true) && true) && true) = ((a && (b && (c && true))) && true) := by decide
theorem b7 : ∀ a c : Bool, ((((a && c) && true) && true) && true) = ((a && (c && true)) && true) := by decide
theorem b8 : ∀ a b c : Bool, (((c && (a && true)) && true) && b) = ((a && (b && (c && true))) && true) := by decide
theorem b9 : ∀ a b c d : Bool, (((c && (a && true)) && true) && ((b && d) && true && true)) = ((a && (b && (c && true))) && (a && (b && (c && d)))) := by decide
theorem fix_eq {ps : List P} {q : P} (rs : List Row) : (((allLt (fixReads (regsOf rs) rs) q.regs && allLt (regsOf rs) q.regs) && allLt (rs.flatMap (·.2.2)) q.regs) && makes ps rs) = closRows ps q.regs rs := by
  unfold makes closRows
  cases hd : decide (distinct (casts (regsOf rs)) = (rs.length : Int)) with
  | false => rw [Bool.and_false, Bool.and_false, Bool.and_false]
  | true =>
    rw [Bool.and_true, Bool.and_true, Bool.eq_iff_iff]
    simp only [Bool.and_eq_true, allLt, List.all_eq_true, decide_eq_true_eq, closRow]
    constructor
    · rintro ⟨⟨⟨h1, h2⟩, h3⟩, h4⟩ x hx
      exact ⟨h2 _ (List.mem_map.mpr ⟨x, hx, rfl⟩), (h4 x hx).1, fun y hy => h3 y (List.mem_flatMap.mpr ⟨x, hx, hy⟩), (h4 x hx).2⟩
    · intro h
      refine ⟨⟨⟨fun y hy => ?_, fun y hy => ?_⟩, fun y hy => ?_⟩, fun x hx => ⟨(h x hx).2.1, (h x hx).2.2.2⟩⟩
      · obtain ⟨x, hx, hm⟩ := List.mem_flatMap.mp hy
        exact (h x hx).2.2.1 y (List.mem_filter.mp hm).1
      · obtain ⟨x, hx, rfl⟩ := List.mem_map.mp hy
        exact (h x hx).1
      · obtain ⟨x, hx, hm⟩ := List.mem_flatMap.mp hy
        exact (h x hx).2.2.1 y hm
theorem fits_eq {ps : List P} {cs ns : List V} {q : P} (i : I) : (allLt (regsAll i) q.regs && tailB ps cs ns q i) = fits ps cs ns q i := by
  unfold regsAll
  rw [allLt_app, allLt_app]
  cases i with
  | const => exact b1 _ _
  | free => exact b1 _ _
  | glob => exact b1 _ _
  | move => exact b2 _ _
  | setg => exact b3 _ _
  | defi => exact b3 _ _
  | jump => exact b4 _
  | brf => exact b5 _ _
  | call => exact b6 _ _ _
  | give => exact b7 _ _
  | prim => exact b8 _ _ _
  | clos t k r =>
    show (((allLt r q.regs && allLt [t] q.regs) && true) && (((decide (k < ps.length) && decide (r.length = freeOf ps k)) && true) && decide (distinct (casts [t]) = 1))) = _
    rw [show decide (distinct (casts [t]) = 1) = true from decide_eq_true (dist1 t)]
    exact b9 _ _ _ _
  | fix rs =>
    refine (fix_eq rs).trans ?_
    exact (by decide : ∀ a : Bool, a = ((a && true) && true)) _
end Mine
end

section
open PySem
set_option Elab.async false
set_option maxRecDepth 100000
set_option genSizeOf false
set_option genInjectivity false
set_option linter.unusedVariables false
set_option linter.unusedSimpArgs false
set_option maxHeartbeats 4000000
namespace Mine

noncomputable def lastEnds (body : List I) : Bool := match body[body.length - 1]? with | some i => i.ends | none => false
/- what is first wrong with a procedure -/
noncomputable def PErr (ps : List P) (cs ns : List V) (q : P) (o : Option Int) : Prop :=
  (q.regs < q.entry ∧ o = some (-1)) ∨
  (q.entry ≤ q.regs ∧ ∃ k : Nat, First q.body.length (fun k => ∃ i, q.body[k]? = some i ∧ fits ps cs ns q i = false) (some k) ∧ o = some (k : Int)) ∨
  (q.entry ≤ q.regs ∧ First q.body.length (fun k => ∃ i, q.body[k]? = some i ∧ fits ps cs ns q i = false) none ∧ lastEnds q.body = false ∧ o = some ((q.body.length - 1 : Nat) : Int)) ∨
  (q.entry ≤ q.regs ∧ First q.body.length (fun k => ∃ i, q.body[k]? = some i ∧ fits ps cs ns q i = false) none ∧ lastEnds q.body = true ∧ ∃ b, First q.body.length (Bad q.body (e0Of q.entry)) b ∧ o = b.map fun (k : Nat) => (k : Int))
theorem PErr.unique {ps : List P} {cs ns : List V} {q : P} {o o' : Option Int} (h : PErr ps cs ns q o) (h' : PErr ps cs ns q o') : o = o' := by
  rcases h with ⟨a, rfl⟩ | ⟨a, k, hk, rfl⟩ | ⟨a, b, c, rfl⟩ | ⟨a, b, c, d, hd, rfl⟩ <;> rcases h' with ⟨a', rfl⟩ | ⟨a', k', hk', rfl⟩ | ⟨a', b', c', rfl⟩ | ⟨a', b', c', d', hd', rfl⟩
  · rfl
  · lia
  · lia
  · lia
  · lia
  · rw [Option.some.inj (hk.unique hk')]
  · cases hk.unique b'
  · cases hk.unique b'
  · lia
  · cases b.unique hk'
  · rfl
  · rw [c] at c'; cases c'
  · lia
  · cases b.unique hk'
  · rw [c] at c'; cases c'
  · rw [hd.unique hd']
/- a unit's procedures are as the generator makes them -/
structure GoodP (ps : List P) (cs ns : List V) (q : P) : Prop where
  L : Lim ps cs ns q
  ne : 0 < q.body.length
  wf : ∀ i ∈ q.body, i.wf
  regs : q.regs ≤ 4
theorem lab_lt {ps : List P} {cs ns : List V} {q : P} {i : I} {l : Nat} (hl : i.label = some l) (h : tailB ps cs ns q i = true) : l < q.body.length := by
  cases i with
  | jump => cases hl; exact of_decide_eq_true h
  | brf => cases hl; exact of_decide_eq_true h
  | _ => cases hl
/- all that fits is good -/
theorem good_body {ps : List P} {cs ns : List V} {q : P} (G : GoodP ps cs ns q) (hf : First q.body.length (fun k => ∃ i, q.body[k]? = some i ∧ fits ps cs ns q i = false) none) (he : lastEnds q.body = true) : GoodB q.body := by
  have hfit : ∀ (k : Nat) (i : I), q.body[k]? = some i → fits ps cs ns q i = true := fun k i e => by
    cases h : fits ps cs ns q i with
    | true => rfl
    | false => exact absurd ⟨i, e, h⟩ (hf k (List.getElem?_eq_some_iff.mp e).1)
  have hr := G.regs
  have all : ∀ i ∈ q.body, (∀ r ∈ i.writes, r < 4) ∧ (∀ r ∈ i.reads, r < 4) ∧ (∀ l, i.label = some l → l < q.body.length) := fun i hi => by
    obtain ⟨k, hk⟩ := List.mem_iff_getElem?.mp hi
    have h := hfit k i hk
    rw [← fits_eq] at h
    obtain ⟨h1, h2⟩ := Bool.and_eq_true_iff.mp h
    have h1' : ∀ r ∈ (i.reads ++ i.writes) ++ rowRegs i, r < 4 := fun r hr' => Nat.lt_of_lt_of_le (of_decide_eq_true (List.all_eq_true.mp h1 r hr')) hr
    exact ⟨fun r h => h1' r (List.mem_append_left _ (List.mem_append_right _ h)), fun r h => h1' r (List.mem_append_left _ (List.mem_append_left _ h)), fun l hl => lab_lt hl h2⟩
  refine ⟨G.L.body, G.wf, fun i hi => (all i hi).1, fun i hi => (all i hi).2.1, fun pl i hi q' hq => ?_⟩
  have hlab := (all i (get_mem hi)).2.2
  have hpl := (List.getElem?_eq_some_iff.mp hi).1
  have hfall : i.ends = false → pl + 1 < q.body.length := fun e => by
    rcases Nat.lt_or_ge (pl + 1) q.body.length with h | h
    · exact h
    · have : pl = q.body.length - 1 := by lia
      unfold lastEnds at he
      rw [← this, hi] at he
      simp only at he
      rw [e] at he; cases he
  have hf' : ∀ x ∈ (if i.ends = true then [] else [pl + 1]), x < q.body.length := fun x hx => by
    split at hx
    · cases hx
    · rename_i e
      rw [List.mem_singleton.mp hx]
      exact hfall (by simpa using e)
  unfold behind at hq
  cases hl : i.label with
  | none => rw [hl] at hq; exact hf' q' hq
  | some l =>
    rw [hl] at hq
    replace hq : q' ∈ (if l ∈ (if i.ends = true then [] else [pl + 1]) then (if i.ends = true then [] else [pl + 1]) else (if i.ends = true then [] else [pl + 1]) ++ [l]) := hq
    generalize (if i.ends = true then [] else [pl + 1]) = F at hf' hq
    split at hq
    · exact hf' q' hq
    · rcases List.mem_append.mp hq with hq | hq
      · exact hf' q' hq
      · rw [List.mem_singleton.mp hq]; exact hlab l hl

section
variable {n : Nat} {p : Option Pot} {Q : V → Option Pot → Prop} {ps : List P} {cs ns : List V} {q : P} {num : Nat}
theorem sp16 (hps : ps.length ≤ 2) (hq : ps[num]? = some q) (hne : 0 < q.body.length) (hb : q.body.length ≤ 5) (h : Q (if q.regs < q.entry then .str 25 else .none) p) : SP (n + 2) 16 [uv ps cs ns, iv num] p Q := by
  have hn : num < ps.length := (List.getElem?_eq_some_iff.mp hq).1
  have it : itemAt (pvs 0 ps) (num : Int) = some (q.v num) := by rw [it_nat, pvs_get, hq, Nat.zero_add]; rfl
  have hl : (q.body.map I.v).length < 2 ^ 20 := by rw [List.length_map]; lia
  refine sp_of rfl rfl ⟨rfl, ⟨sm (by lia), _, it, ⟨rfl, ⟨rfl, ⟨rfl, ⟨rfl, ?_⟩⟩⟩⟩⟩⟩
  refine brn (fun e => absurd rfl e) fun zz => ?_
  refine ⟨nle rfl, brt (sp6 (brt (sp6 (brt (sp6 ⟨[decide (0 ≤ (q.needed : Int)), decide (0 ≤ (q.regs : Int)), decide (0 ≤ (q.free : Int))], rfl, ?_⟩)))))⟩
  refine brnb (fun e => by simp at e) fun zz => ?_
  refine ⟨rfl, sp0 ?_⟩
  refine brd (fun e => ?_) fun e => ?_
  · rw [if_pos (Int.ofNat_lt.mp e)] at h; exact h
  · rw [if_neg (fun e' => e (Int.ofNat_lt.mpr e'))] at h
    refine ⟨rfl, ⟨hl, brd (fun e => ?_) fun e => h⟩⟩
    have : (q.body.map I.v).length = 0 := Int.ofNat.inj e
    rw [List.length_map] at this; lia
noncomputable def startOk (q : P) : Bool := decide (q.needed = 0) && (!q.rest && decide (q.free = 0))
theorem sp18 (hps : ps.length ≤ 2) (hq : ps[0]? = some q) (h : Q (if startOk q then .none else .str 29) p) : SP (n + 3) 18 [uv ps cs ns] p Q := by
  have hn : 0 < ps.length := (List.getElem?_eq_some_iff.mp hq).1
  have it : itemAt (pvs 0 ps) ((0 : Nat) : Int) = some (q.v 0) := by rw [it_nat, pvs_get, hq]; rfl
  have hl : (pvs 0 ps).length < 2 ^ 20 := by rw [pvs_len]; lia
  refine sp_of rfl rfl ⟨rfl, ⟨rfl, ⟨hl, sp7n (v := 0) ?_⟩⟩⟩
  refine brn (fun e => absurd (by rw [pvs_len]; exact hn) e) fun zz => ?_
  refine ⟨rfl, ⟨rfl, ⟨sm0, _, it, ?_⟩⟩⟩
  have e1 : decide ((q.needed : Int) = 0) = decide (q.needed = 0) := deq q.needed 0
  have e2 : decide ((q.free : Int) = 0) = decide (q.free = 0) := deq q.free 0
  refine ⟨rfl, brd (fun e => ?_) fun e => ?_⟩
  · have e' : q.needed = 0 := Int.ofNat.inj e
    refine ⟨rfl, brnb (fun e3 => ?_) fun e3 => ?_⟩
    · refine ⟨rfl, brt ⟨rfl, ?_⟩⟩
      refine brd (fun e4 => ?_) fun e4 => ?_
      · have e5 : q.free = 0 := Int.ofNat.inj e4
        rw [show startOk q = true by simp [startOk, e', e3, e5]] at h
        exact h
      · rw [show startOk q = false by
          have : q.free ≠ 0 := fun x => e4 (congrArg Int.ofNat x)
          simp [startOk, this]] at h
        exact h
    · rw [show startOk q = false by simp [startOk, e3]] at h
      show brP (!q.rest) _ _
      rw [e3]
      exact brf h
  · rw [show startOk q = false by
      have : q.needed ≠ 0 := fun x => e (congrArg Int.ofNat x)
      simp [startOk, this]] at h
    exact brd (fun e' => absurd e' e) fun zz => h
end
end Mine
end

section
open PySem
set_option Elab.async false
set_option maxRecDepth 100000
set_option tactic.hygienic false
set_option linter.unusedVariables false
set_option linter.unusedSimpArgs false
set_option maxHeartbeats 4000000
namespace Mine

/- what a told answer looks like -/
noncomputable def Told (o : Option Int) (v : V) : Prop := match o with | none => v = .none | some a => ∃ c, v = .tup [.int a, .str c]
noncomputable def ex17 (o : Option (V × V)) : List (Nat × LV) := match o with | none => [] | some x => [(2, .imm x.1), (16, .imm x.2)]
section
variable {n : Nat} {p : Option Pot} {Q : V → Option Pot → Prop} {ps : List P} {cs ns : List V} {q : P} {num : Nat}
theorem loop17 {v33 : V} {Qf : Fl → St → Prop} (G : GoodP ps cs ns q) : ∀ (rest : List I) (k : Nat) (v54 : V) (o : Option (V × V)), q.body.drop k = rest → (∀ j < k, ¬ ∃ i, q.body[j]? = some i ∧ fits ps cs ns q i = false) →
    (First q.body.length (fun k => ∃ i, q.body[k]? = some i ∧ fits ps cs ns q i = false) none → ∀ (v : V) (o : Option (V × V)), Qf .next ⟨[(50, .imm (uv ps cs ns)), (33, .imm v33), (36, .imm (iv 3)), (54, .imm v), (37, .imm (q.v num))] ++ ex17 o, p⟩) →
    (∀ (j c : Nat) (σ : St), First q.body.length (fun k => ∃ i, q.body[k]? = some i ∧ fits ps cs ns q i = false) (some j) → σ.pot = p → Qf (.ret (.tup [iv j, .str c])) σ) →
    forL (fun Q σ => wpSs (SP (n + 7)) [(.asg 54 (.call (.user 12) [(.var 50), (.var 37), (.var 36), (.var 16)])), (.iff (.cmp .IsNot (.var 54) .none) [(.ret (.tup [(.var 2), (.var 54)]))] [])] Q σ) [2, 16] false (enumV k (rest.map I.v)) Qf
      ⟨[(50, .imm (uv ps cs ns)), (33, .imm v33), (36, .imm (iv 3)), (54, .imm v54), (37, .imm (q.v num))] ++ ex17 o, p⟩
  | [], k, v54, o, hd, hk, h1, _ => h1 (fun j hj => hk j (Nat.lt_of_lt_of_le hj (List.drop_eq_nil_iff.mp hd))) v54 o
  | i :: rest, k, v54, o, hd, hk, h1, h2 => by
    have hi : q.body[k]? = some i := by
      have := List.getElem?_drop (xs := q.body) (i := k) (j := 0)
      rw [hd] at this; simpa using this.symm
    have hkl : k < q.body.length := (List.getElem?_eq_some_iff.mp hi).1
    have hd' : q.body.drop (k + 1) = rest := by rw [← List.drop_drop, hd]; rfl
    have go := fun (hb : fits ps cs ns q i = true) => fun v o => loop17 (v33 := v33) G rest (k + 1) v o hd' (fun j hj => by
      rcases Nat.lt_succ_iff_lt_or_eq.mp hj with h | h
      · exact hk j h
      · rw [h]; rintro ⟨i', e, e2⟩; rw [hi] at e; cases e; rw [hb] at e2; cases e2) h1 h2
    have step : ∀ v, (fits ps cs ns q i = true → v = .none) → (fits ps cs ns q i = false → ∃ c, v = .str c) → wpSs (SP (n + 7)) [(.iff (.cmp .IsNot (.var 54) .none) [(.ret (.tup [(.var 2), (.var 54)]))] [])] (fun fl σ' => match fl with
        | .next => forL (fun Q σ => wpSs (SP (n + 7)) [(.asg 54 (.call (.user 12) [(.var 50), (.var 37), (.var 36), (.var 16)])), (.iff (.cmp .IsNot (.var 54) .none) [(.ret (.tup [(.var 2), (.var 54)]))] [])] Q σ) [2, 16] false (enumV (k + 1) (rest.map I.v)) Qf σ'
        | .ret v => Qf (.ret v) σ') ⟨[(50, .imm (uv ps cs ns)), (33, .imm v33), (36, .imm (iv 3)), (54, .imm v), (37, .imm (q.v num)), (2, .imm (iv k)), (16, .imm i.v)], p⟩ := fun v e1 e2 => by
      cases hb : fits ps cs ns q i with
      | true => rw [e1 hb]; exact brf (go hb .none (some (iv k, i.v)))
      | false =>
        obtain ⟨c, rfl⟩ := e2 hb
        exact brt (h2 k c _ ⟨hkl, ⟨i, hi, hb⟩, hk⟩ rfl)
    cases o with
    | none => exact ⟨rfl, sp12 G.L (G.wf i (get_mem hi)) step⟩
    | some x => exact ⟨rfl, sp12 G.L (G.wf i (get_mem hi)) step⟩
theorem sp17 (G : GoodP ps cs ns q) (hq : ps[num]? = some q) (h : ∀ o v, PErr ps cs ns q o → Told o v → Q v p) : SP (n + 8) 17 [uv ps cs ns, iv num, iv 3] p Q := by
  have hn : num < ps.length := (List.getElem?_eq_some_iff.mp hq).1
  have hps := G.L.ps
  have h5 := G.L.body
  have hne := G.ne
  have hr4 := G.regs
  have it : itemAt (pvs 0 ps) (num : Int) = some (q.v num) := by rw [it_nat, pvs_get, hq, Nat.zero_add]; rfl
  have hl : (q.body.map I.v).length < 2 ^ 20 := by rw [List.length_map]; omega
  refine sp_of rfl rfl (sp16 hps hq hne h5 ?_)
  by_cases hr : q.regs < q.entry
  · rw [if_pos hr]
    exact brt (h (some (-1)) _ (.inl ⟨hr, rfl⟩) ⟨25, rfl⟩)
  · rw [if_neg hr]
    have hr' : q.entry ≤ q.regs := by omega
    refine brf ⟨rfl, ⟨sm (by omega), _, it, ⟨rfl, ⟨hl, ?_⟩⟩⟩⟩
    refine loop17 (n := n) G q.body 0 .none none rfl (fun j hj => absurd hj (Nat.not_lt_zero j)) (fun hf v o => ?_) fun j c σ hf hσ => ?_
    · have e : ((q.body.map I.v).length : Int) - 1 = ((q.body.length - 1 : Nat) : Int) := by rw [List.length_map]; omega
      have hi : q.body[q.body.length - 1]? = some q.body[q.body.length - 1] := List.getElem?_eq_getElem (by omega)
      have it2 : itemAt (q.body.map I.v) (((q.body.map I.v).length : Int) - 1) = some (q.body[q.body.length - 1].v) := by rw [e]; exact item_map hi
      have hs : small (((q.body.map I.v).length : Int) - 1) := by rw [e]; exact sm (by omega)
      have hE := ends_code q.body[q.body.length - 1]
      have hLE : lastEnds q.body = q.body[q.body.length - 1].ends := by unfold lastEnds; rw [hi]
      have c1 : q.body[q.body.length - 1].ends = false → Q (.tup [.int (((q.body.map I.v).length : Int) - 1), .str 27]) p := fun e' => by
        rw [e]
        exact h _ _ (.inr (.inr (.inl ⟨hr', hf, hLE.trans e', rfl⟩))) ⟨27, rfl⟩
      cases o with
      | none =>
        refine ⟨rfl, ⟨hl, ⟨rfl, ⟨hs, _, it2, ⟨sm0, _, rfl, ?_⟩⟩⟩⟩⟩
        show brP (!hasN q.body[q.body.length - 1].code [9, 11, 12]) _ _
        rw [hE]
        refine brnb c1 fun e' => sp15 (good_body G hf (hLE.trans e')) hne (by omega) fun b hb => ?_
        cases b with
        | none => exact brt (h none _ (.inr (.inr (.inr ⟨hr', hf, hLE.trans e', none, hb, rfl⟩))) rfl)
        | some k => exact brf (h (some (k : Int)) _ (.inr (.inr (.inr ⟨hr', hf, hLE.trans e', some k, hb, rfl⟩))) ⟨28, rfl⟩)
      | some x =>
        refine ⟨rfl, ⟨hl, ⟨rfl, ⟨hs, _, it2, ⟨sm0, _, rfl, ?_⟩⟩⟩⟩⟩
        show brP (!hasN q.body[q.body.length - 1].code [9, 11, 12]) _ _
        rw [hE]
        refine brnb c1 fun e' => sp15 (good_body G hf (hLE.trans e')) hne (by omega) fun b hb => ?_
        cases b with
        | none => exact brt (h none _ (.inr (.inr (.inr ⟨hr', hf, hLE.trans e', none, hb, rfl⟩))) rfl)
        | some k => exact brf (h (some (k : Int)) _ (.inr (.inr (.inr ⟨hr', hf, hLE.trans e', some k, hb, rfl⟩))) ⟨28, rfl⟩)
    · show Q (.tup [iv j, .str c]) σ.pot
      rw [show σ.pot = p from hσ]
      exact h (some (j : Int)) _ (.inr (.inl ⟨hr', j, hf, rfl⟩)) ⟨c, rfl⟩
end
end Mine
end

section
open PySem
set_option Elab.async false
set_option maxRecDepth 100000
set_option tactic.hygienic false
set_option genSizeOf false
set_option genInjectivity false
set_option linter.unusedVariables false
set_option linter.unusedSimpArgs false
set_option maxHeartbeats 4000000
namespace Mine

structure GoodU (ps : List P) (cs ns : List V) : Prop where
  ne : 0 < ps.length
  all : ∀ q ∈ ps, GoodP ps cs ns q
noncomputable def HasErr (ps : List P) (cs ns : List V) (k : Nat) : Prop := ∃ q, ps[k]? = some q ∧ ∃ a, PErr ps cs ns q (some a)
/- what is first wrong with a unit -/
noncomputable def UErr (ps : List P) (cs ns : List V) (o : Option (Int × Int)) : Prop :=
  (∃ q, ps[0]? = some q ∧ startOk q = false ∧ o = some (-1, -1)) ∨
  (∃ q, ps[0]? = some q ∧ startOk q = true ∧ ((∃ (k : Nat) (r : P) (a : Int), First ps.length (HasErr ps cs ns) (some k) ∧ ps[k]? = some r ∧ PErr ps cs ns r (some a) ∧ o = some ((k : Int), a)) ∨ (First ps.length (HasErr ps cs ns) none ∧ o = none)))
theorem UErr.unique {ps : List P} {cs ns : List V} {o o' : Option (Int × Int)} (h : UErr ps cs ns o) (h' : UErr ps cs ns o') : o = o' := by
  rcases h with ⟨q, hq, e, rfl⟩ | ⟨q, hq, e, h⟩ <;> rcases h' with ⟨q', hq', e', rfl⟩ | ⟨q', hq', e', h'⟩
  · rfl
  · rw [hq] at hq'; cases hq'; rw [e] at e'; cases e'
  · rw [hq] at hq'; cases hq'; rw [e] at e'; cases e'
  · rcases h with ⟨k, r, a, f, hk, pe, rfl⟩ | ⟨f, rfl⟩ <;> rcases h' with ⟨k', r', a', f', hk', pe', rfl⟩ | ⟨f', rfl⟩
    · cases f.unique f'
      rw [hk] at hk'; cases hk'
      cases pe.unique pe'
      rfl
    · cases f.unique f'
    · cases f.unique f'
    · rfl
noncomputable def Told2 (o : Option (Int × Int)) (v : V) : Prop := match o with | none => v = .none | some (a, b) => ∃ c, v = .tup [.int a, .int b, .str c]

section
variable {n : Nat} {p : Option Pot} {Q : V → Option Pot → Prop} {ps : List P} {cs ns : List V}
theorem loop19 {v54 : V} {Qf : Fl → St → Prop} (G : GoodU ps cs ns) : ∀ (m k : Nat) (o : Option (V × V)), k + m = ps.length → (∀ j < k, ¬ HasErr ps cs ns j) →
    (First ps.length (HasErr ps cs ns) none → ∀ σ : St, σ.pot = p → Qf .next σ) →
    (∀ (k : Nat) (r : P) (a : Int) (c : Nat) (σ : St), First ps.length (HasErr ps cs ns) (some k) → ps[k]? = some r → PErr ps cs ns r (some a) → σ.pot = p → Qf (.ret (.tup [iv k, .int a, .str c])) σ) →
    forL (fun Q σ => wpSs (SP (n + 8)) [(.asg 12 (.call (.user 17) [(.var 50), (.var 33), (.var 36)])), (.iff (.cmp .IsNot (.var 12) .none) [(.ret (.tup [(.var 33), (.idx (.var 12) (.int 0)), (.idx (.var 12) (.int 1))]))] [])] Q σ) [33] true (nts (List.range' k m)) Qf
      ⟨[(50, .imm (uv ps cs ns)), (36, .imm (iv 3)), (54, .imm v54)] ++ (match o with | none => [] | some x => [(33, .imm x.1), (12, .imm x.2)]), p⟩
  | 0, k, o, hk, hb, h1, _ => h1 (fun j hj => hb j (by lia)) _ rfl
  | m + 1, k, o, hk, hb, h1, h2 => by
    have hkl : k < ps.length := by lia
    have hq : ps[k]? = some ps[k] := List.getElem?_eq_getElem hkl
    have go := fun (hn : ¬ HasErr ps cs ns k) => fun o => loop19 (v54 := v54) G m (k + 1) o (by lia) (fun j hj => by
      rcases Nat.lt_succ_iff_lt_or_eq.mp hj with h | h
      · exact hb j h
      · rw [h]; exact hn) h1 h2
    have step : ∀ o v, PErr ps cs ns ps[k] o → Told o v → wpSs (SP (n + 8)) [(.iff (.cmp .IsNot (.var 12) .none) [(.ret (.tup [(.var 33), (.idx (.var 12) (.int 0)), (.idx (.var 12) (.int 1))]))] [])] (fun fl σ' => match fl with
        | .next => forL (fun Q σ => wpSs (SP (n + 8)) [(.asg 12 (.call (.user 17) [(.var 50), (.var 33), (.var 36)])), (.iff (.cmp .IsNot (.var 12) .none) [(.ret (.tup [(.var 33), (.idx (.var 12) (.int 0)), (.idx (.var 12) (.int 1))]))] [])] Q σ) [33] true (nts (List.range' (k + 1) m)) Qf σ'
        | .ret v => Qf (.ret v) σ') ⟨[(50, .imm (uv ps cs ns)), (36, .imm (iv 3)), (54, .imm v54), (33, .imm (iv k)), (12, .imm v)], p⟩ := fun o v pe tv => by
      cases o with
      | none =>
        have tv' : v = .none := tv
        subst tv'
        refine brf (go (fun ⟨q, e, a, pe'⟩ => ?_) (some (iv k, .none)))
        rw [hq] at e; cases e
        cases pe.unique pe'
      | some a =>
        obtain ⟨c, rfl⟩ : ∃ c, v = .tup [.int a, .str c] := tv
        exact brt ⟨sm0, _, rfl, ⟨sm1, _, rfl, h2 k ps[k] a c _ ⟨hkl, ⟨_, hq, a, pe⟩, hb⟩ hq pe rfl⟩⟩
    cases o with
    | none => exact sp17 (G.all _ (List.getElem_mem hkl)) hq step
    | some x => exact sp17 (G.all _ (List.getElem_mem hkl)) hq step
theorem sp19 (G : GoodU ps cs ns) (h : ∀ o v, UErr ps cs ns o → Told2 o v → Q v p) : SP (n + 9) 19 [uv ps cs ns, iv 3] p Q := by
  have ne := G.ne
  have hq : ps[0]? = some ps[0] := List.getElem?_eq_getElem G.ne
  have G0 := G.all _ (List.getElem_mem G.ne)
  have hps := G0.L.ps
  have hl : (pvs 0 ps).length < 2 ^ 20 := by rw [pvs_len]; lia
  refine sp_of rfl rfl (sp18 hps hq ?_)
  cases hs : startOk ps[0] with
  | false => exact brt (h (some (-1, -1)) _ (.inl ⟨_, hq, hs, rfl⟩) ⟨29, rfl⟩)
  | true =>
    refine brf ⟨rfl, ⟨hl, ⟨sm (by rw [pvs_len]; lia), ⟨⟨by lia, by lia⟩, ?_⟩⟩⟩⟩
    rw [show ((((pvs 0 ps).length : Nat) : Int)).toNat = ps.length by rw [Int.toNat_natCast, pvs_len], List.range_eq_range']
    refine loop19 G ps.length 0 none (Nat.zero_add _) (fun j hj => absurd hj (Nat.not_lt_zero j)) (fun hf σ hσ => ?_) fun k r a c σ hf hr pe hσ => ?_
    · show Q .none σ.pot
      rw [show σ.pot = p from hσ]
      exact h none _ (.inr ⟨_, hq, hs, .inr ⟨hf, rfl⟩⟩) rfl
    · show Q (.tup [iv k, .int a, .str c]) σ.pot
      rw [show σ.pot = p from hσ]
      exact h (some ((k : Int), a)) _ (.inr ⟨_, hq, hs, .inl ⟨k, r, a, hf, hr, pe, rfl⟩⟩) ⟨c, rfl⟩
end
end Mine
end

section
open PySem
set_option Elab.async false
set_option maxRecDepth 100000
set_option linter.unusedVariables false
set_option linter.unusedSimpArgs false
set_option maxHeartbeats 4000000
namespace Mine

theorem lenn {r : List Nat} (h : r.length ≤ 2) : (nts r).length < 2 ^ 20 := by rw [nts_len]; lia
section
variable {n : Nat} {p : Option Pot} {Q : V → Option Pot → Prop}
theorem fr1 {x : Row} {f : Nat → Bool} (h : Q (.tup [.lst (nts (x.2.2.filter f ++ [])), .lst [iv x.1]]) p) : Q (.tup [.lst ([] ++ ([] ++ (x.2.2.filter f).map iv)), .lst [iv x.1]]) p := by
  rw [List.append_nil] at h; exact h
theorem fr2 {x y : Row} {f : Nat → Bool} (h : Q (.tup [.lst (nts (x.2.2.filter f ++ (y.2.2.filter f ++ []))), .lst [iv x.1, iv y.1]]) p) : Q (.tup [.lst (([] ++ ([] ++ (x.2.2.filter f).map iv)) ++ ([] ++ (y.2.2.filter f).map iv)), .lst [iv x.1, iv y.1]]) p := by
  rw [List.append_nil, nts_app] at h; exact h
theorem sp27 {i : I} (w : i.wf) (h : Q (.tup [.lst (nts i.reads), .lst (nts i.writes)]) p) : SP (n + 1) 27 [i.v] p Q := by
  refine sp_of rfl rfl ⟨sm0, _, rfl, ?_⟩
  cases i
  case const => exact brt ⟨sm1, _, rfl, h⟩
  case glob => exact brt ⟨sm1, _, rfl, h⟩
  case free => exact brt ⟨sm1, _, rfl, h⟩
  case move => exact brf (brt ⟨sm2, _, rfl, ⟨sm1, _, rfl, h⟩⟩)
  case prim => exact brf (brf (brt ⟨sm3, _, rfl, ⟨lenn w, ⟨sm1, _, rfl, h⟩⟩⟩))
  case clos => exact brf (brf (brt ⟨sm3, _, rfl, ⟨lenn w, ⟨sm1, _, rfl, h⟩⟩⟩))
  case defi => exact brf (brf (brf (brt ⟨sm2, _, rfl, h⟩)))
  case setg => exact brf (brf (brf (brt ⟨sm2, _, rfl, h⟩)))
  case jump => exact brf (brf (brf (brf (brf (brt h)))))
  case brf => exact Mine.brf (Mine.brf (Mine.brf (Mine.brf (Mine.brf (Mine.brf (brt ⟨sm1, _, rfl, h⟩))))))
  case give => exact brf (brf (brf (brf (brf (brf (brf (brt ⟨sm1, _, rfl, ⟨sm2, _, rfl, ⟨lenn w, ⟨lenr w (nle rfl), h⟩⟩⟩⟩)))))))
  case call => exact brf (brf (brf (brf (brf (brf (brf (brf ⟨sm1, _, rfl, ⟨sm2, _, rfl, ⟨sm3, _, rfl, ⟨lenn w, ⟨lenr w (nle rfl), h⟩⟩⟩⟩⟩)))))))
  case fix rs =>
    refine brf (brf (brf (brf (brt ?_))))
    rcases w with ⟨x, rfl, w⟩ | ⟨x, y, rfl, w, w2⟩
    · have h' : Q (.tup [.lst ([] ++ ([] ++ (x.2.2.filter (bI [x.1])).map iv)), .lst [iv x.1]]) p := by rw [filter_bI]; exact fr1 h
      refine ⟨sm1, _, rfl, nle rfl, brt ⟨sm0, _, rfl, ⟨sm1, _, rfl, ⟨sm2, _, rfl, by rw [nts_len]; lia, ?_⟩⟩⟩⟩
      exact comp_fm iv iv (bI [x.1]) x.2.2 [] (fun a zz Q h => ⟨[x.1].map fun (n : Nat) => (n : Int), rfl, h⟩) (fun a zz zz Q h => h) ⟨by rw [List.nil_append]; exact lenf (k := 0) w (nle rfl), h'⟩
    · have h' : Q (.tup [.lst (([] ++ ([] ++ (x.2.2.filter (bI [x.1, y.1])).map iv)) ++ ([] ++ (y.2.2.filter (bI [x.1, y.1])).map iv)), .lst [iv x.1, iv y.1]]) p := by rw [filter_bI, filter_bI]; exact fr2 h
      refine ⟨sm1, _, rfl, nle rfl, brt ⟨sm0, _, rfl, brt ⟨sm0, _, rfl, ⟨sm1, _, rfl, ⟨sm2, _, rfl, by rw [nts_len]; lia, ?_⟩⟩⟩⟩⟩
      refine comp_fm iv iv (bI [x.1, y.1]) x.2.2 [] (fun a zz Q h => ⟨[x.1, y.1].map fun (n : Nat) => (n : Int), rfl, h⟩) (fun a zz zz Q h => h) ⟨by rw [List.nil_append]; exact lenf (k := 0) w (nle rfl), ?_⟩
      refine ⟨sm2, _, rfl, by rw [nts_len]; lia, ?_⟩
      refine comp_fm iv iv (bI [x.1, y.1]) y.2.2 [] (fun a zz Q h => ⟨[x.1, y.1].map fun (n : Nat) => (n : Int), rfl, h⟩) (fun a zz zz Q h => h) ⟨?_, h'⟩
      have l1 := List.length_filter_le (bI [x.1, y.1]) x.2.2
      have l2 := List.length_filter_le (bI [x.1, y.1]) y.2.2
      simp only [List.nil_append, List.length_map]
      lia

variable {ps : List P} {cs ns : List V}
theorem loop28 {v43 : V} {Qf : Fl → St → Prop} (hps : ps.length ≤ 2) : ∀ (rs : List Row) (o : Option (V × V × V)), (∀ x ∈ rs, x.2.2.length ≤ 2) →
    (rs.all (fun x => decide (x.2.1 < ps.length) && decide (x.2.2.length = freeOf ps x.2.1)) = true → ∀ o : Option (V × V × V), Qf .next ⟨[(50, .imm (uv ps cs ns)), (43, .imm v43)] ++ (match o with | none => [] | some x => [(40, .imm x.1), (28, .imm x.2.1), (32, .imm x.2.2)]), p⟩) →
    (rs.all (fun x => decide (x.2.1 < ps.length) && decide (x.2.2.length = freeOf ps x.2.1)) = false → ∀ σ : St, σ.pot = p → Qf (.ret (.bool false)) σ) →
    forL (fun Q σ => wpSs (SP n) [(.iff (.or [(.cmp .GtE (.var 28) (.call .len [(.attr (.var 50) false 0)])), (.cmp .NotEq (.call .len [(.var 32)]) (.attr (.idx (.attr (.var 50) false 0) (.var 28)) true 6))]) [(.ret (.bool false))] [])] Q σ) [40, 28, 32] false (rs.map rowV) Qf
      ⟨[(50, .imm (uv ps cs ns)), (43, .imm v43)] ++ (match o with | none => [] | some x => [(40, .imm x.1), (28, .imm x.2.1), (32, .imm x.2.2)]), p⟩
  | [], o, _, h1, _ => h1 rfl o
  | x :: rs, o, w, h1, h2 => by
    have wx := w x (List.mem_cons_self ..)
    have hl : (pvs 0 ps).length < 2 ^ 20 := by rw [pvs_len]; lia
    have go := loop28 (v43 := v43) (Qf := Qf) hps rs (some (iv x.1, iv x.2.1, .tup (nts x.2.2))) (fun y hy => w y (List.mem_cons_of_mem _ hy))
    have ret : (decide (x.2.1 < ps.length) && decide (x.2.2.length = freeOf ps x.2.1)) = false → ∀ σ : St, σ.pot = p → Qf (.ret (.bool false)) σ := fun e => h2 (by rw [List.all_cons, e]; rfl)
    by_cases hk : x.2.1 < ps.length
    · have e : decide (((pvs 0 ps).length : Int) ≤ (x.2.1 : Int)) = false := decide_eq_false (by rw [pvs_len]; lia)
      have hq : ps[x.2.1]? = some ps[x.2.1] := List.getElem?_eq_getElem hk
      have hf : freeOf ps x.2.1 = ps[x.2.1].free := by unfold freeOf; rw [hq]
      have it : itemAt (pvs 0 ps) (x.2.1 : Int) = some (ps[x.2.1].v (0 + x.2.1)) := by rw [it_nat, pvs_get, hq]; rfl
      have step : brP (!decide (((nts x.2.2).length : Int) = (ps[x.2.1].free : Int))) (Qf (.ret (.bool false)) ⟨[(50, .imm (uv ps cs ns)), (43, .imm v43), (40, .imm (iv x.1)), (28, .imm (iv x.2.1)), (32, .imm (.tup (nts x.2.2)))], p⟩)
          (forL (fun Q σ => wpSs (SP n) [(.iff (.or [(.cmp .GtE (.var 28) (.call .len [(.attr (.var 50) false 0)])), (.cmp .NotEq (.call .len [(.var 32)]) (.attr (.idx (.attr (.var 50) false 0) (.var 28)) true 6))]) [(.ret (.bool false))] [])] Q σ) [40, 28, 32] false (rs.map rowV) Qf
            ⟨[(50, .imm (uv ps cs ns)), (43, .imm v43), (40, .imm (iv x.1)), (28, .imm (iv x.2.1)), (32, .imm (.tup (nts x.2.2)))], p⟩) := by
        rw [deq, nts_len]
        refine brn (fun e2 => ?_) fun e2 => ?_
        · exact ret (by simp [hf, e2]) _ rfl
        · exact go (fun ha => h1 (by rw [List.all_cons, ha]; simp [hk, hf, e2])) fun ha => h2 (by rw [List.all_cons, ha, Bool.and_false])
      cases o with
      | none =>
        refine ⟨rfl, ⟨rfl, ⟨hl, ?_⟩⟩⟩
        show brP (decide (((pvs 0 ps).length : Int) ≤ (x.2.1 : Int))) _ _
        rw [e]
        exact brf ⟨lenn wx, ⟨rfl, ⟨sm (by lia), _, it, ⟨rfl, step⟩⟩⟩⟩
      | some y =>
        refine ⟨rfl, ⟨rfl, ⟨hl, ?_⟩⟩⟩
        show brP (decide (((pvs 0 ps).length : Int) ≤ (x.2.1 : Int))) _ _
        rw [e]
        exact brf ⟨lenn wx, ⟨rfl, ⟨sm (by lia), _, it, ⟨rfl, step⟩⟩⟩⟩
    · have e : ((pvs 0 ps).length : Int) ≤ (x.2.1 : Int) := by rw [pvs_len]; lia
      have r := ret (by simp [hk])
      cases o with
      | none => exact ⟨rfl, ⟨rfl, ⟨hl, brd (fun zz => brd (fun zz => r _ rfl) fun e' => absurd e e') fun e' => absurd e e'⟩⟩⟩
      | some y => exact ⟨rfl, ⟨rfl, ⟨hl, brd (fun zz => brd (fun zz => r _ rfl) fun e' => absurd e e') fun e' => absurd e e'⟩⟩⟩
theorem sp28 {rs : List Row} {v43 : V} (hv : v43 = .tup (rs.map rowV) ∨ v43 = .lst (rs.map rowV)) (hps : ps.length ≤ 2) (hl : rs.length ≤ 2) (w : ∀ x ∈ rs, x.2.2.length ≤ 2) (h : Q (.bool (makes ps rs)) p) : SP (n + 1) 28 [uv ps cs ns, v43] p Q := by
  have lm : (rs.map rowV).length < 2 ^ 20 := by rw [List.length_map]; lia
  have e2 : ([] ++ rs.map fun y => iv y.1) = (casts (regsOf rs)).map V.int := by rw [List.nil_append]; unfold casts regsOf; rw [List.map_map, List.map_map]; rfl
  have h' : rs.all (fun x => decide (x.2.1 < ps.length) && decide (x.2.2.length = freeOf ps x.2.1)) = true → Q (.bool (decide (distinct (casts (regsOf rs)) = ((rs.map rowV).length : Int)))) p := fun e => by
    rw [show makes ps rs = decide (distinct (casts (regsOf rs)) = rs.length) by unfold makes; rw [e, Bool.true_and]] at h
    rw [List.length_map]; exact h
  have hf : rs.all (fun x => decide (x.2.1 < ps.length) && decide (x.2.2.length = freeOf ps x.2.1)) = false → Q (.bool false) p := fun e => by
    rw [show makes ps rs = false by unfold makes; rw [e, Bool.false_and]] at h
    exact h
  have hc : (casts (regsOf rs)).length < 2 ^ 10 := by unfold casts regsOf; rw [List.length_map, List.length_map]; lia
  rcases hv with rfl | rfl
  · refine sp_of rfl rfl (loop28 hps rs none w (fun ha o => ?_) fun ha σ hσ => ?_)
    · cases o with
      | none => exact ⟨lm, comp_m rowV (fun y => iv y.1) rs [] (fun a zz Q h => ⟨sm0, _, rfl, h⟩) ⟨casts (regsOf rs), e2, hc, ⟨lm, h' ha⟩⟩⟩
      | some x => exact ⟨lm, comp_m rowV (fun y => iv y.1) rs [] (fun a zz Q h => ⟨sm0, _, rfl, h⟩) ⟨casts (regsOf rs), e2, hc, ⟨lm, h' ha⟩⟩⟩
    · show Q (.bool false) σ.pot
      rw [show σ.pot = p from hσ]; exact hf ha
  · refine sp_of rfl rfl (loop28 hps rs none w (fun ha o => ?_) fun ha σ hσ => ?_)
    · cases o with
      | none => exact ⟨lm, comp_m rowV (fun y => iv y.1) rs [] (fun a zz Q h => ⟨sm0, _, rfl, h⟩) ⟨casts (regsOf rs), e2, hc, ⟨lm, h' ha⟩⟩⟩
      | some x => exact ⟨lm, comp_m rowV (fun y => iv y.1) rs [] (fun a zz Q h => ⟨sm0, _, rfl, h⟩) ⟨casts (regsOf rs), e2, hc, ⟨lm, h' ha⟩⟩⟩
    · show Q (.bool false) σ.pot
      rw [show σ.pot = p from hσ]; exact hf ha
end
end Mine
end

section
open PySem
set_option Elab.async false
set_option maxRecDepth 100000
set_option tactic.hygienic false
set_option linter.unusedVariables false
set_option linter.unusedSimpArgs false
set_option maxHeartbeats 4000000
namespace Mine

theorem reads_len {i : I} (w : i.wf) : i.reads.length ≤ 4 := by
  cases i with
  | clos t k r => exact Nat.le_trans w (by lia)
  | prim t k r => exact Nat.le_trans w (by lia)
  | call a b r => show r.length + 1 + 1 ≤ 4; have : r.length ≤ 2 := w; lia
  | give s r => show r.length + 1 ≤ 4; have : r.length ≤ 2 := w; lia
  | fix rs =>
    show (fixReads (regsOf rs) rs).length ≤ 4
    unfold fixReads
    rcases w with ⟨x, rfl, w⟩ | ⟨x, y, rfl, w, w2⟩
    · have := List.length_filter_le (fun z => !decide (z ∈ regsOf [x])) x.2.2
      simp only [List.flatMap_cons, List.flatMap_nil, List.append_nil]; lia
    · have := List.length_filter_le (fun z => !decide (z ∈ regsOf [x, y])) x.2.2
      have := List.length_filter_le (fun z => !decide (z ∈ regsOf [x, y])) y.2.2
      simp only [List.flatMap_cons, List.flatMap_nil, List.append_nil, List.length_append]; lia
  | const => exact nle rfl
  | move => exact nle rfl
  | glob => exact nle rfl
  | setg => exact nle rfl
  | defi => exact nle rfl
  | free => exact nle rfl
  | jump => exact nle rfl
  | brf => exact nle rfl
theorem writes_len {i : I} (w : i.wf) : i.writes.length ≤ 2 := by
  cases i with
  | fix rs =>
    rcases w with ⟨x, rfl, w⟩ | ⟨x, y, rfl, w, w2⟩
    · exact nle rfl
    · exact nle rfl
  | _ => exact nle rfl
theorem filt_empty (l : List Nat) (k : Nat) : ([] ++ (l.filter fun (y : Nat) => decide ((k : Int) ≤ (y : Int))).map iv).isEmpty = allLt l k := by
  rw [List.nil_append, List.isEmpty_map, Bool.eq_iff_iff, List.isEmpty_iff, List.filter_eq_nil_iff]
  unfold allLt
  rw [List.all_eq_true]
  refine ⟨fun h x hx => ?_, fun h x hx => ?_⟩
  · have := h x hx
    simp only [decide_eq_true_eq] at this
    exact decide_eq_true (by omega)
  · have := of_decide_eq_true (h x hx)
    simp only [decide_eq_true_eq]
    omega
end Mine
end

section
open PySem
set_option Elab.async false
set_option maxRecDepth 100000
set_option linter.unusedVariables false
set_option linter.unusedSimpArgs false
set_option maxHeartbeats 4000000
namespace Mine

section
variable {n : Nat} {p : Option Pot} {Q : V → Option Pot → Prop} {ps : List P} {cs ns : List V} {q : P} {num : Nat}
/- the rows behind the register test -/
theorem tail29 {i : I} {v39 v55 v41 : V} {lt : List (Nat × LV)} (L : Lim ps cs ns q) (w : i.wf) (h : Q (.bool (tailB ps cs ns q i)) p) :
    wpSs (SP (n + 1)) [(.iff (.cmp .Eq (.var 54) (.str 0)) [(.ret (.cmp .Lt (.idx (.var 47) (.int 2)) (.call .len [(.attr (.var 50) false 1)])))] []), (.iff (.cmp .Eq (.var 54) (.str 5)) [(.ret (.cmp .Lt (.idx (.var 47) (.int 2)) (.attr (.var 32) true 6)))] []), (.iff (.cmp .Eq (.var 54) (.str 2)) [(.ret (.cmp .Lt (.idx (.var 47) (.int 2)) (.call .len [(.attr (.var 50) false 2)])))] []), (.iff (.cmp .In (.var 54) (.tup [(.str 4), (.str 3)])) [(.ret (.cmp .Lt (.idx (.var 47) (.int 1)) (.call .len [(.attr (.var 50) false 2)])))] []), (.iff (.cmp .Eq (.var 54) (.str 9)) [(.ret (.cmp .Lt (.idx (.var 47) (.int 1)) (.call .len [(.attr (.var 32) true 7)])))] []), (.iff (.cmp .Eq (.var 54) (.str 10)) [(.ret (.cmp .Lt (.idx (.var 47) (.int 2)) (.call .len [(.attr (.var 32) true 7)])))] []), (.iff (.cmp .Eq (.var 54) (.str 8)) [(.ret (.cmp .Lt (.idx (.var 47) (.int 2)) (.int 3)))] []), (.iff (.cmp .Eq (.var 54) (.str 6)) [(.ret (.call (.user 28) [(.var 50), (.lst [(.slF (.var 47) 1)])]))] []), (.ret (.or [(.cmp .NotEq (.var 54) (.str 7)), (.call (.user 28) [(.var 50), (.idx (.var 47) (.int 1))])]))]
      (fun fl σ' => match fl with | .ret v => Q v σ'.pot | .next => Q .none σ'.pot)
      ⟨[(50, .imm (uv ps cs ns)), (32, .imm (q.v num)), (47, .imm i.v), (54, .imm (.str i.code)), (39, .imm v39), (55, .imm v55), (41, .imm v41)] ++ lt, p⟩ := by
  have l1 : cs.length < 2 ^ 20 := by have := L.cs; lia
  have l2 : ns.length < 2 ^ 20 := by have := L.ns; lia
  have l4 : (q.body.map I.v).length < 2 ^ 20 := by have := L.body; rw [List.length_map]; lia
  have hb : ∀ l : Nat, decide ((l : Int) < ((q.body.map I.v).length : Int)) = decide (l < q.body.length) := fun l => by rw [dlt, List.length_map]
  cases i
  case const t k => rw [show tailB ps cs ns q (.const t k) = decide ((k : Int) < (cs.length : Int)) from (dlt ..).symm] at h; exact brt ⟨sm2, _, rfl, ⟨rfl, ⟨l1, h⟩⟩⟩
  case free t k => rw [show tailB ps cs ns q (.free t k) = decide ((k : Int) < (q.free : Int)) from (dlt ..).symm] at h; exact brf (brt ⟨sm2, _, rfl, ⟨rfl, h⟩⟩)
  case glob t k => rw [show tailB ps cs ns q (.glob t k) = decide ((k : Int) < (ns.length : Int)) from (dlt ..).symm] at h; exact brf (brf (brt ⟨sm2, _, rfl, ⟨rfl, ⟨l2, h⟩⟩⟩))
  case defi k s => rw [show tailB ps cs ns q (.defi k s) = decide ((k : Int) < (ns.length : Int)) from (dlt ..).symm] at h; exact brf (brf (brf (brt ⟨sm1, _, rfl, ⟨rfl, ⟨l2, h⟩⟩⟩)))
  case setg k s => rw [show tailB ps cs ns q (.setg k s) = decide ((k : Int) < (ns.length : Int)) from (dlt ..).symm] at h; exact brf (brf (brf (brt ⟨sm1, _, rfl, ⟨rfl, ⟨l2, h⟩⟩⟩)))
  case jump l => rw [show tailB ps cs ns q (.jump l) = decide ((l : Int) < ((q.body.map I.v).length : Int)) from (hb l).symm] at h; exact brf (brf (brf (brf (brt ⟨sm1, _, rfl, ⟨rfl, ⟨l4, h⟩⟩⟩))))
  case brf s l => rw [show tailB ps cs ns q (.brf s l) = decide ((l : Int) < ((q.body.map I.v).length : Int)) from (hb l).symm] at h; exact Mine.brf (Mine.brf (Mine.brf (Mine.brf (Mine.brf (brt ⟨sm2, _, rfl, ⟨rfl, ⟨l4, h⟩⟩⟩)))))
  case prim t k r => rw [show tailB ps cs ns q (.prim t k r) = decide ((k : Int) < ((3 : Nat) : Int)) from (dlt ..).symm] at h; exact brf (brf (brf (brf (brf (brf (brt ⟨sm2, _, rfl, h⟩))))))
  case clos t k r => exact brf (brf (brf (brf (brf (brf (brf (brt ⟨⟨nle rfl, nle rfl, nle rfl⟩, sp28 (rs := [(t, k, r)]) (.inr rfl) L.ps (nle rfl) (fun x hx => by rw [List.mem_singleton.mp hx]; exact w) h⟩)))))))
  case move => exact brf (brf (brf (brf (brf (brf (brf (brf (brt h))))))))
  case call => exact brf (brf (brf (brf (brf (brf (brf (brf (brt h))))))))
  case give => exact brf (brf (brf (brf (brf (brf (brf (brf (brt h))))))))
  case fix rs =>
    have hw : rs.length ≤ 2 ∧ ∀ x ∈ rs, x.2.2.length ≤ 2 := by
      rcases w with ⟨x, rfl, w⟩ | ⟨x, y, rfl, w, w2⟩
      · exact ⟨nle rfl, fun z hz => by rw [List.mem_singleton.mp hz]; exact w⟩
      · exact ⟨nle rfl, fun z hz => by
          rcases List.mem_cons.mp hz with rfl | hz
          · exact w
          · rw [List.mem_singleton.mp hz]; exact w2⟩
    exact brf (brf (brf (brf (brf (brf (brf (brf (brf ⟨sm1, _, rfl, sp28 (.inl rfl) L.ps hw.1 hw.2 h⟩))))))))
theorem mid29 {i : I} {v39 v55 : V} {l : List Nat} {vl : List V} {lt : List (Nat × LV)} (L : Lim ps cs ns q) (w : i.wf) (hvl : vl = nts l) (hl : l.length ≤ 20) (h : Q (.bool (allLt l q.regs && tailB ps cs ns q i)) p) :
    wpSs (SP (n + 1)) [(.iff (.cmp .NotEq (.comp (.var 29) 29 (.var 41) [(.cmp .GtE (.var 29) (.attr (.var 32) true 5))]) (.lst [])) [(.ret (.bool false))] []), (.iff (.cmp .Eq (.var 54) (.str 0)) [(.ret (.cmp .Lt (.idx (.var 47) (.int 2)) (.call .len [(.attr (.var 50) false 1)])))] []), (.iff (.cmp .Eq (.var 54) (.str 5)) [(.ret (.cmp .Lt (.idx (.var 47) (.int 2)) (.attr (.var 32) true 6)))] []), (.iff (.cmp .Eq (.var 54) (.str 2)) [(.ret (.cmp .Lt (.idx (.var 47) (.int 2)) (.call .len [(.attr (.var 50) false 2)])))] []), (.iff (.cmp .In (.var 54) (.tup [(.str 4), (.str 3)])) [(.ret (.cmp .Lt (.idx (.var 47) (.int 1)) (.call .len [(.attr (.var 50) false 2)])))] []), (.iff (.cmp .Eq (.var 54) (.str 9)) [(.ret (.cmp .Lt (.idx (.var 47) (.int 1)) (.call .len [(.attr (.var 32) true 7)])))] []), (.iff (.cmp .Eq (.var 54) (.str 10)) [(.ret (.cmp .Lt (.idx (.var 47) (.int 2)) (.call .len [(.attr (.var 32) true 7)])))] []), (.iff (.cmp .Eq (.var 54) (.str 8)) [(.ret (.cmp .Lt (.idx (.var 47) (.int 2)) (.int 3)))] []), (.iff (.cmp .Eq (.var 54) (.str 6)) [(.ret (.call (.user 28) [(.var 50), (.lst [(.slF (.var 47) 1)])]))] []), (.ret (.or [(.cmp .NotEq (.var 54) (.str 7)), (.call (.user 28) [(.var 50), (.idx (.var 47) (.int 1))])]))]
      (fun fl σ' => match fl with | .ret v => Q v σ'.pot | .next => Q .none σ'.pot)
      ⟨[(50, .imm (uv ps cs ns)), (32, .imm (q.v num)), (47, .imm i.v), (54, .imm (.str i.code)), (39, .imm v39), (55, .imm v55), (41, .imm (.lst vl))] ++ lt, p⟩ := by
  subst hvl
  have hn : (nts l).length < 2 ^ 20 := by rw [nts_len]; lia
  have he := filt_empty l q.regs
  refine ⟨hn, comp_fm iv iv (fun (y : Nat) => decide ((q.regs : Int) ≤ (y : Int))) l [] (fun a zz Q h => ⟨rfl, h⟩) (fun a zz zz Q h => h) ?_⟩
  show brP (!([] ++ (l.filter fun (y : Nat) => decide ((q.regs : Int) ≤ (y : Int))).map iv).isEmpty) _ _
  rw [he]
  refine brnb (fun e => ?_) fun e => ?_
  · rw [e] at h; exact h
  · rw [e, Bool.true_and] at h; exact tail29 (num := num) (v39 := v39) (v55 := v55) (v41 := .lst (nts l)) (lt := lt) L w h
theorem fix_or (i : I) : (∃ rs, i = .fix rs) ∨ (Nat.beq i.code 7 = false ∧ rowRegs i = []) := by
  cases i <;> first | exact .inl ⟨_, rfl⟩ | exact .inr ⟨rfl, rfl⟩
theorem sp29 {i : I} (L : Lim ps cs ns q) (w : i.wf) (h : Q (.bool (fits ps cs ns q i)) p) : SP (n + 2) 29 [uv ps cs ns, q.v num, i.v] p Q := by
  rw [← fits_eq] at h
  have rl := reads_len w
  have wl := writes_len w
  have e1 : nts i.reads ++ nts i.writes = nts (i.reads ++ i.writes) := (nts_app _ _).symm
  have hA : (i.reads ++ i.writes).length ≤ 20 := by rw [List.length_append]; lia
  refine sp_of rfl rfl ⟨sm0, _, rfl, sp27 w ⟨sm0, _, rfl, sp27 w ⟨sm1, _, rfl, ⟨by rw [nts_len, nts_len]; lia, ?_⟩⟩⟩⟩
  rcases fix_or i with ⟨rs, rfl⟩ | ⟨hc, hr⟩
  · rcases id w with ⟨x, rfl, w1⟩ | ⟨x, y, rfl, w1, w2⟩
    · refine brt ⟨sm1, _, rfl, ⟨sm2, _, rfl, ⟨lenn w1, ⟨?_, ?_⟩⟩⟩⟩
      · rw [e1, nts_len, nts_len, List.length_append]; lia
      · exact mid29 (num := num) (l := (I.fix [x]).reads ++ (I.fix [x]).writes ++ x.2.2) (lt := [(42, .imm (rowV x))]) L w (by rw [nts_app, ← e1]) (by rw [List.length_append, List.length_append]; lia) (by
          rw [show (I.fix [x]).reads ++ (I.fix [x]).writes ++ x.2.2 = regsAll (.fix [x]) by unfold regsAll rowRegs; simp]; exact h)
    · refine brt ⟨sm1, _, rfl, ⟨sm2, _, rfl, ⟨lenn w1, ⟨?_, ⟨sm2, _, rfl, ⟨lenn w2, ⟨?_, ?_⟩⟩⟩⟩⟩⟩⟩
      · rw [e1, nts_len, nts_len, List.length_append]; lia
      · rw [e1, List.length_append, nts_len, nts_len, nts_len, List.length_append]; lia
      · exact mid29 (num := num) (l := (I.fix [x, y]).reads ++ (I.fix [x, y]).writes ++ x.2.2 ++ y.2.2) (lt := [(42, .imm (rowV y))]) L w (by rw [nts_app, nts_app, ← e1]) (by rw [List.length_append, List.length_append, List.length_append]; lia) (by
          rw [show (I.fix [x, y]).reads ++ (I.fix [x, y]).writes ++ x.2.2 ++ y.2.2 = regsAll (.fix [x, y]) by unfold regsAll rowRegs; simp]; exact h)
  · refine ⟨fun e => ?_, fun zz => ?_⟩
    · rw [hc] at e; cases e
    · exact mid29 (num := num) (l := i.reads ++ i.writes) (lt := []) L w e1 hA (by unfold regsAll at h; rw [hr, List.append_nil] at h; exact h)
end
end Mine
end

section
open PySem
set_option Elab.async false
set_option maxRecDepth 100000
set_option tactic.hygienic false
set_option genSizeOf false
set_option genInjectivity false
set_option linter.unusedVariables false
set_option linter.unusedSimpArgs false
set_option maxHeartbeats 4000000
namespace Mine

@[reducible] noncomputable def PH := Nat × List Int
noncomputable def succs (i : I) (pl : Nat) : List Nat := (if i.ends then [] else [pl + 1]) ++ (match i.label with | none => [] | some l => [l])
theorem succs_behind (i : I) (pl q : Nat) : q ∈ succs i pl ↔ q ∈ behind i pl := by
  unfold succs behind
  cases i.label with
  | none => simp
  | some l =>
    show q ∈ (if i.ends = true then [] else [pl + 1]) ++ [l] ↔ q ∈ (if l ∈ (if i.ends = true then [] else [pl + 1]) then (if i.ends = true then [] else [pl + 1]) else (if i.ends = true then [] else [pl + 1]) ++ [l])
    generalize (if i.ends = true then [] else [pl + 1]) = F
    by_cases h : l ∈ F
    · rw [if_pos h, List.mem_append, List.mem_singleton]
      exact ⟨fun x => x.elim id fun e => e ▸ h, .inl⟩
    · rw [if_neg h]
theorem succs_len (i : I) (pl : Nat) : (succs i pl).length ≤ 2 := by
  unfold succs
  cases i.label with
  | none => simp only; split <;> simp
  | some l => simp only; split <;> simp
noncomputable def subs4 : List (List Int) := [true, false].flatMap fun a => [true, false].flatMap fun b => [true, false].flatMap fun c => [true, false].map fun d => (if a then [0] else []) ++ (if b then [1] else []) ++ (if c then [2] else []) ++ (if d then [3] else [])
theorem four_sub (l : List Int) : fourOf l ∈ subs4 := by
  unfold fourOf
  simp only [List.filter]
  cases decide ((0 : Int) ∈ l) <;> cases decide ((1 : Int) ∈ l) <;> cases decide ((2 : Int) ∈ l) <;> cases decide ((3 : Int) ∈ l) <;> decide
noncomputable def univ5 : List PH := (List.range 5).flatMap fun p => subs4.map fun h => (p, h)
theorem univ_mem {x : PH} (h1 : x.1 < 5) (h2 : x.2 ∈ subs4) : x ∈ univ5 := List.mem_flatMap.mpr ⟨x.1, List.mem_range.mpr h1, List.mem_map.mpr ⟨x.2, h2, rfl⟩⟩
noncomputable def left (met : List PH) : Nat := (univ5.filter fun x => !decide (x ∈ met)).length
theorem left_nil : left [] = 80 := by decide +kernel
theorem filter_le' {α : Type} {a b : α → Bool} (h : ∀ x, a x = true → b x = true) : ∀ l : List α, (l.filter a).length ≤ (l.filter b).length
  | [] => Nat.le_refl _
  | x :: l => by
    have ih := filter_le' h l
    rw [List.filter_cons, List.filter_cons]
    by_cases ha : a x = true
    · rw [if_pos ha, if_pos (h x ha)]; exact Nat.succ_le_succ ih
    · rw [if_neg ha]
      split
      · exact Nat.le_succ_of_le ih
      · exact ih
theorem filter_lt' {α : Type} {a b : α → Bool} (h : ∀ x, a x = true → b x = true) {y : α} (hy1 : a y = false) (hy2 : b y = true) : ∀ {l : List α}, y ∈ l → (l.filter a).length < (l.filter b).length
  | x :: l, hm => by
    have ih := filter_le' h l
    rw [List.filter_cons, List.filter_cons]
    rcases List.mem_cons.mp hm with rfl | hm
    · rw [if_neg (by rw [hy1]; exact Bool.false_ne_true), if_pos hy2]; exact Nat.lt_succ_of_le ih
    · have ih2 := filter_lt' h hy1 hy2 hm
      by_cases ha : a x = true
      · rw [if_pos ha, if_pos (h x ha)]; exact Nat.succ_lt_succ ih2
      · rw [if_neg ha]
        split
        · exact Nat.lt_succ_of_lt ih2
        · exact ih2
theorem left_lt {met : List PH} {x : PH} (hx : x ∈ univ5) (hn : x ∉ met) : left (met ++ [x]) < left met := by
  refine filter_lt' (fun y hy => ?_) (y := x) ?_ ?_ hx
  · simp only [Bool.not_eq_true', decide_eq_false_iff_not] at hy ⊢
    exact fun e => hy (List.mem_append_left _ e)
  · simp
  · simpa using hn
theorem nodup_lt : ∀ (n : Nat) (l : List Nat), l.Nodup → (∀ x ∈ l, x < n) → l.length ≤ n
  | 0, l, _, h => by
    cases l with
    | nil => exact Nat.le_refl _
    | cons a l => exact absurd (h a (List.mem_cons_self ..)) (Nat.not_lt_zero _)
  | n + 1, l, hd, h => by
    have key : ∀ l : List Nat, l.Nodup → l.length ≤ (l.filter fun x => x != n).length + 1 := by
      intro l
      induction l with
      | nil => intro _; exact Nat.zero_le _
      | cons a l ih =>
        intro hd
        have hd' := List.nodup_cons.mp hd
        rw [List.filter_cons]
        by_cases e : a = n
        · have : l.filter (fun x => x != n) = l := List.filter_eq_self.mpr fun x hx => by
            have : x ≠ n := fun q => hd'.1 (by rw [e, ← q]; exact hx)
            simpa using this
          rw [if_neg (by simp [e]), this]; exact Nat.le_refl _
        · rw [if_pos (by simpa using e)]
          exact Nat.succ_le_succ (ih hd'.2)
    have := nodup_lt n (l.filter fun x => x != n) (hd.sublist List.filter_sublist) fun x hx => by
      have hm := List.mem_filter.mp hx
      have h1 := h x hm.1
      have h2 : x ≠ n := by simpa using hm.2
      lia
    have := key l hd
    lia

/- the state of the law's own walk -/
structure EInv (body : List I) (e0 : List Int) (met wait : List PH) (found : List Nat) : Prop where
  reach : ∀ x : PH, x ∈ met ∨ x ∈ wait → Reach body e0 x.1 x.2
  dom : ∀ x : PH, x ∈ met ∨ x ∈ wait → x.1 < body.length ∧ x.2 ∈ subs4
  cl : ∀ x ∈ met, ∀ i, body[x.1]? = some i → (∀ q ∈ behind i x.1, ((q, fourOf (x.2 ++ casts i.writes)) : PH) ∈ met ∨ ((q, fourOf (x.2 ++ casts i.writes)) : PH) ∈ wait) ∧ ((∃ r ∈ i.reads, (r : Int) ∉ x.2) → x.1 ∈ found)
  bad : ∀ k ∈ found, Bad body e0 k
  nd : found.Nodup
  st : ((0, e0) : PH) ∈ met ∨ ((0, e0) : PH) ∈ wait
  cnt : met.length + left met ≤ 80
section
variable {body : List I} {e0 : List Int} {met ini : List PH} {x : PH} {found : List Nat} {i : I}
theorem EInv.old (E : EInv body e0 met (ini ++ [x]) found) (hx : x ∈ met) : EInv body e0 met ini found := by
  have drop : ∀ y : PH, y ∈ met ∨ y ∈ ini ++ [x] → y ∈ met ∨ y ∈ ini := fun y h => h.elim .inl fun h => by
    rcases List.mem_append.mp h with h | h
    · exact .inr h
    · rw [List.mem_singleton.mp h]; exact .inl hx
  have back : ∀ y : PH, y ∈ met ∨ y ∈ ini → y ∈ met ∨ y ∈ ini ++ [x] := fun y h => h.imp id (List.mem_append_left _)
  exact ⟨fun y h => E.reach y (back y h), fun y h => E.dom y (back y h), fun y hy i hi => ⟨fun q hq => drop _ ((E.cl y hy i hi).1 q hq), (E.cl y hy i hi).2⟩, E.bad, E.nd, drop _ E.st, E.cnt⟩
theorem EInv.new (G : GoodB body) (E : EInv body e0 met (ini ++ [x]) found) (hx : x ∉ met) (hi : body[x.1]? = some i) {found' : List Nat} (hf1 : (∃ r ∈ i.reads, (r : Int) ∉ x.2) → x.1 ∈ found') (hf2 : ∀ k ∈ found, k ∈ found')
    (hf3 : ∀ k ∈ found', k ∈ found ∨ (k = x.1 ∧ ∃ r ∈ i.reads, (r : Int) ∉ x.2)) (hf4 : found'.Nodup) :
    EInv body e0 (met ++ [x]) (ini ++ (succs i x.1).map fun q => (q, fourOf (x.2 ++ casts i.writes))) found' := by
  have hxw : x ∈ ini ++ [x] := List.mem_append_right _ (List.mem_singleton.mpr rfl)
  have hR := E.reach x (.inr hxw)
  have hD := E.dom x (.inr hxw)
  have h5 := G.len
  have fwd : ∀ y : PH, y ∈ met ∨ y ∈ ini ++ [x] → y ∈ met ++ [x] ∨ y ∈ ini ++ (succs i x.1).map fun q => (q, fourOf (x.2 ++ casts i.writes)) := fun y h => by
    rcases h with h | h
    · exact .inl (List.mem_append_left _ h)
    · rcases List.mem_append.mp h with h | h
      · exact .inr (List.mem_append_left _ h)
      · exact .inl (List.mem_append_right _ h)
  have inv : ∀ y : PH, y ∈ met ++ [x] ∨ y ∈ ini ++ (succs i x.1).map (fun q => (q, fourOf (x.2 ++ casts i.writes))) → (y ∈ met ∨ y ∈ ini ++ [x]) ∨ ∃ q ∈ behind i x.1, y = (q, fourOf (x.2 ++ casts i.writes)) := fun y h => by
    rcases h with h | h <;> rcases List.mem_append.mp h with h | h
    · exact .inl (.inl h)
    · exact .inl (.inr (List.mem_append_right _ h))
    · exact .inl (.inr (List.mem_append_left _ h))
    · obtain ⟨q, hq, rfl⟩ := List.mem_map.mp h
      exact .inr ⟨q, (succs_behind ..).mp hq, rfl⟩
  refine ⟨fun y h => ?_, fun y h => ?_, fun y hy i' hi' => ?_, fun k hk => ?_, hf4, fwd _ E.st, ?_⟩
  · rcases inv y h with h | ⟨q, hq, rfl⟩
    · exact E.reach y h
    · exact hR.step hi hq
  · rcases inv y h with h | ⟨q, hq, rfl⟩
    · exact E.dom y h
    · exact ⟨G.nxt _ _ hi q hq, four_sub _⟩
  · rcases List.mem_append.mp hy with hy | hy
    · obtain ⟨h1, h2⟩ := E.cl y hy i' hi'
      exact ⟨fun q hq => fwd _ (h1 q hq), fun h => hf2 _ (h2 h)⟩
    · have e : y = x := List.mem_singleton.mp hy
      subst e
      rw [hi] at hi'; cases hi'
      exact ⟨fun q hq => .inr (List.mem_append_right _ (List.mem_map.mpr ⟨q, (succs_behind ..).mpr hq, rfl⟩)), hf1⟩
  · rcases hf3 k hk with h | ⟨rfl, r, hr, hn⟩
    · exact E.bad k h
    · exact ⟨x.2, hR, i, hi, r, hr, hn⟩
  · have := left_lt (met := met) (univ_mem (x := x) (by lia) hD.2) hx
    have := E.cnt
    rw [List.length_append, List.length_singleton]; lia
/- at the end all that is bad is found -/
theorem EInv.last (E : EInv body e0 met [] found) (k : Nat) : k ∈ found ↔ Bad body e0 k := by
  refine ⟨E.bad k, fun ⟨h, R, i, hi, hr⟩ => ?_⟩
  have all : ∀ {p h}, Reach body e0 p h → ((p, h) : PH) ∈ met := fun R => by
    induction R with
    | init => exact E.st.elim id fun h => nomatch h
    | step R hi hq ih => exact ((E.cl _ ih _ hi).1 _ hq).elim id fun h => nomatch h
  exact (E.cl _ (all R) i hi).2 hr
end
end Mine
end

section
open PySem
set_option Elab.async false
set_option maxRecDepth 100000
set_option linter.unusedVariables false
set_option linter.unusedSimpArgs false
set_option maxHeartbeats 4000000
namespace Mine

noncomputable def kI (k : Nat) : Key := .i (k : Int)
noncomputable def kT (x : PH) : Key := .t (x.1 : Int) x.2
noncomputable def fK (f : List Nat) : List V := (f.map kI).map Key.v
noncomputable def mK (m : List PH) : List V := (m.map kT).map Key.v
noncomputable def wV (x : PH) : V := .tup [iv x.1, .tup (x.2.map V.int)]
noncomputable def wK (w : List PH) : List V := w.map wV
theorem kT_inj {x y : PH} (h : kT x = kT y) : x = y := by
  unfold kT at h
  injection h with h1 h2
  exact Prod.ext (Int.ofNat.inj h1) h2
theorem kI_inj {x y : Nat} (h : kI x = kI y) : x = y := by
  unfold kI at h
  injection h with h1
  exact Int.ofNat.inj h1
theorem kT_mem {x : PH} {m : List PH} : kT x ∈ m.map kT ↔ x ∈ m := ⟨fun h => (by obtain ⟨y, hy, e⟩ := List.mem_map.mp h; exact kT_inj e ▸ hy), fun h => List.mem_map.mpr ⟨x, h, rfl⟩⟩
theorem kI_mem {x : Nat} {m : List Nat} : kI x ∈ m.map kI ↔ x ∈ m := ⟨fun h => (by obtain ⟨y, hy, e⟩ := List.mem_map.mp h; exact kI_inj e ▸ hy), fun h => List.mem_map.mpr ⟨x, h, rfl⟩⟩
noncomputable def addN (f : List Nat) (k : Nat) : List Nat := if k ∈ f then f else f ++ [k]
theorem addN_key (f : List Nat) (k : Nat) : (addKey (f.map kI) (kI k)).map Key.v = fK (addN f k) := by
  unfold addKey addN fK
  by_cases h : k ∈ f
  · rw [if_pos (kI_mem.mpr h), if_pos h]
  · rw [if_neg (fun e => h (kI_mem.mp e)), if_neg h, List.map_append (f := kI)]; rfl
theorem addT_key {m : List PH} {x : PH} (h : x ∉ m) : (addKey (m.map kT) (kT x)).map Key.v = mK (m ++ [x]) := by
  unfold addKey mK
  rw [if_neg (fun e => h (kT_mem.mp e)), List.map_append (f := kT)]; rfl
theorem kAllT (m : List PH) (x : PH) : ∀ k ∈ m.map kT, k.isT = (kT x).isT := fun k hk => by obtain ⟨y, _, rfl⟩ := List.mem_map.mp hk; rfl
theorem kAllI (f : List Nat) (x : Nat) : ∀ k ∈ f.map kI, k.isT = (kI x).isT := fun k hk => by obtain ⟨y, _, rfl⟩ := List.mem_map.mp hk; rfl
theorem sub_lt {h : List Int} (hs : h ∈ subs4) : h.length ≤ 4 ∧ ∀ r ∈ h, 0 ≤ r ∧ r < 4 := by
  have : ∀ h ∈ subs4, h.length ≤ 4 ∧ ∀ r ∈ h, 0 ≤ r ∧ r < 4 := by decide +kernel
  exact this h hs

section
variable {C : Calls} {p : Option Pot} {Qf : Fl → St → Prop}
theorem tail30 {v32 v11 v15 v39 v55 : V} {o12 o25 : List V} {i : I} {pl : Nat} {w : List PH} {h2 : List Int} (hw : w.length < 1000)
    (h : ∀ L, L = wK (w ++ (succs i pl).map fun q => (q, h2)) → Qf .next ⟨[(32, .imm v32), (11, .imm v11), (12, .odic o12), (25, .odic o25), (52, .own L), (33, .imm (iv pl)), (15, .imm v15), (47, .imm i.v), (39, .imm v39), (55, .imm v55), (23, .imm (.tup (h2.map V.int)))], p⟩) :
    wpSs C [(.iff (.cmp .NotIn (.idx (.var 47) (.int 0)) (.tup [(.str 9), (.str 11), (.str 12)])) [(.app 52 (.tup [(.bin .Add (.var 33) (.int 1)), (.var 23)]))] []), (.iff (.cmp .In (.idx (.var 47) (.int 0)) (.tup [(.str 9), (.str 10)])) [(.app 52 (.tup [(.ite (.cmp .Eq (.idx (.var 47) (.int 0)) (.str 9)) (.idx (.var 47) (.int 1)) (.idx (.var 47) (.int 2))), (.var 23)]))] [])] Qf
      ⟨[(32, .imm v32), (11, .imm v11), (12, .odic o12), (25, .odic o25), (52, .own (wK w)), (33, .imm (iv pl)), (15, .imm v15), (47, .imm i.v), (39, .imm v39), (55, .imm v55), (23, .imm (.tup (h2.map V.int)))], p⟩ := by
  have l1 : (wK w).length < 2 ^ 20 := by unfold wK; rw [List.length_map]; lia
  have l2 : ∀ a, (wK w ++ [a]).length < 2 ^ 20 := fun a => by rw [List.length_append, List.length_singleton]; unfold wK; rw [List.length_map]; lia
  cases i
  case jump l => exact ⟨sm0, _, rfl, brf ⟨sm0, _, rfl, brt ⟨sm0, _, rfl, brt ⟨sm1, _, rfl, ⟨l1, h _ (by unfold wK; rw [List.map_append]; rfl)⟩⟩⟩⟩⟩
  case brf s l => exact ⟨sm0, _, rfl, brt ⟨l1, ⟨sm0, _, rfl, brt ⟨sm0, _, rfl, Mine.brf ⟨sm2, _, rfl, ⟨l2 _, h _ (by unfold wK; rw [List.map_append, List.append_assoc]; rfl)⟩⟩⟩⟩⟩⟩
  case call => exact ⟨sm0, _, rfl, brf ⟨sm0, _, rfl, brf (h _ (by rw [show succs (I.call _ _ _) pl = [] from rfl, List.map_nil, List.append_nil]))⟩⟩
  case give => exact ⟨sm0, _, rfl, brf ⟨sm0, _, rfl, brf (h _ (by rw [show succs (I.give _ _) pl = [] from rfl, List.map_nil, List.append_nil]))⟩⟩
  all_goals exact ⟨sm0, _, rfl, brt ⟨l1, ⟨sm0, _, rfl, brf (h _ (by unfold wK; rw [List.map_append]; rfl))⟩⟩⟩
end
end Mine
end

section
open PySem
set_option Elab.async false
set_option maxRecDepth 100000
set_option tactic.hygienic false
set_option linter.unusedVariables false
set_option linter.unusedSimpArgs false
set_option maxHeartbeats 4000000
namespace Mine

@[reducible] noncomputable def E4 := Option (V × V × V × V)
noncomputable def ex4 (o : E4) : List (Nat × LV) := match o with | none => [] | some x => [(47, .imm x.1), (39, .imm x.2.1), (55, .imm x.2.2.1), (23, .imm x.2.2.2)]
theorem badI (reads : List Nat) (h : List Int) : ([] ++ (reads.filter fun (y : Nat) => !decide ((y : Int) ∈ h)).map iv).isEmpty = true ↔ ¬ ∃ r ∈ reads, (r : Int) ∉ h := by
  rw [List.nil_append, List.isEmpty_map, List.isEmpty_iff, List.filter_eq_nil_iff]
  constructor
  · rintro hn ⟨r, hr, hm⟩
    exact hn r hr (by simpa using hm)
  · intro hn a ha hb
    exact hn ⟨a, ha, by simpa using hb⟩
theorem four_wr {i : I} {h : List Int} (hw : i.writes.length ≤ 2) (hw4 : ∀ r ∈ i.writes, r < 4) (hs : h ∈ subs4) : (h ++ casts i.writes).length < 60 ∧ ∀ r ∈ h ++ casts i.writes, 0 ≤ r ∧ r < 4 := by
  obtain ⟨h1, h2⟩ := sub_lt hs
  refine ⟨by rw [List.length_append]; unfold casts; rw [List.length_map]; lia, fun r hr => ?_⟩
  rcases List.mem_append.mp hr with hr | hr
  · exact h2 r hr
  · obtain ⟨y, hy, rfl⟩ := List.mem_map.mp hr
    have := hw4 y hy
    exact ⟨by lia, by lia⟩
section
variable {n : Nat} {p : Option Pot} {Qf : Fl → St → Prop} {q : P} {num : Nat}
theorem blk30 {v11 : V} {i : I} {x : PH} {met ini : List PH} {found : List Nat} {o : E4} (G : GoodB q.body) (hi : q.body[x.1]? = some i) (hx : x ∉ met) (hs : x.2 ∈ subs4) (hm : met.length ≤ 80) (hf : found.length ≤ 5) (hw : ini.length < 1000)
    (h : ∀ found' : List Nat, ((∃ r ∈ i.reads, (r : Int) ∉ x.2) ∧ found' = addN found x.1 ∨ (¬ ∃ r ∈ i.reads, (r : Int) ∉ x.2) ∧ found' = found) →
      Qf .next ⟨[(32, .imm (q.v num)), (11, .imm v11), (12, .odic (fK found')), (25, .odic (mK (met ++ [x]))), (52, .own (wK (ini ++ (succs i x.1).map fun y => (y, fourOf (x.2 ++ casts i.writes))))), (33, .imm (iv x.1)), (15, .imm (.tup (x.2.map V.int)))] ++ ex4 (some (i.v, .lst (nts i.reads), .lst (nts i.writes), .tup ((fourOf (x.2 ++ casts i.writes)).map V.int))), p⟩) :
    wpSs (SP (n + 1)) [(.seti 25 (.tup [(.var 33), (.var 15)]) (.bool true)), (.asg 47 (.idx (.attr (.var 32) true 7) (.var 33))), (.unp [39, 55] (.call (.user 27) [(.var 47)])), (.iff (.cmp .NotEq (.comp (.var 29) 29 (.var 39) [(.cmp .NotIn (.var 29) (.var 15))]) (.lst [])) [(.seti 12 (.var 33) (.bool true))] []), (.asg 23 (.tss (.bin .Add (.call .list [(.var 15)]) (.var 55)))), (.iff (.cmp .NotIn (.idx (.var 47) (.int 0)) (.tup [(.str 9), (.str 11), (.str 12)])) [(.app 52 (.tup [(.bin .Add (.var 33) (.int 1)), (.var 23)]))] []), (.iff (.cmp .In (.idx (.var 47) (.int 0)) (.tup [(.str 9), (.str 10)])) [(.app 52 (.tup [(.ite (.cmp .Eq (.idx (.var 47) (.int 0)) (.str 9)) (.idx (.var 47) (.int 1)) (.idx (.var 47) (.int 2))), (.var 23)]))] [])] Qf
      ⟨[(32, .imm (q.v num)), (11, .imm v11), (12, .odic (fK found)), (25, .odic (mK met)), (52, .own (wK ini)), (33, .imm (iv x.1)), (15, .imm (.tup (x.2.map V.int)))] ++ ex4 o, p⟩ := by
  have hmem := get_mem hi
  have hb5 := G.len
  have hpl := (List.getElem?_eq_some_iff.mp hi).1
  have w := G.wf i hmem
  have rl := reads_len w
  have wl := writes_len w
  have it : itemAt (q.body.map I.v) (x.1 : Int) = some i.v := item_map hi
  have hhl := (sub_lt hs).1
  have hml : (met.map kT).length < 2 ^ 10 := by rw [List.length_map]; lia
  have hfl : (found.map kI).length < 2 ^ 10 := by rw [List.length_map]; lia
  have hnl : (nts i.reads).length < 2 ^ 20 := by rw [nts_len]; lia
  have f4 := four_wr wl (G.wr i hmem) hs
  have hxl : (x.2.map V.int).length < 2 ^ 20 := by rw [List.length_map]; lia
  have hxl2 : (x.2.map V.int).length + (nts i.writes).length < 2 ^ 20 := by rw [List.length_map, nts_len]; lia
  have ecat : x.2.map V.int ++ nts i.writes = (x.2 ++ casts i.writes).map V.int := by rw [List.map_append, nts_is]; rfl
  have eT := addT_key hx
  have eF := addN_key found x.1
  have key : ∀ (L25 L12 : List V) (found' : List Nat), L25 = mK (met ++ [x]) → L12 = fK found' → ((∃ r ∈ i.reads, (r : Int) ∉ x.2) ∧ found' = addN found x.1 ∨ (¬ ∃ r ∈ i.reads, (r : Int) ∉ x.2) ∧ found' = found) → wpSs (SP (n + 1)) [(.iff (.cmp .NotIn (.idx (.var 47) (.int 0)) (.tup [(.str 9), (.str 11), (.str 12)])) [(.app 52 (.tup [(.bin .Add (.var 33) (.int 1)), (.var 23)]))] []), (.iff (.cmp .In (.idx (.var 47) (.int 0)) (.tup [(.str 9), (.str 10)])) [(.app 52 (.tup [(.ite (.cmp .Eq (.idx (.var 47) (.int 0)) (.str 9)) (.idx (.var 47) (.int 1)) (.idx (.var 47) (.int 2))), (.var 23)]))] [])] Qf
      ⟨[(32, .imm (q.v num)), (11, .imm v11), (12, .odic L12), (25, .odic L25), (52, .own (wK ini)), (33, .imm (iv x.1)), (15, .imm (.tup (x.2.map V.int))), (47, .imm i.v), (39, .imm (.lst (nts i.reads))), (55, .imm (.lst (nts i.writes))), (23, .imm (.tup ((fourOf (x.2 ++ casts i.writes)).map V.int)))], p⟩ := fun L25 L12 found' e1 e2 hb => by
    subst e1; subst e2
    exact tail30 hw fun L eL => by subst eL; exact h found' hb
  have rest : ∀ ex : E4, wpSs (SP (n + 1)) [(.asg 47 (.idx (.attr (.var 32) true 7) (.var 33))), (.unp [39, 55] (.call (.user 27) [(.var 47)])), (.iff (.cmp .NotEq (.comp (.var 29) 29 (.var 39) [(.cmp .NotIn (.var 29) (.var 15))]) (.lst [])) [(.seti 12 (.var 33) (.bool true))] []), (.asg 23 (.tss (.bin .Add (.call .list [(.var 15)]) (.var 55)))), (.iff (.cmp .NotIn (.idx (.var 47) (.int 0)) (.tup [(.str 9), (.str 11), (.str 12)])) [(.app 52 (.tup [(.bin .Add (.var 33) (.int 1)), (.var 23)]))] []), (.iff (.cmp .In (.idx (.var 47) (.int 0)) (.tup [(.str 9), (.str 10)])) [(.app 52 (.tup [(.ite (.cmp .Eq (.idx (.var 47) (.int 0)) (.str 9)) (.idx (.var 47) (.int 1)) (.idx (.var 47) (.int 2))), (.var 23)]))] [])] Qf
      ⟨[(32, .imm (q.v num)), (11, .imm v11), (12, .odic (fK found)), (25, .odic ((addKey (met.map kT) (kT x)).map Key.v)), (52, .own (wK ini)), (33, .imm (iv x.1)), (15, .imm (.tup (x.2.map V.int)))] ++ ex4 ex, p⟩ := fun ex => by
    cases ex with
    | none =>
      refine ⟨rfl, ⟨sm (by lia), _, it, sp27 w ⟨rfl, ⟨hnl, comp_fm iv iv (fun (y : Nat) => !decide ((y : Int) ∈ x.2)) i.reads [] (fun a zz Q h => ⟨x.2, rfl, h⟩) (fun a zz zz Q h => h) ?_⟩⟩⟩⟩
      show brP (!([] ++ (i.reads.filter fun (y : Nat) => !decide ((y : Int) ∈ x.2)).map iv).isEmpty) _ _
      refine brnb (fun e => ?_) fun e => ?_
      · have hb : ∃ r ∈ i.reads, (r : Int) ∉ x.2 := by
          by_cases hb : ∃ r ∈ i.reads, (r : Int) ∉ x.2
          · exact hb
          · rw [(badI i.reads x.2).mpr hb] at e; cases e
        exact ⟨kI x.1, found.map kI, rfl, rfl, kAllI found x.1, hfl, ⟨hxl, ⟨hxl2, ⟨_, ecat, f4, key _ _ _ eT eF (.inl ⟨hb, rfl⟩)⟩⟩⟩⟩
      · exact ⟨hxl, ⟨hxl2, ⟨_, ecat, f4, key _ _ _ eT rfl (.inr ⟨(badI i.reads x.2).mp e, rfl⟩)⟩⟩⟩
    | some y =>
      refine ⟨rfl, ⟨sm (by lia), _, it, sp27 w ⟨rfl, ⟨hnl, comp_fm iv iv (fun (y : Nat) => !decide ((y : Int) ∈ x.2)) i.reads [] (fun a zz Q h => ⟨x.2, rfl, h⟩) (fun a zz zz Q h => h) ?_⟩⟩⟩⟩
      show brP (!([] ++ (i.reads.filter fun (y : Nat) => !decide ((y : Int) ∈ x.2)).map iv).isEmpty) _ _
      refine brnb (fun e => ?_) fun e => ?_
      · have hb : ∃ r ∈ i.reads, (r : Int) ∉ x.2 := by
          by_cases hb : ∃ r ∈ i.reads, (r : Int) ∉ x.2
          · exact hb
          · rw [(badI i.reads x.2).mpr hb] at e; cases e
        exact ⟨kI x.1, found.map kI, rfl, rfl, kAllI found x.1, hfl, ⟨hxl, ⟨hxl2, ⟨_, ecat, f4, key _ _ _ eT eF (.inl ⟨hb, rfl⟩)⟩⟩⟩⟩
      · exact ⟨hxl, ⟨hxl2, ⟨_, ecat, f4, key _ _ _ eT rfl (.inr ⟨(badI i.reads x.2).mp e, rfl⟩)⟩⟩⟩
  have r := rest o
  cases o with
  | none => exact ⟨kT x, met.map kT, rfl, rfl, kAllT met x, hml, r⟩
  | some y => exact ⟨kT x, met.map kT, rfl, rfl, kAllT met x, hml, r⟩
end
end Mine
end

section
open PySem
set_option Elab.async false
set_option maxRecDepth 100000
set_option tactic.hygienic false
set_option linter.unusedVariables false
set_option linter.unusedSimpArgs false
set_option maxHeartbeats 4000000
namespace Mine

@[reducible] noncomputable def E6 := Option (V × V × E4)
noncomputable def ex6 (o : E6) : List (Nat × LV) := match o with | none => [] | some x => [(33, .imm x.1), (15, .imm x.2.1)] ++ ex4 x.2.2
theorem bad_lt {body : List I} {e0 : List Int} {k : Nat} (h : Bad body e0 k) : k < body.length := (by obtain ⟨_, _, i, hi, _⟩ := h; exact (List.getElem?_eq_some_iff.mp hi).1)
theorem addN_nodup {f : List Nat} (h : f.Nodup) (k : Nat) : (addN f k).Nodup := by
  unfold addN
  split
  · exact h
  · rename_i hk
    rw [List.nodup_append]
    exact ⟨h, by simp, fun a ha b hb e => hk (by rw [List.mem_singleton.mp hb] at e; exact e ▸ ha)⟩
theorem addN_mem {f : List Nat} {k x : Nat} : x ∈ addN f k ↔ x ∈ f ∨ x = k := by
  unfold addN
  split
  · rename_i hk
    exact ⟨.inl, fun h => h.elim id fun e => e ▸ hk⟩
  · rw [List.mem_append, List.mem_singleton]
section
variable {n : Nat} {p : Option Pot} {Qf : Fl → St → Prop} {q : P} {num : Nat} {e0 : List Int}
theorem outer30 {v11 : V} (G : GoodB q.body) (hfin : ∀ (found : List Nat) (L25 : List V) (ex : E6), (∀ k, k ∈ found ↔ Bad q.body e0 k) → found.Nodup → Qf .next ⟨[(32, .imm (q.v num)), (11, .imm v11), (12, .odic (fK found)), (25, .odic L25), (52, .own [])] ++ ex6 ex, p⟩) :
    ∀ (k : Nat) (met wait : List PH) (found : List Nat) (L52 : List V) (ex : E6), L52 = wK wait → k < 900 → 3 * left met + wait.length ≤ k → EInv q.body e0 met wait found →
      whileN (fun Q σ => wpE (SP (n + 1)) (.cmp .NotEq (.var 52) (.lst [])) Q σ)
        (fun Q σ => wpSs (SP (n + 1)) [(.unp [33, 15] (.pop 52)), (.iff (.cmp .NotIn (.tup [(.var 33), (.var 15)]) (.var 25)) [(.seti 25 (.tup [(.var 33), (.var 15)]) (.bool true)), (.asg 47 (.idx (.attr (.var 32) true 7) (.var 33))), (.unp [39, 55] (.call (.user 27) [(.var 47)])), (.iff (.cmp .NotEq (.comp (.var 29) 29 (.var 39) [(.cmp .NotIn (.var 29) (.var 15))]) (.lst [])) [(.seti 12 (.var 33) (.bool true))] []), (.asg 23 (.tss (.bin .Add (.call .list [(.var 15)]) (.var 55)))), (.iff (.cmp .NotIn (.idx (.var 47) (.int 0)) (.tup [(.str 9), (.str 11), (.str 12)])) [(.app 52 (.tup [(.bin .Add (.var 33) (.int 1)), (.var 23)]))] []), (.iff (.cmp .In (.idx (.var 47) (.int 0)) (.tup [(.str 9), (.str 10)])) [(.app 52 (.tup [(.ite (.cmp .Eq (.idx (.var 47) (.int 0)) (.str 9)) (.idx (.var 47) (.int 1)) (.idx (.var 47) (.int 2))), (.var 23)]))] [])] [])] Q σ)
        (k + 1) Qf ⟨[(32, .imm (q.v num)), (11, .imm v11), (12, .odic (fK found)), (25, .odic (mK met)), (52, .own L52)] ++ ex6 ex, p⟩ := by
  intro k
  induction k with
  | zero =>
    intro met wait found L52 ex e52 _ hk E
    have hw : wait = [] := List.length_eq_zero_iff.mp (by lia)
    subst hw
    subst e52
    have fin := hfin found (mK met) ex (fun k => E.last k) E.nd
    cases ex <;> exact brf fin
  | succ k ih =>
    intro met wait found L52 ex e52 hk9 hk E
    subst e52
    rcases List.eq_nil_or_concat wait with rfl | ⟨ini, x, rfl⟩
    · have fin := hfin found (mK met) ex (fun k => E.last k) E.nd
      cases ex <;> exact brf fin
    · rw [List.concat_eq_append] at E hk ⊢
      rw [List.length_append, List.length_singleton] at hk
      have hxw : x ∈ ini ++ [x] := List.mem_append_right _ (List.mem_singleton.mpr rfl)
      have hD := E.dom x (.inr hxw)
      have hi : q.body[x.1]? = some q.body[x.1] := List.getElem?_eq_getElem hD.1
      have ew : wK (ini ++ [x]) = wK ini ++ [wV x] := List.map_append ..
      have hne : (wK (ini ++ [x])).isEmpty = false := by rw [ew]; cases wK ini <;> rfl
      have hlen : (wK (ini ++ [x])).length < 2 ^ 20 := by rw [ew, List.length_append, List.length_singleton]; unfold wK; rw [List.length_map]; lia
      have hcnt := E.cnt
      have hf5 : found.length ≤ 5 := Nat.le_trans (nodup_lt q.body.length found E.nd fun k hk => bad_lt (E.bad k hk)) G.len
      have step : ∀ o : E4, brP (!decide (kT x ∈ met.map kT)) (wpSs (SP (n + 1)) [(.seti 25 (.tup [(.var 33), (.var 15)]) (.bool true)), (.asg 47 (.idx (.attr (.var 32) true 7) (.var 33))), (.unp [39, 55] (.call (.user 27) [(.var 47)])), (.iff (.cmp .NotEq (.comp (.var 29) 29 (.var 39) [(.cmp .NotIn (.var 29) (.var 15))]) (.lst [])) [(.seti 12 (.var 33) (.bool true))] []), (.asg 23 (.tss (.bin .Add (.call .list [(.var 15)]) (.var 55)))), (.iff (.cmp .NotIn (.idx (.var 47) (.int 0)) (.tup [(.str 9), (.str 11), (.str 12)])) [(.app 52 (.tup [(.bin .Add (.var 33) (.int 1)), (.var 23)]))] []), (.iff (.cmp .In (.idx (.var 47) (.int 0)) (.tup [(.str 9), (.str 10)])) [(.app 52 (.tup [(.ite (.cmp .Eq (.idx (.var 47) (.int 0)) (.str 9)) (.idx (.var 47) (.int 1)) (.idx (.var 47) (.int 2))), (.var 23)]))] [])] (fun fl σ' => match fl with
            | .next => whileN (fun Q σ => wpE (SP (n + 1)) (.cmp .NotEq (.var 52) (.lst [])) Q σ)
                (fun Q σ => wpSs (SP (n + 1)) [(.unp [33, 15] (.pop 52)), (.iff (.cmp .NotIn (.tup [(.var 33), (.var 15)]) (.var 25)) [(.seti 25 (.tup [(.var 33), (.var 15)]) (.bool true)), (.asg 47 (.idx (.attr (.var 32) true 7) (.var 33))), (.unp [39, 55] (.call (.user 27) [(.var 47)])), (.iff (.cmp .NotEq (.comp (.var 29) 29 (.var 39) [(.cmp .NotIn (.var 29) (.var 15))]) (.lst [])) [(.seti 12 (.var 33) (.bool true))] []), (.asg 23 (.tss (.bin .Add (.call .list [(.var 15)]) (.var 55)))), (.iff (.cmp .NotIn (.idx (.var 47) (.int 0)) (.tup [(.str 9), (.str 11), (.str 12)])) [(.app 52 (.tup [(.bin .Add (.var 33) (.int 1)), (.var 23)]))] []), (.iff (.cmp .In (.idx (.var 47) (.int 0)) (.tup [(.str 9), (.str 10)])) [(.app 52 (.tup [(.ite (.cmp .Eq (.idx (.var 47) (.int 0)) (.str 9)) (.idx (.var 47) (.int 1)) (.idx (.var 47) (.int 2))), (.var 23)]))] [])] [])] Q σ) (k + 1) Qf σ'
            | .ret v => Qf (.ret v) σ')
            ⟨[(32, .imm (q.v num)), (11, .imm v11), (12, .odic (fK found)), (25, .odic (mK met)), (52, .own (wK ini)), (33, .imm (iv x.1)), (15, .imm (.tup (x.2.map V.int)))] ++ ex4 o, p⟩)
          (whileN (fun Q σ => wpE (SP (n + 1)) (.cmp .NotEq (.var 52) (.lst [])) Q σ)
            (fun Q σ => wpSs (SP (n + 1)) [(.unp [33, 15] (.pop 52)), (.iff (.cmp .NotIn (.tup [(.var 33), (.var 15)]) (.var 25)) [(.seti 25 (.tup [(.var 33), (.var 15)]) (.bool true)), (.asg 47 (.idx (.attr (.var 32) true 7) (.var 33))), (.unp [39, 55] (.call (.user 27) [(.var 47)])), (.iff (.cmp .NotEq (.comp (.var 29) 29 (.var 39) [(.cmp .NotIn (.var 29) (.var 15))]) (.lst [])) [(.seti 12 (.var 33) (.bool true))] []), (.asg 23 (.tss (.bin .Add (.call .list [(.var 15)]) (.var 55)))), (.iff (.cmp .NotIn (.idx (.var 47) (.int 0)) (.tup [(.str 9), (.str 11), (.str 12)])) [(.app 52 (.tup [(.bin .Add (.var 33) (.int 1)), (.var 23)]))] []), (.iff (.cmp .In (.idx (.var 47) (.int 0)) (.tup [(.str 9), (.str 10)])) [(.app 52 (.tup [(.ite (.cmp .Eq (.idx (.var 47) (.int 0)) (.str 9)) (.idx (.var 47) (.int 1)) (.idx (.var 47) (.int 2))), (.var 23)]))] [])] [])] Q σ) (k + 1) Qf
            ⟨[(32, .imm (q.v num)), (11, .imm v11), (12, .odic (fK found)), (25, .odic (mK met)), (52, .own (wK ini)), (33, .imm (iv x.1)), (15, .imm (.tup (x.2.map V.int)))] ++ ex4 o, p⟩) := fun o => by
        refine brn (fun e => ?_) fun e => ?_
        · have hx : x ∉ met := fun h => e (kT_mem.mpr h)
          have hlt := left_lt (met := met) (univ_mem (x := x) (by have := G.len; lia) hD.2) hx
          refine blk30 G hi hx hD.2 (by lia) hf5 (by lia) fun found' hb => ?_
          have hsl := succs_len q.body[x.1] x.1
          have g := ih (met ++ [x]) (ini ++ (succs q.body[x.1] x.1).map fun y => (y, fourOf (x.2 ++ casts q.body[x.1].writes))) found' _ (some (iv x.1, .tup (x.2.map V.int), some (q.body[x.1].v, .lst (nts q.body[x.1].reads), .lst (nts q.body[x.1].writes), .tup ((fourOf (x.2 ++ casts q.body[x.1].writes)).map V.int)))) rfl (by lia) (by rw [List.length_append, List.length_map]; lia) (by
            rcases hb with ⟨hb, rfl⟩ | ⟨hb, rfl⟩
            · exact E.new G hx hi (fun zz => addN_mem.mpr (.inr rfl)) (fun k hk => addN_mem.mpr (.inl hk)) (fun k hk => (addN_mem.mp hk).imp id fun e => ⟨e, hb⟩) (addN_nodup E.nd _)
            · exact E.new G hx hi (fun h => absurd h hb) (fun k hk => hk) (fun k hk => .inl hk) E.nd)
          exact g
        · have hx : x ∈ met := kT_mem.mp e
          have g := ih met ini found _ (some (iv x.1, .tup (x.2.map V.int), o)) rfl (by lia) (by lia) (E.old hx)
          exact g
      refine brnb (fun zz => ?_) fun e => by rw [hne] at e; cases e
      refine ⟨hlen, wK ini, wV x, ew, ⟨rfl, ?_⟩⟩
      cases ex with
      | none => exact ⟨kT x, met.map kT, rfl, rfl, kAllT met x, step none⟩
      | some y => exact ⟨kT x, met.map kT, rfl, rfl, kAllT met x, step y.2.2⟩
end
end Mine
end

section
open PySem
set_option Elab.async false
set_option maxRecDepth 100000
set_option tactic.hygienic false
set_option linter.unusedVariables false
set_option linter.unusedSimpArgs false
set_option maxHeartbeats 4000000
namespace Mine

theorem e0_sub {en : Nat} (h : en ≤ 4) : e0Of en ∈ subs4 := by
  have h5 : en = 0 ∨ en = 1 ∨ en = 2 ∨ en = 3 ∨ en = 4 := by lia
  rcases h5 with rfl | rfl | rfl | rfl | rfl <;> decide +kernel
theorem e_init {body : List I} {en : Nat} (h0 : 0 < body.length) (hen : en ≤ 4) : EInv body (e0Of en) [] [(0, e0Of en)] [] where
  reach := fun x h => h.elim (fun h => nomatch h) fun h => by rw [List.mem_singleton.mp h]; exact .init
  dom := fun x h => h.elim (fun h => nomatch h) fun h => by rw [List.mem_singleton.mp h]; exact ⟨h0, e0_sub hen⟩
  cl := fun zz h => nomatch h
  bad := fun zz h => nomatch h
  nd := List.nodup_nil
  st := .inr (List.mem_singleton.mpr rfl)
  cnt := by rw [left_nil]; exact Nat.le_refl _
theorem fK_ints (f : List Nat) : fK f = (casts f).map V.int := by unfold fK casts; rw [List.map_map, List.map_map]; rfl
theorem casts_nodup {f : List Nat} (h : f.Nodup) : (casts f).Nodup := by
  unfold casts
  refine List.pairwise_map.mpr (h.imp fun hne e => hne (Int.ofNat.inj e))
section
variable {n : Nat} {p : Option Pot} {Q : V → Option Pot → Prop} {q : P} {num : Nat}
theorem sp30 {en : Nat} (G : GoodB q.body) (h0 : 0 < q.body.length) (hen : en ≤ 4) (h : ∀ l : List Int, (∀ k : Int, k ∈ l ↔ ∃ m : Nat, k = (m : Int) ∧ Bad q.body (e0Of en) m) → l.Pairwise (· ≤ ·) → Q (.lst (l.map V.int)) p) : SP (n + 2) 30 [q.v num, iv en] p Q := by
  refine sp_of rfl rfl ⟨sm (by lia), ⟨⟨Int.natCast_nonneg _, by lia⟩, ⟨801, ?_⟩⟩⟩
  refine outer30 (n := n) (num := num) (e0 := e0Of en) G (fun found L25 ex hb nd => ?_) 800 [] [(0, e0Of en)] [] _ none ?_ (by lia) (by rw [left_nil]; exact nle rfl) (e_init h0 hen)
  · have hl : found.length ≤ 5 := Nat.le_trans (nodup_lt q.body.length found nd fun k hk => bad_lt ((hb k).mp hk)) G.len
    have r : intsP (fK found) fun is => (is.length < 60 ∧ is.Nodup) ∧ ∀ l : List Int, l.Perm is → l.Pairwise (· ≤ ·) → Q (.lst (l.map V.int)) p := by
      refine ⟨casts found, fK_ints found, ⟨by unfold casts; rw [List.length_map]; lia, casts_nodup nd⟩, fun l hp hs => h l (fun k => ?_) hs⟩
      rw [hp.mem_iff]
      unfold casts
      rw [List.mem_map]
      exact ⟨fun ⟨m, hm, e⟩ => ⟨m, e.symm, (hb m).mp hm⟩, fun ⟨m, e, hm⟩ => ⟨m, (hb m).mpr hm, e.symm⟩⟩
    cases ex <;> exact r
  · rw [Int.toNat_natCast]
    show [V.tup [.int 0, .tup ((List.range en).map iv)]] = [V.tup [iv 0, .tup ((e0Of en).map V.int)]]
    rw [show (e0Of en).map V.int = (List.range en).map iv by unfold e0Of casts; rw [List.map_map]; rfl]
    rfl

variable {ps : List P} {cs ns : List V}
noncomputable def exI (o : Option (V × V × Option V)) : List (Nat × LV) := match o with | none => [] | some (a, b, none) => [(33, .imm a), (47, .imm b)] | some (a, b, some c) => [(33, .imm a), (47, .imm b), (10, .imm c)]
theorem loopI {v46 v28 v11 : V} {Qf : Fl → St → Prop} (G : GoodP ps cs ns q) : ∀ (rest : List I) (k : Nat) (ex : Option (V × V × Option V)), (ex = none → rest ≠ []) → q.body.drop k = rest → (∀ j < k, ¬ ∃ i, q.body[j]? = some i ∧ fits ps cs ns q i = false) →
    (First q.body.length (fun k => ∃ i, q.body[k]? = some i ∧ fits ps cs ns q i = false) none → ∀ (a b : V) (o : Option V), Qf .next ⟨[(50, .imm (uv ps cs ns)), (46, .imm v46), (28, .imm v28), (32, .imm (q.v num)), (11, .imm v11)] ++ exI (some (a, b, o)), p⟩) →
    (∀ (j : Nat) (σ : St), First q.body.length (fun k => ∃ i, q.body[k]? = some i ∧ fits ps cs ns q i = false) (some j) → σ.pot = p → Qf (.ret (.tup [v28, iv j])) σ) →
    forL (fun Q σ => wpSs (SP (n + 2)) [(.iff (.not (.call (.user 29) [(.var 50), (.var 32), (.var 47)])) [(.ret (.tup [(.var 28), (.var 33)]))] [])] Q σ) [33, 47] false (enumV k (rest.map I.v)) Qf
      ⟨[(50, .imm (uv ps cs ns)), (46, .imm v46), (28, .imm v28), (32, .imm (q.v num)), (11, .imm v11)] ++ exI ex, p⟩
  | [], k, none, hne, hd, hk, h1, _ => absurd rfl (hne rfl)
  | [], k, some (a, b, o), hne, hd, hk, h1, _ => h1 (fun j hj => hk j (Nat.lt_of_lt_of_le hj (List.drop_eq_nil_iff.mp hd))) a b o
  | i :: rest, k, ex, hne, hd, hk, h1, h2 => by
    have hi : q.body[k]? = some i := by
      have := List.getElem?_drop (xs := q.body) (i := k) (j := 0)
      rw [hd] at this; simpa using this.symm
    have hkl : k < q.body.length := (List.getElem?_eq_some_iff.mp hi).1
    have hd' : q.body.drop (k + 1) = rest := by rw [← List.drop_drop, hd]; rfl
    have go := fun (hb : fits ps cs ns q i = true) => fun (x : V × V × Option V) => loopI (v46 := v46) (v28 := v28) (v11 := v11) (Qf := Qf) G rest (k + 1) (some x) (fun h => nomatch h) hd' (fun j hj => by
      rcases Nat.lt_succ_iff_lt_or_eq.mp hj with h | h
      · exact hk j h
      · rw [h]; rintro ⟨i', e, e2⟩; rw [hi] at e; cases e; rw [hb] at e2; cases e2) h1 h2
    have bd := fun (hb : fits ps cs ns q i = false) => fun σ hσ => h2 k σ ⟨hkl, ⟨i, hi, hb⟩, hk⟩ hσ
    have w := G.wf i (get_mem hi)
    rcases ex with _ | ⟨a, b, _ | c⟩
    · exact ⟨rfl, sp29 G.L w (brnb (fun e => bd e _ rfl) fun e => go e (iv k, i.v, none))⟩
    · exact ⟨rfl, sp29 G.L w (brnb (fun e => bd e _ rfl) fun e => go e (iv k, i.v, none))⟩
    · exact ⟨rfl, sp29 G.L w (brnb (fun e => bd e _ rfl) fun e => go e (iv k, i.v, some c))⟩
end
end Mine
end

section
open PySem
set_option Elab.async false
set_option maxRecDepth 100000
set_option tactic.hygienic false
set_option linter.unusedVariables false
set_option linter.unusedSimpArgs false
set_option maxHeartbeats 4000000
namespace Mine

theorem it_last {α : Type} {l : List α} {f : α → V} {a : α} (h : l[l.length - 1]? = some a) : itemAt (l.map f) (-1) = some (f a) := by
  have hl := (List.getElem?_eq_some_iff.mp h).1
  unfold itemAt
  rw [if_neg (by omega), List.length_map, if_pos (by omega)]
  rw [show ((l.length : Int) + -1).toNat = l.length - 1 by omega, List.getElem?_map, h]; rfl
theorem smm : small (-1) := ⟨by decide, by decide⟩
section
variable {n : Nat} {p : Option Pot} {Qf : Fl → St → Prop} {q : P} {num : Nat} {ps : List P} {cs ns : List V}
theorem tail31 {v46 v28 v11 : V} {ex : Option (V × V × Option V)} (G : GoodP ps cs ns q) (h11 : v11 = iv q.entry) (hn : PErr ps cs ns q none → ∀ (a b c : V), Qf .next ⟨[(50, .imm (uv ps cs ns)), (46, .imm v46), (28, .imm v28), (32, .imm (q.v num)), (11, .imm v11)] ++ exI (some (a, b, some c)), p⟩)
    (hr : ∀ a, PErr ps cs ns q (some a) → ∀ σ : St, σ.pot = p → Qf (.ret (.tup [v28, .int a])) σ) :
    wpSs (SP (n + 2)) [(.iff (.cmp .Lt (.attr (.var 32) true 5) (.var 11)) [(.ret (.tup [(.var 28), (.neg (.int 1))]))] []), (.fr [33, 47] false true (.attr (.var 32) true 7) [(.iff (.not (.call (.user 29) [(.var 50), (.var 32), (.var 47)])) [(.ret (.tup [(.var 28), (.var 33)]))] [])]), (.iff (.cmp .NotIn (.idx (.idx (.attr (.var 32) true 7) (.neg (.int 1))) (.int 0)) (.tup [(.str 9), (.str 11), (.str 12)])) [(.ret (.tup [(.var 28), (.bin .Sub (.call .len [(.attr (.var 32) true 7)]) (.int 1))]))] []), (.asg 10 (.call (.user 30) [(.var 32), (.var 11)])), (.iff (.cmp .NotEq (.var 10) (.lst [])) [(.ret (.tup [(.var 28), (.idx (.var 10) (.int 0))]))] [])] Qf
      ⟨[(50, .imm (uv ps cs ns)), (46, .imm v46), (28, .imm v28), (32, .imm (q.v num)), (11, .imm v11)] ++ exI ex, p⟩ := by
  subst h11
  have h5 := G.L.body
  have hne := G.ne
  have hr4 := G.regs
  have hl : (q.body.map I.v).length < 2 ^ 20 := by rw [List.length_map]; omega
  have hi : q.body[q.body.length - 1]? = some q.body[q.body.length - 1] := List.getElem?_eq_getElem (by omega)
  have itl : itemAt (q.body.map I.v) (-(1 : Int)) = some (q.body[q.body.length - 1].v) := it_last hi
  have hE := ends_code q.body[q.body.length - 1]
  have hLE : lastEnds q.body = q.body[q.body.length - 1].ends := by unfold lastEnds; rw [hi]
  have after : q.entry ≤ q.regs → First q.body.length (fun k => ∃ i, q.body[k]? = some i ∧ fits ps cs ns q i = false) none → ∀ (a b : V) (o : Option V),
      wpSs (SP (n + 2)) [(.iff (.cmp .NotIn (.idx (.idx (.attr (.var 32) true 7) (.neg (.int 1))) (.int 0)) (.tup [(.str 9), (.str 11), (.str 12)])) [(.ret (.tup [(.var 28), (.bin .Sub (.call .len [(.attr (.var 32) true 7)]) (.int 1))]))] []), (.asg 10 (.call (.user 30) [(.var 32), (.var 11)])), (.iff (.cmp .NotEq (.var 10) (.lst [])) [(.ret (.tup [(.var 28), (.idx (.var 10) (.int 0))]))] [])] Qf
        ⟨[(50, .imm (uv ps cs ns)), (46, .imm v46), (28, .imm v28), (32, .imm (q.v num)), (11, .imm (iv q.entry))] ++ exI (some (a, b, o)), p⟩ := fun hle hf a b o => by
    have e : ((q.body.map I.v).length : Int) - 1 = ((q.body.length - 1 : Nat) : Int) := by rw [List.length_map]; omega
    have c1 : q.body[q.body.length - 1].ends = false → ∀ σ : St, σ.pot = p → Qf (.ret (.tup [v28, .int (((q.body.map I.v).length : Int) - 1)])) σ := fun e' σ hσ => by
      rw [e]
      exact hr _ (.inr (.inr (.inl ⟨hle, hf, hLE.trans e', rfl⟩))) σ hσ
    have c2 : q.body[q.body.length - 1].ends = true → ∀ l : List Int, (∀ k : Int, k ∈ l ↔ ∃ m : Nat, k = (m : Int) ∧ Bad q.body (e0Of q.entry) m) → l.Pairwise (· ≤ ·) →
        brP (!(l.map V.int).isEmpty) (small 0 ∧ ∃ v, itemAt (l.map V.int) 0 = some v ∧ Qf (.ret (.tup [v28, v])) ⟨[(50, .imm (uv ps cs ns)), (46, .imm v46), (28, .imm v28), (32, .imm (q.v num)), (11, .imm (iv q.entry))] ++ exI (some (a, b, some (.lst (l.map V.int)))), p⟩)
          (Qf .next ⟨[(50, .imm (uv ps cs ns)), (46, .imm v46), (28, .imm v28), (32, .imm (q.v num)), (11, .imm (iv q.entry))] ++ exI (some (a, b, some (.lst (l.map V.int)))), p⟩) := fun e' l hl hs => by
      have hN : ∀ b, First q.body.length (Bad q.body (e0Of q.entry)) b → PErr ps cs ns q (b.map fun (k : Nat) => (k : Int)) := fun b hb => .inr (.inr (.inr ⟨hle, hf, hLE.trans e', b, hb, rfl⟩))
      cases l with
      | nil =>
        refine brf (hn (hN none fun k zz hk => ?_) a b _)
        exact absurd ((hl k).mpr ⟨k, rfl, hk⟩) (by simp)
      | cons x l =>
        obtain ⟨m, rfl, hm⟩ := (hl x).mp (List.mem_cons_self ..)
        refine brt ⟨sm0, _, rfl, hr (m : Int) (hN (some m) ⟨bad_lt hm, hm, fun j hj hb => ?_⟩) _ rfl⟩
        have := (hl j).mpr ⟨j, rfl, hb⟩
        rcases List.mem_cons.mp this with e | hmem
        · have := Int.ofNat.inj e; omega
        · have := (List.pairwise_cons.mp hs).1 _ hmem; omega
    cases o with
    | none =>
      refine ⟨rfl, ⟨smm, _, itl, ⟨sm0, _, rfl, ?_⟩⟩⟩
      show brP (!hasN q.body[q.body.length - 1].code [9, 11, 12]) _ _
      rw [hE]
      refine brnb (fun e' => ⟨rfl, ⟨hl, c1 e' _ rfl⟩⟩) fun e' => sp30 (good_body G hf (hLE.trans e')) hne (by omega) fun l h1 h2 => ?_
      exact c2 e' l h1 h2
    | some c =>
      refine ⟨rfl, ⟨smm, _, itl, ⟨sm0, _, rfl, ?_⟩⟩⟩
      show brP (!hasN q.body[q.body.length - 1].code [9, 11, 12]) _ _
      rw [hE]
      refine brnb (fun e' => ⟨rfl, ⟨hl, c1 e' _ rfl⟩⟩) fun e' => sp30 (good_body G hf (hLE.trans e')) hne (by omega) fun l h1 h2 => ?_
      exact c2 e' l h1 h2
  have hdrop : q.body ≠ [] := fun e => by rw [e] at hne; exact absurd hne (by simp)
  rcases ex with _ | ⟨a, b, _ | c⟩
  · refine ⟨rfl, brd (fun e => hr (-1) (.inl ⟨Int.ofNat_lt.mp e, rfl⟩) _ rfl) fun e => ?_⟩
    have hle : q.entry ≤ q.regs := by omega
    exact ⟨rfl, ⟨hl, loopI G q.body 0 none (fun zz => hdrop) rfl (fun j hj => absurd hj (Nat.not_lt_zero j)) (after hle) fun j σ hf hσ => hr (j : Int) (.inr (.inl ⟨hle, j, hf, rfl⟩)) σ hσ⟩⟩
  · refine ⟨rfl, brd (fun e => hr (-1) (.inl ⟨Int.ofNat_lt.mp e, rfl⟩) _ rfl) fun e => ?_⟩
    have hle : q.entry ≤ q.regs := by omega
    exact ⟨rfl, ⟨hl, loopI G q.body 0 (some (a, b, none)) (fun h => nomatch h) rfl (fun j hj => absurd hj (Nat.not_lt_zero j)) (after hle) fun j σ hf hσ => hr (j : Int) (.inr (.inl ⟨hle, j, hf, rfl⟩)) σ hσ⟩⟩
  · refine ⟨rfl, brd (fun e => hr (-1) (.inl ⟨Int.ofNat_lt.mp e, rfl⟩) _ rfl) fun e => ?_⟩
    have hle : q.entry ≤ q.regs := by omega
    exact ⟨rfl, ⟨hl, loopI G q.body 0 (some (a, b, some c)) (fun h => nomatch h) rfl (fun j hj => absurd hj (Nat.not_lt_zero j)) (after hle) fun j σ hf hσ => hr (j : Int) (.inr (.inl ⟨hle, j, hf, rfl⟩)) σ hσ⟩⟩
end
end Mine
end

section
open PySem
set_option Elab.async false
set_option maxRecDepth 100000
set_option tactic.hygienic false
set_option linter.unusedVariables false
set_option linter.unusedSimpArgs false
set_option maxHeartbeats 4000000
namespace Mine

noncomputable def Due (o : Option (Int × Int)) (v : V) : Prop := match o with | none => v = .none | some (a, b) => v = .tup [.int a, .int b]
noncomputable def ex31 (o : Option (V × V × V × V × V × V)) : List (Nat × LV) := match o with | none => [] | some x => [(28, .imm x.1), (32, .imm x.2.1), (11, .imm x.2.2.1), (33, .imm x.2.2.2.1), (47, .imm x.2.2.2.2.1), (10, .imm x.2.2.2.2.2)]
section
variable {n : Nat} {p : Option Pot} {Q : V → Option Pot → Prop} {ps : List P} {cs ns : List V}
theorem loop31 {v46 : V} {Qf : Fl → St → Prop} (G : GoodU ps cs ns) : ∀ (rest : List P) (k : Nat) (ex : Option (V × V × V × V × V × V)), ps.drop k = rest → (∀ j < k, ¬ HasErr ps cs ns j) →
    (First ps.length (HasErr ps cs ns) none → ∀ σ : St, σ.pot = p → Qf .next σ) →
    (∀ (k : Nat) (r : P) (a : Int) (σ : St), First ps.length (HasErr ps cs ns) (some k) → ps[k]? = some r → PErr ps cs ns r (some a) → σ.pot = p → Qf (.ret (.tup [iv k, .int a])) σ) →
    forL (fun Q σ => wpSs (SP (n + 2)) [(.asg 11 (.bin .Add (.bin .Add (.attr (.var 32) true 2) (.int 1)) (.ite (.attr (.var 32) true 3) (.int 1) (.int 0)))), (.iff (.cmp .Lt (.attr (.var 32) true 5) (.var 11)) [(.ret (.tup [(.var 28), (.neg (.int 1))]))] []), (.fr [33, 47] false true (.attr (.var 32) true 7) [(.iff (.not (.call (.user 29) [(.var 50), (.var 32), (.var 47)])) [(.ret (.tup [(.var 28), (.var 33)]))] [])]), (.iff (.cmp .NotIn (.idx (.idx (.attr (.var 32) true 7) (.neg (.int 1))) (.int 0)) (.tup [(.str 9), (.str 11), (.str 12)])) [(.ret (.tup [(.var 28), (.bin .Sub (.call .len [(.attr (.var 32) true 7)]) (.int 1))]))] []), (.asg 10 (.call (.user 30) [(.var 32), (.var 11)])), (.iff (.cmp .NotEq (.var 10) (.lst [])) [(.ret (.tup [(.var 28), (.idx (.var 10) (.int 0))]))] [])] Q σ) [28, 32] false (enumV k (pvs k rest)) Qf ⟨[(50, .imm (uv ps cs ns)), (46, .imm v46)] ++ ex31 ex, p⟩
  | [], k, ex, hd, hk, h1, _ => h1 (fun j hj => hk j (Nat.lt_of_lt_of_le hj (List.drop_eq_nil_iff.mp hd))) _ rfl
  | q :: rest, k, ex, hd, hk, h1, h2 => by
    have hq : ps[k]? = some q := by
      have := List.getElem?_drop (xs := ps) (i := k) (j := 0)
      rw [hd] at this; simpa using this.symm
    have hkl : k < ps.length := (List.getElem?_eq_some_iff.mp hq).1
    have hd' : ps.drop (k + 1) = rest := by rw [← List.drop_drop, hd]; rfl
    have Gq := G.all q (List.mem_of_getElem? hq)
    have go := fun (hn : ¬ HasErr ps cs ns k) => fun x => loop31 (v46 := v46) (Qf := Qf) G rest (k + 1) (some x) hd' (fun j hj => by
      rcases Nat.lt_succ_iff_lt_or_eq.mp hj with h | h
      · exact hk j h
      · rw [h]; exact hn) h1 h2
    have tl : ∀ (v11 : V) (ex : Option (V × V × Option V)), v11 = iv q.entry → wpSs (SP (n + 2)) [(.iff (.cmp .Lt (.attr (.var 32) true 5) (.var 11)) [(.ret (.tup [(.var 28), (.neg (.int 1))]))] []), (.fr [33, 47] false true (.attr (.var 32) true 7) [(.iff (.not (.call (.user 29) [(.var 50), (.var 32), (.var 47)])) [(.ret (.tup [(.var 28), (.var 33)]))] [])]), (.iff (.cmp .NotIn (.idx (.idx (.attr (.var 32) true 7) (.neg (.int 1))) (.int 0)) (.tup [(.str 9), (.str 11), (.str 12)])) [(.ret (.tup [(.var 28), (.bin .Sub (.call .len [(.attr (.var 32) true 7)]) (.int 1))]))] []), (.asg 10 (.call (.user 30) [(.var 32), (.var 11)])), (.iff (.cmp .NotEq (.var 10) (.lst [])) [(.ret (.tup [(.var 28), (.idx (.var 10) (.int 0))]))] [])] (fun fl σ' => match fl with
        | .next => forL (fun Q σ => wpSs (SP (n + 2)) [(.asg 11 (.bin .Add (.bin .Add (.attr (.var 32) true 2) (.int 1)) (.ite (.attr (.var 32) true 3) (.int 1) (.int 0)))), (.iff (.cmp .Lt (.attr (.var 32) true 5) (.var 11)) [(.ret (.tup [(.var 28), (.neg (.int 1))]))] []), (.fr [33, 47] false true (.attr (.var 32) true 7) [(.iff (.not (.call (.user 29) [(.var 50), (.var 32), (.var 47)])) [(.ret (.tup [(.var 28), (.var 33)]))] [])]), (.iff (.cmp .NotIn (.idx (.idx (.attr (.var 32) true 7) (.neg (.int 1))) (.int 0)) (.tup [(.str 9), (.str 11), (.str 12)])) [(.ret (.tup [(.var 28), (.bin .Sub (.call .len [(.attr (.var 32) true 7)]) (.int 1))]))] []), (.asg 10 (.call (.user 30) [(.var 32), (.var 11)])), (.iff (.cmp .NotEq (.var 10) (.lst [])) [(.ret (.tup [(.var 28), (.idx (.var 10) (.int 0))]))] [])] Q σ) [28, 32] false (enumV (k + 1) (pvs (k + 1) rest)) Qf σ'
        | .ret v => Qf (.ret v) σ') ⟨[(50, .imm (uv ps cs ns)), (46, .imm v46), (28, .imm (iv k)), (32, .imm (q.v k)), (11, .imm v11)] ++ exI ex, p⟩ := fun v11 ex h11 =>
      tail31 Gq h11 (fun pe a b c => go (fun ⟨q', e, a', pe'⟩ => by rw [hq] at e; cases e; cases pe.unique pe') (iv k, q.v k, v11, a, b, c)) fun a pe σ hσ => h2 k q a σ ⟨hkl, ⟨q, hq, a, pe⟩, hk⟩ hq pe hσ
    have e1 : q.rest = true → V.int ((q.needed : Int) + 1 + 1) = iv q.entry := fun e => by unfold P.entry iv; rw [e, if_pos rfl]; congr 1
    have e2 : q.rest = false → V.int ((q.needed : Int) + 1 + 0) = iv q.entry := fun e => by unfold P.entry iv; rw [e, if_neg Bool.false_ne_true]; congr 1
    cases ex with
    | none => exact ⟨rfl, ⟨rfl, ⟨rfl, brb (fun e => tl _ none (e1 e)) fun e => tl _ none (e2 e)⟩⟩⟩
    | some x =>
      obtain ⟨a, b, c, d, e, f⟩ := x
      exact ⟨rfl, ⟨rfl, ⟨rfl, brb (fun h => tl _ (some (d, e, some f)) (e1 h)) fun h => tl _ (some (d, e, some f)) (e2 h)⟩⟩⟩
theorem sp31 (G : GoodU ps cs ns) (h : ∀ o v, UErr ps cs ns o → Due o v → Q v p) : SP (n + 3) 31 [uv ps cs ns] p Q := by
  have ne := G.ne
  have hq : ps[0]? = some ps[0] := List.getElem?_eq_getElem G.ne
  have G0 := G.all _ (List.getElem_mem G.ne)
  have hps := G0.L.ps
  have hl : (pvs 0 ps).length < 2 ^ 20 := by rw [pvs_len]; lia
  have it : itemAt (pvs 0 ps) ((0 : Nat) : Int) = some (ps[0].v 0) := by rw [it_nat, pvs_get, hq]; rfl
  have bad : startOk ps[0] = false → Q (.tup [.int (-1), .int (-1)]) p := fun e => h (some (-1, -1)) _ (.inl ⟨_, hq, e, rfl⟩) rfl
  have good : startOk ps[0] = true → forL (fun Q σ => wpSs (SP (n + 2)) [(.asg 11 (.bin .Add (.bin .Add (.attr (.var 32) true 2) (.int 1)) (.ite (.attr (.var 32) true 3) (.int 1) (.int 0)))), (.iff (.cmp .Lt (.attr (.var 32) true 5) (.var 11)) [(.ret (.tup [(.var 28), (.neg (.int 1))]))] []), (.fr [33, 47] false true (.attr (.var 32) true 7) [(.iff (.not (.call (.user 29) [(.var 50), (.var 32), (.var 47)])) [(.ret (.tup [(.var 28), (.var 33)]))] [])]), (.iff (.cmp .NotIn (.idx (.idx (.attr (.var 32) true 7) (.neg (.int 1))) (.int 0)) (.tup [(.str 9), (.str 11), (.str 12)])) [(.ret (.tup [(.var 28), (.bin .Sub (.call .len [(.attr (.var 32) true 7)]) (.int 1))]))] []), (.asg 10 (.call (.user 30) [(.var 32), (.var 11)])), (.iff (.cmp .NotEq (.var 10) (.lst [])) [(.ret (.tup [(.var 28), (.idx (.var 10) (.int 0))]))] [])] Q σ) [28, 32] false (enumV 0 (pvs 0 ps)) (fun fl σ' => match fl with
      | .next => Q .none σ'.pot
      | .ret v => Q v σ'.pot) ⟨[(50, .imm (uv ps cs ns)), (46, .imm (ps[0].v 0))] ++ ex31 none, p⟩ := fun e => by
    refine loop31 G ps 0 none rfl (fun j hj => absurd hj (Nat.not_lt_zero j)) (fun hf σ hσ => ?_) fun k r a σ hf hr pe hσ => ?_
    · show Q .none σ.pot
      rw [hσ]
      exact h none _ (.inr ⟨_, hq, e, .inr ⟨hf, rfl⟩⟩) rfl
    · show Q (.tup [iv k, .int a]) σ.pot
      rw [hσ]
      exact h (some ((k : Int), a)) _ (.inr ⟨_, hq, e, .inl ⟨k, r, a, hf, hr, pe, rfl⟩⟩) rfl
  refine sp_of rfl rfl ⟨rfl, ⟨rfl, ⟨sm0, _, it, ⟨rfl, ?_⟩⟩⟩⟩
  by_cases hn : ps[0].needed = 0
  · have e0 : decide ((0 : Int) < (ps[0].needed : Int)) = false := decide_eq_false (by lia)
    show brP (decide ((0 : Int) < (ps[0].needed : Int))) _ _
    rw [e0]
    refine brf ⟨rfl, ?_⟩
    cases hr : ps[0].rest with
    | true => exact brt (brt (bad (by simp [startOk, hr])))
    | false =>
      refine brf ⟨rfl, ?_⟩
      refine brd (fun e => bad ?_) fun e => ⟨rfl, ⟨hl, good ?_⟩⟩
      · have : ps[0].free ≠ 0 := by lia
        simp [startOk, this]
      · have : ps[0].free = 0 := by lia
        simp [startOk, this, hn, hr]
  · have e0 : decide ((0 : Int) < (ps[0].needed : Int)) = true := decide_eq_true (by lia)
    show brP (decide ((0 : Int) < (ps[0].needed : Int))) _ _
    rw [e0]
    exact brt (brt (bad (by simp [startOk, hn])))
end
end Mine
end

section
open PySem
set_option Elab.async false
set_option maxRecDepth 100000
set_option tactic.hygienic false
set_option genSizeOf false
set_option genInjectivity false
set_option linter.unusedVariables false
set_option linter.unusedSimpArgs false
set_option maxHeartbeats 4000000
namespace Mine

structure PotOk (x : Pot) : Prop where
  len : x.1.length ≤ 63
  at0 : 0 ≤ x.2.1
  sd : 0 ≤ x.2.2 ∧ x.2.2 < 10 ^ 6
section
variable {n : Nat} {Q : V → Option Pot → Prop} {x : Pot}
theorem sp21 {m : Int} (X : PotOk x) (hm : 0 < m ∧ m < 10 ^ 4) (h : ∀ (v : Nat) (y : Pot), (v : Int) < m → PotOk y → Q (iv v) (some y)) : SP (n + 1) 21 [.pot, .int m] (some x) Q := by
  obtain ⟨ns, at_, sd⟩ := x
  obtain ⟨h1, h2, h3⟩ := X
  have hmod : ∀ z : Int, ∃ v : Nat, (v : Int) < m ∧ V.int (z % m) = iv v := fun z => by
    have a := Int.emod_nonneg z (by lia : m ≠ 0)
    have b := Int.emod_lt_of_pos z hm.1
    refine ⟨(z % m).toNat, by lia, ?_⟩
    unfold iv; congr 1; lia
  have hs : small m := ⟨by lia, by lia⟩
  have hn : (ns.map V.int).length < 2 ^ 20 := by rw [List.length_map]; simp only at h1; lia
  simp only at h1 h2 h3
  refine sp_of rfl rfl ⟨hn, ?_⟩
  refine brd (fun e => ?_) fun e => ?_
  · rw [List.length_map] at e
    have hlt : at_.toNat < ns.length := by lia
    have it : itemAt (ns.map V.int) at_ = some (V.int ns[at_.toNat]) := by
      unfold itemAt
      rw [if_pos h2, List.getElem?_map, List.getElem?_eq_getElem hlt]; rfl
    obtain ⟨v, hv, ev⟩ := hmod ns[at_.toNat]
    have r := h v (ns, at_ + 1, sd) hv ⟨h1, by simp only; lia, h3⟩
    rw [← ev] at r
    exact ⟨⟨by lia, by lia⟩, _, it, ⟨⟨hm.1, hs⟩, r⟩⟩
  · have hsd := Int.emod_nonneg (sd * 75 + 74) (by decide : (65537 : Int) ≠ 0)
    have hsd2 := Int.emod_lt_of_pos (sd * 75 + 74) (by decide : (0 : Int) < 65537)
    obtain ⟨v, hv, ev⟩ := hmod ((sd * 75 + 74) % 65537)
    have r := h v (ns, at_ + 1, (sd * 75 + 74) % 65537) hv ⟨h1, by simp only; lia, ⟨hsd, by simp only; lia⟩⟩
    rw [← ev] at r
    exact ⟨⟨⟨by lia, by lia⟩, ⟨by decide, by decide⟩⟩, ⟨⟨by decide, ⟨by decide, by decide⟩⟩, ⟨⟨hm.1, hs⟩, r⟩⟩⟩
theorem sp22 {m : Nat} (X : PotOk x) (hm : m ≤ 100) (h : ∀ (v : Nat) (y : Pot), v ≤ m → PotOk y → Q (iv v) (some y)) : SP (n + 2) 22 [.pot, iv m] (some x) Q := by
  have hs : small (m : Int) := sm (by lia)
  refine sp_of rfl rfl ⟨⟨⟨by decide, by decide⟩, hs⟩, sp21 X ⟨by lia, by lia⟩ fun v y hv Y => ?_⟩
  refine ⟨⟨⟨by decide, by decide⟩, hs⟩, brd (fun e => h m y (Nat.le_refl _) Y) fun e => ?_⟩
  have key : ∀ M : Int, 0 < M → M ≤ 100 → (∀ r : Nat, (r : Int) < M → r ≤ m) → (0 < M ∧ small M) ∧ Q (.int ((v : Int) % M)) (some y) := fun M h0 h1 hr => by
    have a := Int.emod_nonneg (v : Int) (by lia : M ≠ 0)
    have b := Int.emod_lt_of_pos (v : Int) h0
    have ev : V.int ((v : Int) % M) = iv ((v : Int) % M).toNat := by unfold iv; rw [Int.toNat_of_nonneg a]
    have r := h ((v : Int) % M).toNat y (hr _ (by lia)) Y
    rw [← ev] at r
    exact ⟨⟨h0, ⟨by lia, by lia⟩⟩, r⟩
  refine key _ ?_ ?_ fun r hr => ?_
  · split <;> lia
  · split <;> lia
  · split at hr <;> lia
theorem wp_loc {C : Calls} {k : Nat} {R : V → St → Prop} {loc : List (Nat × LV)} {p : Option Pot} {v : V} (h : getL k loc = some (.imm v)) (hq : R v ⟨loc, p⟩) : wpE C (.var k) R ⟨loc, p⟩ := by
  show (match getL k loc with | some (.imm v) => R v ⟨loc, p⟩ | some (.own vs) => R (.lst vs) (St.set ⟨loc, p⟩ k (.imm (.lst vs))) | _ => False)
  rw [h]; exact hq
theorem comp_pot {C : Calls} {loc : List (Nat × LV)} {m : Nat} {k : List V → Option Pot → Prop} (hC : ∀ (x : Pot) (Q : V → Option Pot → Prop), PotOk x → (∀ (v : Nat) (y : Pot), v ≤ m → PotOk y → Q (iv v) (some y)) → C 22 [.pot, iv m] (some x) Q)
    (h35 : ∀ i, getL 35 ((49, .imm i) :: loc) = some (.imm .pot)) (h41 : ∀ i, getL 41 ((49, .imm i) :: loc) = some (.imm (iv m))) :
    ∀ (l : List V) (acc : List Nat) (x : Pot), PotOk x → (∀ (r : List Nat) (y : Pot), r.length = acc.length + l.length → PotOk y → k (nts r) (some y)) →
      compL (fun Q σ => wpE C (.call (.user 22) [(.var 35), (.var 41)]) Q σ) (fun Q σ => wpTs C [] Q σ) 49 loc l (nts acc) (some x) k
  | [], acc, x, X, h => h acc x rfl X
  | i :: l, acc, x, X, h => by
    refine brt ?_
    have go := hC x (fun v p' => compL (fun Q σ => wpE C (.call (.user 22) [(.var 35), (.var 41)]) Q σ) (fun Q σ => wpTs C [] Q σ) 49 loc l (nts acc ++ [v]) p' k) X fun v y zz Y => by
      rw [show nts acc ++ [iv v] = nts (acc ++ [v]) from (nts_app acc [v]).symm]
      exact comp_pot hC h35 h41 l (acc ++ [v]) y Y fun r z hr Z => h r z (by rw [hr, List.length_append, List.length_cons (a := i), List.length_singleton]; lia) Z
    exact wp_loc (C := C) (h35 i) (wp_loc (C := C) (h41 i) go)
theorem sp23 {many m : Nat} (X : PotOk x) (hn : many ≤ 2) (hm : m ≤ 100) (h : ∀ (r : List Nat) (y : Pot), r.length = many → PotOk y → Q (.tup (nts r)) (some y)) : SP (n + 3) 23 [.pot, iv many, iv m] (some x) Q := by
  have e : ((many : Int)).toNat = many := Int.toNat_natCast many
  refine sp_of rfl rfl ⟨sm (by lia), ⟨⟨by lia, by lia⟩, ⟨by rw [e]; simp; lia, ?_⟩⟩⟩
  refine comp_pot (C := SP (n + 2)) (m := m) (fun x Q X h => sp22 X hm h) (fun zz => rfl) (fun zz => rfl) _ [] x X fun r y hr Y => ?_
  have hr' : r.length = many := by rw [hr, e]; simp
  exact ⟨by rw [nts_len]; lia, h r y hr' Y⟩
end
end Mine
end

section
open PySem
set_option Elab.async false
set_option maxRecDepth 100000
set_option tactic.hygienic false
set_option linter.unusedVariables false
set_option linter.unusedSimpArgs false
set_option maxHeartbeats 4000000
namespace Mine

section
variable {n : Nat} {Q : V → Option Pot → Prop} {x : Pot}
theorem dip3 {m : Nat} (X : PotOk x) (hm : m ≤ 100) (h : ∀ (r : List Nat) (y : Pot), r.length ≤ 2 → PotOk y → Q (.tup (nts r)) (some y)) : SP (n + 3) 21 [.pot, .int 3] (some x) fun v p => SP (n + 3) 23 [.pot, v, iv m] p Q :=
  sp21 X ⟨by decide, by decide⟩ fun v y hv Y => sp23 Y (by lia) hm fun r z hr Z => h r z (by lia) Z
theorem sp24 {regs places : Nat} (X : PotOk x) (hr : regs ≤ 100) (hp : places ≤ 100) (h : ∀ (i : I) (y : Pot), i.wf → PotOk y → Q i.v (some y)) : SP (n + 4) 24 [.pot, iv regs, iv places] (some x) Q := by
  refine sp_of rfl rfl (sp21 X ⟨by decide, by decide⟩ fun v y hv Y => ?_)
  refine brd (fun e => sp22 Y hp fun l z zz Z => h (.jump l) z trivial Z) fun zz => ?_
  refine sp22 Y hr fun a z zz Z => brd (fun e => dip3 Z hr fun r z hr Z => h (.give a r) z hr Z) fun zz => ?_
  exact sp22 Z hr fun b z zz Z => dip3 Z hr fun r z hr Z => h (.call a b r) z hr Z
theorem st_asg {C : Calls} {k : Nat} {xs : List X} {ss : List S} {Q : Fl → St → Prop} {σ : St} (h : wpEs C xs (fun vs σ' => wpSs C ss Q (σ'.set k (.own vs))) σ) : wpSs C (.asg k (.lst xs) :: ss) Q σ := h
theorem st_es {C : Calls} {x : X} {xs : List X} {Q : List V → St → Prop} {σ : St} (h : wpE C x (fun v σ' => wpEs C xs (fun vs σ'' => Q (v :: vs) σ'') σ') σ) : wpEs C (x :: xs) Q σ := h
theorem st_nil {C : Calls} {Q : List V → St → Prop} {σ : St} (h : Q [] σ) : wpEs C [] Q σ := h
theorem st_tup {C : Calls} {xs : List X} {Q : V → St → Prop} {σ : St} (h : wpEs C xs (fun vs σ' => Q (.tup vs) σ') σ) : wpE C (.tup xs) Q σ := h
theorem st_int {C : Calls} {i : Int} {Q : V → St → Prop} {σ : St} (h : Q (.int i) σ) : wpE C (.int i) Q σ := h
theorem st_user {C : Calls} {k : Nat} {xs : List X} {Q : V → St → Prop} {σ : St} (h : wpEs C xs (fun vs σ' => C k vs σ'.pot fun v p => Q v { σ' with pot := p }) σ) : wpE C (.call (.user k) xs) Q σ := h
theorem st_var {C : Calls} {k : Nat} {v : V} {Q : V → St → Prop} {σ : St} (e : σ.get k = some (.imm v)) (h : Q v σ) : wpE C (.var k) Q σ := by
  show (match σ.get k with | some (.imm v) => Q v σ | some (.own vs) => Q (.lst vs) (σ.set k (.imm (.lst vs))) | _ => False)
  rw [e]; exact h
theorem sp25 {regs places a b c d : Nat} (X : PotOk x) (hr : regs ≤ 100) (hp : places ≤ 100) (ha : a ≤ 100) (hb : b ≤ 100) (hc : c ≤ 100) (hd : d ≤ 100) (h : ∀ (i : I) (y : Pot), i.wf → PotOk y → Q i.v (some y)) :
    SP (n + 4) 25 [.pot, iv regs, iv places, .lst [iv a, iv b, iv c, iv d]] (some x) Q := by
  refine sp_of rfl rfl (sp21 X ⟨by decide, by decide⟩ fun v y hv Y => sp22 Y hr fun o z zz Z => ?_)
  refine brd (fun zz => ⟨sm1, _, rfl, sp22 Z hb fun k z zz Z => h (.const o k) z trivial Z⟩) fun zz => ?_
  refine brd (fun zz => sp22 Z hr fun k z zz Z => h (.move o k) z trivial Z) fun zz => ?_
  refine brd (fun zz => ⟨sm0, _, rfl, sp22 Z ha fun k z zz Z => h (.free o k) z trivial Z⟩) fun zz => ?_
  refine brd (fun zz => ⟨sm2, _, rfl, sp22 Z hc fun k z zz Z => h (.glob o k) z trivial Z⟩) fun zz => ?_
  refine brd (fun zz => ⟨sm2, _, rfl, sp22 Z hc fun k z zz Z => h (.defi k o) z trivial Z⟩) fun zz => ?_
  refine brd (fun zz => sp22 Z hp fun k z zz Z => h (.brf o k) z trivial Z) fun zz => ?_
  refine brd (fun zz => sp22 Z (by lia : 3 ≤ 100) fun k z zz Z => dip3 Z hr fun r z hr Z => h (.prim o k r) z hr Z) fun zz => ?_
  refine brd (fun zz => ⟨sm3, _, rfl, sp22 Z hd fun k z zz Z => dip3 Z hr fun r z hr Z => h (.clos o k r) z hr Z⟩) fun zz => ?_
  refine brd (fun zz => ?_) fun zz => ?_
  · refine st_asg <| st_es <| st_tup <| st_es <| st_var rfl <| st_es <| st_user <| st_es <| st_var rfl <| st_es ⟨sm3, _, rfl, st_nil ?_⟩
    refine sp22 Z hd fun k z zz Z => ?_
    refine st_es <| st_user <| st_es <| st_var rfl <| st_es <| st_user <| st_es <| st_var rfl <| st_es <| st_int <| st_nil ?_
    refine sp21 Z ⟨by decide, by decide⟩ fun e z he Z => ?_
    refine st_es <| st_var rfl <| st_nil ?_
    refine sp23 (n := n) (many := e) Z (by lia) hr fun r z hr1 Z => ?_
    refine st_nil <| st_nil ?_
    have w1 : r.length ≤ 2 := by lia
    refine sp21 Z ⟨by decide, by decide⟩ fun e z zz Z => brd (fun zz => ?_) fun zz => ?_
    · refine sp22 Z hr fun o2 z zz Z => ⟨sm3, _, rfl, sp22 Z hd fun k2 z zz Z => sp23 (many := 1) Z (by lia) hr fun r2 z hr2 Z => ?_⟩
      have w2 : r2.length ≤ 2 := by lia
      exact ⟨nle rfl, ⟨nle rfl, h (.fix [(o, k, r), (o2, k2, r2)]) z (.inr ⟨_, _, rfl, w1, w2⟩) Z⟩⟩
    · exact ⟨nle rfl, h (.fix [(o, k, r)]) z (.inl ⟨_, rfl, w1⟩) Z⟩
  · exact ⟨sm2, _, rfl, sp22 Z hc fun k z zz Z => h (.setg k o) z trivial Z⟩
end
end Mine
end

section
open PySem
set_option Elab.async false
set_option maxRecDepth 100000
set_option tactic.hygienic false
set_option genSizeOf false
set_option genInjectivity false
set_option linter.unusedVariables false
set_option linter.unusedSimpArgs false
set_option maxHeartbeats 4000000
namespace Mine

structure GoodQ (q : P) : Prop where
  ne : 0 < q.body.length
  len : q.body.length ≤ 5
  wf : ∀ i ∈ q.body, i.wf
  regs : q.regs ≤ 4
theorem pvs_app : ∀ (ps : List P) (q : P) (i : Nat), pvs i (ps ++ [q]) = pvs i ps ++ [q.v (i + ps.length)]
  | [], q, i => rfl
  | a :: ps, q, i => by
    show a.v i :: pvs (i + 1) (ps ++ [q]) = a.v i :: (pvs (i + 1) ps ++ [q.v (i + (ps.length + 1))])
    rw [pvs_app ps q (i + 1), show i + 1 + ps.length = i + (ps.length + 1) by lia]
noncomputable def l8 (f : Bool) (v : List V) : LV := if f then .own v else .imm (.lst v)
noncomputable def o33 (o : Option V) : List (Nat × LV) := match o with | none => [] | some x => [(33, .imm x)]
section
variable {n : Nat} {Qf : Fl → St → Prop}
theorem inner26 {v24 v6 v26 v28 v19 v27 v13 v14 : V} {o38 : List V} {regs places a b c d : Nat} (hr : regs ≤ 100) (hp : places ≤ 5) (ha : a ≤ 100) (hb : b ≤ 100) (hc : c ≤ 100) (hd : d ≤ 100) : ∀ (m j : Nat) (body : List I) (f : Bool) (o : Option V) (x : Pot), (m = 0 → o ≠ none) → PotOk x → body.length = j → j + m = places → (∀ i ∈ body, i.wf) →
    (∀ (body : List I) (f : Bool) (o : V) (y : Pot), PotOk y → body.length = places → (∀ i ∈ body, i.wf) →
      Qf .next ⟨[(35, .imm .pot), (24, .imm v24), (6, .imm v6), (26, .imm v26), (38, .own o38), (28, .imm v28), (19, .imm v19), (27, .imm v27), (13, .imm v13), (41, .imm (iv regs)), (34, .imm (iv places)), (14, .imm v14), (8, l8 f [iv a, iv b, iv c, iv d]), (3, .own (body.map I.v))] ++ o33 (some o), some y⟩) →
    forL (fun Q σ => wpSs (SP (n + 4)) [(.iff (.and [(.cmp .Eq (.var 33) (.bin .Sub (.var 34) (.int 1))), (.cmp .Lt (.call (.user 21) [(.var 35), (.int 9)]) (.int 8))]) [(.app 3 (.call (.user 24) [(.var 35), (.var 41), (.var 34)]))] [(.app 3 (.call (.user 25) [(.var 35), (.var 41), (.var 34), (.var 8)]))])] Q σ) [33] true (nts (List.range' j m)) Qf
      ⟨[(35, .imm .pot), (24, .imm v24), (6, .imm v6), (26, .imm v26), (38, .own o38), (28, .imm v28), (19, .imm v19), (27, .imm v27), (13, .imm v13), (41, .imm (iv regs)), (34, .imm (iv places)), (14, .imm v14), (8, l8 f [iv a, iv b, iv c, iv d]), (3, .own (body.map I.v))] ++ o33 o, some x⟩
  | 0, j, body, f, none, x, ho, X, hj, hm, hw, h => absurd rfl (ho rfl)
  | 0, j, body, f, some o, x, ho, X, hj, hm, hw, h => h body f o x X (by lia) hw
  | m + 1, j, body, f, o, x, ho, X, hj, hm, hw, h => by
    have go := fun (f' : Bool) (i : I) (wi : i.wf) (y : Pot) (Y : PotOk y) => inner26 (v24 := v24) (v6 := v6) (v26 := v26) (v28 := v28) (v19 := v19) (v27 := v27) (v13 := v13) (v14 := v14) (o38 := o38) hr hp ha hb hc hd m (j + 1) (body ++ [i]) f' (some (iv j)) y (fun zz h => nomatch h) Y (by rw [List.length_append, hj]; rfl) (by lia) (fun z hz => by
      rcases List.mem_append.mp hz with hz | hz
      · exact hw z hz
      · rw [List.mem_singleton.mp hz]; exact wi) h
    have el : ∀ i : I, (body ++ [i]).map I.v = body.map I.v ++ [i.v] := fun i => List.map_append ..
    have hl : (body.map I.v).length < 2 ^ 20 := by rw [List.length_map]; lia
    have hp' : places ≤ 100 := by lia
    have c24 : ∀ (y : Pot), PotOk y → SP (n + 4) 24 [.pot, iv regs, iv places] (some y) fun v p' => (body.map I.v).length < 2 ^ 20 ∧ forL (fun Q σ => wpSs (SP (n + 4)) [(.iff (.and [(.cmp .Eq (.var 33) (.bin .Sub (.var 34) (.int 1))), (.cmp .Lt (.call (.user 21) [(.var 35), (.int 9)]) (.int 8))]) [(.app 3 (.call (.user 24) [(.var 35), (.var 41), (.var 34)]))] [(.app 3 (.call (.user 25) [(.var 35), (.var 41), (.var 34), (.var 8)]))])] Q σ) [33] true (nts (List.range' (j + 1) m)) Qf
      ⟨[(35, .imm .pot), (24, .imm v24), (6, .imm v6), (26, .imm v26), (38, .own o38), (28, .imm v28), (19, .imm v19), (27, .imm v27), (13, .imm v13), (41, .imm (iv regs)), (34, .imm (iv places)), (14, .imm v14), (8, l8 f [iv a, iv b, iv c, iv d]), (3, .own (body.map I.v ++ [v]))] ++ o33 (some (iv j)), p'⟩ := fun y Y =>
      sp24 Y hr hp' fun i z wi Z => ⟨hl, by rw [← el]; exact go f i wi z Z⟩
    have c25 : ∀ (y : Pot), PotOk y → SP (n + 4) 25 [.pot, iv regs, iv places, .lst [iv a, iv b, iv c, iv d]] (some y) fun v p' => (body.map I.v).length < 2 ^ 20 ∧ forL (fun Q σ => wpSs (SP (n + 4)) [(.iff (.and [(.cmp .Eq (.var 33) (.bin .Sub (.var 34) (.int 1))), (.cmp .Lt (.call (.user 21) [(.var 35), (.int 9)]) (.int 8))]) [(.app 3 (.call (.user 24) [(.var 35), (.var 41), (.var 34)]))] [(.app 3 (.call (.user 25) [(.var 35), (.var 41), (.var 34), (.var 8)]))])] Q σ) [33] true (nts (List.range' (j + 1) m)) Qf
      ⟨[(35, .imm .pot), (24, .imm v24), (6, .imm v6), (26, .imm v26), (38, .own o38), (28, .imm v28), (19, .imm v19), (27, .imm v27), (13, .imm v13), (41, .imm (iv regs)), (34, .imm (iv places)), (14, .imm v14), (8, l8 false [iv a, iv b, iv c, iv d]), (3, .own (body.map I.v ++ [v]))] ++ o33 (some (iv j)), p'⟩ := fun y Y =>
      sp25 Y hr hp' ha hb hc hd fun i z wi Z => ⟨hl, by rw [← el]; exact go false i wi z Z⟩
    cases f <;> cases o <;> exact brd (fun e => sp21 X ⟨by decide, by decide⟩ fun v y zz Y => brd (fun zz => c24 y Y) fun zz => c25 y Y) fun e => by
      show brP (decide ((j : Int) = (places : Int) - 1)) _ _
      rw [decide_eq_false e]
      exact brf (c25 x X)
end
end Mine
end

section
open PySem
set_option Elab.async false
set_option maxRecDepth 100000
set_option tactic.hygienic false
set_option linter.unusedVariables false
set_option linter.unusedSimpArgs false
set_option maxHeartbeats 4000000
namespace Mine

@[reducible] noncomputable def E26 := Option ((V × V × V × V × V) × (V × V × LV × LV × V))
noncomputable def ex26 (o : E26) : List (Nat × LV) := match o with | none => [] | some x => [(28, .imm x.1.1), (19, .imm x.1.2.1), (27, .imm x.1.2.2.1), (13, .imm x.1.2.2.2.1), (41, .imm x.1.2.2.2.2), (34, .imm x.2.1), (14, .imm x.2.2.1), (8, x.2.2.2.1), (3, x.2.2.2.2.1), (33, .imm x.2.2.2.2.2)]
section
variable {n : Nat} {Qf : Fl → St → Prop}
/- the rows from the inner loop on -/
theorem end26 {k many cc nn needed free regs places : Nat} {sb rest : Bool} {ps : List P} {o : Option V} {x : Pot} (X : PotOk x) (hr : regs ≤ 4) (hp : 0 < places ∧ places ≤ 5) (hf : free ≤ 100) (hc : cc ≤ 100) (hn : nn ≤ 100) (hm : many ≤ 2) (hk : ps.length = k) (hk2 : k ≤ 2)
    (h : ∀ (q : P) (y : Pot) (e : (V × V × V × V × V) × (V × V × LV × LV × V)), GoodQ q → PotOk y → Qf .next ⟨[(35, .imm .pot), (24, .imm (iv many)), (6, .imm (iv cc)), (26, .imm (iv nn)), (38, .own (pvs 0 (ps ++ [q])))] ++ ex26 (some e), some y⟩) :
    wpSs (SP (n + 4)) [(.fr [33] true false (.call .range [(.var 34)]) [(.iff (.and [(.cmp .Eq (.var 33) (.bin .Sub (.var 34) (.int 1))), (.cmp .Lt (.call (.user 21) [(.var 35), (.int 9)]) (.int 8))]) [(.app 3 (.call (.user 24) [(.var 35), (.var 41), (.var 34)]))] [(.app 3 (.call (.user 25) [(.var 35), (.var 41), (.var 34), (.var 8)]))])]), (.app 38 (.call .proc [(.var 28), (.str 30), (.var 27), (.var 14), (.bool false), (.var 41), (.var 13), (.var 3)]))] Qf
      ⟨[(35, .imm .pot), (24, .imm (iv many)), (6, .imm (iv cc)), (26, .imm (iv nn)), (38, .own (pvs 0 ps)), (28, .imm (iv k)), (19, .imm (.bool sb)), (27, .imm (iv needed)), (13, .imm (iv free)), (41, .imm (iv regs)), (34, .imm (iv places)), (14, .imm (.bool rest)), (8, .own [iv free, iv cc, iv nn, iv many]), (3, .own [])] ++ o33 o, some x⟩ := by
  have lp : (pvs 0 ps).length < 2 ^ 20 := by rw [pvs_len]; lia
  have fin : ∀ (body : List I) (f : Bool) (o : V) (y : Pot), PotOk y → body.length = places → (∀ i ∈ body, i.wf) → wpSs (SP (n + 4)) [(.app 38 (.call .proc [(.var 28), (.str 30), (.var 27), (.var 14), (.bool false), (.var 41), (.var 13), (.var 3)]))] Qf
      ⟨[(35, .imm .pot), (24, .imm (iv many)), (6, .imm (iv cc)), (26, .imm (iv nn)), (38, .own (pvs 0 ps)), (28, .imm (iv k)), (19, .imm (.bool sb)), (27, .imm (iv needed)), (13, .imm (iv free)), (41, .imm (iv regs)), (34, .imm (iv places)), (14, .imm (.bool rest)), (8, l8 f [iv free, iv cc, iv nn, iv many]), (3, .own (body.map I.v))] ++ o33 (some o), some y⟩ := fun body f o y Y hb hw => by
    have G : GoodQ ⟨needed, free, regs, rest, body⟩ := ⟨by show 0 < body.length; lia, by show body.length ≤ 5; lia, hw, hr⟩
    have r := fun z => h ⟨needed, free, regs, rest, body⟩ y ((iv k, .bool sb, iv needed, iv free, iv regs), (iv places, .bool rest, l8 f [iv free, iv cc, iv nn, iv many], .imm (.lst (body.map I.v)), z)) G Y
    rw [pvs_app, Nat.zero_add, hk] at r
    exact ⟨lp, r o⟩
  refine ⟨sm (by lia), ⟨⟨by lia, by lia⟩, ?_⟩⟩
  rw [show ((places : Int)).toNat = places from Int.toNat_natCast places, List.range_eq_range']
  cases o with
  | none => exact inner26 (by lia) hp.2 hf hc hn (by lia) places 0 [] true none x (fun h => by lia) X rfl (by lia) (fun zz h => nomatch h) fin
  | some z => exact inner26 (by lia) hp.2 hf hc hn (by lia) places 0 [] true (some z) x (fun zz h => nomatch h) X rfl (by lia) (fun zz h => nomatch h) fin
/- one procedure -/
theorem body26 {k many cc nn : Nat} {ps : List P} {ex : E26} {x : Pot} (X : PotOk x) (hc : cc ≤ 100) (hn : nn ≤ 100) (hm : many ≤ 2) (hk : ps.length = k) (hk2 : k ≤ 2)
    (h : ∀ (q : P) (y : Pot) (e : (V × V × V × V × V) × (V × V × LV × LV × V)), GoodQ q → PotOk y → Qf .next ⟨[(35, .imm .pot), (24, .imm (iv many)), (6, .imm (iv cc)), (26, .imm (iv nn)), (38, .own (pvs 0 (ps ++ [q])))] ++ ex26 (some e), some y⟩) :
    wpSs (SP (n + 4)) [(.asg 19 (.or [(.and [(.cmp .Eq (.var 28) (.int 0)), (.cmp .Gt (.call (.user 21) [(.var 35), (.int 8)]) (.int 0))]), (.and [(.cmp .Eq (.var 28) (.int 0)), (.cmp .Lt (.call .len [(.idx (.var 35) (.int 0))]) (.int 40))])])), (.unp [27, 13] (.ite (.var 19) (.tup [(.int 0), (.int 0)]) (.tup [(.call (.user 21) [(.var 35), (.int 2)]), (.call (.user 21) [(.var 35), (.int 3)])]))), (.asgs [41, 34] [(.bin .Add (.int 1) (.call (.user 21) [(.var 35), (.int 4)])), (.bin .Add (.int 1) (.call (.user 21) [(.var 35), (.int 5)]))]), (.asg 14 (.and [(.cmp .Eq (.call (.user 21) [(.var 35), (.int 3)]) (.int 2)), (.not (.var 19))])), (.asgs [8, 3] [(.lst [(.var 13), (.var 6), (.var 26), (.var 24)]), (.lst [])]), (.fr [33] true false (.call .range [(.var 34)]) [(.iff (.and [(.cmp .Eq (.var 33) (.bin .Sub (.var 34) (.int 1))), (.cmp .Lt (.call (.user 21) [(.var 35), (.int 9)]) (.int 8))]) [(.app 3 (.call (.user 24) [(.var 35), (.var 41), (.var 34)]))] [(.app 3 (.call (.user 25) [(.var 35), (.var 41), (.var 34), (.var 8)]))])]), (.app 38 (.call .proc [(.var 28), (.str 30), (.var 27), (.var 14), (.bool false), (.var 41), (.var 13), (.var 3)]))] Qf
      (St.set ⟨[(35, .imm .pot), (24, .imm (iv many)), (6, .imm (iv cc)), (26, .imm (iv nn)), (38, .own (pvs 0 ps))] ++ ex26 ex, some x⟩ 28 (.imm (iv k))) := by
  have e : ∀ (sb rest : Bool) (needed free regs places : Nat) (o : Option V) (y : Pot), PotOk y → regs ≤ 4 → 0 < places ∧ places ≤ 5 → free ≤ 100 → _ := fun sb rest needed free regs places o y Y hr hp hf => end26 (n := n) (Qf := Qf) (k := k) (many := many) (cc := cc) (nn := nn) (needed := needed) (free := free) (regs := regs) (places := places) (sb := sb) (rest := rest) (ps := ps) (o := o) (x := y) Y hr hp hf hc hn hm hk hk2 h
  have hl : ∀ y : Pot, PotOk y → (y.1.map V.int).length < 2 ^ 20 := fun y Y => by have := Y.len; rw [List.length_map]; lia
  cases ex with
  | none =>
    have r14 : ∀ (sb : Bool) (needed free regs places : Nat) (y : Pot), PotOk y → regs ≤ 4 → 0 < places ∧ places ≤ 5 → free ≤ 100 → wpSs (SP (n + 4)) [(.asg 14 (.and [(.cmp .Eq (.call (.user 21) [(.var 35), (.int 3)]) (.int 2)), (.not (.var 19))])), (.asgs [8, 3] [(.lst [(.var 13), (.var 6), (.var 26), (.var 24)]), (.lst [])]), (.fr [33] true false (.call .range [(.var 34)]) [(.iff (.and [(.cmp .Eq (.var 33) (.bin .Sub (.var 34) (.int 1))), (.cmp .Lt (.call (.user 21) [(.var 35), (.int 9)]) (.int 8))]) [(.app 3 (.call (.user 24) [(.var 35), (.var 41), (.var 34)]))] [(.app 3 (.call (.user 25) [(.var 35), (.var 41), (.var 34), (.var 8)]))])]), (.app 38 (.call .proc [(.var 28), (.str 30), (.var 27), (.var 14), (.bool false), (.var 41), (.var 13), (.var 3)]))] Qf ⟨[(35, .imm .pot), (24, .imm (iv many)), (6, .imm (iv cc)), (26, .imm (iv nn)), (38, .own (pvs 0 ps)), (28, .imm (iv k)), (19, .imm (.bool sb)), (27, .imm (iv needed)), (13, .imm (iv free)), (41, .imm (iv regs)), (34, .imm (iv places))], some y⟩ := fun sb needed free regs places y Y hr hp hf =>
      sp21 Y ⟨by decide, by decide⟩ fun v z hv Z => brd (fun zz => e sb (!sb) needed free regs places none z Z hr hp hf) fun zz => e sb _ needed free regs places none z Z hr hp hf
    have r41 : ∀ (sb : Bool) (needed free : Nat) (y : Pot), PotOk y → free ≤ 100 → wpSs (SP (n + 4)) [(.asgs [41, 34] [(.bin .Add (.int 1) (.call (.user 21) [(.var 35), (.int 4)])), (.bin .Add (.int 1) (.call (.user 21) [(.var 35), (.int 5)]))]), (.asg 14 (.and [(.cmp .Eq (.call (.user 21) [(.var 35), (.int 3)]) (.int 2)), (.not (.var 19))])), (.asgs [8, 3] [(.lst [(.var 13), (.var 6), (.var 26), (.var 24)]), (.lst [])]), (.fr [33] true false (.call .range [(.var 34)]) [(.iff (.and [(.cmp .Eq (.var 33) (.bin .Sub (.var 34) (.int 1))), (.cmp .Lt (.call (.user 21) [(.var 35), (.int 9)]) (.int 8))]) [(.app 3 (.call (.user 24) [(.var 35), (.var 41), (.var 34)]))] [(.app 3 (.call (.user 25) [(.var 35), (.var 41), (.var 34), (.var 8)]))])]), (.app 38 (.call .proc [(.var 28), (.str 30), (.var 27), (.var 14), (.bool false), (.var 41), (.var 13), (.var 3)]))] Qf ⟨[(35, .imm .pot), (24, .imm (iv many)), (6, .imm (iv cc)), (26, .imm (iv nn)), (38, .own (pvs 0 ps)), (28, .imm (iv k)), (19, .imm (.bool sb)), (27, .imm (iv needed)), (13, .imm (iv free))], some y⟩ := fun sb needed free y Y hf =>
      sp21 Y ⟨by decide, by decide⟩ fun a z ha Z => sp21 Z ⟨by decide, by decide⟩ fun b z hb Z => r14 sb needed free (1 + a) (1 + b) z Z (by lia) ⟨by lia, by lia⟩ hf
    have r27 : ∀ (sb : Bool) (y : Pot), PotOk y → wpSs (SP (n + 4)) [(.unp [27, 13] (.ite (.var 19) (.tup [(.int 0), (.int 0)]) (.tup [(.call (.user 21) [(.var 35), (.int 2)]), (.call (.user 21) [(.var 35), (.int 3)])]))), (.asgs [41, 34] [(.bin .Add (.int 1) (.call (.user 21) [(.var 35), (.int 4)])), (.bin .Add (.int 1) (.call (.user 21) [(.var 35), (.int 5)]))]), (.asg 14 (.and [(.cmp .Eq (.call (.user 21) [(.var 35), (.int 3)]) (.int 2)), (.not (.var 19))])), (.asgs [8, 3] [(.lst [(.var 13), (.var 6), (.var 26), (.var 24)]), (.lst [])]), (.fr [33] true false (.call .range [(.var 34)]) [(.iff (.and [(.cmp .Eq (.var 33) (.bin .Sub (.var 34) (.int 1))), (.cmp .Lt (.call (.user 21) [(.var 35), (.int 9)]) (.int 8))]) [(.app 3 (.call (.user 24) [(.var 35), (.var 41), (.var 34)]))] [(.app 3 (.call (.user 25) [(.var 35), (.var 41), (.var 34), (.var 8)]))])]), (.app 38 (.call .proc [(.var 28), (.str 30), (.var 27), (.var 14), (.bool false), (.var 41), (.var 13), (.var 3)]))] Qf ⟨[(35, .imm .pot), (24, .imm (iv many)), (6, .imm (iv cc)), (26, .imm (iv nn)), (38, .own (pvs 0 ps)), (28, .imm (iv k)), (19, .imm (.bool sb))], some y⟩ := fun sb y Y =>
      brb (fun zz => ⟨rfl, r41 sb 0 0 y Y (by lia)⟩) fun zz => sp21 Y ⟨by decide, by decide⟩ fun a z ha Z => sp21 Z ⟨by decide, by decide⟩ fun b z hb Z => ⟨rfl, r41 sb a b z Z (by lia)⟩
    exact brd (fun zz => sp21 X ⟨by decide, by decide⟩ fun v y hv Y => brd (fun zz => r27 _ y Y) fun zz => brd (fun zz => ⟨hl y Y, r27 _ y Y⟩) fun zz => r27 _ y Y) fun zz => brd (fun zz => r27 _ x X) fun zz => brd (fun zz => ⟨hl x X, r27 _ x X⟩) fun zz => r27 _ x X
  | some e0 =>
    obtain ⟨⟨a1, a2, a3, a4, a5⟩, ⟨b1, b2, c1, c2, b3⟩⟩ := e0
    have r14 : ∀ (sb : Bool) (needed free regs places : Nat) (y : Pot), PotOk y → regs ≤ 4 → 0 < places ∧ places ≤ 5 → free ≤ 100 → wpSs (SP (n + 4)) [(.asg 14 (.and [(.cmp .Eq (.call (.user 21) [(.var 35), (.int 3)]) (.int 2)), (.not (.var 19))])), (.asgs [8, 3] [(.lst [(.var 13), (.var 6), (.var 26), (.var 24)]), (.lst [])]), (.fr [33] true false (.call .range [(.var 34)]) [(.iff (.and [(.cmp .Eq (.var 33) (.bin .Sub (.var 34) (.int 1))), (.cmp .Lt (.call (.user 21) [(.var 35), (.int 9)]) (.int 8))]) [(.app 3 (.call (.user 24) [(.var 35), (.var 41), (.var 34)]))] [(.app 3 (.call (.user 25) [(.var 35), (.var 41), (.var 34), (.var 8)]))])]), (.app 38 (.call .proc [(.var 28), (.str 30), (.var 27), (.var 14), (.bool false), (.var 41), (.var 13), (.var 3)]))] Qf ⟨[(35, .imm .pot), (24, .imm (iv many)), (6, .imm (iv cc)), (26, .imm (iv nn)), (38, .own (pvs 0 ps)), (28, .imm (iv k)), (19, .imm (.bool sb)), (27, .imm (iv needed)), (13, .imm (iv free)), (41, .imm (iv regs)), (34, .imm (iv places)), (14, .imm b2), (8, c1), (3, c2), (33, .imm b3)], some y⟩ := fun sb needed free regs places y Y hr hp hf =>
      sp21 Y ⟨by decide, by decide⟩ fun v z hv Z => brd (fun zz => e sb (!sb) needed free regs places (some b3) z Z hr hp hf) fun zz => e sb _ needed free regs places (some b3) z Z hr hp hf
    have r41 : ∀ (sb : Bool) (needed free : Nat) (y : Pot), PotOk y → free ≤ 100 → wpSs (SP (n + 4)) [(.asgs [41, 34] [(.bin .Add (.int 1) (.call (.user 21) [(.var 35), (.int 4)])), (.bin .Add (.int 1) (.call (.user 21) [(.var 35), (.int 5)]))]), (.asg 14 (.and [(.cmp .Eq (.call (.user 21) [(.var 35), (.int 3)]) (.int 2)), (.not (.var 19))])), (.asgs [8, 3] [(.lst [(.var 13), (.var 6), (.var 26), (.var 24)]), (.lst [])]), (.fr [33] true false (.call .range [(.var 34)]) [(.iff (.and [(.cmp .Eq (.var 33) (.bin .Sub (.var 34) (.int 1))), (.cmp .Lt (.call (.user 21) [(.var 35), (.int 9)]) (.int 8))]) [(.app 3 (.call (.user 24) [(.var 35), (.var 41), (.var 34)]))] [(.app 3 (.call (.user 25) [(.var 35), (.var 41), (.var 34), (.var 8)]))])]), (.app 38 (.call .proc [(.var 28), (.str 30), (.var 27), (.var 14), (.bool false), (.var 41), (.var 13), (.var 3)]))] Qf ⟨[(35, .imm .pot), (24, .imm (iv many)), (6, .imm (iv cc)), (26, .imm (iv nn)), (38, .own (pvs 0 ps)), (28, .imm (iv k)), (19, .imm (.bool sb)), (27, .imm (iv needed)), (13, .imm (iv free)), (41, .imm a5), (34, .imm b1), (14, .imm b2), (8, c1), (3, c2), (33, .imm b3)], some y⟩ := fun sb needed free y Y hf =>
      sp21 Y ⟨by decide, by decide⟩ fun a z ha Z => sp21 Z ⟨by decide, by decide⟩ fun b z hb Z => r14 sb needed free (1 + a) (1 + b) z Z (by lia) ⟨by lia, by lia⟩ hf
    have r27 : ∀ (sb : Bool) (y : Pot), PotOk y → wpSs (SP (n + 4)) [(.unp [27, 13] (.ite (.var 19) (.tup [(.int 0), (.int 0)]) (.tup [(.call (.user 21) [(.var 35), (.int 2)]), (.call (.user 21) [(.var 35), (.int 3)])]))), (.asgs [41, 34] [(.bin .Add (.int 1) (.call (.user 21) [(.var 35), (.int 4)])), (.bin .Add (.int 1) (.call (.user 21) [(.var 35), (.int 5)]))]), (.asg 14 (.and [(.cmp .Eq (.call (.user 21) [(.var 35), (.int 3)]) (.int 2)), (.not (.var 19))])), (.asgs [8, 3] [(.lst [(.var 13), (.var 6), (.var 26), (.var 24)]), (.lst [])]), (.fr [33] true false (.call .range [(.var 34)]) [(.iff (.and [(.cmp .Eq (.var 33) (.bin .Sub (.var 34) (.int 1))), (.cmp .Lt (.call (.user 21) [(.var 35), (.int 9)]) (.int 8))]) [(.app 3 (.call (.user 24) [(.var 35), (.var 41), (.var 34)]))] [(.app 3 (.call (.user 25) [(.var 35), (.var 41), (.var 34), (.var 8)]))])]), (.app 38 (.call .proc [(.var 28), (.str 30), (.var 27), (.var 14), (.bool false), (.var 41), (.var 13), (.var 3)]))] Qf ⟨[(35, .imm .pot), (24, .imm (iv many)), (6, .imm (iv cc)), (26, .imm (iv nn)), (38, .own (pvs 0 ps)), (28, .imm (iv k)), (19, .imm (.bool sb)), (27, .imm a3), (13, .imm a4), (41, .imm a5), (34, .imm b1), (14, .imm b2), (8, c1), (3, c2), (33, .imm b3)], some y⟩ := fun sb y Y =>
      brb (fun zz => ⟨rfl, r41 sb 0 0 y Y (by lia)⟩) fun zz => sp21 Y ⟨by decide, by decide⟩ fun a z ha Z => sp21 Z ⟨by decide, by decide⟩ fun b z hb Z => ⟨rfl, r41 sb a b z Z (by lia)⟩
    exact brd (fun zz => sp21 X ⟨by decide, by decide⟩ fun v y hv Y => brd (fun zz => r27 _ y Y) fun zz => brd (fun zz => ⟨hl y Y, r27 _ y Y⟩) fun zz => r27 _ y Y) fun zz => brd (fun zz => r27 _ x X) fun zz => brd (fun zz => ⟨hl x X, r27 _ x X⟩) fun zz => r27 _ x X
end
end Mine
end

section
open PySem
set_option Elab.async false
set_option maxRecDepth 100000
set_option tactic.hygienic false
set_option linter.unusedVariables false
set_option linter.unusedSimpArgs false
set_option maxHeartbeats 4000000
namespace Mine

section
variable {n : Nat}
theorem loop26 {Qf : Fl → St → Prop} {many cc nn : Nat} (hc : cc ≤ 100) (hn : nn ≤ 100) (hm : many ≤ 2) : ∀ (m k : Nat) (ps : List P) (ex : E26) (x : Pot), PotOk x → ps.length = k → k + m = many → (∀ q ∈ ps, GoodQ q) →
    (∀ (ps : List P) (ex : E26) (y : Pot), PotOk y → ps.length = many → (∀ q ∈ ps, GoodQ q) → Qf .next ⟨[(35, .imm .pot), (24, .imm (iv many)), (6, .imm (iv cc)), (26, .imm (iv nn)), (38, .own (pvs 0 ps))] ++ ex26 ex, some y⟩) →
    forL (fun Q σ => wpSs (SP (n + 4)) [(.asg 19 (.or [(.and [(.cmp .Eq (.var 28) (.int 0)), (.cmp .Gt (.call (.user 21) [(.var 35), (.int 8)]) (.int 0))]), (.and [(.cmp .Eq (.var 28) (.int 0)), (.cmp .Lt (.call .len [(.idx (.var 35) (.int 0))]) (.int 40))])])), (.unp [27, 13] (.ite (.var 19) (.tup [(.int 0), (.int 0)]) (.tup [(.call (.user 21) [(.var 35), (.int 2)]), (.call (.user 21) [(.var 35), (.int 3)])]))), (.asgs [41, 34] [(.bin .Add (.int 1) (.call (.user 21) [(.var 35), (.int 4)])), (.bin .Add (.int 1) (.call (.user 21) [(.var 35), (.int 5)]))]), (.asg 14 (.and [(.cmp .Eq (.call (.user 21) [(.var 35), (.int 3)]) (.int 2)), (.not (.var 19))])), (.asgs [8, 3] [(.lst [(.var 13), (.var 6), (.var 26), (.var 24)]), (.lst [])]), (.fr [33] true false (.call .range [(.var 34)]) [(.iff (.and [(.cmp .Eq (.var 33) (.bin .Sub (.var 34) (.int 1))), (.cmp .Lt (.call (.user 21) [(.var 35), (.int 9)]) (.int 8))]) [(.app 3 (.call (.user 24) [(.var 35), (.var 41), (.var 34)]))] [(.app 3 (.call (.user 25) [(.var 35), (.var 41), (.var 34), (.var 8)]))])]), (.app 38 (.call .proc [(.var 28), (.str 30), (.var 27), (.var 14), (.bool false), (.var 41), (.var 13), (.var 3)]))] Q σ) [28] true (nts (List.range' k m)) Qf ⟨[(35, .imm .pot), (24, .imm (iv many)), (6, .imm (iv cc)), (26, .imm (iv nn)), (38, .own (pvs 0 ps))] ++ ex26 ex, some x⟩
  | 0, k, ps, ex, x, X, hk, hkm, hg, h => h ps ex x X (by lia) hg
  | m + 1, k, ps, ex, x, X, hk, hkm, hg, h => body26 X hc hn hm hk (by lia) fun q y e G Y =>
    loop26 hc hn hm m (k + 1) (ps ++ [q]) (some e) y Y (by rw [List.length_append, hk]; rfl) (by lia) (fun z hz => by
      rcases List.mem_append.mp hz with hz | hz
      · exact hg z hz
      · rw [List.mem_singleton.mp hz]; exact G) h
theorem sp26 {Q : V → Option Pot → Prop} {x : Pot} (X : PotOk x) (h : ∀ (ps : List P) (cs ns : List V) (y : Pot), GoodU ps cs ns → PotOk y → Q (uv ps cs ns) (some y)) : SP (n + 5) 26 [.pot] (some x) Q := by
  refine sp_of rfl rfl (sp21 X ⟨by decide, by decide⟩ fun a y ha Y => sp21 Y ⟨by decide, by decide⟩ fun b y hb Y => sp21 Y ⟨by decide, by decide⟩ fun c y hc Y => ⟨sm (n := 1 + a) (by lia), ⟨⟨by lia, by lia⟩, ?_⟩⟩)
  rw [show ((1 + (a : Int))).toNat = 1 + a by lia, List.range_eq_range']
  refine loop26 (many := 1 + a) (cc := b) (nn := c + 1) (by lia) (by lia) (by lia) (1 + a) 0 [] none y Y rfl (Nat.zero_add _) (fun zz h => nomatch h) fun ps ex z Z hl hg => ?_
  have G : GoodU ps (List.replicate ((b : Int)).toNat (.int 7)) ([V.int 3, V.int 5].take ((c : Int) + 1).toNat) := by
    refine ⟨by lia, fun q hq => ?_⟩
    have g := hg q hq
    refine ⟨⟨by lia, by rw [List.length_replicate]; lia, by rw [List.length_take]; exact Nat.min_le_right _ _, g.len⟩, g.ne, g.wf, g.regs⟩
  have r := h ps _ _ z G Z
  cases ex with
  | none => exact ⟨⟨sm (by lia), by lia⟩, ⟨⟨by lia, sm (n := c + 1) (by lia), nle rfl⟩, r⟩⟩
  | some e => exact ⟨⟨sm (by lia), by lia⟩, ⟨⟨by lia, sm (n := c + 1) (by lia), nle rfl⟩, r⟩⟩
end
end Mine
end

section
open PySem
set_option Elab.async false
set_option maxRecDepth 100000
set_option tactic.hygienic false
set_option linter.unusedVariables false
set_option linter.unusedSimpArgs false
set_option maxHeartbeats 4000000
namespace Mine

noncomputable def exL (o : Option (V × V × V × V)) : List (Nat × LV) := match o with | none => [] | some x => [(49, .imm x.1), (50, .imm x.2.1), (48, .imm x.2.2.1), (9, .imm x.2.2.2)]
noncomputable def turnL : List S := [(.asg 50 (.call (.user 26) [(.var 35)])), (.asgs [48, 9] [(.call (.user 19) [(.var 50), (.int 3)]), (.call (.user 31) [(.var 50)])]), (.iff (.cmp .NotEq (.cmp .Is (.var 48) .none) (.cmp .Is (.var 9) .none)) [(.ret (.bool false))] []), (.iff (.and [(.cmp .IsNot (.var 48) .none), (.cmp .NotEq (.tup [(.idx (.var 48) (.int 0)), (.idx (.var 48) (.int 1))]) (.var 9))]) [(.ret (.bool false))] [])]
section
variable {n : Nat} {Qf : Fl → St → Prop}
theorem turn_law {l44 : LV} {ex : Option (V × V × V × V)} {x : Pot} {v49 : V} (X : PotOk x) (h : ∀ (e : V × V × V × V) (y : Pot), PotOk y → Qf .next ⟨[(44, l44), (35, .imm .pot)] ++ exL (some e), some y⟩) :
    wpSs (SP (n + 9)) turnL Qf (St.set ⟨[(44, l44), (35, .imm .pot)] ++ exL ex, some x⟩ 49 (.imm v49)) := by
  have main : ∀ (ps : List P) (cs ns : List V) (y : Pot) (o o' : Option (Int × Int)) (v w : V), PotOk y → UErr ps cs ns o → Told2 o v → UErr ps cs ns o' → Due o' w →
      wpSs (SP (n + 9)) [(.iff (.cmp .NotEq (.cmp .Is (.var 48) .none) (.cmp .Is (.var 9) .none)) [(.ret (.bool false))] []), (.iff (.and [(.cmp .IsNot (.var 48) .none), (.cmp .NotEq (.tup [(.idx (.var 48) (.int 0)), (.idx (.var 48) (.int 1))]) (.var 9))]) [(.ret (.bool false))] [])] Qf
        ⟨[(44, l44), (35, .imm .pot), (49, .imm v49), (50, .imm (uv ps cs ns)), (48, .imm v), (9, .imm w)], some y⟩ := fun ps cs ns y o o' v w Y u1 t u2 d => by
    cases u1.unique u2
    cases o with
    | none =>
      have t' : v = .none := t
      have d' : w = .none := d
      subst t'; subst d'
      exact brf (brf (brf (h (_, _, _, _) y Y)))
    | some ab =>
      obtain ⟨a, b⟩ := ab
      obtain ⟨c, rfl⟩ : ∃ c, v = .tup [.int a, .int b, .str c] := t
      have d' : w = .tup [.int a, .int b] := d
      subst d'
      refine brf (brt ⟨sm0, _, rfl, ⟨sm1, _, rfl, ?_⟩⟩)
      show brP (!(decide (a = a) && decide (b = b))) _ _
      rw [decide_eq_true (rfl : a = a), decide_eq_true (rfl : b = b)]
      exact brf (h (_, _, _, _) y Y)
  cases ex with
  | none => exact sp26 (n := n + 4) X fun ps cs ns y G Y => sp19 G fun o v u1 t => sp31 (n := n + 6) G fun o' w u2 d => main ps cs ns y o o' v w Y u1 t u2 d
  | some e => exact sp26 (n := n + 4) X fun ps cs ns y G Y => sp19 G fun o v u1 t => sp31 (n := n + 6) G fun o' w u2 d => main ps cs ns y o o' v w Y u1 t u2 d
/- the law's rows behind the pot -/
theorem law_plain {l44 : LV} {x : Pot} (X : PotOk x) (h : ∀ (e : V × V × V × V) (y : Pot), PotOk y → Qf (.ret (.bool true)) ⟨[(44, l44), (35, .imm .pot)] ++ exL (some e), some y⟩) : wpSs (SP (n + 9)) [(.fr [49] true false (.call .range [(.int 3)]) turnL), (.ret (.bool true))] Qf ⟨[(44, l44), (35, .imm .pot)], some x⟩ := by
  refine ⟨sm3, ⟨⟨by decide, by decide⟩, ?_⟩⟩
  exact turn_law (ex := none) X fun e y Y => turn_law (ex := some e) Y fun e y Y => turn_law (ex := some e) Y fun e y Y => h e y Y
end
end Mine
end

section
open PySem
set_option Elab.async false
set_option maxRecDepth 100000
set_option tactic.hygienic false
set_option linter.unusedVariables false
set_option linter.unusedSimpArgs false
set_option maxHeartbeats 4000000
namespace Mine

theorem sum_mod (l : List Int) : 0 ≤ (l.map fun (z : Int) => z % 1009).sum ∧ (l.map fun (z : Int) => z % 1009).sum ≤ 1009 * l.length := by
  induction l with
  | nil => exact ⟨Int.le_refl _, Int.le_refl _⟩
  | cons a l ih =>
    have h1 := Int.emod_nonneg a (by decide : (1009 : Int) ≠ 0)
    have h2 := Int.emod_lt_of_pos a (by decide : (0 : Int) < 1009)
    simp only [List.map_cons, List.sum_cons, List.length_cons]
    lia
section
variable {n : Nat} {Q : V → Option Pot → Prop} {p : Option Pot}
theorem sp20 {l : List Int} (hl : l.length ≤ 63) (h : Q (.lst [.lst (l.map V.int), .int 0, .int ((l.map fun (z : Int) => z % 1009).sum + 3)]) p) : SP (n + 1) 20 [.lst (l.map V.int)] p Q := by
  have h1 : (l.map V.int).length < 2 ^ 20 := by rw [List.length_map]; lia
  have e : (l.map V.int).take ((63 : Int)).toNat = l.map V.int := List.take_of_length_le (by rw [List.length_map]; exact hl)
  have h2 : ((l.map V.int).take ((63 : Int)).toNat).length < 2 ^ 20 := by rw [e]; exact h1
  have h3 : (0 ≤ (63 : Int) ∧ small 63 ∧ (l.map V.int).length < 2 ^ 20) := ⟨by decide, ⟨by decide, by decide⟩, h1⟩
  refine sp_of rfl rfl ⟨h3, ⟨h2, ⟨h3, ⟨h2, ?_⟩⟩⟩⟩
  rw [e]
  refine comp_m (g := V.int) (f := fun z => .int (z % 1009)) l [] (fun a zz Q h => ⟨⟨by decide, ⟨by decide, by decide⟩⟩, h⟩) ⟨l.map fun (z : Int) => z % 1009, by rw [List.nil_append, List.map_map]; rfl, ?_⟩
  exact h
end
end Mine
end

section
open PySem PySem.W PyProof.Rows PyProof.Rows.LSm
set_option Elab.async false
set_option backward.match.sparseCases false
set_option maxRecDepth 100000
set_option tactic.hygienic false
set_option genSizeOf false
set_option genInjectivity false
set_option linter.unusedVariables false
namespace Mine

/- a heap without its lists -/
noncomputable def isLst (o : Obj) : Prop := o.cls = .type "list" ∧ ∃ xs n, o.data = .seq xs n
open Classical in
noncomputable def unl (o : Obj) : Obj := if isLst o then { o with data := .freed } else o
noncomputable def strip (h : Heap) : Heap := ⟨h.objs.map unl, h.life⟩
theorem unl_not {o : Obj} (h : ¬ isLst o) : unl o = o := if_neg h
theorem get_eq {h : Heap} {a : Addr} {o : Obj} (e : h.objs[a]? = some o) : h.get? a = if (match o.data with | .freed => true | _ => false) = true then none else some o := by
  unfold Heap.get?
  rw [e]
  obtain ⟨c, d, dt, sl⟩ := o
  cases dt <;> rfl
theorem strip_get {h : Heap} {a : Addr} {o : Obj} (e : h.get? a = some o) (hn : ¬ isLst o) : (strip h).get? a = some o := by
  have e' : h.objs[a]? = some o := by
    cases q : h.objs[a]? with
    | none => unfold Heap.get? at e; rw [q] at e; cases e
    | some x =>
      rw [get_eq q] at e
      split at e
      · cases e
      · exact e
  have e2 : (strip h).objs[a]? = some o := by show (h.objs.map unl)[a]? = _; rw [Array.getElem?_map, e']; show some (unl o) = _; rw [unl_not hn]
  rw [get_eq e']  at e
  rw [get_eq e2]; exact e
theorem strip_le {h : Heap} {a : Addr} {o : Obj} (e : (strip h).get? a = some o) : h.get? a = some o ∧ ¬ isLst o := by
  cases q : h.objs[a]? with
  | none =>
    have : (strip h).objs[a]? = none := by show (h.objs.map unl)[a]? = _; rw [Array.getElem?_map, q]; rfl
    unfold Heap.get? at e; rw [this] at e; cases e
  | some x =>
    have e2 : (strip h).objs[a]? = some (unl x) := by show (h.objs.map unl)[a]? = _; rw [Array.getElem?_map, q]; rfl
    rw [get_eq e2] at e
    by_cases hl : isLst x
    · have : unl x = { x with data := .freed } := if_pos hl
      rw [this] at e
      simp at e
    · rw [unl_not hl] at e
      by_cases hf : (match x.data with | .freed => true | _ => false) = true
      · rw [if_pos hf] at e; cases e
      · rw [if_neg hf] at e
        cases e
        exact ⟨by rw [get_eq q, if_neg hf], hl⟩
theorem not_isLst {o : Obj} (h : (match o.data with | .seq .. => true | _ => false) = false) : ¬ isLst o := fun ⟨_, xs, n, q⟩ => by rw [q] at h; cases h
theorem strip_ns {h : Heap} {a : Addr} {m : Str → Option Value} (x : h.Ns a m) : (strip h).Ns a m :=
by
  obtain ⟨o, es, ep, e, d, r⟩ := x
  exact ⟨o, es, ep, strip_get e (not_isLst (by rw [d])), d, r⟩
theorem strip_code {h : Heap} {cd : Value} {q : Str} (x : h.CodeRec cd q) : (strip h).CodeRec cd q :=
by
  obtain ⟨c, o, vs, t, e, g, d, r⟩ := x
  exact ⟨c, o, vs, t, e, strip_get g (not_isLst (by rw [d])), d, r⟩
theorem strip_cls {h : Heap} {C N : Addr} {mN : Str → Option Value} (x : ClsAt h C N mN) : ClsAt (strip h) C N mN := by
  obtain ⟨⟨nm, q, bs, sn, sub, col, dd, k0, k1, k2, k3, k5, e⟩, z⟩ := x
  exact ⟨⟨nm, q, bs, sn, sub, col, dd, k0, k1, k2, k3, k5, strip_get e (not_isLst rfl)⟩, strip_ns z⟩

/- what is asked of the law's own def -/
noncomputable def lawOk : Bool := match defOf? (st 39) with
  | some d => decide (d.scope.names.lookup ("pot" : Str) = some .local ∧ d.scope.names.lookup ("script" : Str) = some .local ∧ varIx ("pot" : Str) = some 35 ∧ varIx ("script" : Str) = some 44 ∧ (∀ p ∈ d.scope.names, p.2 ≠ .cell) ∧ (∀ p ∈ d.scope.names, p.2 ≠ .free) ∧ d.scope.kind = .function)
  | none => false
theorem lawOk_t : lawOk = true := by decide +kernel
theorem chk_law : chkAt 39 fLaw = true := by decide +kernel
structure LawD (d : DefOf) : Prop where
  pot : d.scope.names.lookup ("pot" : Str) = some .local
  script : d.scope.names.lookup ("script" : Str) = some .local
  v35 : varIx ("pot" : Str) = some 35
  v44 : varIx ("script" : Str) = some 44
  cell : ∀ p ∈ d.scope.names, p.2 ≠ .cell
  free : ∀ p ∈ d.scope.names, p.2 ≠ .free
  kind : d.scope.kind = .function
theorem law_d {d : DefOf} (h : defOf? (st 39) = some d) : LawD d ∧ All2 (SndS d.scope.names) d.body fLaw.body := by
  obtain ⟨d', h', s⟩ := chkAt_ok chk_law
  rw [h] at h'
  cases h'
  have e := lawOk_t
  unfold lawOk at e
  rw [h] at e
  obtain ⟨a, b, c, f, g, i, j⟩ := of_decide_eq_true e
  exact ⟨⟨a, b, c, f, g, i, j⟩, s.body⟩
end Mine
end

section
open PySem PySem.W PyProof.Rows PyProof.Rows.LSm
set_option Elab.async false
set_option maxRecDepth 100000
set_option tactic.hygienic false
set_option linter.unusedVariables false
namespace Mine

theorem no_kind {nm : Names} {k : NameKind} (h : ∀ p ∈ nm, p.2 ≠ k) (x : Str) : nm.lookup x ≠ some k := fun e => h _ (mem_of_lookup e) rfl
theorem not_owned {l : List (Nat × LV)} {p : Option Pot} (h : ∀ x ∈ l, x.2.isOwn = false) (k : Nat) : ¬ Owned ⟨l, p⟩ k := by
  rintro ⟨lv, e, ho⟩
  have : ∀ l : List (Nat × LV), (∀ x ∈ l, x.2.isOwn = false) → getL k l = some lv → False := by
    intro l
    induction l with
    | nil => intro _ e; cases e
    | cons x l ih =>
      intro h e
      obtain ⟨k', v⟩ := x
      cases hb : Nat.beq k k' with
      | true =>
        rw [getL_hit hb] at e
        cases e
        rw [show lv.isOwn = false from h _ (List.mem_cons_self ..)] at ho; cases ho
      | false => rw [getL_miss hb] at e; exact ih (fun y hy => h y (List.mem_cons_of_mem _ hy)) e
  exact this l h e

set_option maxHeartbeats 1000000 in
theorem law_frame {prog : Program} {w : World} {mg mb : Str → Option Value} {CP CU : Addr} {s₁ : Shared} (B : ∀ P, Base mg mb ⟨P, CP, CU, w⟩ (strip s₁.heap)) {d : DefOf} (hd : defOf? (st 39) = some d)
    {A : Around} (hr : Room 9 A) {L fa : Addr} {cdv : Value} {h₁ : Heap} {tk : Nat} {m : Str → Option Value} (Fr₁ : Fr s₁.heap L h₁ m) {a0 : Addr} {us : List Value} {ns : List Int} (hm : m "script" = some (.ref a0)) (ha0 : s₁.heap.get? a0 = some (lstO us 0)) (hI : IntsAre us ns) (hl : ns.length ≤ 63)
    {Qc : Flow → Shared → Prop} {E : Value → Shared → Prop} (hQ : ∀ s' : Shared, (∃ h t, s' = { s₁ with heap := h, toks := t }) → (∀ b o, s₁.heap.get? b = some o → s'.heap.get? b = some o) → Qc (.ret (.bool true)) s') :
    wpAny (model prog w) A (execs d.body (envOf d.name d.scope L fa cdv)) Qc E { s₁ with heap := h₁, toks := tk } := by
  obtain ⟨D, hS⟩ := law_d hd
  have hbl : ∀ b o, (strip s₁.heap).get? b = some o → s₁.heap.get? b = some o := fun b o e => (strip_le e).1
  have hLn : s₁.heap.get? L = none := fresh_none Fr₁.above
  have hbL : ∀ b, s₁.heap.get? b = none → (strip s₁.heap).get? b = none := fun b e => by
    cases q : (strip s₁.heap).get? b with
    | none => rfl
    | some o => rw [hbl b o q] at e; cases e
  have hPob : ∃ ob, s₁.heap.get? mainGlobals = some ob := by
    obtain ⟨o, es, ep, e, _⟩ := (B 0).ng
    exact ⟨o, hbl _ _ e⟩
  have kind : ∀ x, (envOf d.name d.scope L fa cdv).kindOf x = d.scope.names.lookup x := fun x => rfl
  have noCell : ∀ x, (envOf d.name d.scope L fa cdv).kindOf x ≠ some .cell := fun x => no_kind D.cell x
  have noFree : ∀ x, d.scope.names.lookup x ≠ some .free := fun x => no_kind D.free x
  -- the first frame
  let g0 : GP := ⟨mainGlobals, CP, CU, w⟩
  let F0 : FM := fun b => if b = a0 then some (lstO us 0) else (strip s₁.heap).get? b
  let c0 : Cx := ⟨g0, envOf d.name d.scope L fa cdv, fun b => s₁.heap.get? b, F0, s₁, true, false⟩
  have hF0 : ∀ b o, F0 b = some o → s₁.heap.get? b = some o := fun b o e => by
    show s₁.heap.get? b = some o
    have e' : (if b = a0 then some (lstO us 0) else (strip s₁.heap).get? b) = some o := e
    by_cases q : b = a0
    · rw [if_pos q] at e'; cases e'; rw [q]; exact ha0
    · rw [if_neg q] at e'; exact hbl _ _ e'
  have hb0 : FM.le (fun a => (strip s₁.heap).get? a) F0 := fun b o e => by
    show (if b = a0 then some (lstO us 0) else (strip s₁.heap).get? b) = some o
    by_cases q : b = a0
    · subst q
      have := strip_le e
      rw [ha0] at this
      exact absurd ⟨by rw [← Option.some.inj this.1], us.toArray, 0, by rw [← Option.some.inj this.1]⟩ this.2
    · rw [if_neg q]; exact e
  have hF0a : F0 a0 = some (lstO us 0) := if_pos rfl
  have rep0 : Rep g0 F0 (.ref a0) (.lst (ns.map V.int)) := .lst hF0a (.of_ints hI)
  have F0n : ∀ b, s₁.heap.get? b = none → F0 b = none := fun b e => by
    cases q : F0 b with
    | none => rfl
    | some o => rw [hF0 b o q] at e; cases e
  have nOwn : ∀ k, ¬ Owned ⟨[(44, .imm (.lst (ns.map V.int)))], none⟩ k := not_owned fun x hx => by
    rcases List.mem_singleton.mp hx with rfl; rfl
  have R0 : Rel c0 F0 [] (fun zz => 0) ⟨[(44, .imm (.lst (ns.map V.int)))], none⟩ { s₁ with heap := h₁, toks := tk } := {
    same := ⟨h₁, tk, rfl⟩
    fro := fun b o e => Fr₁.keep _ _ (hF0 b o e)
    f0 := FM.le.refl F0
    fnew := fun zz zz e => .inl e
    tmp := fun zz h => nomatch h
    kept := fun b o e zz => Fr₁.keep _ _ e
    ns := ⟨m, Fr₁.ns, fun x k hx hk => by
      by_cases q : k = 44
      · subst q
        have : x = "script" := varIx_inj hk D.v44
        subst this
        exact ⟨_, hm, rep0⟩
      · have : St.get ⟨[(44, .imm (.lst (ns.map V.int)))], none⟩ k = none := by
          exact getL_miss (beq_ne q)
        rw [this]; trivial⟩
    cel := fun x k hx zz => absurd hx (noCell x)
    own := fun k vs e => absurd ⟨_, e, rfl⟩ (nOwn k)
    dct := fun k ks e => absurd ⟨_, e, rfl⟩ (nOwn k)
    off := fun k h => absurd h (nOwn k)
    inj := fun k zz h => absurd h (nOwn k)
    pot := fun zz e => nomatch e
    hP := hPob
    offP := fun e => absurd rfl e
    offL := ⟨F0n _ hLn, fun zz h => (nomatch h), hLn⟩
    offC := fun zz zz h => nomatch h
    injC := fun zz zz zz h => nomatch h
    offT := fun zz h => nomatch h
    potB := rfl }
  have G0 : GoodCx (strip s₁.heap) g0 c0 d.scope.names := ⟨rfl, D.kind, rfl, rfl, rfl, nmok_all _, hb0, noFree⟩
  cases hbody : d.body with
  | nil => rw [hbody] at hS; cases hS
  | cons s0 rest =>
  rw [hbody] at hS
  cases hS with | cons hs0 hrest =>
  have W0 : Wd := ⟨prog, w, strip s₁.heap, mg, mb, g0, 9, SP 9, B mainGlobals, calls_ok (B mainGlobals) rfl 9, rfl⟩
  have snd0 := hs0 ⟨prog, w, strip s₁.heap, mg, mb, g0, 9, SP 9, B mainGlobals, calls_ok (B mainGlobals) rfl 9, rfl⟩
  refine wpAny_execs_cons (snd0 A c0 F0 [] _ _ _ (fun fl σ' => fl = .next ∧ σ' = ⟨[(44, .imm (.lst (ns.map V.int))), (35, .imm (.lst [.lst (ns.map V.int), .int 0, .int ((ns.map fun (z : Int) => z % 1009).sum + 3)]))], none⟩) _ E hr G0 rfl R0 (sp20 (n := 8) hl ⟨rfl, rfl⟩) (fun F' o' s' σ' le R' q => ?_) fun F' o' s' σ' val v le R' rv q => nomatch q.1)
  obtain ⟨_, rfl⟩ := q
  obtain ⟨m', hm', rl⟩ := R'.ns
  obtain ⟨y, hy, ry⟩ := rl "pot" 35 D.pot D.v35
  obtain ⟨a, vs, n3, rfl, hFa, rA⟩ := ry.invLst
  cases rA with | @cons v1 _ _ _ r1 rA =>
  cases rA with | @cons v2 _ _ _ r2 rA =>
  cases rA with | @cons v3 _ _ _ r3 rA =>
  cases rA
  obtain ⟨l, us', m1, rfl, hFl, rU⟩ := r1.invLst
  obtain ⟨t2, rfl⟩ := r2.invInt
  obtain ⟨t3, rfl⟩ := r3.invInt
  have hIu := rU.ints
  have hal : a ≠ l := fun q => by
    subst q
    rw [hFa] at hFl
    cases hFl
    cases ns with
    | nil => cases hIu
    | cons i ns => cases hIu
  have hsa : s'.heap.get? a = some (lstO [.ref l, .int 0 t2, .int ((ns.map fun (z : Int) => z % 1009).sum + 3) t3] n3) := R'.fro _ _ hFa
  have hsl : s'.heap.get? l = some (lstO us' m1) := R'.fro _ _ hFl
  have hkept : ∀ b o, s₁.heap.get? b = some o → s'.heap.get? b = some o := fun b o e => R'.kept b o e fun h => absurd rfl h
  have hanew : s₁.heap.get? a = none := by
    rcases R'.fnew _ _ hFa with e | e
    · exfalso
      have e' : (if a = a0 then some (lstO us 0) else (strip s₁.heap).get? a) = _ := e
      by_cases q : a = a0
      · rw [if_pos q] at e'
        cases e'
        cases ns with
        | nil => cases hI
        | cons i ns => cases hI
      · rw [if_neg q] at e'
        exact (strip_le e').2 ⟨rfl, _, _, rfl⟩
    · exact e
  -- the second frame
  let g1 : GP := ⟨a, CP, CU, w⟩
  let F1 : FM := fun b => if b = l then some (lstO us' m1) else (strip s₁.heap).get? b
  let h0' : FM := fun b => if b = a then s'.heap.get? a else s₁.heap.get? b
  let c1 : Cx := ⟨g1, envOf d.name d.scope L fa cdv, h0', F1, s', true, true⟩
  have hF1 : ∀ b o, F1 b = some o → s'.heap.get? b = some o := fun b o e => by
    have e' : (if b = l then some (lstO us' m1) else (strip s₁.heap).get? b) = some o := e
    by_cases q : b = l
    · rw [if_pos q] at e'; cases e'; rw [q]; exact hsl
    · rw [if_neg q] at e'; exact hkept _ _ (hbl _ _ e')
  have hb1 : FM.le (fun a => (strip s₁.heap).get? a) F1 := fun b o e => by
    show (if b = l then some (lstO us' m1) else (strip s₁.heap).get? b) = some o
    by_cases q : b = l
    · rw [if_pos q, ← hsl, ← q]; exact hkept _ _ (hbl _ _ e)
    · rw [if_neg q]; exact e
  have hLd : ∃ ob es ep, s'.heap.get? L = some ob ∧ ob.data = .dict es ep := by
    obtain ⟨ob, es, ep, e, ed, _⟩ := hm'
    exact ⟨ob, es, ep, e, ed⟩
  obtain ⟨oL, esL, epL, hLo, hLdd⟩ := hLd
  have hLl : L ≠ l := fun q => by rw [q, hsl] at hLo; cases hLo; cases hLdd
  have hLa : L ≠ a := fun q => by rw [q, hsa] at hLo; cases hLo; cases hLdd
  have F1a : F1 a = none := by show (if a = l then _ else _) = none; rw [if_neg hal]; exact hbL a hanew
  have F1L : F1 L = none := by show (if L = l then _ else _) = none; rw [if_neg hLl]; exact hbL L hLn
  have nOwn : ∀ k, ¬ Owned ⟨[(44, .gone), (35, .imm .pot)], some (ns, 0, (ns.map fun (z : Int) => z % 1009).sum + 3)⟩ k := not_owned fun x hx => by
    rcases List.mem_cons.mp hx with rfl | hx
    · rfl
    · rcases List.mem_singleton.mp hx with rfl; rfl
  have R1 : Rel c1 F1 [] (fun zz => 0) ⟨[(44, .gone), (35, .imm .pot)], some (ns, 0, (ns.map fun (z : Int) => z % 1009).sum + 3)⟩ s' := {
    same := ⟨s'.heap, s'.toks, rfl⟩
    fro := hF1
    f0 := FM.le.refl F1
    fnew := fun zz zz e => .inl e
    tmp := fun zz h => nomatch h
    kept := fun b o e q => by
      have e' : (if b = a then s'.heap.get? a else s₁.heap.get? b) = some o := e
      have hne : b ≠ a := q (by simp)
      rw [if_neg hne] at e'
      exact hkept _ _ e'
    ns := ⟨m', hm', fun x k hx hk => by
      by_cases q : k = 44
      · subst q; exact trivial
      · by_cases q' : k = 35
        · subst q'
          have : x = "pot" := varIx_inj hk D.v35
          subst this
          exact ⟨_, hy, .pot⟩
        · have : St.get ⟨[(44, .gone), (35, .imm .pot)], some (ns, 0, (ns.map fun (z : Int) => z % 1009).sum + 3)⟩ k = none := by
            exact (getL_miss (beq_ne q)).trans (getL_miss (beq_ne q'))
          rw [this]; trivial⟩
    cel := fun x k hx zz => absurd hx (noCell x)
    own := fun k vs e => absurd ⟨_, e, rfl⟩ (nOwn k)
    dct := fun k ks e => absurd ⟨_, e, rfl⟩ (nOwn k)
    off := fun k h => absurd h (nOwn k)
    inj := fun k zz h => absurd h (nOwn k)
    pot := fun p e => by
      cases e
      exact ⟨l, us', n3, m1, t2, t3, hsa, if_pos rfl, hIu⟩
    hP := ⟨_, (if_pos rfl : h0' a = s'.heap.get? a).trans hsa⟩
    offP := fun zz => ⟨F1a, fun zz h => nomatch h⟩
    offL := ⟨F1L, fun zz h => (nomatch h), (if_neg hLa : h0' L = s₁.heap.get? L).trans hLn⟩
    offC := fun zz zz h => nomatch h
    injC := fun zz zz zz h => nomatch h
    offT := fun zz h => nomatch h
    potB := rfl }
  have G1 : GoodCx (strip s₁.heap) g1 c1 d.scope.names := ⟨rfl, D.kind, rfl, rfl, rfl, nmok_all _, hb1, noFree⟩
  have X : PotOk (ns, 0, (ns.map fun (z : Int) => z % 1009).sum + 3) := by
    have := sum_mod ns
    refine ⟨hl, Int.le_refl _, ?_, ?_⟩ <;> simp only <;> lia
  obtain ⟨h', t', es'⟩ := R'.same
  refine snd_ss hrest ⟨prog, w, strip s₁.heap, mg, mb, g1, 9, SP 9, B a, calls_ok (B a) rfl 9, rfl⟩ A c1 F1 [] _ _ _ (fun fl σ' => fl = .ret (.bool true)) _ E hr G1 rfl R1 (law_plain (n := 0) X fun e y Y => rfl) (fun F'' o'' s'' σ'' le R'' q => nomatch q) fun F'' o'' s'' σ'' val v le R'' rv q => ?_
  cases q
  cases rv
  obtain ⟨h'', t'', es''⟩ := R''.same
  refine hQ s'' ⟨h'', t'', ?_⟩ fun b o e => ?_
  · rw [es'']
    show ({ s' with heap := h'', toks := t'' } : Shared) = _
    rw [es']
  · have hne : b ≠ a := fun q => by rw [q, hanew] at e; cases e
    exact R''.kept b o ((if_neg hne : h0' b = s₁.heap.get? b).trans e) fun zz => hne
end Mine
end

section
open PySem PySem.W PyProof.Rows
set_option Elab.async false
set_option backward.match.sparseCases false
set_option maxRecDepth 100000
set_option tactic.hygienic false
set_option linter.unusedVariables false
namespace Mine
def pw2 : Program := { main := { body := [st 0, st 1, st 2, st 3, st 4, st 5, st 6, st 7, st 8, st 9, st 10, st 11, st 12, st 13, st 14, st 15, st 16, st 17, st 18, st 19, st 20, st 21, st 22, st 23, st 24, st 25, st 26, st 27, st 28, st 29, st 30, st 31, st 32, st 33, st 34, st 35, st 36, st 37, st 38, st 39], scope := PySem.Challenge.pw_nt0170_01.main.scope, futureAnnotations := false, file := "/claim/cut.py", more := [] : PySem.Module }, modules := [], parses := [], absent := [], harvested := [], given := { argv := [], stdin := [], environ := (some [([76, 67, 95, 65, 76, 76], [67, 46, 85, 84, 70, 45, 56])]) : PySem.Given } : PySem.Program }
theorem pw2_eq : PySem.Challenge.pw_nt0170_01 = pw2 := rfl
def rw2 : OpenLaw := { prog := pw2, name := (PySem.Str.ofString "law"), about := [(PySem.Str.ofString "unit_error")], foot := 13, most := some 63, bound := none, writes := false }
theorem rw2_eq : PySem.Challenge.rw_nt0170_01 = rw2 := rfl
noncomputable def vix : List Nat := [1, 2, 3, 4, 5, 6, 7, 8, 9, 10, 12, 13, 14, 15, 16, 17, 18, 19, 20, 21, 22, 23, 24, 25, 27, 28, 29, 30, 31, 32, 33, 34, 35, 36, 37, 38, 39]
noncomputable def vw : Program := { pw2 with main := { pw2.main with body := [st 1, st 2, st 3, st 4, st 5, st 6, st 7, st 8, st 9, st 10, st 12, st 13, st 14, st 15, st 16, st 17, st 18, st 19, st 20, st 21, st 22, st 23, st 24, st 25, st 27, st 28, st 29, st 30, st 31, st 32, st 33, st 34, st 35, st 36, st 37, st 38, st 39] } }
noncomputable def ls : List Str := [Str.ofString "OPERANDS"]

/- the table's text: its keys with their places, its rows -/
noncomputable def opE (P : Params) : List (Str × Tok × Addr) → List DictEntry
  | [] => []
  | (x, t, a) :: r => ⟨PyData.keyHash P x, .str x t, .ref a⟩ :: opE P r
noncomputable def opK : List (Str × Tok × Addr) := [("const", 189, 16), ("move", 192, 17), ("global", 195, 18), ("setglobal", 198, 19), ("define", 201, 20), ("free", 204, 21), ("closure", 207, 22), ("fix", 211, 23), ("prim", 213, 24), ("jump", 217, 25), ("branchfalse", 219, 26), ("call", 222, 27), ("give", 226, 28)]
noncomputable def opT : List (List (Str × Tok)) := [[("target", 190), ("constant", 191)], [("target", 193), ("source", 194)], [("target", 196), ("global", 197)], [("global", 199), ("source", 200)], [("global", 202), ("source", 203)], [("target", 205), ("free", 206)],
  [("target", 208), ("procedure", 209), ("sources", 210)], [("rows", 212)], [("target", 214), ("primitive", 215), ("sources", 216)], [("label", 218)], [("source", 220), ("label", 221)], [("source", 223), ("source", 224), ("sources", 225)], [("source", 227), ("sources", 228)],
  [("jump", 243), ("call", 244), ("give", 245)]]
noncomputable def strV : List (Str × Tok) → List Value
  | [] => []
  | (x, t) :: r => .str x t :: strV r
noncomputable def opO (P : Params) : List Obj := dicO (opE P opK) 13 :: opT.map fun l => tupO (strV l) 0
@[reducible] noncomputable def HA := Bool × Option Value × Option Value × List (Option Obj)
noncomputable def hkObs (s : Shared) : HA := (s.heap.isNs sysModules && s.heap.isNs mainGlobals, s.heap.nsMap mainGlobals "OPERANDS", s.heap.nsMap mainGlobals "ENDS", (List.range 15).map fun i => s.heap.get? (15 + i))
noncomputable def hkVal (w : World) : HA := (true, some (.ref 15), some (.ref 29), (opO w.params).map some)
noncomputable def HkSays (w : World) (h : Heap) : Prop := (∃ m, h.Ns sysModules m) ∧ (∃ m, h.Ns mainGlobals m ∧ m "OPERANDS" = some (.ref 15) ∧ m "ENDS" = some (.ref 29)) ∧ ∀ i o, (opO w.params)[i]? = some o → h.get? (15 + i) = some o
theorem hk_of (w : World) (s : Shared) (e : hkObs s = hkVal w) : HkSays w s.heap := by
  have e1 := Bool.and_eq_true_iff.mp (congrArg Prod.fst e : _ = true)
  have e4 : (List.range 15).map (fun i => s.heap.get? (15 + i)) = (opO w.params).map some := congrArg (fun x => x.2.2.2) e
  refine ⟨⟨_, .of_isNs e1.1⟩, ⟨_, .of_isNs e1.2, congrArg (fun x => x.2.1) e, congrArg (fun x => x.2.2.1) e⟩, fun i o h => ?_⟩
  have q := congrArg (fun l => l[i]?) e4
  simp only [List.getElem?_map, h, Option.map_some] at q
  have hi : i < 15 := by
    have := (List.getElem?_eq_some_iff.mp h).1
    exact this
  rw [List.getElem?_range hi] at q
  exact Option.some.inj q
noncomputable def hk : Hook := ⟨HA, hkObs, hkVal, HkSays, hk_of, fun w h h' ⟨⟨m, a⟩, ⟨m', b, c, d⟩, e⟩ k => ⟨⟨m, a.keeps k⟩, ⟨m', b.keeps k, c, d⟩, fun i o x => k _ _ (e i o x)⟩⟩

theorem reps_strs {g : GP} {F : FM} : ∀ {l : List (Str × Tok)} {ks : List Nat}, l.map (fun p => strIx p.1) = ks.map some → RepAll g F (strV l) (ks.map V.str)
  | [], [], _ => .nil
  | (x, t) :: l, k :: ks, e => .cons (.str (List.cons.inj e).1) (reps_strs (List.cons.inj e).2)
/- the codes of the table's rows -/
noncomputable def opC : List (List Nat) := opndsC ++ [[9, 11, 12]]
where opndsC := [[13, 14], [13, 15], [13, 2], [2, 15], [2, 15], [13, 5], [13, 16, 17], [18], [13, 19, 17], [20], [15, 20], [15, 15, 17], [15, 17]]
theorem opC_t : opT.map (fun l => l.map fun p => strIx p.1) = opC.map fun l => l.map some := by decide +kernel
theorem opK_t : opK.map (fun p => (strIx p.1, p.2.2)) = (List.range 13).map fun i => (some i, 16 + i) := by decide +kernel
theorem rep_row {w : World} {h : Heap} {g : GP} (Y : HkSays w h) {i : Nat} {ks : List Nat} (e : opC[i]? = some ks) : Rep g (fun a => (strip h).get? a) (.ref (16 + i)) (.tup (ks.map V.str)) := by
  have q := congrArg (fun l => l[i]?) opC_t
  simp only [List.getElem?_map, e, Option.map_some] at q
  cases hl : opT[i]? with
  | none => rw [hl] at q; cases q
  | some l =>
    rw [hl] at q
    have := Y.2.2 (i + 1) (tupO (strV l) 0) (by show (opT.map fun l => tupO (strV l) 0)[i]? = _; rw [List.getElem?_map, hl]; rfl)
    rw [show 15 + (i + 1) = 16 + i by lia] at this
    exact .tup (n := 0) (strip_get this fun ⟨e, _⟩ => absurd (Value.type.inj e) (by decide)) (reps_strs (Option.some.inj q))
theorem rep_ents {w : World} {g : GP} {F : FM} (hg : g.w = w) : ∀ {l : List (Str × Tok × Addr)} {ks : List Nat} {ds : List V}, l.map (fun p => strIx p.1) = ks.map some → RepAll g F (l.map fun p => .ref p.2.2) ds → RepEnt g F (opE w.params l) ks ds
  | [], [], _, _, r => by cases r; exact .nil
  | (x, t, a) :: l, k :: ks, _, e, r => by
    cases r with | cons r1 r =>
    exact .cons (by rw [hg]; rfl) (List.cons.inj e).1 r1 (rep_ents hg (List.cons.inj e).2 r)
theorem rows_all {g : GP} {F : FM} : ∀ (n : Nat) {ls : List (List Nat)} , (∀ i ks, ls[i]? = some ks → Rep g F (.ref (n + i)) (.tup (ks.map V.str))) → RepAll g F ((List.range' n ls.length).map Value.ref) (ls.map fun ks => .tup (ks.map V.str))
  | _, [], _ => .nil
  | n, ks :: ls, h => .cons (h 0 ks rfl) (rows_all (n + 1) fun i ks' e => by rw [show n + 1 + i = n + (i + 1) by lia]; exact h (i + 1) ks' e)

noncomputable def sameB : Option Value → Value → Bool
  | some (.builtin a), .builtin b => a == b
  | some (.type a), .type b => a == b
  | _, _ => false
noncomputable def bltChk : Bool := bltTab.all fun p => !startupNames.contains p.1 && !(looseW vw ls).contains p.1 && !((recsOf vw).map (·.name)).contains p.1 && !((litsOf vw).map (·.1)).contains p.1 && !((clssOf vw (looseW vw ls)).map (·.name)).contains p.1 && !(p.1 == "__name__") &&
  sameB (bootBuiltins p.1) p.2
theorem bltChk_t : bltChk = true := by decide +kernel
theorem fnAt_t : (List.range 40).all (fun i => decide (i < 5) || vix.contains i || (defOf? (st i)).isNone) = true := by decide +kernel
theorem recs_t : recsOf vw = (vix.map st).filterMap fun s => match s with | .FunctionDef n a b _ _ _ sc _ _ pos => some ⟨n, a, b, sc, pos⟩ | _ => none := by kernel_rfl
noncomputable def clsAt (i : Nat) : Option ClsRec := (plainsOf vw (looseW vw ls))[i]?
theorem met_t (c : Bool) : (clsAt (if c then 0 else 1)).bind (fun x => x.withCmp.meths[0]?.map fun m => (⟨m.name, m.params, m.body, m.scope⟩ : DefOf)) = metOf (if c then 3 else 4) := by
  cases c <;> kernel_rfl
theorem clsN_t (c : Bool) : (match clsAt (if c then 0 else 1) with | some x => decide (x.withCmp.name = (if c then ("Procedure" : Str) else "Unit")) && x.name == x.withCmp.name && (("__getattribute__" : Str) :: "__setattr__" :: nmsOf c).all (fun n => x.withCmp.quiet.contains n) && (match metOf (if c then 3 else 4) with | some d => decide (d.name = "__init__") | none => false) | none => false) = true := by
  cases c <;> decide +kernel

theorem not_lst {o : Obj} {fd : FuncData} (e : o.data = .func fd) : ¬ isLst o := fun ⟨_, _, _, z⟩ => by rw [e] at z; cases z
theorem cls_rec (c : Bool) : ∃ x ∈ plainsOf vw (looseW vw ls), ∃ m ∈ x.withCmp.meths, x.name = clsNm c ∧ (∀ n ∈ ("__getattribute__" : Str) :: "__setattr__" :: nmsOf c, n ∈ x.withCmp.quiet) ∧ m.name = "__init__" ∧ metOf (if c then 3 else 4) = some ⟨m.name, m.params, m.body, m.scope⟩ := by
  have h1 := clsN_t c
  have h2 := met_t c
  cases ec : clsAt (if c then 0 else 1) with
  | none => rw [ec] at h1; cases h1
  | some x =>
    rw [ec] at h1 h2
    obtain ⟨h1, h4⟩ := Bool.and_eq_true_iff.mp h1
    obtain ⟨h1, h3⟩ := Bool.and_eq_true_iff.mp h1
    obtain ⟨h1, _⟩ := Bool.and_eq_true_iff.mp h1
    cases em : metOf (if c then 3 else 4) with
    | none => rw [em] at h4; cases h4
    | some d =>
      rw [em] at h4 h2
      obtain ⟨m, hm, e⟩ := Option.map_eq_some_iff.mp h2
      exact ⟨x, List.mem_of_getElem? ec, m, List.mem_of_getElem? hm, of_decide_eq_true h1, fun n hn => List.contains_iff_mem.mp (List.all_eq_true.mp h3 n hn), (congrArg DefOf.name e).trans (of_decide_eq_true h4), by rw [e]⟩
theorem cls_fact {mg : Str → Option Value} {h : Heap} (TE : TopE vw (looseW vw ls) mg h) (c : Bool) : ∃ C, ClsFact mg (strip h) C c := by
  obtain ⟨x, hx, m, hm, n1, qt, n3, e⟩ := cls_rec c
  obtain ⟨C, N, mN, a1, PA⟩ := TE x hx
  obtain ⟨f, o, pm, cd, doc, b1, b2, b3, b4, b5⟩ := PA.meths m hm
  have n2 : x.withCmp.name = clsNm c := n1
  rw [n1] at a1
  rw [n2] at b4 b5
  rw [n3] at b1
  exact ⟨C, N, mN, f, o, pm, cd, doc, a1, strip_cls PA.cls, fun n hn => PA.quiet n (qt n (List.mem_cons_of_mem _ (List.mem_cons_of_mem _ hn))), PA.quiet _ (qt _ (List.mem_cons_self ..)), PA.quiet _ (qt _ (List.mem_cons_of_mem _ (List.mem_cons_self ..))), b1, strip_get b2 (not_lst b4), b3, _, e, b4, strip_code b5⟩
theorem fn_fact {mean : ExcName → Option Value} {mg mb : Str → Option Value} {h : Heap} (T : Top vw (looseW vw ls) mean mg mb h) {i : Nat} {d : DefOf} (h5 : 5 ≤ i) (h40 : i < 40) (hd : defOf? (st i) = some d) :
    ∃ a ob pm code doc, mg d.name = some (.ref a) ∧ (strip h).get? a = some ob ∧ ob.data = .func (Calls.docDef d.name d.params d.body d.scope pm code doc) ∧ (strip h).CodeRec code d.name := by
  have hv : i ∈ vix := by
    have := List.all_eq_true.mp fnAt_t i (List.mem_range.mpr h40)
    rw [hd] at this
    simpa [Nat.not_lt.mpr h5] using this
  have : ∃ pos, (⟨d.name, d.params, d.body, d.scope, pos⟩ : DefRec) ∈ recsOf vw := by
    rw [recs_t]
    generalize hs : st i = s at hd
    cases s with
    | FunctionDef => cases hd; exact ⟨_, List.mem_filterMap.mpr ⟨_, List.mem_map_of_mem hv, by rw [hs]⟩⟩
    | _ => exact nn hd
  obtain ⟨pos, hr⟩ := this
  obtain ⟨a, o, pm, code, doc, e1, e2, e3, e4⟩ := T.fn _ hr
  exact ⟨a, o, pm, code, doc, e1, strip_get e2 (not_lst e3), e3, strip_code e4⟩
theorem bltV {o : Option Value} {v : Value} (h : sameB o v = true) : o = some v := by
  cases o with
  | none => exact nomatch (show false = true from h)
  | some u =>
    cases u with
    | builtin a => cases v with
      | builtin b => rw [eq_of_beq (show (a == b) = true from h)]
      | _ => exact nomatch (show false = true from h)
    | type a => cases v with
      | type b => rw [eq_of_beq (show (a == b) = true from h)]
      | _ => exact nomatch (show false = true from h)
    | _ => exact nomatch (show false = true from h)
theorem blt_fact {mean : ExcName → Option Value} {mg mb : Str → Option Value} {h : Heap} (T : Top vw (looseW vw ls) mean mg mb h) (p : Str × Value) (hp : p ∈ bltTab) : mg p.1 = none ∧ mb p.1 = some p.2 := by
  have := List.all_eq_true.mp bltChk_t p hp
  simp only [Bool.and_eq_true, Bool.not_eq_true', List.contains_eq_mem, decide_eq_false_iff_not] at this
  obtain ⟨⟨⟨⟨⟨⟨c1, c2⟩, c3⟩, c4⟩, c5⟩, c6⟩, c7⟩ := this
  exact ⟨T.free _ c1 c2 c3 c4 c5, (T.builtins _ fun e => by rw [e] at c6; cases c6).trans (bltV c7)⟩
theorem ns_same {h : Heap} {a : Addr} {m m' : Str → Option Value} (x : h.Ns a m) (y : h.Ns a m') (z : Str) : m z = m' z := congrFun (ns_unique x y) z
theorem op_fact {w : World} {h : Heap} {g : GP} (Y : HkSays w h) (hg : g.w = w) : Rep g (fun a => (strip h).get? a) (.ref 15) opndsV := by
  refine .dic (strip_get (Y.2.2 0 _ rfl) fun ⟨e, _⟩ => absurd (Value.type.inj e) (by decide)) rfl (rep_ents hg (ks := [0, 1, 2, 3, 4, 5, 6, 7, 8, 9, 10, 11, 12]) ?_ ?_)
  · have := congrArg (List.map Prod.fst) opK_t
    rw [List.map_map, List.map_map] at this
    exact this
  · have := congrArg (List.map fun p => Value.ref p.2) opK_t
    rw [List.map_map, List.map_map] at this
    exact this ▸ rows_all 16 (ls := opC.opndsC) fun i ks e => rep_row Y (by unfold opC; rw [List.getElem?_append_left (List.getElem?_eq_some_iff.mp e).1]; exact e)
theorem base_of {w : World} {mean : ExcName → Option Value} {mg mb : Str → Option Value} {h : Heap} (T : Top vw (looseW vw ls) mean mg mb h) (TE : TopE vw (looseW vw ls) mg h) (Y : HkSays w h) :
    ∃ CP CU, ∀ P, Base mg mb ⟨P, CP, CU, w⟩ (strip h) := by
  obtain ⟨CP, hP⟩ := cls_fact TE true
  obtain ⟨CU, hU⟩ := cls_fact TE false
  exact ⟨CP, CU, fun P => {
    ng := strip_ns T.g
    nb := strip_ns T.b
    nolimit := (by obtain ⟨mc, l1, l2⟩ := T.nolimit; exact ⟨mc, strip_ns l1, l2⟩)
    mods := (by obtain ⟨_, s⟩ := Y.1; exact (by obtain ⟨o, _, _, e, _⟩ := strip_ns s; exact ⟨o, e⟩))
    blt := blt_fact T
    ends := (by obtain ⟨_, s, _, e⟩ := Y.2.1; exact ⟨.ref 29, (ns_same T.g s _).trans e, rep_row (i := 13) Y rfl⟩)
    opnds := (by obtain ⟨_, s, e, _⟩ := Y.2.1; exact ⟨.ref 15, (ns_same T.g s _).trans e, op_fact Y rfl⟩)
    fn := fun i d h5 h40 hd => fn_fact T h5 h40 hd
    cls := fun c => by cases c; exact hU; exact hP }⟩
theorem arg_list {P : Params} {h : Heap} {a : Addr} {xs : List PyData} {vs : List Value} (x : Well P h (.ref a) (ofPy (.list xs))) (hL : h.IsList a vs.toArray) : h.get? a = some (lstO vs 0) := by
  obtain ⟨o, e, _, n, hd⟩ := hL
  unfold ofPy at x
  cases x with | list e' _ =>
  rw [e'] at e
  cases e
  injection hd with q _
  rw [e', q]
noncomputable def dLaw : DefOf := match defOf? (st 39) with | some d => d | none => ⟨"", default, [], default⟩
theorem dLaw_t : defOf? (st 39) = some dLaw := by kernel_rfl
theorem room_law (e : Env) : Room 9 (callerA.deeper e) := ⟨show 302 + 3 * 9 ≤ 500 by decide, show 7 + 20 * 9 ≤ 5000 by decide, rfl⟩
end Mine
end

section
open PySem PySem.W PyProof.Rows
set_option maxRecDepth 100000
namespace Mine
/- Names alone: the head's tactic would lay a quicker twin of each constant of its own under these names, for speed; none is needed here, and each would cost room in the compiled file. With the name taken it goes on without that twin. -/
theorem hd.tw14926259982913622640 : True := trivial
theorem hd.tw16964417098067445894 : True := trivial
theorem hd.tw2352982987946734526 : True := trivial
theorem hd.tw658494146261299958 : True := trivial
theorem hd.tw11449328733155803182 : True := trivial
theorem hd.tw3846061349045661252 : True := trivial
theorem hd.tw6116078890732820446 : True := trivial
theorem hd.tw361874862225718299 : True := trivial
theorem hd.tw3673089383077640791 : True := trivial
theorem hd.tw14727110085682223627 : True := trivial
theorem hd.tw2216850387143573719 : True := trivial
theorem hd.tw5174551420813472067 : True := trivial
theorem hd.tw4065347644161347641 : True := trivial
theorem hd.tw17714235663813219645 : True := trivial
theorem hd.tw5608270528595127837 : True := trivial
theorem hd.tw11213053971927718326 : True := trivial
theorem hd.tw758273949599710562 : True := trivial
theorem hd.tw2608437505485318709 : True := trivial
theorem hd.tw5363564295841288755 : True := trivial
theorem hd.tw10743916045514856203 : True := trivial
theorem hd.tw3182187488490625086 : True := trivial
theorem hd.tw17901334829092211166 : True := trivial
theorem hd.tw10246146449241189800 : True := trivial
theorem hd.tw17177331786930743035 : True := trivial
theorem hd.tw17252143746492648416 : True := trivial
theorem hd.tw1836080755315867724 : True := trivial
theorem hd.tw1359830224848277088 : True := trivial
theorem hd.tw11652457597714270106 : True := trivial
theorem hd.tw4172343393113369950 : True := trivial
theorem hd.tw15529170255622000948 : True := trivial
theorem hd.tw5036846961687405229 : True := trivial
theorem hd.tw5987830557187376847 : True := trivial
theorem hd.tw14892549342360969540 : True := trivial
theorem hd.tw4851647983119433812 : True := trivial
theorem hd.tw17672654358674132775 : True := trivial
theorem hd.tw17893044597097874663 : True := trivial
theorem hd.tw11631947586910100387 : True := trivial
theorem hd.tw4014540891139286612 : True := trivial
theorem hd.tw1011335219593555734 : True := trivial
theorem hd.tw13919464512627920130 : True := trivial
theorem hd.tw2274498078352570744 : True := trivial
theorem hd.tw8343274005884668182 : True := trivial
theorem hd.tw9345676750909349944 : True := trivial
theorem hd.tw1506431575118746342 : True := trivial
theorem hd.tw11754176132448286083 : True := trivial
theorem hd.tw8117029840178788049 : True := trivial
theorem hd.tw461538923250603899 : True := trivial
theorem hd.tw1580110805410547442 : True := trivial
theorem hd.tw16772102934027710169 : True := trivial
theorem hd.tw22551697357593593 : True := trivial
theorem hd.tw11917015161858427179 : True := trivial
theorem hd.tw10258999931320997221 : True := trivial
theorem hd.tw16056359734778111409 : True := trivial
theorem hd.tw6785817131721698500 : True := trivial
theorem hd.tw7289634563603522867 : True := trivial
theorem hd.tw11319892378374348655 : True := trivial
theorem hd.tw10525666975642140466 : True := trivial
theorem hd.tw6293948785866598258 : True := trivial
theorem hd.tw13770079208771991547 : True := trivial
theorem hd.tw6394381022753523788 : True := trivial
theorem hd.tw5130813555471234732 : True := trivial
theorem hd.tw10603584201595350602 : True := trivial
theorem hd.tw13368278939475635651 : True := trivial
theorem hd.tw12112201142124510154 : True := trivial
theorem hd.tw2603259988358896889 : True := trivial
theorem hd.tw4272726840584523970 : True := trivial
theorem hd.tw1600037746751723098 : True := trivial
theorem hd.tw18093812233618175256 : True := trivial
theorem hd.tw8716120427605611371 : True := trivial
theorem hd.tw14168552714766633299 : True := trivial
theorem hd.tw15166520500009309586 : True := trivial
theorem hd.tw15042006015671813226 : True := trivial
theorem hd.tw4360684699965382250 : True := trivial
theorem hd.tw2867327485932766208 : True := trivial
theorem hd.tw701787995468756871 : True := trivial
theorem hd.tw3452082135128663414 : True := trivial
theorem hd.tw4225703048834024713 : True := trivial
theorem hd.tw3259873300814134281 : True := trivial
theorem hd.tw15089522573102190283 : True := trivial
theorem hd.tw10614716105012338702 : True := trivial
theorem hd.tw9748044761591592747 : True := trivial
theorem hd.tw4086058157674990017 : True := trivial
theorem hd.tw4494801613693538912 : True := trivial
theorem hd.tw8959176491354863721 : True := trivial
theorem hd.tw7752767780024739350 : True := trivial
theorem hd.tw2708950531961675432 : True := trivial
theorem hd.tw17087091549796120035 : True := trivial
theorem hd.tw18103342009636024947 : True := trivial
theorem hd.tw6924109203229866365 : True := trivial
theorem hd.tw8960069828448710407 : True := trivial
theorem hd.tw16634568088961857937 : True := trivial
theorem hd.tw8025032847418708242 : True := trivial
theorem hd.tw7754304195085646258 : True := trivial
theorem hd.tw6411954120941647267 : True := trivial
theorem hd.tw18293732401869909652 : True := trivial
theorem hd.tw2386827423013361158 : True := trivial
theorem hd.tw11660266114150955751 : True := trivial
theorem hd.tw7355570028127101125 : True := trivial
theorem hd.tw17054507655720011243 : True := trivial
theorem hd.tw4015398097383911347 : True := trivial
theorem hd.tw10403243965636340961 : True := trivial
theorem hd.tw17183224562656869120 : True := trivial
theorem hd.tw12647368939536790636 : True := trivial
theorem hd.tw15837987909243819085 : True := trivial
theorem hd.tw16240309506217274120 : True := trivial
theorem hd.tw18322514126500204803 : True := trivial
theorem hd.tw16412773359747925120 : True := trivial
theorem hd.tw15103106377680225435 : True := trivial
theorem hd.tw3039998526598829958 : True := trivial
theorem hd.tw11893437276241958245 : True := trivial
theorem hd.tw12631932088317031055 : True := trivial
theorem hd.tw5961118342813265553 : True := trivial
theorem hd.tw6407587892757256292 : True := trivial
theorem hd.tw4856431653887292112 : True := trivial
theorem hd.tw7540655947842036084 : True := trivial
theorem hd.tw13372043803930879067 : True := trivial
theorem hd.tw3571134770919094901 : True := trivial
theorem hd.tw5567388512258382067 : True := trivial
theorem hd.tw3759623122121258479 : True := trivial
theorem hd.tw2930668341846507884 : True := trivial
theorem hd.tw14353793391729792155 : True := trivial
theorem hd.tw10111801491309104144 : True := trivial
theorem hd.tw1129884963351977449 : True := trivial
theorem hd.tw6838551448383532254 : True := trivial
theorem hd.tw2114630138375439770 : True := trivial
theorem hd.tw1222794163293265305 : True := trivial
theorem hd.tw15833661619300960221 : True := trivial
theorem hd.tw12588582704262371052 : True := trivial
theorem hd.tw14955159897011116063 : True := trivial
theorem hd.tw1382963296337349011 : True := trivial
theorem hd.tw7366208706002141716 : True := trivial
theorem hd.tw16853341256802265648 : True := trivial
theorem hd.tw6082411064634330575 : True := trivial
theorem hd.tw7914949630228597729 : True := trivial
theorem hd.tw12936449754285732098 : True := trivial
theorem hd.tw16194383521188589630 : True := trivial
theorem hd.tw5148922909946612681 : True := trivial
theorem hd.tw16259696140248634718 : True := trivial
theorem hd.tw3229955645248102723 : True := trivial
theorem hd.tw4971549296188076032 : True := trivial
theorem hd.tw6060742912462422084 : True := trivial
theorem hd.tw978945382295711627 : True := trivial
theorem hd.tw13330244855972007585 : True := trivial
theorem hd.tw15967140613478806237 : True := trivial
theorem hd.tw5902613922787404954 : True := trivial
theorem hd.tw1760603350576429475 : True := trivial
theorem hd.tw16920754564084929960 : True := trivial
theorem hd.tw6123773746684550334 : True := trivial
theorem hd.tw7120233287515763914 : True := trivial
theorem hd.tw3646829019195819677 : True := trivial
theorem hd.tw18219297243305740317 : True := trivial
theorem hd.tw5657824000916062451 : True := trivial
theorem hd.tw18343703819029505601 : True := trivial
theorem hd.tw17975533764899295144 : True := trivial
theorem hd.tw15759970867653108152 : True := trivial
theorem hd.tw10601615944963115059 : True := trivial
theorem hd.tw2442259710966052079 : True := trivial
theorem hd.tw16211521421427940678 : True := trivial
theorem hd.tw16432713993328977331 : True := trivial
theorem hd.tw9499510787657705874 : True := trivial
theorem hd.tw7028611270464810887 : True := trivial
theorem hd.tw1439246655266547700 : True := trivial
theorem hd.tw3530705653197291679 : True := trivial
theorem hd.tw16945582573551092051 : True := trivial
theorem hd.tw3789350110615891812 : True := trivial
theorem hd.tw3824027922242020998 : True := trivial
theorem hd.tw8223279998121527363 : True := trivial
theorem hd.tw13579483055728934989 : True := trivial
theorem hd.tw7611075722336691440 : True := trivial
theorem hd.tw17650839729002327288 : True := trivial
theorem hd.tw6338472411083877020 : True := trivial
theorem hd.tw9170477692918782315 : True := trivial
theorem hd.tw9421340871869096474 : True := trivial
theorem hd.tw8735263284916673568 : True := trivial
theorem hd.tw6291416237084387574 : True := trivial
theorem hd.tw11232374478483605306 : True := trivial
theorem hd.tw6305734824756694309 : True := trivial
theorem hd.tw1097998534492414930 : True := trivial
theorem hd.tw10792051664901133789 : True := trivial
theorem hd.tw16345102440705955213 : True := trivial
theorem hd.tw6555240042291301478 : True := trivial
theorem hd.tw9719896912496429819 : True := trivial
theorem hd.tw11953376511379268794 : True := trivial
theorem hd.tw5190246844813560578 : True := trivial
theorem hd.tw9673543361469618366 : True := trivial
theorem hd.tw10822429110900698944 : True := trivial
theorem hd.tw13828106393651249627 : True := trivial
theorem hd.tw15527848837575444561 : True := trivial
theorem hd.tw12023040214023829324 : True := trivial
theorem hd.tw15616948245753086127 : True := trivial
theorem hd.tw7411605948412860281 : True := trivial
theorem hd.tw17922349220295259396 : True := trivial
theorem hd.tw11319097763535126812 : True := trivial
theorem hd.tw9641152695372364146 : True := trivial
theorem hd.tw18300207936620678264 : True := trivial
theorem hd.tw10458740792067480800 : True := trivial
set_option pp.deepTerms false
set_option pp.deepTerms.threshold 6
set_option maxHeartbeats 8000000 in
theorem hd : rw2.Holds := by
  w_on
  o_law
  o_head hk
  (case hw => w_witness2)
  intro w s₀ s₁ mg mb G Y fa o pm cd doc dV kV ho hd hcd hD hmg hg args vals as hpre hlay hrd hwl hlo
  k_behind G ho hd hcd hD hmg hpre hlay hrd hwl hlo cd
  rename Top _ _ _ _ _ _ => T
  rename TopE _ _ _ _ => TE
  obtain ⟨CP, CU, B⟩ := base_of T TE Y
  rename Fr _ _ _ _ => F
  rename IntsAre _ _ => hI
  rename Heap.IsList _ _ _ => hL
  rename Well _ _ _ _ => hW
  have hw := arg_list hW hL
  clear hL hW
  refine law_frame B dLaw_t ?r1 F ?r2 hw hI ?r3 ?r4
  case r1 => exact room_law _
  case r2 => rfl
  case r3 => omega
  case r4 =>
    rintro s' ⟨h', t', rfl⟩ hk'
    refine ⟨.inl ⟨_, .bool true, [], rfl, raisesW_false (by wrow_none_raised), .bool true, ?_, fun _ => ⟨List.nodup_nil, fun _ h => nomatch h⟩⟩, hk', rfl, hg⟩
    wrow_post
end Mine
end

theorem PySem.Challenge.cw_nt0170_01_holds : PySem.Challenge.rw_nt0170_01.Holds :=
  Mine.hd
